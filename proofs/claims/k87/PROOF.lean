import PyProof.Rows.All
import Wide.All
import OpenK.AllK
import Wide.FinOn
import HandS.ForMost
import HandS.Wide
import HandS.Deep
import HandS.TupAny
import HandS.TupMul
import HandS.IsInst
import HandS.SortInts
import HandS.Flow
import HandS.Conv
import HandS.SetFor
import HandS.ExcValue
import HandS.ExcSuper
import HandS.Walk
import HandS.Zip
import HandS.Small
import HandS.Lambda
import HandS.Style
import PyProof.ReprRoads
import HandS.TupLe
import KE.GoesEnum
import KE.GoesMore
import HandS.ListItems
import HandS.DictTup
import HandS.Strs
import HandS.TupSets
import HandS.Head0
import HandS.Head1
import HandS.Head2
import HandS.HeadEnd
import HandS.HeadHook1
import HandS.HeadHook2
import HandS.Defaults
import PySem.Challenge.RW_whatanswerstell_k87_whole_strata_and_spr
set_option Elab.async false
set_option linter.all false
set_option maxRecDepth 100000
set_option maxHeartbeats 8000000
/-! Den, part A: values, stores, the monad and the meanings of operations (plain Lean). -/
namespace Den
open PySem

/-- values: pure data, tuples that hold a reference, references to the store -/
inductive D where
  | p (x : PyData)
  | tup (xs : List D)
  | ref (l : Nat)
abbrev D.int (i : Int) : D := .p (.int i)
abbrev D.bl (b : Bool) : D := .p (.bool b)
abbrev D.str (x : Str) : D := .p (.str x)
abbrev D.non : D := .p .none

inductive O where
  | lst (xs : List D)
  | dic (kvs : List (L2.Key × D))
  | gone
/-- nt: an object holds a reference to a younger one -/
structure Sto where
  objs : List O
  nt : Bool
def Sto.new : Sto := ⟨[], false⟩

inductive R (α : Type) where
  | ok (a : α) (S : Sto)
  | exc (c : Nat) (d : D) (S : Sto)
  | bad
abbrev M (α : Type) := Sto → R α
abbrev Rho := List (Option D)
def ret {α : Type} (a : α) : M α := fun S => .ok a S
def bnd {α β : Type} (m : M α) (f : α → M β) : M β := fun S =>
  match m S with
  | .ok a S' => f a S'
  | .exc c d S' => .exc c d S'
  | .bad => .bad
def fail {α : Type} : M α := fun _ => .bad
def guardM {α : Type} (b : Bool) (m : M α) : M α := fun S => if b = true then m S else .bad

mutual
/-- one more than the greatest reference in a value -/
def D.mx : D → Nat
  | .p _ => 0
  | .ref l => l + 1
  | .tup xs => mxs xs
termination_by structural x => x
def mxs : List D → Nat
  | [] => 0
  | d :: r => max d.mx (mxs r)
termination_by structural x => x
end

/-- pure values of a list -/
def allP : List D → Option (List PyData)
  | [] => some []
  | .p x :: r => match allP r with
    | some xs => some (x :: xs)
    | none => none
  | _ :: _ => none
def mkTup (ds : List D) : D := match allP ds with
  | some xs => .p (.tuple xs)
  | none => .tup ds
def tupItems : D → Option (List D)
  | .p (.tuple xs) => some (xs.map D.p)
  | .tup xs => some xs
  | _ => none
def getL (l : Nat) : M (List D) := fun S => match S.objs[l]? with
  | some (.lst xs) => .ok xs S
  | _ => .bad
def getDic (l : Nat) : M (List (L2.Key × D)) := fun S => match S.objs[l]? with
  | some (.dic xs) => .ok xs S
  | _ => .bad
def push (o : O) : M D := fun S => .ok (.ref S.objs.length) ⟨S.objs ++ [o], S.nt⟩
/-- a list stored anew; m: one more than the greatest reference that came in -/
def setL (l : Nat) (xs : List D) (m : Nat) : M Unit := fun S => .ok () ⟨S.objs.set l (.lst xs), S.nt || decide (l < m)⟩
def setDic (l : Nat) (xs : List (L2.Key × D)) (m : Nat) : M Unit := fun S => .ok () ⟨S.objs.set l (.dic xs), S.nt || decide (l < m)⟩

/-- a sequence's items: a tuple's or a list's -/
def seqItems : D → M (List D)
  | .p (.tuple xs) => ret (xs.map D.p)
  | .tup xs => ret xs
  | .ref l => getL l
  | _ => fail

/-- as data, lists within read -/
def toPyAll (f : D → Option PyData) : List D → Option (List PyData)
  | [] => some []
  | x :: r => match f x, toPyAll f r with
    | some y, some ys => some (y :: ys)
    | _, _ => none
def toPy (S : List O) : Nat → D → Option PyData
  | _, .p x => some x
  | 0, _ => none
  | n + 1, .tup xs => (toPyAll (toPy S n) xs).map .tuple
  | n + 1, .ref l => match S[l]? with
    | some (.lst xs) => (toPyAll (toPy S n) xs).map .list
    | _ => none
def asPy (d : D) : M PyData := fun S => match toPy S.objs 40 d with
  | some x => .ok x S
  | none => .bad

/-! ### operations -/
def mulOk (i j : Int) : Bool := (decide (i.natAbs < 2 ^ 64) || decide (j.natAbs < 2 ^ 64)) || (decide (i.natAbs < 2 ^ 400000) && decide (j.natAbs < 2 ^ 400000))
def catTup (xs ys : List PyData) : M D := guardM (decide (xs.length + ys.length ≤ sizeLine)) (ret (.p (.tuple (xs ++ ys))))
def addD : D → D → M D
  | .p (.int i), .p (.int j) => ret (.int (i + j))
  | .p (.str a), .p (.str b) => guardM (decide (a.length + b.length ≤ sizeLine)) (ret (.str (a ++ b)))
  | .p (.tuple xs), .p (.tuple ys) => catTup xs ys
  | .ref a, .ref b => bnd (getL a) fun xs => bnd (getL b) fun ys => guardM (decide (xs.length + ys.length ≤ sizeLine)) (push (.lst (xs ++ ys)))
  | x, y => match tupItems x, tupItems y with
    | some xs, some ys => guardM (decide (xs.length + ys.length ≤ sizeLine)) (ret (mkTup (xs ++ ys)))
    | _, _ => fail
def subD : D → D → M D
  | .p (.int i), .p (.int j) => ret (.int (i - j))
  | _, _ => fail
def mulD : D → D → M D
  | .p (.int i), .p (.int j) => guardM (mulOk i j) (ret (.int (i * j)))
  | .p (.tuple xs), .p (.int k) => guardM (!xs.isEmpty && decide (2 ≤ k) && decide (k ≤ 1000) && decide (xs.length ≤ 1000)) (ret (.p (.tuple (List.replicate k.toNat xs).flatten)))
  | .ref l, .p (.int k) => bnd (getL l) fun xs => guardM (decide (-(2 ^ 63) ≤ k) && decide (k < 2 ^ 63) && decide (xs.length * k.toNat ≤ sizeLine)) (push (.lst (List.replicate k.toNat xs).flatten))
  | _, _ => fail
def fdivD : D → D → M D
  | .p (.int i), .p (.int j) => guardM (decide (0 < j) && decide (j.natAbs < 2 ^ 9000)) (ret (.int (i / j)))
  | _, _ => fail
def modD : D → D → M D
  | .p (.int i), .p (.int j) => guardM (decide (0 < j)) (ret (.int (i % j)))
  | _, _ => fail
def powD : D → D → M D
  | .p (.int i), .p (.int j) => guardM (decide (0 ≤ j) && decide (j ≤ 100) && decide (i.natAbs < 2 ^ 100000)) (ret (.int (i ^ j.toNat)))
  | _, _ => fail
def binD : Operator → D → D → M D
  | .Add => addD
  | .Sub => subD
  | .Mult => mulD
  | .FloorDiv => fdivD
  | .Mod => modD
  | .Pow => powD
  | _ => fun _ _ => fail
def negD : D → M D
  | .p (.int i) => ret (.int (-i))
  | _ => fail

/-- scalars that == tells apart as they stand -/
def scalP : PyData → PyData → Bool
  | .none, .none => true
  | .int _, .int _ => true
  | .bool _, .bool _ => true
  | .str _, .str _ => true
  | .none, .int _ => true
  | .int _, .none => true
  | .none, .str _ => true
  | .str _, .none => true
  | .none, .bool _ => true
  | .bool _, .none => true
  | .int _, .str _ => true
  | .str _, .int _ => true
  | .bool _, .str _ => true
  | .str _, .bool _ => true
  | _, _ => false
def eqPD (x y : PyData) : M Bool := guardM (scalP x y || (SeqAt.shaped x && SeqAt.shaped y)) (ret (PyData.eqv x y))
def eqD (a b : D) : M Bool := bnd (asPy a) fun x => bnd (asPy b) fun y => eqPD x y
def intsOf : List PyData → Option (List Int)
  | [] => some []
  | .int i :: r => match intsOf r with
    | some is => some (i :: is)
    | none => none
  | _ :: _ => none
def ltD : D → D → M Bool
  | .p (.int i), .p (.int j) => ret (decide (i < j))
  | .p (.str x), .p (.str y) => ret (decide (x.cps.toList < y.cps.toList))
  | .p (.tuple xs), .p (.tuple ys) => match intsOf xs, intsOf ys with
    | some is, some js => ret (HT.lexLt is js)
    | _, _ => fail
  | _, _ => fail
def leD : D → D → M Bool
  | .p (.int i), .p (.int j) => ret (decide (i ≤ j))
  | _, _ => fail
def flatP : PyData → Bool
  | .none => true
  | .bool _ => true
  | .int _ => true
  | .str _ => true
  | _ => false
def inD : D → D → M Bool
  | .p (.str x), .p (.str y) => ret (!(Builtin.Str.occurrences y x 0 y.length 1).isEmpty)
  | x, y => bnd (seqItems y) fun ys => bnd (asPy x) fun d => match allP ys with
    | some ds => guardM (flatP d && ds.all flatP) (ret (ds.any fun z => PyData.eqv z d))
    | none => fail
def D.isNon : D → Bool
  | .p .none => true
  | _ => false
def isD : D → D → M Bool
  | x, .p .none => ret x.isNon
  | .p (.bool a), .p (.bool b) => ret (a == b)
  | _, _ => fail
def notM (m : M Bool) : M Bool := bnd m fun b => ret (!b)
def cmpD : CmpOp → D → D → M Bool
  | .Eq => eqD
  | .NotEq => fun a b => notM (eqD a b)
  | .Lt => ltD
  | .Gt => fun a b => match a, b with
    | .p (.int i), .p (.int j) => ret (decide (j < i))
    | _, _ => fail
  | .LtE => leD
  | .GtE => fun a b => match a, b with
    | .p (.int i), .p (.int j) => ret (decide (j ≤ i))
    | _, _ => fail
  | .Is => isD
  | .IsNot => fun a b => notM (isD a b)
  | .In => inD
  | .NotIn => fun a b => notM (inD a b)
/-- truth -/
def truD : D → M Bool
  | .p .none => ret false
  | .p (.bool b) => ret b
  | .p (.int i) => ret (i != 0)
  | .p (.str x) => guardM (decide (x.length ≤ sizeLine)) (ret ((x.length : Int) != 0))
  | .p (.tuple xs) => ret (!xs.isEmpty)
  | .tup xs => ret (!xs.isEmpty)
  | .ref l => fun S => match S.objs[l]? with
    | some (.lst xs) => .ok (!xs.isEmpty) S
    | some (.dic xs) => .ok (!xs.isEmpty) S
    | _ => .bad
  | _ => fail

/-! ### items and cuts -/
def subItem : D → D → M D
  | .p (.tuple xs), .p (.int i) => match (L2.ixN xs.length i).bind fun j => xs[j]? with
    | some x => ret (.p x)
    | none => fail
  | .p (.list xs), .p (.int i) => match (L2.ixN xs.length i).bind fun j => xs[j]? with
    | some x => ret (.p x)
    | none => fail
  | .tup xs, .p (.int i) => match (L2.ixN xs.length i).bind fun j => xs[j]? with
    | some x => ret x
    | none => fail
  | .p (.str z), .p (.int i) => guardM (decide (z.length ≤ sizeLine)) (match (L2.ixN z.cps.toList.length i).bind fun j => z.cps.toList[j]? with
    | some c => ret (.str ⟨#[c]⟩)
    | none => fail)
  | .ref l, .p (.int i) => fun S => match S.objs[l]? with
    | some (.lst xs) => (match (L2.ixN xs.length i).bind fun j => xs[j]? with
      | some x => .ok x S
      | none => .bad)
    | _ => .bad
  | _, _ => fail
def partI : Option D → M (Option Int)
  | none => ret none
  | some (.p (.int i)) => ret (some i)
  | some _ => fail
def cutL {α : Type} (xs : List α) (lo hi : Option Int) : List α := (xs.drop (HT.sIx xs.length 0 lo)).take (HT.sIx xs.length xs.length hi - HT.sIx xs.length 0 lo)
def cutD (d : D) (lo hi : Option Int) : M D := match d with
  | .p (.tuple xs) => ret (.p (.tuple (cutL xs lo hi)))
  | .tup xs => ret (mkTup (cutL xs lo hi))
  | .ref l => bnd (getL l) fun xs => push (.lst (cutL xs lo hi))
  | .p (.str z) => guardM (decide (z.length ≤ sizeLine)) (ret (.str (L2.cutS z lo hi)))
  | _ => fail
end Den

/-! Den, part B: how values and stores lie in the abstract heap; the readings. -/
namespace Den
open PySem PySem.Spec PyProof.Rows L2

/-- a list that is not written: the caller's, or one of the module's own -/
def FL (K : PySem.W.Frag) (H : Hp) (a : Addr) (vs : List V) : Prop := (∃ o : Obj, H a = some (.frz o (.lst vs))) ∨
  ∃ (o : Obj) (its : Array Value) (n : Nat), K.lookup a = some o ∧ o.cls = .type "list" ∧ o.dict = none ∧ o.data = .seq its n ∧ its.size ≤ sizeLine ∧ Vals vs its.toList
theorem FL.sq {K : PySem.W.Frag} {H : Hp} {a : Addr} {vs : List V} (h : FL K H a vs) : SqL K H a vs := by
  rcases h with ⟨o, h⟩ | h
  · exact .inl (.inr ⟨o, h⟩)
  · exact .inr h
mutual
inductive RP (K : PySem.W.Frag) (H : Hp) : V → PyData → Prop
  | non : RP K H .non .none
  | bl (b : Bool) : RP K H (.bl b) (.bool b)
  | int (i : Int) : RP K H (.int i) (.int i)
  | str (x : Str) : RP K H (.str x) (.str x)
  | tup {a : Addr} {vs : List V} {xs : List PyData} : SqT K H a vs → vs.length ≤ sizeLine → RPs K H vs xs → RP K H (.ref a) (.tuple xs)
  | flst {a : Addr} {vs : List V} {xs : List PyData} : FL K H a vs → vs.length ≤ sizeLine → RPs K H vs xs → RP K H (.ref a) (.list xs)
inductive RPs (K : PySem.W.Frag) (H : Hp) : List V → List PyData → Prop
  | nil : RPs K H [] []
  | cons {v : V} {vs : List V} {x : PyData} {xs : List PyData} : RP K H v x → RPs K H vs xs → RPs K H (v :: vs) (x :: xs)
end
mutual
inductive DR (K : PySem.W.Frag) (m : List Addr) (H : Hp) : V → D → Prop
  | p {v : V} {x : PyData} : RP K H v x → DR K m H v (.p x)
  | tup {a : Addr} {vs : List V} {ds : List D} : SqT K H a vs → vs.length ≤ sizeLine → DRs K m H vs ds → DR K m H (.ref a) (.tup ds)
  | ref {a : Addr} {l : Nat} : m[l]? = some a → DR K m H (.ref a) (.ref l)
inductive DRs (K : PySem.W.Frag) (m : List Addr) (H : Hp) : List V → List D → Prop
  | nil : DRs K m H [] []
  | cons {v : V} {vs : List V} {d : D} {ds : List D} : DR K m H v d → DRs K m H vs ds → DRs K m H (v :: vs) (d :: ds)
end
abbrev KRs (K : PySem.W.Frag) (m : List Addr) (H : Hp) (ws : List (L2.Key × V)) (kvs : List (L2.Key × D)) : Prop := Paired (fun p q => p.1 = q.1 ∧ DR K m H p.2 q.2) ws kvs
def O.mx : O → Nat
  | .lst xs => mxs xs
  | .dic kvs => mxs (kvs.map (·.2))
  | .gone => 0
def OR (K : PySem.W.Frag) (m : List Addr) (H : Hp) (a : Addr) : O → Prop
  | .lst xs => ∃ vs, H a = some (.lst vs) ∧ vs.length ≤ sizeLine ∧ DRs K m H vs xs
  | .dic kvs => ∃ ws, H a = some (.dK ws) ∧ ws.length ≤ sizeLine ∧ KRs K m H ws kvs
  | .gone => ∃ od u, H a = some (.frz od u) ∧ ∀ vs, u ≠ .tup vs ∧ u ≠ .lst vs
structure SR (K : PySem.W.Frag) (m : List Addr) (H : Hp) (S : Sto) : Prop where
  len : m.length = S.objs.length
  obj : ∀ (l : Nat) (a : Addr) (o : O), m[l]? = some a → S.objs[l]? = some o → OR K m H a o
  nd : m.Nodup
  wf : S.nt = false → ∀ (l : Nat) (o : O), S.objs[l]? = some o → o.mx ≤ l
def Frz (o : HO) : Prop := ∃ od u, o = .frz od u
def noTbl (o : HO) : Prop := ∀ ps, o ≠ .tbl ps
structure Ext (m : List Addr) (H : Hp) (m' : List Addr) (H' : Hp) : Prop where
  keep : ∀ a o, H a = some o → a ∉ m ∨ Frz o → noTbl o → H' a = some o
  tbl : ∀ a ps, H a = some (.tbl ps) → ∃ more, H' a = some (.tbl (ps ++ more))
  pre : m <+: m'
  new : ∀ a ∈ m', a ∈ m ∨ H a = none
  non : ∀ a, H' a = none → H a = none
structure EnvR (K : PySem.W.Frag) (m : List Addr) (H : Hp) (ρ : Rho) (σ : L2.St) : Prop where
  len : ρ.length = σ.length
  val : ∀ (i : Nat) (d : D), ρ[i]? = some (some d) → ∃ v, σ[i]? = some (some v) ∧ DR K m H v d

section
variable {K : PySem.W.Frag} {m m' m1 m2 : List Addr} {H H' H1 H2 : Hp} {S S' S1 : Sto}
theorem Ext.refl : Ext m H m H := ⟨fun _ _ h _ _ => h, fun _ ps h => ⟨#[], by rw [h, Array.append_empty]⟩, List.prefix_refl _, fun _ h => .inl h, fun _ h => h⟩
theorem noTbl_or (o : HO) : noTbl o ∨ ∃ ps, o = .tbl ps := by
  cases o with
  | tbl ps => exact .inr ⟨ps, rfl⟩
  | _ => exact .inl fun ps h => nomatch h
theorem Ext.trans (a : Ext m H m1 H1) (b : Ext m1 H1 m2 H2) : Ext m H m2 H2 where
  keep := fun x o h n t => b.keep x o (a.keep x o h n t) (n.imp_left fun n z => (a.new x z).elim n fun e => by rw [e] at h; cases h) t
  tbl := fun x ps h => by
    obtain ⟨q, e⟩ := a.tbl x ps h
    obtain ⟨r, e2⟩ := b.tbl x _ e
    exact ⟨q ++ r, by rw [e2, Array.append_assoc]⟩
  pre := a.pre.trans b.pre
  non := fun x h => a.non x (b.non x h)
  new := fun x hx => by
    rcases b.new x hx with z | z
    · exact a.new x z
    · by_cases hm : x ∈ m
      · exact .inl hm
      · refine .inr ?_
        cases e : H x with
        | none => rfl
        | some o =>
          rcases noTbl_or o with t | ⟨ps, rfl⟩
          · have := a.keep x o e (.inl hm) t
            rw [z] at this; cases this
          · obtain ⟨q, e2⟩ := a.tbl x ps e
            rw [z] at e2; cases e2
theorem SR.ml (sr : SR K m H S) {a : Addr} (h : a ∈ m) : (∃ vs, H a = some (.lst vs)) ∨ (∃ ws, H a = some (.dK ws)) ∨ ∃ od u, H a = some (.frz od u) ∧ ∀ vs, u ≠ .tup vs ∧ u ≠ .lst vs := by
  obtain ⟨l, hl⟩ := List.getElem?_of_mem h
  have hlt : l < S.objs.length := by rw [← sr.len]; exact (List.getElem?_eq_some_iff.mp hl).1
  have := sr.obj l a S.objs[l] hl (List.getElem?_eq_getElem hlt)
  cases e : S.objs[l] with
  | lst xs => rw [e] at this; obtain ⟨vs, q, _⟩ := this; exact .inl ⟨vs, q⟩
  | dic xs => rw [e] at this; obtain ⟨vs, q, _⟩ := this; exact .inr (.inl ⟨vs, q⟩)
  | gone => rw [e] at this; exact .inr (.inr this)
theorem SR.notin (sr : SR K m H S) {a : Addr} {o : HO} (h : H a = some o) (h1 : ∀ vs, o ≠ .lst vs) (h2 : ∀ ws, o ≠ .dK ws) (h3 : ∀ od u, o = .frz od u → ∃ vs, u = .tup vs ∨ u = .lst vs) : a ∉ m := fun z => by
  rcases sr.ml z with ⟨vs, e⟩ | ⟨vs, e⟩ | ⟨od, u, e, k⟩
  · rw [h] at e; cases e; exact h1 _ rfl
  · rw [h] at e; cases e; exact h2 _ rfl
  · rw [h] at e; cases e
    obtain ⟨vs, q⟩ := h3 _ _ rfl
    exact q.elim (k vs).1 (k vs).2
theorem seqT_mono (sr : SR K m H S) (e : Ext m H m' H') {a : Addr} {vs : List V} (h : SqT K H a vs) : SqT K H' a vs := by
  rcases h with (h | ⟨o, h⟩) | h
  · exact .inl (.inl (e.keep a _ h (.inl (sr.notin h (fun _ z => nomatch z) (fun _ z => nomatch z) (fun _ _ z => nomatch z))) (fun _ z => nomatch z)))
  · exact .inl (.inr ⟨o, e.keep a _ h (.inr ⟨_, _, rfl⟩) (fun _ z => nomatch z)⟩)
  · exact .inr h
abbrev FzK (K : PySem.W.Frag) (H H' : Hp) : Prop := ∀ (a : Addr) (vs : List V), FL K H a vs → FL K H' a vs
theorem fz_mono (e : Ext m H m' H') : FzK K H H' := fun a vs h => h.imp (fun ⟨o, h⟩ => ⟨o, e.keep a _ h (.inr ⟨_, _, rfl⟩) (fun _ z => nomatch z)⟩) id
mutual
theorem rp_mono (k : ∀ a vs, SqT K H a vs → SqT K H' a vs) (f : FzK K H H') : ∀ {v : V} {x : PyData}, RP K H v x → RP K H' v x
  | _, _, .non => .non
  | _, _, .bl b => .bl b
  | _, _, .int b => .int b
  | _, _, .str b => .str b
  | _, _, .tup h z r => .tup (k _ _ h) z (rps_mono k f r)
  | _, _, .flst h z r => .flst (f _ _ h) z (rps_mono k f r)
theorem rps_mono (k : ∀ a vs, SqT K H a vs → SqT K H' a vs) (f : FzK K H H') : ∀ {v : List V} {x : List PyData}, RPs K H v x → RPs K H' v x
  | _, _, .nil => .nil
  | _, _, .cons h r => .cons (rp_mono k f h) (rps_mono k f r)
end
mutual
theorem dr_mono (k : ∀ a vs, SqT K H a vs → SqT K H' a vs) (f : FzK K H H') (p : ∀ (l : Nat) (a : Addr), m[l]? = some a → m'[l]? = some a) : ∀ {v : V} {x : D}, DR K m H v x → DR K m' H' v x
  | _, _, .p h => .p (rp_mono k f h)
  | _, _, .tup h z r => .tup (k _ _ h) z (drs_mono k f p r)
  | _, _, .ref h => .ref (p _ _ h)
theorem drs_mono (k : ∀ a vs, SqT K H a vs → SqT K H' a vs) (f : FzK K H H') (p : ∀ (l : Nat) (a : Addr), m[l]? = some a → m'[l]? = some a) : ∀ {v : List V} {x : List D}, DRs K m H v x → DRs K m' H' v x
  | _, _, .nil => .nil
  | _, _, .cons h r => .cons (dr_mono k f p h) (drs_mono k f p r)
end
theorem pre_get {m m' : List Addr} (h : m <+: m') (l : Nat) (a : Addr) (e : m[l]? = some a) : m'[l]? = some a := by
  obtain ⟨r, rfl⟩ := h
  rw [List.getElem?_append_left (List.getElem?_eq_some_iff.mp e).1]; exact e
theorem DR.ext (sr : SR K m H S) (e : Ext m H m' H') {v : V} {d : D} (h : DR K m H v d) : DR K m' H' v d := dr_mono (fun _ _ => seqT_mono sr e) (fz_mono e) (pre_get e.pre) h
theorem DRs.ext (sr : SR K m H S) (e : Ext m H m' H') {v : List V} {d : List D} (h : DRs K m H v d) : DRs K m' H' v d := drs_mono (fun _ _ => seqT_mono sr e) (fz_mono e) (pre_get e.pre) h
theorem EnvR.ext {ρ : Rho} {σ : L2.St} (sr : SR K m H S) (e : Ext m H m' H') (h : EnvR K m H ρ σ) : EnvR K m' H' ρ σ :=
  ⟨h.len, fun i d q => let ⟨v, a, b⟩ := h.val i d q; ⟨v, a, b.ext sr e⟩⟩
theorem DRs.length : ∀ {vs : List V} {ds : List D}, DRs K m H vs ds → vs.length = ds.length
  | _, _, .nil => rfl
  | _, _, .cons _ r => by simp [DRs.length r]
theorem RPs.length : ∀ {vs : List V} {ds : List PyData}, RPs K H vs ds → vs.length = ds.length
  | _, _, .nil => rfl
  | _, _, .cons _ r => by simp [RPs.length r]
theorem DRs.append : ∀ {vs ws : List V} {ds es : List D}, DRs K m H vs ds → DRs K m H ws es → DRs K m H (vs ++ ws) (ds ++ es)
  | _, _, _, _, .nil, r => r
  | _, _, _, _, .cons h t, r => .cons h (DRs.append t r)
theorem DRs.get : ∀ {vs : List V} {ds : List D}, DRs K m H vs ds → ∀ {i : Nat} {d : D}, ds[i]? = some d → ∃ v, vs[i]? = some v ∧ DR K m H v d
  | _, _, .cons h _, 0, _, e => by
    simp at e; subst e; exact ⟨_, rfl, h⟩
  | _, _, .cons _ r, i + 1, _, e => by simpa using DRs.get r (i := i) (by simpa using e)
theorem DRs.getv : ∀ {vs : List V} {ds : List D}, DRs K m H vs ds → ∀ {i : Nat} {v : V}, vs[i]? = some v → ∃ d, ds[i]? = some d ∧ DR K m H v d
  | _, _, .cons h _, 0, _, e => by
    simp at e; subst e; exact ⟨_, rfl, h⟩
  | _, _, .cons _ r, i + 1, _, e => by simpa using DRs.getv r (i := i) (by simpa using e)
theorem DRs.take : ∀ {vs : List V} {ds : List D} (n : Nat), DRs K m H vs ds → DRs K m H (vs.take n) (ds.take n)
  | _, _, 0, _ => .nil
  | _, _, _ + 1, .nil => .nil
  | _, _, n + 1, .cons h r => .cons h (DRs.take n r)
theorem DRs.drop : ∀ {vs : List V} {ds : List D} (n : Nat), DRs K m H vs ds → DRs K m H (vs.drop n) (ds.drop n)
  | _, _, 0, r => r
  | _, _, _ + 1, .nil => .nil
  | _, _, n + 1, .cons _ r => DRs.drop n r
theorem DRs.set : ∀ {vs : List V} {ds : List D} (i : Nat) {v : V} {d : D}, DRs K m H vs ds → DR K m H v d → DRs K m H (vs.set i v) (ds.set i d)
  | _, _, _, _, _, .nil, _ => .nil
  | _, _, 0, _, _, .cons _ r, h => .cons h r
  | _, _, i + 1, _, _, .cons h' r, h => .cons h' (DRs.set i r h)
theorem RPs.toD : ∀ {vs : List V} {xs : List PyData}, RPs K H vs xs → DRs K m H vs (xs.map D.p)
  | _, _, .nil => .nil
  | _, _, .cons h r => .cons (.p h) (RPs.toD r)
theorem allP_rel : ∀ {ds : List D} {xs : List PyData}, allP ds = some xs → ds = xs.map D.p
  | [], xs, h => by simp [allP] at h; subst h; rfl
  | .p x :: r, xs, h => by
    unfold allP at h
    split at h
    · rename_i ys e
      cases h
      rw [List.map_cons, ← allP_rel e]
    · cases h
  | .tup _ :: _, _, h => by simp [allP] at h
  | .ref _ :: _, _, h => by simp [allP] at h
theorem DRs.toP : ∀ {xs : List PyData} {vs : List V}, DRs K m H vs (xs.map D.p) → RPs K H vs xs
  | [], _, .nil => .nil
  | _ :: _, _, .cons (.p h) r => .cons h (DRs.toP r)
/-- a tuple's value -/
theorem DR.mk {a : Addr} {vs : List V} {ds : List D} (h : SqT K H a vs) (z : vs.length ≤ sizeLine) (r : DRs K m H vs ds) : DR K m H (.ref a) (mkTup ds) := by
  unfold mkTup
  split
  · rename_i xs e
    have := allP_rel e
    subst this
    exact .p (.tup h z r.toP)
  · exact .tup h z r
/-- .. taken apart -/
theorem DR.items {v : V} {d : D} {ds : List D} (h : DR K m H v d) (e : tupItems d = some ds) : ∃ a vs, v = .ref a ∧ SqT K H a vs ∧ vs.length ≤ sizeLine ∧ DRs K m H vs ds := by
  cases h with
  | p h =>
    cases h with
    | tup h z r => simp [tupItems] at e; subst e; exact ⟨_, _, rfl, h, z, r.toD⟩
    | _ => simp [tupItems] at e
  | tup h z r => simp [tupItems] at e; subst e; exact ⟨_, _, rfl, h, z, r⟩
  | ref h => simp [tupItems] at e
theorem RP.int_inv {v : V} {i : Int} (h : RP K H v (.int i)) : v = .int i := by cases h; rfl
theorem RP.bl_inv {v : V} {i : Bool} (h : RP K H v (.bool i)) : v = .bl i := by cases h; rfl
theorem RP.str_inv {v : V} {i : Str} (h : RP K H v (.str i)) : v = .str i := by cases h; rfl
theorem RP.non_inv {v : V} (h : RP K H v .none) : v = .non := by cases h; rfl
theorem RP.tup_inv {v : V} {xs : List PyData} (h : RP K H v (.tuple xs)) : ∃ a vs, v = .ref a ∧ SqT K H a vs ∧ vs.length ≤ sizeLine ∧ RPs K H vs xs := by cases h with | tup h z r => exact ⟨_, _, rfl, h, z, r⟩
theorem RP.lst_inv {v : V} {xs : List PyData} (h : RP K H v (.list xs)) : ∃ a vs, v = .ref a ∧ FL K H a vs ∧ vs.length ≤ sizeLine ∧ RPs K H vs xs := by cases h with | flst h z r => exact ⟨_, _, rfl, h, z, r⟩
theorem DR.p_inv {v : V} {x : PyData} (h : DR K m H v (.p x)) : RP K H v x := by cases h; assumption
theorem DR.ref_inv {v : V} {l : Nat} (h : DR K m H v (.ref l)) : ∃ a, v = .ref a ∧ m[l]? = some a := by cases h with | ref h => exact ⟨_, rfl, h⟩
end

/-! ### stores that grow and change -/
section
variable {K : PySem.W.Frag} {m m' : List Addr} {H H' : Hp} {S S' : Sto}
mutual
theorem DR.mxle : ∀ {v : V} {d : D}, DR K m H v d → d.mx ≤ m.length
  | _, _, .p _ => Nat.zero_le _
  | _, _, .tup _ _ r => DRs.mxle r
  | _, _, .ref h => (List.getElem?_eq_some_iff.mp h).1
theorem DRs.mxle : ∀ {v : List V} {d : List D}, DRs K m H v d → mxs d ≤ m.length
  | _, _, .nil => Nat.zero_le _
  | _, _, .cons h r => Nat.max_le.mpr ⟨DR.mxle h, DRs.mxle r⟩
end
theorem SR.get (sr : SR K m H S) {l : Nat} {a : Addr} {xs : List D} (hm : m[l]? = some a) (hs : S.objs[l]? = some (.lst xs)) : ∃ vs, H a = some (.lst vs) ∧ vs.length ≤ sizeLine ∧ DRs K m H vs xs := sr.obj l a _ hm hs
theorem SR.getD (sr : SR K m H S) {l : Nat} {a : Addr} {xs : List (L2.Key × D)} (hm : m[l]? = some a) (hs : S.objs[l]? = some (.dic xs)) : ∃ vs, H a = some (.dK vs) ∧ vs.length ≤ sizeLine ∧ KRs K m H vs xs := sr.obj l a _ hm hs
theorem SR.at_ (sr : SR K m H S) {l : Nat} {o : O} (hs : S.objs[l]? = some o) : ∃ a, m[l]? = some a := by
  have : l < m.length := by rw [sr.len]; exact (List.getElem?_eq_some_iff.mp hs).1
  exact ⟨m[l], List.getElem?_eq_getElem this⟩
theorem upd_non {p a : Addr} {o : HO} (h : upd H p o a = none) : H a = none := by
  unfold upd at h
  split at h
  · cases h
  · exact h
theorem ext_new {p : Addr} {o : HO} (np : H p = none) : Ext m H m (upd H p o) where
  non := fun _ h => upd_non h
  keep := fun a u h _ _ => by rw [upd_ne (ne_of_none h np)]; exact h
  tbl := fun a u h => ⟨#[], by rw [upd_ne (ne_of_none h np), h, Array.append_empty]⟩
  pre := List.prefix_refl _
  new := fun _ h => .inl h
theorem ext_push {p : Addr} {o : HO} (np : H p = none) : Ext m H (m ++ [p]) (upd H p o) where
  non := fun _ h => upd_non h
  keep := fun a u h _ _ => by rw [upd_ne (ne_of_none h np)]; exact h
  tbl := fun a u h => ⟨#[], by rw [upd_ne (ne_of_none h np), h, Array.append_empty]⟩
  pre := List.prefix_append _ _
  new := fun x h => by
    rcases List.mem_append.mp h with h | h
    · exact .inl h
    · rw [List.mem_singleton] at h; subst h; exact .inr np
theorem KRs.ext (sr : SR K m H S) (e : Ext m H m' H') {ws : List (L2.Key × V)} {kvs : List (L2.Key × D)} (r : KRs K m H ws kvs) : KRs K m' H' ws kvs := Paired.mapP r fun _ _ h => ⟨h.1, h.2.ext sr e⟩
theorem OR.ext (sr : SR K m H S) (e : Ext m H m' H') {a : Addr} {o : O} (h : OR K m H a o) (k : ∀ u, H a = some u → H' a = some u) : OR K m' H' a o := by
  cases o with
  | lst xs => obtain ⟨vs, h1, h2, h3⟩ := h; exact ⟨vs, k _ h1, h2, h3.ext sr e⟩
  | dic xs => obtain ⟨vs, h1, h2, h3⟩ := h; exact ⟨vs, k _ h1, h2, KRs.ext sr e h3⟩
  | gone => obtain ⟨od, u, h1, h2⟩ := h; exact ⟨od, u, k _ h1, h2⟩
theorem SR.fresh (sr : SR K m H S) {p : Addr} (np : H p = none) : p ∉ m := fun z => by
  rcases sr.ml z with ⟨_, e⟩ | ⟨_, e⟩ | ⟨_, _, e, _⟩ <;> rw [np] at e <;> cases e
/-- something new that the store does not tell -/
theorem SR.new (sr : SR K m H S) {p : Addr} {o : HO} (np : H p = none) : SR K m (upd H p o) S :=
  ⟨sr.len, fun l a u hm hs => (sr.obj l a u hm hs).ext sr (ext_new np) fun w h => by rw [upd_ne (ne_of_none h np)]; exact h, sr.nd, sr.wf⟩
theorem SR.pushL (sr : SR K m H S) {p : Addr} {vs : List V} {xs : List D} (np : H p = none) (z : vs.length ≤ sizeLine) (r : DRs K m H vs xs) : SR K (m ++ [p]) (upd H p (.lst vs)) ⟨S.objs ++ [.lst xs], S.nt⟩ where
  len := by simp [sr.len]
  obj := fun l a u hm hs => by
    by_cases hl : l < m.length
    · rw [List.getElem?_append_left hl] at hm
      rw [List.getElem?_append_left (by rw [← sr.len]; exact hl)] at hs
      exact (sr.obj l a u hm hs).ext sr (ext_push np) fun w h => by rw [upd_ne (ne_of_none h np)]; exact h
    · have e : l = m.length := by
        have := (List.getElem?_eq_some_iff.mp hm).1
        rw [List.length_append, List.length_singleton] at this; omega
      subst e
      rw [List.getElem?_append_right (Nat.le_refl _), Nat.sub_self] at hm
      rw [List.getElem?_append_right (by rw [sr.len]; exact Nat.le_refl _), sr.len, Nat.sub_self] at hs
      simp at hm hs; subst hm hs
      exact ⟨vs, upd_same, z, r.ext sr (ext_push np)⟩
  nd := List.nodup_append.mpr ⟨sr.nd, by simp, fun a ha b hb => by rw [List.mem_singleton] at hb; subst hb; exact fun q => sr.fresh np (q ▸ ha)⟩
  wf := fun h l o hs => by
    by_cases hl : l < S.objs.length
    · rw [List.getElem?_append_left hl] at hs; exact sr.wf h l o hs
    · have e : l = S.objs.length := by
        have := (List.getElem?_eq_some_iff.mp hs).1
        rw [List.length_append, List.length_singleton] at this; omega
      subst e
      rw [List.getElem?_append_right (Nat.le_refl _), Nat.sub_self] at hs
      simp at hs; subst hs
      rw [← sr.len]; exact r.mxle
theorem SR.pushD (sr : SR K m H S) {p : Addr} {vs : List (L2.Key × V)} {xs : List (L2.Key × D)} (np : H p = none) (z : vs.length ≤ sizeLine) (r : KRs K m H vs xs) : SR K (m ++ [p]) (upd H p (.dK vs)) ⟨S.objs ++ [.dic xs], S.nt⟩ where
  len := by simp [sr.len]
  obj := fun l a u hm hs => by
    by_cases hl : l < m.length
    · rw [List.getElem?_append_left hl] at hm
      rw [List.getElem?_append_left (by rw [← sr.len]; exact hl)] at hs
      exact (sr.obj l a u hm hs).ext sr (ext_push np) fun w h => by rw [upd_ne (ne_of_none h np)]; exact h
    · have e : l = m.length := by
        have := (List.getElem?_eq_some_iff.mp hm).1
        rw [List.length_append, List.length_singleton] at this; omega
      subst e
      rw [List.getElem?_append_right (Nat.le_refl _), Nat.sub_self] at hm
      rw [List.getElem?_append_right (by rw [sr.len]; exact Nat.le_refl _), sr.len, Nat.sub_self] at hs
      simp at hm hs; subst hm hs
      exact ⟨vs, upd_same, z, KRs.ext sr (ext_push np) r⟩
  nd := List.nodup_append.mpr ⟨sr.nd, by simp, fun a ha b hb => by rw [List.mem_singleton] at hb; subst hb; exact fun q => sr.fresh np (q ▸ ha)⟩
  wf := fun h l o hs => by
    by_cases hl : l < S.objs.length
    · rw [List.getElem?_append_left hl] at hs; exact sr.wf h l o hs
    · have e : l = S.objs.length := by
        have := (List.getElem?_eq_some_iff.mp hs).1
        rw [List.length_append, List.length_singleton] at this; omega
      subst e
      rw [List.getElem?_append_right (Nat.le_refl _), Nat.sub_self] at hs
      simp at hs; subst hs
      rw [← sr.len]; exact krs_mxle r
where
  krs_mxle : ∀ {vs : List (L2.Key × V)} {xs : List (L2.Key × D)}, KRs K m H vs xs → mxs (xs.map (·.2)) ≤ m.length
    | _, _, .nil => Nat.zero_le _
    | _, _, .cons h r => Nat.max_le.mpr ⟨h.2.mxle, krs_mxle r⟩
theorem ext_set {l : Nat} {a : Addr} {o : HO} {vs : HO} (hm : m[l]? = some a) (ha : H a = some vs) (nt : noTbl vs) (nf : ¬ Frz vs) : Ext m H m (upd H a o) where
  non := fun _ h => upd_non h
  keep := fun b u h hb _ => by
    rw [upd_ne fun z : b = a => hb.elim (fun hb => hb (by rw [z]; exact List.mem_of_getElem? hm)) fun hf => by
      rw [z, ha] at h; cases h; exact nf hf]; exact h
  tbl := fun b u h => by
    by_cases e : b = a
    · subst e; rw [ha] at h; cases h; exact absurd rfl (nt _)
    · exact ⟨#[], by rw [upd_ne e, h, Array.append_empty]⟩
  pre := List.prefix_refl _
  new := fun _ h => .inl h
theorem SR.set (sr : SR K m H S) {l : Nat} {a : Addr} {o : O} {u : HO} {b : Bool} {k : Nat} {vs : HO} (hm : m[l]? = some a) (ha : H a = some vs) (nt : noTbl vs) (nf : ¬ Frz vs) (r : OR K m (upd H a u) a o) (hb : b = false → S.nt = false ∧ o.mx ≤ l) : SR K m (upd H a u) ⟨S.objs.set l o, b⟩ where
  len := by simp [sr.len]
  obj := fun i c w hc hs => by
    have inj : c = a → i = l := fun e => by
      subst e
      obtain ⟨h1, e1⟩ := List.getElem?_eq_some_iff.mp hc
      obtain ⟨h2, e2⟩ := List.getElem?_eq_some_iff.mp hm
      exact (List.getElem_inj sr.nd).mp (e1.trans e2.symm)
    have hs : (S.objs.set l o)[i]? = some w := hs
    by_cases e : i = l
    · subst e
      rw [hm] at hc; cases hc
      have hlt : i < S.objs.length := by rw [← sr.len]; exact (List.getElem?_eq_some_iff.mp hm).1
      rw [List.getElem?_set_self hlt] at hs; cases hs
      exact r
    · rw [List.getElem?_set_ne (Ne.symm e)] at hs
      have hne : c ≠ a := fun z => e (inj z)
      exact (sr.obj i c w hc hs).ext sr (ext_set hm ha nt nf) fun x h => by rw [upd_ne hne]; exact h
  nd := sr.nd
  wf := fun h i w hs => by
    obtain ⟨h1, h2⟩ := hb h
    have hs : (S.objs.set l o)[i]? = some w := hs
    by_cases e : i = l
    · subst e
      have hlt : i < S.objs.length := by simpa using (List.getElem?_eq_some_iff.mp hs).1
      rw [List.getElem?_set_self hlt] at hs; cases hs
      exact h2
    · rw [List.getElem?_set_ne (Ne.symm e)] at hs
      exact sr.wf h1 i w hs
end
end Den

/-! Den, part C: what is wanted behind a meaning; operators by values. -/
namespace Den
open PySem PySem.Spec PyProof.Rows L2

/-- how values lie: the heap at the start, the places, the heap now -/
structure Rel (α β : Type) where
  r : Hp → List Addr → Hp → β → α → Prop
  mono : ∀ {H H1 : Hp} {m' : List Addr} {H' : Hp} {v : β} {a : α}, (∀ a, H1 a = none → H a = none) → r H1 m' H' v a → r H m' H' v a
abbrev rD (K : PySem.W.Frag) : Rel D V := ⟨fun _ => DR K, fun _ h => h⟩
abbrev rDs (K : PySem.W.Frag) : Rel (List D) (List V) := ⟨fun _ => DRs K, fun _ h => h⟩
/-- what is wanted behind a run of a meaning: of its value, of its error -/
def Post {α β : Type} (K : PySem.W.Frag) (CT : Nat → Value) (E : XK) (rel : Rel α β) (m : List Addr) (H : Hp) (r : R α) (Q : β → Hp → Prop) : Prop :=
  match r with
  | .ok a S' => ∀ v m' H', rel.r H m' H' v a → SR K m' H' S' → Ext m H m' H' → Q v H'
  | .exc c d S' => ∀ v m' H' dd, DR K m' H' v d → SR K m' H' S' → Ext m H m' H' → H' dd = some (.xd [("value", v)]) → E (CT c) (some dd) H'
  | .bad => False
abbrev rB : Rel Bool Bool := ⟨fun _ _ _ b c => b = c, fun _ h => h⟩
section
variable {K : PySem.W.Frag} {CT : Nat → Value} {E : XK} {m m1 m2 : List Addr} {H H1 H2 : Hp} {S S1 S2 : Sto}
theorem Post.imp {α β : Type} {rel : Rel α β} {r : R α} {Q Q' : β → Hp → Prop} (h : Post K CT E rel m H r Q) (i : ∀ x H', Q x H' → Q' x H') : Post K CT E rel m H r Q' := by
  cases r with
  | ok a S' => exact fun v m' H' a b c => i _ _ (h v m' H' a b c)
  | exc c d S' => exact h
  | bad => exact h
theorem Post.later {α β : Type} {rel : Rel α β} {r : R α} {Q : β → Hp → Prop} (h : Post K CT E rel m H r Q) (e : Ext m H m1 H1) : Post K CT E rel m1 H1 r Q := by
  cases r with
  | ok a S' => exact fun v m' H' a b c => h v m' H' (rel.mono e.non a) b (e.trans c)
  | exc c d S' => exact fun v m' H' dd a b c => h v m' H' dd a b (e.trans c)
  | bad => exact h
theorem Post.bind {α β α' β' : Type} {rel : Rel α β} {rel' : Rel α' β'} {a : M α} {g : α → M α'} {Q : β' → Hp → Prop} (h : Post K CT E rel' m H (bnd a g S) Q) :
    Post K CT E rel m H (a S) (fun x H1 => ∃ m1 S1 y, rel.r H m1 H1 x y ∧ SR K m1 H1 S1 ∧ Ext m H m1 H1 ∧ Post K CT E rel' m1 H1 (g y S1) Q) := by
  unfold bnd at h
  cases e : a S with
  | ok y S1 =>
    rw [e] at h
    exact fun v m1 H1 r sr x => ⟨m1, S1, y, r, sr, x, Post.later h x⟩
  | exc c d S1 => rw [e] at h; exact h
  | bad => rw [e] at h; exact h
theorem Post.ret {α β : Type} {rel : Rel α β} {a : α} {x : β} {Q : β → Hp → Prop} (h : Post K CT E rel m H (ret a S) Q) (sr : SR K m H S) (r : rel.r H m H x a) : Q x H := h x m H r sr Ext.refl
theorem Post.guard {α β : Type} {rel : Rel α β} {b : Bool} {f : M α} {Q : β → Hp → Prop} (h : Post K CT E rel m H (guardM b f S) Q) : b = true ∧ Post K CT E rel m H (f S) Q := by
  unfold guardM at h
  cases b with
  | true => exact ⟨rfl, h⟩
  | false => exact h.elim
theorem Post.push {o : O} {p : Addr} {Q : VK} {u : HO} (h : Post K CT E (rD K) m H (push o S) Q) (sr : SR K (m ++ [p]) (upd H p u) ⟨S.objs ++ [o], S.nt⟩) (np : H p = none) (hm : m.length = S.objs.length) : Q (.ref p) (upd H p u) :=
  h (.ref p) (m ++ [p]) (upd H p u) (.ref (by rw [← hm, List.getElem?_append_right (Nat.le_refl _), Nat.sub_self]; rfl)) sr (ext_push np)
theorem getL_inv {α β : Type} {rel : Rel α β} {l : Nat} {g : List D → M α} {Q : β → Hp → Prop} (h : Post K CT E rel m H (bnd (getL l) g S) Q) : ∃ xs, S.objs[l]? = some (.lst xs) ∧ Post K CT E rel m H (g xs S) Q := by
  unfold bnd getL at h
  cases e : S.objs[l]? with
  | none => rw [e] at h; exact h.elim
  | some o =>
    rw [e] at h
    cases o with
    | lst xs => exact ⟨xs, rfl, h⟩
    | dic xs => exact h.elim
    | gone => exact h.elim
theorem mkTup_map : ∀ xs : List PyData, mkTup (xs.map D.p) = .p (.tuple xs) := by
  have h : ∀ xs : List PyData, allP (xs.map D.p) = some xs := by
    intro xs
    induction xs with
    | nil => rfl
    | cons x r ih => simp only [List.map_cons, allP, ih]
  intro xs
  unfold mkTup
  rw [h]
end

/-- an operation on two values -/
def rS (K : PySem.W.Frag) (CT : Nat → Value) (g : D → D → M D) : R2 := fun x y H Q => ∃ (E : XK) (m : List Addr) (S : Sto) (a b : D), DR K m H x a ∧ DR K m H y b ∧ SR K m H S ∧ Post K CT E (rD K) m H (g a b S) Q
def rU1 (K : PySem.W.Frag) (CT : Nat → Value) (g : D → M D) : V → Hp → VK → Prop := fun x H Q => ∃ (E : XK) (m : List Addr) (S : Sto) (a : D), DR K m H x a ∧ SR K m H S ∧ Post K CT E (rD K) m H (g a S) Q
section
variable {X : Cx} {CT : Nat → Value}
theorem cat_sound {K : PySem.W.Frag} {m : List Addr} {H : Hp} {S : Sto} {x y : V} {a b : D} {xs ys : List D} {Q : VK} (da : DR K m H x a) (db : DR K m H y b) (sr : SR K m H S) (ea : tupItems a = some xs) (eb : tupItems b = some ys)
    (hz : xs.length + ys.length ≤ sizeLine) (po : ∀ v m' H', DR K m' H' v (mkTup (xs ++ ys)) → SR K m' H' S → Ext m H m' H' → Q v H') : rCatA K x y H Q := by
  obtain ⟨p, vs, rfl, h1, z1, r1⟩ := da.items ea
  obtain ⟨q, ws, rfl, h2, z2, r2⟩ := db.items eb
  have l1 := r1.length
  have l2 := r2.length
  refine ⟨p, q, vs, ws, rfl, rfl, h1, h2, by omega, fun e => ?_, fun _ e => ?_, fun _ _ t nt => ?_⟩
  · subst e
    cases r1
    exact po _ m H (DR.mk h2 z2 r2) sr Ext.refl
  · subst e
    cases r2
    rw [List.append_nil] at po
    exact po _ m H (DR.mk h1 z1 r1) sr Ext.refl
  · have e := ext_new (m := m) (o := .tup (vs ++ ws)) nt
    exact po _ m _ (DR.mk (SqT.of upd_same) (by rw [List.length_append]; omega) ((r1.append r2).ext sr e)) (sr.new nt) e
theorem o_add : OpR X (binaryOp .Add) (rS X.K CT addD) := by
  intro pins s σ H x y v u Q I rx ry h
  obtain ⟨E, m, S, a, b, da, db, sr, po⟩ := h
  unfold addD at po
  split at po
  · rename_i i j
    obtain rfl := da.p_inv.int_inv
    obtain rfl := db.p_inv.int_inv
    exact op_add pins s σ H _ _ v u Q I rx ry ⟨i, j, rfl, rfl, po.ret sr (.p (.int _))⟩
  · rename_i i j
    obtain rfl := da.p_inv.str_inv
    obtain rfl := db.p_inv.str_inv
    obtain ⟨g, po⟩ := po.guard
    exact op_add_str pins s σ H _ _ v u Q I rx ry ⟨i, j, rfl, rfl, of_decide_eq_true g, po.ret sr (.p (.str _))⟩
  · rename_i xs ys
    unfold catTup at po
    obtain ⟨g, po⟩ := po.guard
    refine op_catA pins s σ H x y v u Q I rx ry (cat_sound da db sr (xs := xs.map D.p) (ys := ys.map D.p) rfl rfl (by simpa using of_decide_eq_true g) fun w m' H' dr => ?_)
    rw [← List.map_append, mkTup_map] at dr
    exact po w m' H' dr
  · rename_i l k
    obtain ⟨xs, e1, po⟩ := getL_inv po
    obtain ⟨ys, e2, po⟩ := getL_inv po
    obtain ⟨g, po⟩ := po.guard
    have g := of_decide_eq_true g
    obtain ⟨p, rfl, hp⟩ := da.ref_inv
    obtain ⟨q, rfl, hq⟩ := db.ref_inv
    obtain ⟨vs, hv, z1, r1⟩ := sr.get hp e1
    obtain ⟨ws, hw, z2, r2⟩ := sr.get hq e2
    have l1 := r1.length
    have l2 := r2.length
    exact op_cat pins s σ H _ _ v u Q I rx ry ⟨p, q, vs, ws, rfl, rfl, hv, hw, by omega, fun t nt => po.push (sr.pushL nt (by rw [List.length_append]; omega) (r1.append r2)) nt sr.len⟩
  · cases e1 : tupItems a with
    | none => rw [e1] at po; exact po.elim
    | some xs =>
      cases e2 : tupItems b with
      | none => rw [e1, e2] at po; exact po.elim
      | some ys =>
        rw [e1, e2] at po
        obtain ⟨g, po⟩ := Post.guard po
        exact op_catA pins s σ H x y v u Q I rx ry (cat_sound da db sr e1 e2 (of_decide_eq_true g) po)
theorem o_sub : OpR X (binaryOp .Sub) (rS X.K CT subD) := by
  intro pins s σ H x y v u Q I rx ry h
  obtain ⟨E, m, S, a, b, da, db, sr, po⟩ := h
  unfold subD at po
  split at po
  · rename_i i j
    obtain rfl := da.p_inv.int_inv
    obtain rfl := db.p_inv.int_inv
    exact op_sub pins s σ H _ _ v u Q I rx ry ⟨i, j, rfl, rfl, po.ret sr (.p (.int _))⟩
  · exact po.elim
theorem mulOk_ok {i j : Int} (h : mulOk i j = true) : CMul i j ∨ CMulW i j := by
  unfold mulOk at h
  rw [Bool.or_eq_true, Bool.or_eq_true, Bool.and_eq_true] at h
  rcases h with (h | h) | ⟨h, h'⟩
  · have h := of_decide_eq_true h
    exact .inl (.inl (by omega))
  · have h := of_decide_eq_true h
    exact .inl (.inr (by omega))
  · exact .inr (wide_mul (of_decide_eq_true h) (of_decide_eq_true h') (by decide) (by decide) (by decide))
theorem drs_rep {K : PySem.W.Frag} {m : List Addr} {H : Hp} {vs : List V} {ds : List D} (r : DRs K m H vs ds) : ∀ k : Nat, DRs K m H (List.replicate k vs).flatten (List.replicate k ds).flatten
  | 0 => .nil
  | k + 1 => by
    rw [List.replicate_succ, List.flatten_cons, List.replicate_succ, List.flatten_cons]
    exact r.append (drs_rep r k)
theorem rep_len {α : Type} (xs : List α) (k : Nat) : (List.replicate k xs).flatten.length = k * xs.length := by
  induction k with
  | zero => simp
  | succ k ih => rw [List.replicate_succ, List.flatten_cons, List.length_append, ih, Nat.succ_mul]; omega
theorem o_mul : OpR X (binaryOp .Mult) (rS X.K CT mulD) := by
  intro pins s σ H x y v u Q I rx ry h
  obtain ⟨E, m, S, a, b, da, db, sr, po⟩ := h
  unfold mulD at po
  split at po
  · rename_i i j
    obtain rfl := da.p_inv.int_inv
    obtain rfl := db.p_inv.int_inv
    obtain ⟨g, po⟩ := po.guard
    rcases mulOk_ok g with g | g
    · exact op_mul pins s σ H _ _ v u Q I rx ry ⟨i, j, rfl, rfl, g, po.ret sr (.p (.int _))⟩
    · exact op_mulW pins s σ H _ _ v u Q I rx ry ⟨i, j, rfl, rfl, g, po.ret sr (.p (.int _))⟩
  · rename_i xs k
    obtain rfl := db.p_inv.int_inv
    obtain ⟨g, po⟩ := po.guard
    simp only [Bool.and_eq_true, decide_eq_true_eq, Bool.not_eq_true'] at g
    obtain ⟨⟨⟨g1, g2⟩, g3⟩, g4⟩ := g
    obtain ⟨p, vs, rfl, h1, z1, r1⟩ := da.items (ds := xs.map D.p) rfl
    have l1 := r1.length
    rw [List.length_map] at l1
    refine op_repT pins s σ H _ _ v u Q I rx ry ⟨p, k, vs, rfl, rfl, h1, fun e => ?_, g2, g3, by omega, fun t nt => ?_⟩
    · subst e
      cases xs with
      | nil => simp at g1
      | cons _ _ => simp at l1
    · have e := ext_new (m := m) (o := .tup (List.replicate k.toNat vs).flatten) nt
      have hz : (List.replicate k.toNat vs).flatten.length ≤ sizeLine := by
        rw [rep_len, sizeLine_eq]
        have h1 : k.toNat ≤ 1000 := by omega
        have h2 : vs.length ≤ 1000 := by omega
        have := Nat.mul_le_mul h1 h2
        omega
      have q := DR.mk (m := m) (SqT.of upd_same) hz ((drs_rep r1 k.toNat).ext sr e)
      have e2 : (List.replicate k.toNat (xs.map D.p)).flatten = ((List.replicate k.toNat xs).flatten).map D.p := by
        rw [List.map_flatten, List.map_replicate]
      rw [e2, mkTup_map] at q
      exact po _ m _ q (sr.new nt) e
  · rename_i l k
    obtain rfl := db.p_inv.int_inv
    obtain ⟨xs, e1, po⟩ := getL_inv po
    obtain ⟨g, po⟩ := po.guard
    simp only [Bool.and_eq_true, decide_eq_true_eq] at g
    obtain ⟨⟨g1, g2⟩, g3⟩ := g
    obtain ⟨p, rfl, hp⟩ := da.ref_inv
    obtain ⟨vs, hv, z1, r1⟩ := sr.get hp e1
    have l1 := r1.length
    exact op_rep pins s σ H _ _ v u Q I rx ry ⟨p, k, vs, rfl, rfl, hv, g1, g2, by rw [l1]; exact g3, fun t nt => po.push (sr.pushL nt (by rw [rep_len, l1, Nat.mul_comm]; exact g3) (drs_rep r1 k.toNat)) nt sr.len⟩
  · exact po.elim
theorem o_fdiv : OpR X (binaryOp .FloorDiv) (rS X.K CT fdivD) := by
  intro pins s σ H x y v u Q I rx ry h
  obtain ⟨E, m, S, a, b, da, db, sr, po⟩ := h
  unfold fdivD at po
  split at po
  · rename_i i j
    obtain rfl := da.p_inv.int_inv
    obtain rfl := db.p_inv.int_inv
    obtain ⟨g, po⟩ := po.guard
    simp only [Bool.and_eq_true, decide_eq_true_eq] at g
    exact op_fdivW pins s σ H _ _ v u Q I rx ry ⟨i, j, rfl, rfl, wide_div g.1 g.2 (by decide) (by decide), po.ret sr (.p (.int _))⟩
  · exact po.elim
theorem o_mod : OpR X (binaryOp .Mod) (rS X.K CT modD) := by
  intro pins s σ H x y v u Q I rx ry h
  obtain ⟨E, m, S, a, b, da, db, sr, po⟩ := h
  unfold modD at po
  split at po
  · rename_i i j
    obtain rfl := da.p_inv.int_inv
    obtain rfl := db.p_inv.int_inv
    obtain ⟨g, po⟩ := po.guard
    exact op_mod pins s σ H _ _ v u Q I rx ry ⟨i, j, rfl, rfl, of_decide_eq_true g, po.ret sr (.p (.int _))⟩
  · exact po.elim
theorem o_pow : OpR X (binaryOp .Pow) (rS X.K CT powD) := by
  intro pins s σ H x y v u Q I rx ry h
  obtain ⟨E, m, S, a, b, da, db, sr, po⟩ := h
  unfold powD at po
  split at po
  · rename_i i j
    obtain rfl := da.p_inv.int_inv
    obtain rfl := db.p_inv.int_inv
    obtain ⟨g, po⟩ := po.guard
    simp only [Bool.and_eq_true, decide_eq_true_eq] at g
    obtain ⟨⟨g1, g2⟩, g3⟩ := g
    obtain ⟨t, rfl⟩ := rx
    obtain ⟨t', rfl⟩ := ry
    refine pow_int g1 ?_ ⟨.int _, H, I.tok _, ⟨_, rfl⟩, po.ret sr (.p (.int _))⟩
    have hb : (Builtin.Int.intBits i : Int) ≤ 100000 := by
      unfold Builtin.Int.intBits
      have := PySem.Flt.log2_lt_of (by decide) g3
      split <;> omega
    have h0 : (0 : Int) ≤ (Builtin.Int.intBits i : Int) := Int.natCast_nonneg _
    have : (Builtin.Int.intBits i : Int) * j ≤ 100000 * 100 := Int.mul_le_mul hb g2 g1 (by decide)
    omega
  · exact po.elim
theorem o_fail {f : Value → Value → Sem Value} : OpR X f (rS X.K CT fun _ _ => fail) := by
  intro pins s σ H x y v u Q I rx ry h
  obtain ⟨E, m, S, a, b, da, db, sr, po⟩ := h
  exact po.elim
theorem o_bin (op : Operator) : OpR X (binaryOp op) (rS X.K CT (binD op)) := by
  cases op with
  | Add => exact o_add
  | Sub => exact o_sub
  | Mult => exact o_mul
  | FloorDiv => exact o_fdiv
  | Mod => exact o_mod
  | Pow => exact o_pow
  | _ => exact o_fail
theorem o_neg : UnR X (unaryOp .USub) (rU1 X.K CT negD) := by
  intro pins s σ H x v Q I rx h
  obtain ⟨E, m, S, a, da, sr, po⟩ := h
  unfold negD at po
  split at po
  · rename_i i
    obtain rfl := da.p_inv.int_inv
    exact un_neg pins s σ H _ v Q I rx ⟨i, rfl, po.ret sr (.p (.int _))⟩
  · exact po.elim
end
end Den

/-! Den, part D: comparisons, truth, items and cuts by values. -/
namespace Den
open PySem PySem.Spec PyProof.Rows L2

mutual
theorem RP.dp {K : PySem.W.Frag} {H : Hp} : ∀ {v : V} {x : PyData}, RP K H v x → Dp K H v x
  | _, _, .non => .non
  | _, _, .bl b => .bl b
  | _, _, .int b => .int b
  | _, _, .str b => .str b
  | _, _, .tup h _ r => .tup h (RPs.dp r)
  | _, _, .flst h _ r => .lst h.sq (RPs.dp r)
theorem RPs.dp {K : PySem.W.Frag} {H : Hp} : ∀ {v : List V} {x : List PyData}, RPs K H v x → DpAll K H v x
  | _, _, .nil => .nil
  | _, _, .cons h r => .cons (RP.dp h) (RPs.dp r)
end
theorem toPy_p (S : List O) (x : PyData) : ∀ n, toPy S n (.p x) = some x
  | 0 => by unfold toPy; rfl
  | _ + 1 => by unfold toPy; rfl
theorem toPyAll_ok {K : PySem.W.Frag} {m : List Addr} {H : Hp} {f : D → Option PyData} (hf : ∀ v d x, DR K m H v d → f d = some x → Dp K H v x) : ∀ {vs : List V} {ds : List D} {xs : List PyData}, DRs K m H vs ds → toPyAll f ds = some xs → DpAll K H vs xs
  | _, _, _, .nil, h => by
    simp [toPyAll] at h; subst h; exact .nil
  | _, _, _, .cons (d := d) (ds := ds) a r, h => by
    unfold toPyAll at h
    cases e1 : f d with
    | none => rw [e1] at h; cases h
    | some y =>
      cases e2 : toPyAll f ds with
      | none => rw [e1, e2] at h; cases h
      | some ys =>
        rw [e1, e2] at h
        cases h
        exact .cons (hf _ _ _ a e1) (toPyAll_ok hf r e2)
theorem toPy_ok {K : PySem.W.Frag} {m : List Addr} {H : Hp} {S : Sto} (sr : SR K m H S) : ∀ (n : Nat) (v : V) (d : D) (x : PyData), DR K m H v d → toPy S.objs n d = some x → Dp K H v x
  | n, _, .p y, x, .p h, e => by
    rw [toPy_p] at e; cases e; exact h.dp
  | 0, _, .tup _, _, _, e => by simp [toPy] at e
  | 0, _, .ref _, _, _, e => by simp [toPy] at e
  | n + 1, _, .tup ds, x, .tup h z r, e => by
    simp only [toPy] at e
    cases e2 : toPyAll (toPy S.objs n) ds with
    | none => rw [e2] at e; cases e
    | some ys =>
      rw [e2] at e
      cases e
      exact .tup h (toPyAll_ok (toPy_ok sr n) r e2)
  | n + 1, _, .ref l, x, .ref h, e => by
    simp only [toPy] at e
    cases e1 : S.objs[l]? with
    | none => rw [e1] at e; cases e
    | some o =>
      rw [e1] at e
      cases o with
      | dic _ => cases e
      | gone => cases e
      | lst xs =>
        simp only at e
        cases e2 : toPyAll (toPy S.objs n) xs with
        | none => rw [e2] at e; cases e
        | some ys =>
          rw [e2] at e
          cases e
          obtain ⟨vs, hv, z, r⟩ := sr.get h e1
          exact .lst (SqL.of hv) (toPyAll_ok (toPy_ok sr n) r e2)

section
variable {K : PySem.W.Frag} {CT : Nat → Value} {E : XK} {m m1 m2 : List Addr} {H H1 H2 : Hp} {S S1 S2 : Sto}
theorem asPy_inv {α β : Type} {rel : Rel α β} {d : D} {v : V} {g : PyData → M α} {Q : β → Hp → Prop} (sr : SR K m H S) (h : DR K m H v d) (po : Post K CT E rel m H (bnd (asPy d) g S) Q) : ∃ x, Dp K H v x ∧ toPy S.objs 40 d = some x ∧ Post K CT E rel m H (g x S) Q := by
  unfold bnd asPy at po
  cases e : toPy S.objs 40 d with
  | none => rw [e] at po; exact po.elim
  | some x => rw [e] at po; exact ⟨x, toPy_ok sr _ _ _ _ h e, rfl, po⟩
theorem seqItems_inv {α β : Type} {rel : Rel α β} {d : D} {v : V} {g : List D → M α} {Q : β → Hp → Prop} (sr : SR K m H S) (h : DR K m H v d) (po : Post K CT E rel m H (bnd (seqItems d) g S) Q) :
    ∃ a vs xs, v = .ref a ∧ (H a = some (.lst vs) ∨ SqT K H a vs) ∧ vs.length ≤ sizeLine ∧ DRs K m H vs xs ∧ Post K CT E rel m H (g xs S) Q := by
  cases d with
  | ref l =>
    obtain ⟨xs, e, po⟩ := getL_inv po
    obtain ⟨a, rfl, ha⟩ := h.ref_inv
    obtain ⟨vs, h1, z, r⟩ := sr.get ha e
    exact ⟨a, vs, xs, rfl, .inl h1, z, r, po⟩
  | tup xs =>
    obtain ⟨a, vs, rfl, h1, z, r⟩ := h.items (ds := xs) rfl
    exact ⟨a, vs, xs, rfl, .inr h1, z, r, po⟩
  | p x =>
    cases x with
    | tuple xs =>
      obtain ⟨a, vs, rfl, h1, z, r⟩ := h.items (ds := xs.map D.p) rfl
      exact ⟨a, vs, _, rfl, .inr h1, z, r, po⟩
    | _ => exact po.elim
end

/-- a test of two values -/
def rSB (K : PySem.W.Frag) (CT : Nat → Value) (g : D → D → M Bool) : R2 := fun x y H Q => ∃ (E : XK) (m : List Addr) (S : Sto) (a b : D), DR K m H x a ∧ DR K m H y b ∧ SR K m H S ∧ Post K CT E rB m H (g a b S) fun c H' => Q (.bl c) H'
theorem Dp.scal_inv {K : PySem.W.Frag} {H : Hp} {v w : V} {x y : PyData} (h : Dp K H v x) (g : Dp K H w y) (s : scalP x y = true) : scal v w = true ∧ decide (v = w) = PyData.eqv x y := by
  cases h <;> cases g <;> first
    | (simp [scalP] at s; done)
    | (refine ⟨rfl, ?_⟩; rw [Bool.eq_iff_iff]; simp [PyData.eqv])
section
variable {X : Cx} {CT : Nat → Value} {E : XK} {k : Nat}
theorem c_eq (hr : Room k X.A) : OpR X (compareOp .Eq) (rSB X.K CT eqD) := by
  intro pins s σ H x y v u Q I rx ry h
  obtain ⟨E, m, S, a, b, da, db, sr, po⟩ := h
  obtain ⟨d, h1, _, po⟩ := asPy_inv sr da po
  obtain ⟨e, h2, _, po⟩ := asPy_inv sr db po
  obtain ⟨g, po⟩ := Post.guard po
  have q := po.ret sr (x := PyData.eqv d e) rfl
  rw [Bool.or_eq_true, Bool.and_eq_true] at g
  rcases g with g | ⟨g1, g2⟩
  · obtain ⟨s1, s2⟩ := Dp.scal_inv h1 h2 g
    exact op_eq pins s σ H x y v u Q I rx ry ⟨s1, by rw [s2]; exact q⟩
  · exact op_eqD hr.units pins s σ H x y v u Q I rx ry ⟨d, e, h1, h2, g1, g2, q⟩
theorem notM_inv {K : PySem.W.Frag} {m : List Addr} {H : Hp} {S : Sto} {f : M Bool} {Q : Bool → Hp → Prop} (po : Post K CT E rB m H (notM f S) Q) : Post K CT E rB m H (f S) fun c H' => Q (!c) H' := by
  unfold notM bnd at po
  cases e : f S with
  | ok b S' => rw [e] at po; exact fun v m' H' a b' c => po _ m' H' (by cases a; rfl) b' c
  | exc c d S' => rw [e] at po; exact po
  | bad => rw [e] at po; exact po
theorem c_ne (hr : Room k X.A) : OpR X (compareOp .NotEq) (rSB X.K CT (cmpD .NotEq)) := by
  intro pins s σ H x y v u Q I rx ry h
  obtain ⟨E, m, S, a, b, da, db, sr, po⟩ := h
  have po := notM_inv po
  obtain ⟨d, h1, _, po⟩ := asPy_inv sr da po
  obtain ⟨e, h2, _, po⟩ := asPy_inv sr db po
  obtain ⟨g, po⟩ := Post.guard po
  have q := po.ret sr (x := PyData.eqv d e) rfl
  rw [Bool.or_eq_true, Bool.and_eq_true] at g
  rcases g with g | ⟨g1, g2⟩
  · obtain ⟨s1, s2⟩ := Dp.scal_inv h1 h2 g
    exact op_ne pins s σ H x y v u Q I rx ry ⟨s1, by rw [s2]; exact q⟩
  · exact op_neD hr.units pins s σ H x y v u Q I rx ry ⟨d, e, h1, h2, g1, g2, q⟩
theorem intsOf_rel {K : PySem.W.Frag} {H : Hp} : ∀ {xs : List PyData} {is : List Int} {vs : List V}, intsOf xs = some is → RPs K H vs xs → vs = is.map V.int
  | [], _, _, h, .nil => by simp [intsOf] at h; subst h; rfl
  | .int i :: r, is, _, h, .cons a t => by
    unfold intsOf at h
    cases e : intsOf r with
    | none => rw [e] at h; cases h
    | some js =>
      rw [e] at h
      cases h
      rw [intsOf_rel e t, a.int_inv]; rfl
  | .none :: _, _, _, h, _ => by simp [intsOf] at h
  | .bool _ :: _, _, _, h, _ => by simp [intsOf] at h
  | .str _ :: _, _, _, h, _ => by simp [intsOf] at h
  | .list _ :: _, _, _, h, _ => by simp [intsOf] at h
  | .tuple _ :: _, _, _, h, _ => by simp [intsOf] at h
  | .dict _ :: _, _, _, h, _ => by simp [intsOf] at h
theorem c_lt (hr : Room k X.A) : OpR X (compareOp .Lt) (rSB X.K CT ltD) := by
  intro pins s σ H x y v u Q I rx ry h
  obtain ⟨E, m, S, a, b, da, db, sr, po⟩ := h
  unfold ltD at po
  split at po
  · rename_i i j
    obtain rfl := da.p_inv.int_inv
    obtain rfl := db.p_inv.int_inv
    exact op_lt pins s σ H _ _ v u Q I rx ry ⟨i, j, rfl, rfl, po.ret sr rfl⟩
  · rename_i i j
    obtain rfl := da.p_inv.str_inv
    obtain rfl := db.p_inv.str_inv
    exact op_lt_str pins s σ H _ _ v u Q I rx ry ⟨i, j, rfl, rfl, po.ret sr rfl⟩
  · rename_i xs ys
    cases e1 : intsOf xs with
    | none => rw [e1] at po; exact po.elim
    | some is =>
      cases e2 : intsOf ys with
      | none => rw [e1, e2] at po; exact po.elim
      | some js =>
        rw [e1, e2] at po
        obtain ⟨p, vs, rfl, h1, z1, r1⟩ := da.p_inv.tup_inv
        obtain ⟨q, ws, rfl, h2, z2, r2⟩ := db.p_inv.tup_inv
        have q1 := intsOf_rel e1 r1
        have q2 := intsOf_rel e2 r2
        subst q1 q2
        exact op_ltT hr.units0 pins s σ H _ _ v u Q I rx ry ⟨p, q, is, js, rfl, rfl, h1, h2, Post.ret (rel := rB) (x := HT.lexLt is js) po sr rfl⟩
  · exact po.elim
theorem c_le : OpR X (compareOp .LtE) (rSB X.K CT leD) := by
  intro pins s σ H x y v u Q I rx ry h
  obtain ⟨E, m, S, a, b, da, db, sr, po⟩ := h
  unfold leD at po
  split at po
  · rename_i i j
    obtain rfl := da.p_inv.int_inv
    obtain rfl := db.p_inv.int_inv
    exact op_le pins s σ H _ _ v u Q I rx ry ⟨i, j, rfl, rfl, po.ret sr rfl⟩
  · exact po.elim
theorem c_gt : OpR X (compareOp .Gt) (rSB X.K CT (cmpD .Gt)) := by
  intro pins s σ H x y v u Q I rx ry h
  obtain ⟨E, m, S, a, b, da, db, sr, po⟩ := h
  unfold cmpD at po
  simp only at po
  split at po
  · rename_i i j
    obtain rfl := da.p_inv.int_inv
    obtain rfl := db.p_inv.int_inv
    exact op_gt pins s σ H _ _ v u Q I rx ry ⟨i, j, rfl, rfl, po.ret sr rfl⟩
  · exact po.elim
theorem c_ge : OpR X (compareOp .GtE) (rSB X.K CT (cmpD .GtE)) := by
  intro pins s σ H x y v u Q I rx ry h
  obtain ⟨E, m, S, a, b, da, db, sr, po⟩ := h
  unfold cmpD at po
  simp only at po
  split at po
  · rename_i i j
    obtain rfl := da.p_inv.int_inv
    obtain rfl := db.p_inv.int_inv
    exact op_ge pins s σ H _ _ v u Q I rx ry ⟨i, j, rfl, rfl, po.ret sr rfl⟩
  · exact po.elim
theorem DR.non_iff {K : PySem.W.Frag} {m : List Addr} {H : Hp} {v : V} {d : D} (h : DR K m H v d) : decide (v = .non) = d.isNon := by
  cases h with
  | p h => cases h <;> rfl
  | tup => rfl
  | ref => rfl
theorem is_inv {K : PySem.W.Frag} {m : List Addr} {H : Hp} {S : Sto} {x y : V} {a b : D} {Q : Bool → Hp → Prop} (da : DR K m H x a) (db : DR K m H y b) (sr : SR K m H S) (po : Post K CT E rB m H (isD a b S) Q) :
    (y = .non ∧ Q (decide (x = .non)) H) ∨ ∃ c d, x = .bl c ∧ y = .bl d ∧ Q (decide (c = d)) H := by
  unfold isD at po
  split at po
  · refine .inl ⟨db.p_inv.non_inv, ?_⟩
    rw [da.non_iff]
    exact po.ret sr rfl
  · rename_i c d
    refine .inr ⟨c, d, da.p_inv.bl_inv, db.p_inv.bl_inv, ?_⟩
    rw [show decide (c = d) = (c == d) by cases c <;> cases d <;> rfl]
    exact po.ret sr rfl
  · exact po.elim
theorem c_is : OpR X (compareOp .Is) (rSB X.K CT isD) := by
  intro pins s σ H x y v u Q I rx ry h
  obtain ⟨E, m, S, a, b, da, db, sr, po⟩ := h
  rcases is_inv da db sr po with ⟨e, q⟩ | ⟨c, d, e1, e2, q⟩
  · exact op_isN pins s σ H x y v u Q I rx ry ⟨e, q⟩
  · exact op_is_bl pins s σ H x y v u Q I rx ry ⟨c, d, e1, e2, q⟩
theorem c_isnot : OpR X (compareOp .IsNot) (rSB X.K CT (cmpD .IsNot)) := by
  intro pins s σ H x y v u Q I rx ry h
  obtain ⟨E, m, S, a, b, da, db, sr, po⟩ := h
  rcases is_inv da db sr (notM_inv po) with ⟨e, q⟩ | ⟨c, d, e1, e2, q⟩
  · exact op_notN pins s σ H x y v u Q I rx ry ⟨e, q⟩
  · exact op_isnot_bl pins s σ H x y v u Q I rx ry ⟨c, d, e1, e2, q⟩
theorem eqV_rel {K : PySem.W.Frag} {H : Hp} {v w : V} {x y : PyData} (h : RP K H v x) (g : RP K H w y) (fx : flatP x = true) (fy : flatP y = true) : eqV v w = PyData.eqv x y := by
  cases h <;> cases g <;> first
    | (simp [flatP] at fx; done)
    | (simp [flatP] at fy; done)
    | rfl
theorem flat_rel {K : PySem.W.Frag} {H : Hp} {v : V} {x : PyData} (h : RP K H v x) (fx : flatP x = true) : flatV v = true := by
  cases h <;> first
    | (simp [flatP] at fx; done)
    | rfl
theorem in_rel {K : PySem.W.Frag} {H : Hp} {w : V} {y : PyData} (g : RP K H w y) (fy : flatP y = true) : ∀ {vs : List V} {xs : List PyData}, RPs K H vs xs → xs.all flatP = true → vs.all flatV = true ∧ inV w vs = xs.any fun z => PyData.eqv z y
  | _, _, .nil, _ => ⟨rfl, rfl⟩
  | _, _, .cons h r, f => by
    simp only [List.all_cons, Bool.and_eq_true] at f
    obtain ⟨i1, i2⟩ := in_rel g fy r f.2
    unfold inV at i2 ⊢
    simp only [List.all_cons, List.any_cons, Bool.and_eq_true]
    exact ⟨⟨flat_rel h f.1, i1⟩, by rw [i2, eqV_rel h g f.1 fy]⟩
theorem Dp.flat {K : PySem.W.Frag} {H : Hp} {v : V} {x : PyData} (h : Dp K H v x) (f : flatP x = true) : RP K H v x := by
  cases h with
  | non => exact .non
  | bl b => exact .bl b
  | int b => exact .int b
  | str b => exact .str b
  | lst => simp [flatP] at f
  | tup => simp [flatP] at f
theorem in_inv {K : PySem.W.Frag} {m : List Addr} {H : Hp} {S : Sto} {x y : V} {a b : D} {Q : Bool → Hp → Prop} (da : DR K m H x a) (db : DR K m H y b) (sr : SR K m H S) (po : Post K CT E rB m H (inD a b S) Q) :
    (∃ i j, x = .str i ∧ y = .str j ∧ Q (!(Builtin.Str.occurrences j i 0 j.length 1).isEmpty) H) ∨ ∃ p xs, y = .ref p ∧ (SqL K H p xs ∨ SqT K H p xs) ∧ flatV x = true ∧ xs.all flatV = true ∧ Q (inV x xs) H := by
  unfold inD at po
  split at po
  · exact .inl ⟨_, _, da.p_inv.str_inv, db.p_inv.str_inv, po.ret sr rfl⟩
  · obtain ⟨p, vs, xs, rfl, hs, z, r, po2⟩ := seqItems_inv sr db po
    clear po
    obtain ⟨d, hd, _, po3⟩ := asPy_inv sr da po2
    clear po2
    cases e : allP xs with
    | none => rw [e] at po3; exact po3.elim
    | some ys =>
      rw [e] at po3
      obtain ⟨g, po4⟩ := Post.guard po3
      clear po3
      rw [Bool.and_eq_true] at g
      have e' := allP_rel e
      subst e'
      have hd := Dp.flat hd g.1
      obtain ⟨f1, f2⟩ := in_rel hd g.1 r.toP g.2
      exact .inr ⟨p, vs, rfl, hs.imp SqL.of id, flat_rel hd g.1, f1, by rw [f2]; exact Post.ret (rel := rB) po4 sr rfl⟩
theorem c_in : OpR X (compareOp .In) (rSB X.K CT inD) := by
  intro pins s σ H x y v u Q I rx ry h
  obtain ⟨E, m, S, a, b, da, db, sr, po⟩ := h
  rcases in_inv da db sr po with ⟨i, j, e1, e2, q⟩ | ⟨p, xs, e1, h1, h2, h3, q⟩
  · exact op_in_str pins s σ H x y v u Q I rx ry ⟨i, j, e1, e2, q⟩
  · exact op_in_seq pins s σ H x y v u Q I rx ry ⟨p, xs, e1, h1, h2, h3, q⟩
theorem c_notin : OpR X (compareOp .NotIn) (rSB X.K CT (cmpD .NotIn)) := by
  intro pins s σ H x y v u Q I rx ry h
  obtain ⟨E, m, S, a, b, da, db, sr, po⟩ := h
  rcases in_inv da db sr (notM_inv po) with ⟨i, j, e1, e2, q⟩ | ⟨p, xs, e1, h1, h2, h3, q⟩
  · exact op_notin_str pins s σ H x y v u Q I rx ry ⟨i, j, e1, e2, q⟩
  · exact op_notIn_seq pins s σ H x y v u Q I rx ry ⟨p, xs, e1, h1, h2, h3, q⟩
theorem c_cmp (hr : Room k X.A) (op : CmpOp) : OpR X (compareOp op) (rSB X.K CT (cmpD op)) := by
  cases op with
  | Eq => exact c_eq hr
  | NotEq => exact c_ne hr
  | Lt => exact c_lt hr
  | LtE => exact c_le
  | Gt => exact c_gt
  | GtE => exact c_ge
  | Is => exact c_is
  | IsNot => exact c_isnot
  | In => exact c_in
  | NotIn => exact c_notin

/-! ### truth -/
theorem tru_sound {K : PySem.W.Frag} {m : List Addr} {H : Hp} {S : Sto} {x : V} {a : D} {Q : Bool → Hp → Prop} (da : DR K m H x a) (sr : SR K m H S) (po : Post K CT E rB m H (truD a S) Q) : ∃ c, TruV K x H c ∧ Q c H := by
  unfold truD at po
  split at po
  · obtain rfl := da.p_inv.non_inv
    exact ⟨_, rfl, po.ret sr rfl⟩
  · obtain rfl := da.p_inv.bl_inv
    exact ⟨_, rfl, po.ret sr rfl⟩
  · obtain rfl := da.p_inv.int_inv
    exact ⟨_, rfl, po.ret sr rfl⟩
  · obtain rfl := da.p_inv.str_inv
    obtain ⟨g, po⟩ := po.guard
    exact ⟨_, ⟨of_decide_eq_true g, rfl⟩, po.ret sr rfl⟩
  · obtain ⟨p, vs, rfl, h1, z1, r1⟩ := da.p_inv.tup_inv
    refine ⟨_, .inr (.inl ⟨vs, h1, rfl⟩), ?_⟩
    exact po.ret sr (by cases r1 <;> rfl)
  · rename_i xs
    obtain ⟨p, vs, rfl, h1, z1, r1⟩ := da.items (ds := xs) rfl
    exact ⟨_, .inr (.inl ⟨vs, h1, rfl⟩), po.ret sr (by cases r1 <;> rfl)⟩
  · rename_i l
    obtain ⟨p, rfl, hp⟩ := da.ref_inv
    cases e : S.objs[l]? with
    | none => rw [e] at po; exact po.elim
    | some o =>
      rw [e] at po
      cases o with
      | lst xs =>
        obtain ⟨vs, h1, z1, r1⟩ := sr.get hp e
        exact ⟨_, .inl ⟨vs, SqL.of h1, rfl⟩, Post.ret po sr (by cases r1 <;> rfl)⟩
      | dic xs =>
        obtain ⟨vs, h1, z1, r1⟩ := sr.getD hp e
        exact ⟨_, .inr (.inr ⟨vs, h1, rfl⟩), Post.ret po sr (by cases r1 <;> rfl)⟩
      | gone => exact po.elim
  · exact po.elim
end
end Den

/-! Den, part E: items, cuts; the meanings of expressions and their readings. -/
namespace Den
open PySem PySem.Spec PyProof.Rows L2

/-! ### meanings -/
abbrev DE := Rho → M D
abbrev DB := Rho → M Bool
abbrev DL := Rho → M (List D)
def vS (i : Nat) : DE := fun ρ => match ρ[i]? with
  | some (some d) => ret d
  | _ => fail
def kS (d : D) : DE := fun _ => ret d
def binS (op : Operator) (f g : DE) : DE := fun ρ => bnd (f ρ) fun a => bnd (g ρ) fun b => binD op a b
def negS (f : DE) : DE := fun ρ => bnd (f ρ) negD
def cmpS (op : CmpOp) (f g : DE) : DB := fun ρ => bnd (f ρ) fun a => bnd (g ρ) fun b => cmpD op a b
def chnS (op op' : CmpOp) (f g h : DE) : DB := fun ρ => bnd (f ρ) fun a => bnd (g ρ) fun b => bnd (cmpD op a b) fun c => if c = true then bnd (h ρ) fun d => cmpD op' b d else ret false
def boolS (t : DB) : DE := fun ρ => bnd (t ρ) fun b => ret (.bl b)
def andS (t u : DB) : DB := fun ρ => bnd (t ρ) fun c => if c = true then u ρ else ret false
def orS (t u : DB) : DB := fun ρ => bnd (t ρ) fun c => if c = true then ret true else u ρ
def notS (t : DB) : DB := fun ρ => bnd (t ρ) fun c => ret (!c)
def truS (f : DE) : DB := fun ρ => bnd (f ρ) truD
def asBoolD : D → M Bool
  | .p (.bool b) => ret b
  | _ => fail
def asBS (f : DE) : DB := fun ρ => bnd (f ρ) asBoolD
def iteS (t : DB) (f g : DE) : DE := fun ρ => bnd (t ρ) fun c => if c = true then f ρ else g ρ
def argsS : List DE → DL
  | [] => fun _ => ret []
  | f :: r => fun ρ => bnd (f ρ) fun a => bnd (argsS r ρ) fun as => ret (a :: as)
def tupS (fs : List DE) : DE := fun ρ => bnd (argsS fs ρ) fun ds => guardM (decide (ds.length ≤ sizeLine)) (ret (mkTup ds))
/-- a list that was just made, given a place -/
def pushL (l : DL) : DE := fun ρ => bnd (l ρ) fun ds => push (.lst ds)
def lstS (fs : List DE) : DL := fun ρ => bnd (argsS fs ρ) fun ds => guardM (decide (ds.length ≤ sizeLine)) (ret ds)
def subS (f g : DE) : DE := fun ρ => bnd (f ρ) fun a => bnd (g ρ) fun b => subItem a b
def optS : Option DE → Rho → M (Option D)
  | none => fun _ => ret none
  | some f => fun ρ => bnd (f ρ) fun d => ret (some d)
def cutS' (f : DE) (lo hi : Option DE) : DE := fun ρ => bnd (f ρ) fun a => bnd (optS lo ρ) fun l => bnd (partI l) fun l' => bnd (optS hi ρ) fun h => bnd (partI h) fun h' => cutD a l' h'

/-! ### readings -/
def tG {α β : Type} (K : PySem.W.Frag) (CT : Nat → Value) (W : WX) (rel : Rel α β) (f : Rho → M α) : L2.St → Hp → (β → Hp → Prop) → Prop := fun σ H Q =>
  ∃ (ρ : Rho) (m : List Addr) (S : Sto), EnvR K m H ρ σ ∧ SR K m H S ∧ Post K CT (fun c d H' => W c d σ H') rel m H (f ρ S) Q
abbrev tE (K : PySem.W.Frag) (CT : Nat → Value) (W : WX) (f : DE) : TE := tG K CT W (rD K) f
abbrev tT (K : PySem.W.Frag) (CT : Nat → Value) (W : WX) (f : DB) : TT := tG K CT W rB f
abbrev tL (K : PySem.W.Frag) (CT : Nat → Value) (W : WX) (f : DL) : TA := tG K CT W (rDs K) f
theorem PE.imp {X : Cx} {e : Expr} {t t' : TE} (h : PE X e t) (i : ∀ σ H Q, t' σ H Q → t σ H Q) : PE X e t' := ⟨fun pins s σ H Q I q => h.run pins s σ H Q I (i σ H Q q)⟩
theorem PT.imp {X : Cx} {e : Expr} {t t' : TT} (h : PT X e t) (i : ∀ σ H Q, t' σ H Q → t σ H Q) : PT X e t' := ⟨fun pins s σ H Q I q => h.run pins s σ H Q I (i σ H Q q)⟩
theorem PW.imp {X : Cx} {e : Expr} {t t' : TT} (h : PW X e t) (i : ∀ σ H Q, t' σ H Q → t σ H Q) : PW X e t' := ⟨fun wh pins s σ H Q I q => h.run wh pins s σ H Q I (i σ H Q q)⟩
theorem PA.imp {X : Cx} {e : List Expr} {t t' : TA} (h : PA X e t) (i : ∀ σ H Q, t' σ H Q → t σ H Q) : PA X e t' := ⟨fun pos pins s σ H Q I q => h.run pos pins s σ H Q I (i σ H Q q)⟩
/-- a run whose first part is f: its reading asks f's, then the rest -/
theorem tG.first {α β α' β' : Type} {K : PySem.W.Frag} {CT : Nat → Value} {W : WX} {rel : Rel α β} {rel' : Rel α' β'} {f : Rho → M α} {g : Rho → α → M α'} {σ : L2.St} {H : Hp} {Q : β' → Hp → Prop} (h : tG K CT W rel' (fun ρ => bnd (f ρ) (g ρ)) σ H Q) :
    tG K CT W rel f σ H fun x H1 => ∃ (ρ : Rho) (m : List Addr) (S : Sto) (y : α), rel.r H m H1 x y ∧ EnvR K m H1 ρ σ ∧ SR K m H1 S ∧ Post K CT (fun c d H' => W c d σ H') rel' m H1 (g ρ y S) Q := by
  obtain ⟨ρ, m, S, er, sr, po⟩ := h
  exact ⟨ρ, m, S, er, sr, po.bind.imp fun x H1 ⟨m1, S1, y, r, sr1, ex, p⟩ => ⟨ρ, m1, S1, y, r, er.ext sr ex, sr1, p⟩⟩
/-- .. and a second one -/
theorem Post.next {α β α' β' : Type} {K : PySem.W.Frag} {CT : Nat → Value} {W : WX} {rel : Rel α β} {rel' : Rel α' β'} {ρ : Rho} {m : List Addr} {S : Sto} {f : Rho → M α} {g : α → M α'} {σ : L2.St} {H : Hp} {Q : β' → Hp → Prop} (er : EnvR K m H ρ σ) (sr : SR K m H S)
    (h : Post K CT (fun c d H' => W c d σ H') rel' m H (bnd (f ρ) g S) Q) : tG K CT W rel f σ H fun x H1 => ∃ (m1 : List Addr) (S1 : Sto) (y : α), rel.r H m1 H1 x y ∧ SR K m1 H1 S1 ∧ Ext m H m1 H1 ∧ Post K CT (fun c d H' => W c d σ H') rel' m1 H1 (g y S1) Q :=
  ⟨ρ, m, S, er, sr, h.bind⟩
theorem bnd_assoc {α β γ : Type} (m : M α) (f : α → M β) (g : β → M γ) : bnd (bnd m f) g = bnd m fun x => bnd (f x) g := by
  funext S
  unfold bnd
  cases m S <;> rfl
theorem ret_bnd {α β : Type} (a : α) (f : α → M β) : bnd (ret a) f = f a := rfl
section
variable {K : PySem.W.Frag} {CT : Nat → Value} {E : XK} {m : List Addr} {H : Hp} {S : Sto}
theorem post_bool {r : M Bool} {Q : VK} : Post K CT E (rD K) m H (bnd r (fun b => ret (.bl b)) S) Q ↔ Post K CT E rB m H (r S) fun c H' => Q (.bl c) H' := by
  unfold bnd
  cases r S with
  | ok b S' =>
    refine ⟨fun h v m' H' e a c => ?_, fun h v m' H' e a c => ?_⟩
    · rw [show v = b from e]; exact h _ m' H' (.p (.bl b)) a c
    · rw [e.p_inv.bl_inv]; exact h _ m' H' rfl a c
  | exc c d S' => exact Iff.rfl
  | bad => exact Iff.rfl
theorem tE_bool {W : WX} {t : DB} {σ : L2.St} {Q : VK} : tE K CT W (boolS t) σ H Q ↔ tT K CT W t σ H fun c H' => Q (.bl c) H' :=
  ⟨fun ⟨ρ, m, S, er, sr, po⟩ => ⟨ρ, m, S, er, sr, post_bool.mp po⟩, fun ⟨ρ, m, S, er, sr, po⟩ => ⟨ρ, m, S, er, sr, post_bool.mpr po⟩⟩
end
section
variable {X : Cx} {CT : Nat → Value} {W : WX} {a b c : Expr} {f g h : DE} {t u : DB} {pos : Pos} {k : Nat}
theorem s_var {i : Nat} {x : Str} (hN : X.N[i]? = some x) (hv : Vis X.env.scope x) (hd : (x == ("__debug__" : Str)) = false) (hcd : (x == ("__classdict__" : Str)) = false) : PE X (.Name x pos) (tE X.K CT W (vS i)) :=
  PE.imp (pe_var hN hv hd hcd) fun σ H Q ⟨ρ, m, S, er, sr, po⟩ => by
    unfold vS at po
    cases e : ρ[i]? with
    | none => rw [e] at po; exact po.elim
    | some o =>
      rw [e] at po
      cases o with
      | none => exact po.elim
      | some d =>
        obtain ⟨v, h1, h2⟩ := er.val i d e
        exact ⟨v, h1, Post.ret po sr h2⟩
theorem s_const {e : Expr} {v : V} {d : D} (he : PE X e (tC v)) (h : ∀ m H, DR X.K m H v d) : PE X e (tE X.K CT W (kS d)) :=
  PE.imp he fun σ H Q ⟨ρ, m, S, er, sr, po⟩ => Post.ret po sr (h m H)
theorem s_int {i j} : PE X (.Constant (.int i) j pos) (tE X.K CT W (kS (.int i))) := s_const pe_int fun _ _ => .p (.int i)
theorem s_bl {i j} : PE X (.Constant (.bool i) j pos) (tE X.K CT W (kS (.bl i))) := s_const pe_bl fun _ _ => .p (.bl i)
theorem s_str {i j} : PE X (.Constant (.str i) j pos) (tE X.K CT W (kS (.str i))) := s_const pe_str fun _ _ => .p (.str i)
theorem s_non {j} : PE X (.Constant .none j pos) (tE X.K CT W (kS .non)) := s_const pe_non fun _ _ => .p .non
/-- two in a row -/
theorem two {α' β' : Type} {rel' : Rel α' β'} {G : Rho → D → D → M α'} {σ : L2.St} {H : Hp} {Q : β' → Hp → Prop} (hq : tG X.K CT W rel' (fun ρ => bnd (f ρ) fun a => bnd (g ρ) fun b => G ρ a b) σ H Q) :
    tE X.K CT W f σ H fun x H1 => tE X.K CT W g σ H1 fun y H2 => ∃ (ρ : Rho) (m : List Addr) (S : Sto) (d e : D), EnvR X.K m H2 ρ σ ∧ SR X.K m H2 S ∧ DR X.K m H2 x d ∧ DR X.K m H2 y e ∧ Post X.K CT (fun c d H' => W c d σ H') rel' m H2 (G ρ d e S) Q := by
  obtain ⟨ρ, m, S, er, sr, po⟩ := tG.first (rel := rD X.K) hq
  refine ⟨ρ, m, S, er, sr, po.imp fun x H1 ⟨ρ1, m1, S1, y, r1, er1, sr1, p1⟩ => ?_⟩
  obtain ⟨ρ', m', S', er', sr', po'⟩ := Post.next (rel := rD X.K) er1 sr1 p1
  exact ⟨ρ', m', S', er', sr', po'.imp fun x2 H2 ⟨m2, S2, y2, r2, sr2, ex, p2⟩ => ⟨ρ1, m2, S2, y, y2, er1.ext sr1 ex, sr2, r1.ext sr1 ex, r2, p2⟩⟩
theorem tG.mono {α β : Type} {rel : Rel α β} {F : Rho → M α} {σ : L2.St} {H : Hp} {Q Q' : β → Hp → Prop} (h : tG X.K CT W rel F σ H Q) (i : ∀ x H', Q x H' → Q' x H') : tG X.K CT W rel F σ H Q' :=
  let ⟨ρ, m, S, er, sr, po⟩ := h
  ⟨ρ, m, S, er, sr, po.imp i⟩
theorem s_bin {op : Operator} (ha : PE X a (tE X.K CT W f)) (hb : PE X b (tE X.K CT W g)) : PE X (.BinOp a op b pos) (tE X.K CT W (binS op f g)) :=
  PE.imp (pe_op (o_bin (CT := CT) op) ha hb) fun σ H Q hq => tG.mono (two hq) fun x H1 q => tG.mono q fun y H2 ⟨ρ, m, S, d, e, er, sr, r1, r2, p⟩ => ⟨_, m, S, d, e, r1, r2, sr, p⟩
theorem s_neg (ha : PE X a (tE X.K CT W f)) : PE X (.UnaryOp .USub a pos) (tE X.K CT W (negS f)) :=
  PE.imp (pe_un (o_neg (CT := CT)) ha) fun σ H Q hq => tG.mono (tG.first (rel := rD X.K) hq) fun x H1 ⟨ρ, m, S, d, r1, er, sr, p⟩ => ⟨_, m, S, d, r1, sr, p⟩
theorem s_cmpV {op : CmpOp} (hr : Room k X.A) (ha : PE X a (tE X.K CT W f)) (hb : PE X b (tE X.K CT W g)) (hm : behindInMarks op b = false) : PE X (.Compare a [op] [b] pos) (tE X.K CT W (boolS (cmpS op f g))) :=
  PE.imp (pe_cmpR (c_cmp (CT := CT) hr op) ha hb hm) fun σ H Q hq => tG.mono (two (tE_bool.mp hq)) fun x H1 q => tG.mono q fun y H2 ⟨ρ, m, S, d, e, er, sr, r1, r2, p⟩ => ⟨_, m, S, d, e, r1, r2, sr, p⟩
theorem s_cmpT {op : CmpOp} (hr : Room k X.A) (ha : PE X a (tE X.K CT W f)) (hb : PE X b (tE X.K CT W g)) (hm : behindInMarks op b = false) : PT X (.Compare a [op] [b] pos) (tT X.K CT W (cmpS op f g)) :=
  PT.imp (pt_cmpR (c_cmp (CT := CT) hr op) ha hb hm) fun σ H Q hq => tG.mono (two hq) fun x H1 q => tG.mono q fun y H2 ⟨ρ, m, S, d, e, er, sr, r1, r2, p⟩ => ⟨_, m, S, d, e, r1, r2, sr, p.imp fun c H' q => ⟨c, rfl, q⟩⟩
theorem chn_read {op op' : CmpOp} {σ : L2.St} {H : Hp} {Q : Bool → Hp → Prop} {Q' : VK} (hQ : ∀ c H', Q c H' → Q' (.bl c) H') (hq : tT X.K CT W (chnS op op' f g h) σ H Q) :
    tChain (rSB X.K CT (cmpD op)) (rSB X.K CT (cmpD op')) (tE X.K CT W f) (tE X.K CT W g) (tE X.K CT W h) σ H Q' :=
  tG.mono (two hq) fun x H1 q => tG.mono q fun y H2 ⟨ρ, m, S, d, e, er, sr, r1, r2, p⟩ => ⟨_, m, S, d, e, r1, r2, sr, p.bind.imp fun c H3 ⟨m3, S3, c', rc, sr3, ex3, p3⟩ => by
    obtain rfl : c = c' := rc
    refine ⟨c, rfl, ?_⟩
    cases c with
    | false =>
      rw [if_neg Bool.false_ne_true] at p3 ⊢
      exact hQ _ _ (p3.ret sr3 rfl)
    | true =>
      rw [if_pos rfl] at p3 ⊢
      exact tG.mono (Post.next (rel := rD X.K) (er.ext sr ex3) sr3 p3) fun z H4 ⟨m4, S4, z', rz, sr4, ex4, p4⟩ => ⟨_, m4, S4, e, z', (r2.ext sr ex3).ext sr3 ex4, rz, sr4, p4.imp fun c H' q => hQ c H' q⟩⟩
theorem s_chnV {op op' : CmpOp} (hr : Room k X.A) (ha : PE X a (tE X.K CT W f)) (hb : PE X b (tE X.K CT W g)) (hc : PE X c (tE X.K CT W h)) (hm : lastMarks [op, op'] [b, c] = false) : PE X (.Compare a [op, op'] [b, c] pos) (tE X.K CT W (boolS (chnS op op' f g h))) :=
  PE.imp (pe_chain (c_cmp (CT := CT) hr op) (c_cmp (CT := CT) hr op') ha hb hc hm) fun σ H Q hq => chn_read (fun _ _ q => q) (tE_bool.mp hq)
theorem s_chnT {op op' : CmpOp} (hr : Room k X.A) (ha : PE X a (tE X.K CT W f)) (hb : PE X b (tE X.K CT W g)) (hc : PE X c (tE X.K CT W h)) (hm : lastMarks [op, op'] [b, c] = false) : PT X (.Compare a [op, op'] [b, c] pos) (tT X.K CT W (chnS op op' f g h)) :=
  PT.imp (pt_chain (c_cmp (CT := CT) hr op) (c_cmp (CT := CT) hr op') ha hb hc hm) fun σ H Q hq => chn_read (fun c H' q => ⟨c, rfl, q⟩) hq
theorem asB_read {σ : L2.St} {H : Hp} {Q : VK} (hq : tT X.K CT W (asBS f) σ H fun c H' => Q (.bl c) H') : tE X.K CT W f σ H Q :=
  tG.mono (tG.first (rel := rD X.K) hq) fun x H1 ⟨ρ, m, S, d, r1, er, sr, p⟩ => by
    unfold asBoolD at p
    split at p
    · rename_i b
      rw [r1.p_inv.bl_inv]
      exact p.ret sr rfl
    · exact p.elim
/-- any expression as one that is a truth value -/
theorem s_asB (ha : PE X a (tE X.K CT W f)) : PE X a (tE X.K CT W (boolS (asBS f))) := PE.imp ha fun σ H Q hq => asB_read (tE_bool.mp hq)
theorem s_andV {rest : List Expr} (ha : PE X a (tE X.K CT W (boolS t))) (hb : PE X (.BoolOp .And (b :: rest) pos) (tE X.K CT W (boolS u))) : PE X (.BoolOp .And (a :: b :: rest) pos) (tE X.K CT W (boolS (andS t u))) :=
  PE.imp (pe_and ha hb) fun σ H Q hq => tE_bool.mpr (tG.mono (tG.first (rel := rB) (tE_bool.mp hq)) fun c H1 ⟨ρ, m, S, d, r1, er, sr, p⟩ => by
    obtain rfl : c = d := r1
    refine ⟨c, rfl, ?_⟩
    cases c with
    | true => rw [if_pos rfl] at p ⊢; exact tE_bool.mpr ⟨ρ, m, S, er, sr, p⟩
    | false => rw [if_neg Bool.false_ne_true] at p ⊢; exact p.ret sr rfl)
theorem s_orV {rest : List Expr} (ha : PE X a (tE X.K CT W (boolS t))) (hb : PE X (.BoolOp .Or (b :: rest) pos) (tE X.K CT W (boolS u))) : PE X (.BoolOp .Or (a :: b :: rest) pos) (tE X.K CT W (boolS (orS t u))) :=
  PE.imp (pe_or ha hb) fun σ H Q hq => tE_bool.mpr (tG.mono (tG.first (rel := rB) (tE_bool.mp hq)) fun c H1 ⟨ρ, m, S, d, r1, er, sr, p⟩ => by
    obtain rfl : c = d := r1
    refine ⟨c, rfl, ?_⟩
    cases c with
    | false => rw [if_neg Bool.false_ne_true] at p ⊢; exact tE_bool.mpr ⟨ρ, m, S, er, sr, p⟩
    | true => rw [if_pos rfl] at p ⊢; exact p.ret sr rfl)
theorem s_notV (ha : PE X a (tE X.K CT W (boolS t))) : PE X (.UnaryOp .Not a pos) (tE X.K CT W (boolS (notS t))) :=
  PE.imp (pe_not ha) fun σ H Q hq => tE_bool.mpr (tG.mono (tG.first (rel := rB) (tE_bool.mp hq)) fun c H1 ⟨ρ, m, S, d, r1, er, sr, p⟩ => by
    obtain rfl : c = d := r1
    exact ⟨c, rfl, p.ret sr rfl⟩)
theorem s_andT {rest : List Expr} (ha : PT X a (tT X.K CT W t)) (hb : PW X (.BoolOp .And (b :: rest) pos) (tT X.K CT W u)) : PW X (.BoolOp .And (a :: b :: rest) pos) (tT X.K CT W (andS t u)) :=
  PW.imp (pw_and ha hb) fun σ H Q hq => tG.mono (tG.first (rel := rB) hq) fun c H1 ⟨ρ, m, S, d, r1, er, sr, p⟩ => by
    obtain rfl : c = d := r1
    cases c with
    | true => rw [if_pos rfl] at p ⊢; exact ⟨ρ, m, S, er, sr, p⟩
    | false => rw [if_neg Bool.false_ne_true] at p ⊢; exact p.ret sr rfl
theorem s_orT {rest : List Expr} (ha : PT X a (tT X.K CT W t)) (hb : PW X (.BoolOp .Or (b :: rest) pos) (tT X.K CT W u)) : PW X (.BoolOp .Or (a :: b :: rest) pos) (tT X.K CT W (orS t u)) :=
  PW.imp (pw_or ha hb) fun σ H Q hq => tG.mono (tG.first (rel := rB) hq) fun c H1 ⟨ρ, m, S, d, r1, er, sr, p⟩ => by
    obtain rfl : c = d := r1
    cases c with
    | false => rw [if_neg Bool.false_ne_true] at p ⊢; exact ⟨ρ, m, S, er, sr, p⟩
    | true => rw [if_pos rfl] at p ⊢; exact p.ret sr rfl
theorem s_notT (ha : PT X a (tT X.K CT W t)) : PT X (.UnaryOp .Not a pos) (tT X.K CT W (notS t)) :=
  PT.imp (pt_not ha) fun σ H Q hq => tG.mono (tG.first (rel := rB) hq) fun c H1 ⟨ρ, m, S, d, r1, er, sr, p⟩ => by
    obtain rfl : c = d := r1
    exact p.ret sr rfl
theorem s_truT (ha : PE X a (tE X.K CT W f)) (he : ∀ whole, isTrue a X.env whole = (do let v ← whole; standAt a.pos; holding [v] (truthy v))) : PT X a (tT X.K CT W (truS f)) :=
  PT.imp (pt_truth ha he) fun σ H Q hq => tG.mono (tG.first (rel := rD X.K) hq) fun x H1 ⟨ρ, m, S, d, r1, er, sr, p⟩ => tru_sound r1 sr p
theorem s_ite (hc : PT X c (tT X.K CT W t)) (ha : PE X a (tE X.K CT W f)) (hb : PE X b (tE X.K CT W g)) : PE X (.IfExp c a b pos) (tE X.K CT W (iteS t f g)) :=
  PE.imp (pe_ifExp hc ha hb) fun σ H Q hq => tG.mono (tG.first (rel := rB) hq) fun c H1 ⟨ρ, m, S, d, r1, er, sr, p⟩ => by
    obtain rfl : c = d := r1
    cases c with
    | true => rw [if_pos rfl] at p ⊢; exact ⟨ρ, m, S, er, sr, p⟩
    | false => rw [if_neg Bool.false_ne_true] at p ⊢; exact ⟨ρ, m, S, er, sr, p⟩

/-! ### displays -/
theorem s_nil : PA X [] (tL X.K CT W (argsS [])) := PA.imp pa_nil fun σ H Q ⟨ρ, m, S, er, sr, po⟩ => Post.ret po sr .nil
theorem s_cons {es : List Expr} {fs : List DE} (ha : PE X a (tE X.K CT W f)) (hr : PA X es (tL X.K CT W (argsS fs))) (hs : starEach (a :: es) X.env = (false, eval a X.env) :: starEach es X.env) : PA X (a :: es) (tL X.K CT W (argsS (f :: fs))) :=
  PA.imp (pa_cons ha hr hs) fun σ H Q hq => tG.mono (tG.first (rel := rD X.K) hq) fun x H1 ⟨ρ, m, S, d, r1, er, sr, p⟩ =>
    tG.mono (Post.next (rel := rDs X.K) er sr p) fun xs H2 ⟨m2, S2, ds, rs, sr2, ex, p2⟩ => p2.ret sr2 (.cons (r1.ext sr ex) rs)
theorem s_tup {es : List Expr} {fs : List DE} {x1} (h : PA X es (tL X.K CT W (argsS fs))) : PE X (.Tuple es x1 pos) (tE X.K CT W (tupS fs)) :=
  PE.imp (pe_tup h) fun σ H Q hq => tG.mono (tG.first (rel := rDs X.K) hq) fun xs H1 ⟨ρ, m, S, ds, rs, er, sr, p⟩ => by
    obtain ⟨g, p⟩ := p.guard
    have hz : xs.length ≤ sizeLine := by rw [rs.length]; exact of_decide_eq_true g
    exact ⟨hz, fun q nq => p _ m _ (DR.mk (SqT.of upd_same) hz (rs.ext sr (ext_new nq))) (sr.new nq) (ext_new nq)⟩
/-- a list that was just made at p: no one else knows it -/
abbrev rL (K : PySem.W.Frag) : Rel (List D) V := ⟨fun H0 m H v ds => ∃ p vs, v = .ref p ∧ H0 p = none ∧ H p = some (.lst vs) ∧ p ∉ m ∧ vs.length ≤ sizeLine ∧ DRs K m H vs ds, fun k ⟨p, vs, h1, h2, h3⟩ => ⟨p, vs, h1, k _ h2, h3⟩⟩
abbrev tN (K : PySem.W.Frag) (CT : Nat → Value) (W : WX) (f : DL) : TE := tG K CT W (rL K) f
theorem s_lst {es : List Expr} {fs : List DE} (h : PA X es (tL X.K CT W (argsS fs))) : PE X (.List es pos) (tN X.K CT W (lstS fs)) :=
  PE.imp (pe_lst h) fun σ H Q hq => tG.mono (tG.first (rel := rDs X.K) hq) fun xs H1 ⟨ρ, m, S, ds, rs, er, sr, p⟩ => by
    obtain ⟨g, p⟩ := p.guard
    have hz : xs.length ≤ sizeLine := by rw [rs.length]; exact of_decide_eq_true g
    exact ⟨hz, fun q nq => p _ m _ ⟨q, xs, rfl, nq, upd_same, sr.fresh nq, hz, rs.ext sr (ext_new nq)⟩ (sr.new nq) (ext_new nq)⟩
end
end Den

/-! Den, part F: what loops walk: sequences of three kinds, enumerate and zip of them. -/
namespace Den
open PySem PySem.Spec PyProof.Rows L2

/-- a sequence that is walked -/
inductive BK where
  | l (a : Addr)
  | t (a : Addr)
  | s (z : Str)
def BK.val : BK → V
  | .l a => .ref a
  | .t a => .ref a
  | .s z => .str z
def signs (z : Str) : List V := z.cps.toList.map fun c => .str ⟨#[c]⟩
def BC (K : PySem.W.Frag) (H : Hp) : BK → List V → Prop
  | .l a, xs => SqL K H a xs
  | .t a, xs => SqT K H a xs
  | .s z, xs => xs = signs z
def tnB (it : Addr) (i : Nat) (h : Heap) : BK → Prop
  | .l a => h.IsListIter it a i
  | .t a => h.IsTupleIter it a i
  | .s z => ∃ t, h.IsStrIter it (strIterType z) z t i
def BK.cells : BK → List Addr
  | .l a => [a]
  | .t a => [a]
  | .s _ => []
theorem tnB_obj {it : Addr} {i : Nat} {h : Heap} {b : BK} (t : tnB it i h b) : ∃ o c f, h.get? it = some o ∧ o.cls = .type c ∧ o.data = .fields f ∧ c ≠ "list" ∧ c ≠ "tuple" ∧ c ≠ "enumerate" ∧ c ≠ "zip" := by
  cases b with
  | l a => obtain ⟨o, e, c, d⟩ := t; exact ⟨o, _, _, e, c, d, by decide, by decide, by decide, by decide⟩
  | t a => obtain ⟨o, e, c, d⟩ := t; exact ⟨o, _, _, e, c, d, by decide, by decide, by decide, by decide⟩
  | s z =>
    obtain ⟨t, o, e, c, d⟩ := t
    refine ⟨o, _, _, e, c, d, ?_⟩
    unfold strIterType
    split <;> exact ⟨by decide, by decide, by decide, by decide⟩
theorem tnB_at {it : Addr} {i : Nat} {h h' : Heap} {b : BK} (t : tnB it i h b) (k : ∀ o, h.get? it = some o → h'.get? it = some o) : tnB it i h' b := by
  cases b with
  | l a => exact Heap.IsListIter.at t k
  | t a => exact Heap.IsTupleIter.at t k
  | s z => obtain ⟨u, o, e, c, d⟩ := t; exact ⟨u, o, k o e, c, d⟩
section
variable {X : Cx} {pins : List (Addr × Obj)} {σ : L2.St} {H : Hp} {s : Shared}
theorem BC.inj {b : BK} {xs ys : List V} (I : Inv X pins σ H s) (h : BC X.K H b xs) (g : BC X.K H b ys) : xs = ys := by
  cases b with
  | l a => exact I.list_inj h g
  | t a => exact I.tuple_inj h g
  | s z => exact Eq.trans h (Eq.symm g)
theorem signs_vals (z : Str) : ∀ j : Nat, ∀ c, z.cps[j]? = some c → (signs z)[j]? = some (.str ⟨#[c]⟩) := fun j c e => by
  unfold signs
  rw [List.getElem?_map, Array.getElem?_toList, e]; rfl
theorem signs_len (z : Str) : (signs z).length = z.cps.size := by simp [signs]
/-- the items come one by one -/
theorem draws {b : BK} {xs : List V} {it : Addr} {A : Around} (I : Inv X pins σ H s) (hh : A.handled = none) (hb : BC X.K H b xs) (i0 : Nat) (ht : tnB it i0 s.heap b) :
    ∃ C : Nat → Heap → Prop, C i0 s.heap ∧ (∀ j h, C j h → tnB it j h b) ∧ Draws X.prog X.w A it (it :: b.cells) xs.length (fun j v => ∃ x, xs[j]? = some x ∧ RelV x v) C := by
  cases b with
  | l a =>
    obtain ⟨its, rv, p, hz⟩ := I.list hb
    have hne : a ≠ it := fun e => by
      obtain ⟨o, c, f, e1, e2, _, n, _⟩ := tnB_obj ht
      obtain ⟨o', n', e1', e2', _⟩ := p
      rw [e, e1] at e1'; cases e1'
      rw [e2] at e2'; exact n (by injection e2')
    have D := Draws.list (prog := X.prog) (w := X.w) (A := A) hh it a hne its.toArray
    refine ⟨fun i h => h.IsListIter it a i ∧ h.IsList a its.toArray, ⟨ht, p.isList⟩, fun j h q => q.1, ?_⟩
    have hl : its.toArray.size = xs.length := by simp [rv.length]
    rw [hl] at D
    exact ⟨D.live, D.frame, fun i s Q E hi st hQ => D.item i s Q E hi st fun x h' tk e => hQ x h' tk (by
      have e : its[i]? = some x := by simpa using e
      have : i < xs.length := hi
      obtain ⟨u, hu, ru⟩ := rv.get (List.getElem?_eq_getElem this)
      rw [e] at hu; cases hu
      exact ⟨_, List.getElem?_eq_getElem this, ru⟩), D.done⟩
  | t a =>
    obtain ⟨its, rv, p, hz⟩ := I.tuple hb
    have hne : a ≠ it := fun e => by
      obtain ⟨o, c, f, e1, e2, _, _, n, _⟩ := tnB_obj ht
      obtain ⟨o', e1', e2', _⟩ := p
      rw [e, e1] at e1'; cases e1'
      rw [e2] at e2'; exact n (by injection e2')
    have D := Draws.tuple (prog := X.prog) (w := X.w) (A := A) hh it a hne its.toArray
    refine ⟨fun i h => h.IsTupleIter it a i ∧ h.IsTuple a its.toArray, ⟨ht, p⟩, fun j h q => q.1, ?_⟩
    have hl : its.toArray.size = xs.length := by simp [rv.length]
    rw [hl] at D
    exact ⟨D.live, D.frame, fun i s Q E hi st hQ => D.item i s Q E hi st fun x h' tk e => hQ x h' tk (by
      have e : its[i]? = some x := by simpa using e
      have : i < xs.length := hi
      obtain ⟨u, hu, ru⟩ := rv.get (List.getElem?_eq_getElem this)
      rw [e] at hu; cases hu
      exact ⟨_, List.getElem?_eq_getElem this, ru⟩), D.done⟩
  | s z =>
    obtain rfl : xs = signs z := hb
    obtain ⟨t, ht⟩ := ht
    have D := Draws.text (prog := X.prog) (w := X.w) (A := A) hh it z t
    refine ⟨fun i h => h.IsStrIter it (strIterType z) z t i, ht, fun j h q => ⟨t, q⟩, ?_⟩
    rw [← signs_len z] at D
    exact ⟨D.live, D.frame, fun i s Q E hi st hQ => D.item i s Q E hi st fun x h' tk ⟨c, u, e, ev⟩ => hQ x h' tk ⟨_, signs_vals z i c e, u, ev⟩, D.done⟩
/-- how a walk over it begins -/
theorem begins {b : BK} {xs : List V} {v : Value} (I : Inv X pins σ H s) (hb : BC X.K H b xs) (r : RelV b.val v) :
    ∃ (o : Obj) (G : Heap → Prop), Begins v o G ∧ G s.heap ∧ ∀ it (h : Heap), h.get? it = some o → tnB it 0 h b := by
  cases b with
  | l a =>
    obtain ⟨its, rv, p, hz⟩ := I.list hb
    cases r
    exact ⟨_, _, begins_list a its.toArray, p.isList, fun it h e => ⟨_, e, rfl, rfl⟩⟩
  | t a =>
    obtain ⟨its, rv, p, hz⟩ := I.tuple hb
    cases r
    exact ⟨_, _, begins_tuple a its.toArray, p, fun it h e => ⟨_, e, rfl, rfl⟩⟩
  | s z =>
    obtain ⟨t, rfl⟩ := r
    exact ⟨_, _, begins_text z t, trivial, fun it h e => ⟨t, _, e, rfl, rfl⟩⟩
end

/-! ### enumerate -/
def ItE (K : PySem.W.Frag) (b : BK) : It :=
  ⟨fun i H => ∃ xs x, BC K H b xs ∧ xs[i]? = some x, fun i H v H' => ∃ T x, v = .ref T ∧ H T = none ∧ H' = upd H T (.tup [.int (i : Nat), x]) ∧ ∀ xs, BC K H b xs → xs[i]? = some x, fun i H => ∃ xs, BC K H b xs ∧ xs.length = i⟩
/-- the iterator's cells are none of what is walked -/
theorem cells_apart {X : Cx} {pins : List (Addr × Obj)} {σ : L2.St} {H : Hp} {s : Shared} {b : BK} {xs : List V} {c : Addr} (I : Inv X pins σ H s) (hb : BC X.K H b xs) (hf : FpOk X pins H c) : c ∉ b.cells := by
  have base : ∀ o, X.K.lookup c = some o → False := fun o h => by
    have h1 := I.ok.mod.kin c o h
    rcases hf.2.2.2.1 with z | z
    · exact I.ok.noex c o h1 z
    · exact absurd (Nat.lt_of_lt_of_le (Heap.lt_size h1) (Nat.le_trans I.ok.bsz z)) (Nat.lt_irrefl _)
  have rd : ∀ u, Rd H c u → False := fun u h => by
    rcases h with h | ⟨_, h⟩ <;> rw [hf.1] at h <;> cases h
  cases b with
  | l a =>
    intro hc
    obtain rfl : c = a := by simpa [BK.cells] using hc
    rcases hb with h | ⟨o, _, _, h, _⟩
    · exact rd _ h
    · exact base o h
  | t a =>
    intro hc
    obtain rfl : c = a := by simpa [BK.cells] using hc
    rcases hb with h | ⟨o, _, _, h, _⟩
    · exact rd _ h
    · exact base o h
  | s z => intro hc; simp [BK.cells] at hc
theorem turnE {P : Program} {w : World} {K : PySem.W.Frag} {elts : List Expr} {kk : Nat} {tpos : Pos} (b : BK) (e it : Addr) :
    Turn P w K (.Tuple elts kk tpos) (ItE K b) [e, it] e (fun i h => (∃ old, IsEnum h e it ((i : Nat) : Int) old) ∧ tnB it i h b ∧ e ≠ it) where
  mem := by simp
  obj := fun i h ⟨⟨old, he⟩, hi, _⟩ c hc => by
    obtain ⟨o, _, f, e1, _, e2, _⟩ := tnB_obj hi
    rcases List.mem_cons.mp hc with rfl | hc
    · exact ⟨_, he, fun v q => nomatch q⟩
    · rw [List.mem_singleton] at hc; subst hc; exact ⟨o, e1, fun v q => by rw [e2] at q; cases q⟩
  keep := fun i h h' ⟨⟨old, he⟩, hi, hne⟩ k => ⟨⟨old, k e (by simp) _ he⟩, tnB_at hi fun o q => k it (by simp) o q, hne⟩
  item := by
    intro X hP hw hK hc i pins s σ H E I hf ⟨⟨old, he⟩, hi, hne⟩ ⟨xs, x0, hq, hx0⟩
    subst hP hw hK
    obtain ⟨C, c0, ct, D⟩ := draws (A := X.A.in1) I (I.ok.hd hc) hq i hi
    have hel : e < s.heap.objs.size := Heap.lt_size he
    obtain ⟨oi, _, _, ei, _⟩ := tnB_obj hi
    have hil : it < s.heap.objs.size := Heap.lt_size ei
    have hef : e ∉ it :: b.cells := fun z => (List.mem_cons.mp z).elim hne (cells_apart I hq (hf e (by simp)))
    have hlt : i < xs.length := (List.getElem?_eq_some_iff.mp hx0).1
    refine wpAny_pyNext_enum_itemD D he c0 hlt hne hef fun u h' tk hP ho hs' hT hsz hk => ?_
    obtain ⟨x, hx, ru⟩ := hP
    refine ⟨_, rfl, wpAny_letOwnedTupleGo_enum (s := { s with heap := h', toks := tk + 1 }) ho fun h'' he' sb => ?_⟩
    have hT2 := (sb.2 _ (Nat.ne_of_gt hel)).trans hT
    have new : ObjOk X.prog X.w (upd H s.heap.objs.size (.tup [.int (i : Nat), x])) h'' s.heap.objs.size (.tup [.int (i : Nat), x]) :=
      ⟨by show 2 ≤ sizeLine; decide, [.int i tk, u], .cons ⟨_, rfl⟩ (.cons ru .nil), ⟨_, hT2, rfl, _, rfl⟩⟩
    have I1 : Inv X pins σ (upd H s.heap.objs.size (.tup [.int (i : Nat), x])) { s with heap := h'', toks := tk + 1 } :=
      I.turnedNew (ch := [e, it]) (fun c ob hb q => (sb.2 c (fun z => hb (by simp [z]))).trans (hk c ob (fun z => hb (by simp [z])) (fun z => hb (by simp [z])) q)) hf (Nat.le_refl _) new
    refine ⟨.ref s.heap.objs.size, _, I1, rfl, ⟨_, x, rfl, I.hok.fresh (Nat.le_refl _), rfl, fun ys hy => by rw [BC.inj I hy hq]; exact hx⟩, ⟨⟨u, ?_⟩, tnB_at (ct _ _ hs') fun o q => (sb.2 it (Ne.symm hne)).trans q, hne⟩, fun c hb => ?_⟩
    · have e1 : ((i + 1 : Nat) : Int) = (i : Int) + 1 := by omega
      rw [e1]; exact he'
    · have hlt' : c < s.heap.objs.size := by
        rcases List.mem_cons.mp hb with rfl | hb
        · exact hel
        · rw [List.mem_singleton] at hb; subst hb; exact hil
      rw [upd_ne (Nat.ne_of_lt hlt')]
      exact (hf c hb).1
  done := by
    intro X hP hw hK hc i pins s σ H E I hf ⟨⟨old, he⟩, hi, hne⟩ ⟨xs, hq, hx⟩
    subst hP hw hK hx
    obtain ⟨C, c0, ct, D⟩ := draws (A := X.A.in1) I (I.ok.hd hc) hq _ hi
    obtain ⟨f0, f1, f2, f3, f4, f5⟩ := hf it (by simp)
    exact wpAny_pyNext_enum_endD D he c0 fun h' eb => ⟨rfl, I.turned (t' := s.toks) (fun c o hb q => eb c o hb q) f0 f1 f3 f4 f5⟩
  self := fun A i s Q E ⟨⟨_, he⟩, _⟩ h => wpAny_pyIter_enum he h
set_option maxHeartbeats 8000000 in
theorem meets_enum1 {v : Value} {o : Obj} {G : Heap → Prop} (B : Begins v o G) :
    Meets (Builtin.«enumerate.__new__» ⟨[.type "enumerate", v], []⟩) (fun _ R s => G s.heap ∧
      R (.ok (.ret (.ref (s.heap.push o).objs.size))) { s with heap := (s.heap.push o).push { cls := .type "enumerate", data := .fields #[.none, .bool false, .ref s.heap.objs.size, rawInt 0, .none, .none] } }) :=
  .of_wp fun prog w A R s h => by
    obtain ⟨hp, g, d, tk, os⟩ := s
    obtain ⟨h1, h⟩ := h
    have hsub := sub_enumerate
    have q1 : ∀ {A' : Around} {E : Value → Shared → Prop} {Q : Value → Shared → Prop}, Q (.ref hp.objs.size) ⟨hp.push o, g, d, tk, os⟩ → wpAny (model prog w) A' (pyIter v) Q E ⟨hp, g, d, tk, os⟩ :=
      fun q => B.iter prog w _ _ ⟨hp, g, d, tk, os⟩ _ h1 q
    wp_walk using q1
    refine wpAny_stack_any fun st => wpAny_pure ?_
    split
    · rename_i c _ _ _ _ _
      cases (c == Value.type "enumerate") <;> (wp_walk using q1; exact ⟨_, rfl, h⟩)
    · wp_walk using q1
      exact ⟨_, rfl, h⟩
theorem enum_starts {prog : Program} {w : World} {A : Around} {E : Value → Shared → Prop} {s : Shared} {v : Value} {o : Obj} {G : Heap → Prop} {Q : Value → Shared → Prop} (B : Begins v o G) (h1 : G s.heap)
    (h : ∀ h', IsEnum h' (s.heap.objs.size + 1) s.heap.objs.size 0 .none → h'.get? s.heap.objs.size = some o → (∀ b o, s.heap.get? b = some o → h'.get? b = some o) → Q (.ref (s.heap.objs.size + 1)) { s with heap := h' }) :
    wpAny (model prog w) A (call (.type "enumerate") [v]) Q E s := by
  refine callType_new F.called_enumerate (by decide) (F.typeCall_enumerate_1 _) (F.newCall_enumerate_1 _) (fun obj => F.args_object_init_2 obj _) F.entry_enumerate_new (meets_enum1 B) ⟨h1, ?_⟩
  have hz : (s.heap.push o).objs.size = s.heap.objs.size + 1 := Heap.size_push ..
  have he : IsEnum ((s.heap.push o).push { cls := .type "enumerate", data := .fields #[.none, .bool false, .ref s.heap.objs.size, rawInt 0, .none, .none] }) (s.heap.objs.size + 1) s.heap.objs.size 0 .none := by
    have q := Heap.get?_push_size (s.heap.push o) (o := { cls := .type "enumerate", data := .fields #[.none, .bool false, .ref s.heap.objs.size, rawInt 0, .none, .none] }) rfl
    rw [hz] at q
    exact q
  show _ ∧ _
  rw [hz]
  exact ⟨⟨_, he, rfl⟩, h _ he (Heap.get?_push_of_some _ (Heap.get?_push_size _ B.free)) fun b u x => Heap.get?_push_of_some _ (Heap.get?_push_of_some _ x)⟩
section
variable {X : Cx}
def iE (K : PySem.W.Frag) (ta : TA) : TI := fun σ H R => ta σ H fun vs H1 => ∃ b xs, vs = [BK.val b] ∧ BC K H1 b xs ∧ R (ItE K b) H1
theorem piE {e : Expr} {ta : TA} {p pos tpos : Pos} {elts : List Expr} {kk : Nat} (hg : Gl X "enumerate") (hm : X.mg "enumerate" = none) (ha : PA X [e] ta) (hs : starEach [e] X.env = [(false, eval e X.env)]) :
    PI X (.Tuple elts kk tpos) (.Call (.Name "enumerate" p) [e] [] pos) (iE X.K ta) := by
  refine ⟨fun pins s σ H R I h => ?_⟩
  refine Call_ (ld_blt I hg hm boot_enumerate (PyProof.Rows.callWith_type1 (thn (ha.run pos pins s σ H _ I h) fun us s1 ⟨vs, H1, I1, r1, b, xs, ex, hq, q⟩ => ?_) hs rfl))
  subst ex
  obtain ⟨u, rfl, ru⟩ := Vals.one r1
  obtain ⟨o, G, B, g0, tn⟩ := begins I1 hq ru
  refine enum_starts B g0 fun h' he ho hk => wpAny_pyIter_enum he ?_
  have I2 : Inv X pins σ H1 { s1 with heap := h' } := I1.kept (t' := s1.toks) hk
  refine ⟨s1.heap.objs.size + 1, [s1.heap.objs.size + 1, s1.heap.objs.size], _, _, H1, rfl, I2, turnE b (s1.heap.objs.size + 1) s1.heap.objs.size, ⟨⟨.none, he⟩, tn _ _ ho, Nat.succ_ne_self _⟩, fun c hc => ?_, q⟩
  have hle : s1.heap.objs.size ≤ c := by
    rcases List.mem_cons.mp hc with z | z
    · rw [z]; exact Nat.le_add_right _ _
    · rw [List.mem_singleton.mp z]; exact Nat.le_refl _
  exact I1.fpOk hle (I1.hok.fresh hle)
end

/-! ### zip -/
def ItZ (K : PySem.W.Frag) (b c : BK) : It :=
  ⟨fun i H => ∃ xs ys x y, BC K H b xs ∧ BC K H c ys ∧ xs[i]? = some x ∧ ys[i]? = some y,
   fun i H v H' => ∃ T x y, v = .ref T ∧ H T = none ∧ H' = upd H T (.tup [x, y]) ∧ (∀ xs, BC K H b xs → xs[i]? = some x) ∧ ∀ ys, BC K H c ys → ys[i]? = some y,
   fun i H => ∃ xs ys, BC K H b xs ∧ BC K H c ys ∧ i ≤ xs.length ∧ i ≤ ys.length ∧ (i = xs.length ∨ i = ys.length)⟩
theorem zsep {X : Cx} {pins : List (Addr × Obj)} {σ : L2.St} {H : Hp} {s : Shared} {b c : BK} {xs ys : List V} {z TI TO i1 i2 : Addr} {i : Nat} (I : Inv X pins σ H s) (hb : BC X.K H b xs) (hc : BC X.K H c ys) (hf : ∀ q ∈ [z, TI, TO, i1, i2], FpOk X pins H q)
    (hz : IsZip s.heap z TI TO .none) (hTI : ∃ x y, IsTupOf2 s.heap TI x y) (hTO : ∃ x y, IsTupOf2 s.heap TO x y) (h1 : tnB i1 i s.heap b) (h2 : tnB i2 i s.heap c) (n1 : i1 ≠ i2) (n2 : TI ≠ TO) : ZipSep2 z TI TO i1 i2 (i1 :: b.cells) (i2 :: c.cells) := by
  obtain ⟨o1, c1, f1, e1, k1, d1, m1, m2, m3, m4⟩ := tnB_obj h1
  obtain ⟨o2, c2, f2, e2, k2, d2, l1, l2, l3, l4⟩ := tnB_obj h2
  obtain ⟨x1, y1, hTI⟩ := hTI
  obtain ⟨x2, y2, hTO⟩ := hTO
  have ne : ∀ {p q : Addr} {o u : Obj} {x y : String}, s.heap.get? p = some o → s.heap.get? q = some u → o.cls = .type x → u.cls = .type y → x ≠ y → p ≠ q := fun {p q o u x y} a b ca cb nx e => by
    subst e; rw [a] at b; cases b; rw [ca] at cb; exact nx (by injection cb)
  have ap := fun q hq => cells_apart (c := q) I hb (hf q hq)
  have aq := fun q hq => cells_apart (c := q) I hc (hf q hq)
  exact
    { TIz := ne hTI hz rfl rfl (by decide), TOz := ne hTO hz rfl rfl (by decide), TITO := n2
      TIi1 := ne hTI e1 rfl k1 (Ne.symm m2), mem1 := List.mem_cons_self, zf1 := fun q => (List.mem_cons.mp q).elim (ne hz e1 rfl k1 (Ne.symm m4)) (ap z (by simp)), Tf1 := fun q => (List.mem_cons.mp q).elim (ne hTO e1 rfl k1 (Ne.symm m2)) (ap TO (by simp))
      TIi2 := ne hTI e2 rfl k2 (Ne.symm l2), mem2 := List.mem_cons_self, zf2 := fun q => (List.mem_cons.mp q).elim (ne hz e2 rfl k2 (Ne.symm l4)) (aq z (by simp)), Tf2 := fun q => (List.mem_cons.mp q).elim (ne hTO e2 rfl k2 (Ne.symm l2)) (aq TO (by simp))
      sep1_2 := fun q => (List.mem_cons.mp q).elim n1 (aq i1 (by simp)), sep2_1 := fun q => (List.mem_cons.mp q).elim (Ne.symm n1) (ap i2 (by simp)) }
theorem turnZ {P : Program} {w : World} {K : PySem.W.Frag} {elts : List Expr} {kk : Nat} {tpos : Pos} (b c : BK) (z TI TO i1 i2 : Addr) :
    Turn P w K (.Tuple elts kk tpos) (ItZ K b c) [z, TI, TO, i1, i2] z (fun i h => IsZip h z TI TO .none ∧ IsTupOf2 h TI (.ref i1) (.ref i2) ∧ (∃ x y, IsTupOf2 h TO x y) ∧ tnB i1 i h b ∧ tnB i2 i h c ∧ i1 ≠ i2 ∧ TI ≠ TO) where
  mem := by simp
  obj := fun i h ⟨hz, hTI, ⟨x, y, hTO⟩, h1, h2, _⟩ q hq => by
    obtain ⟨o1, _, f1, e1, _, d1, _⟩ := tnB_obj h1
    obtain ⟨o2, _, f2, e2, _, d2, _⟩ := tnB_obj h2
    simp only [List.mem_cons, List.not_mem_nil, or_false] at hq
    rcases hq with q | q | q | q | q <;> rw [q]
    · exact ⟨_, hz, fun v q => nomatch q⟩
    · exact ⟨_, hTI, fun v q => nomatch q⟩
    · exact ⟨_, hTO, fun v q => nomatch q⟩
    · exact ⟨o1, e1, fun v q => by rw [d1] at q; cases q⟩
    · exact ⟨o2, e2, fun v q => by rw [d2] at q; cases q⟩
  keep := fun i h h' ⟨hz, hTI, ⟨x, y, hTO⟩, h1, h2, n⟩ k =>
    ⟨k z (by simp) _ hz, k TI (by simp) _ hTI, ⟨x, y, k TO (by simp) _ hTO⟩, tnB_at h1 fun o q => k i1 (by simp) o q, tnB_at h2 fun o q => k i2 (by simp) o q, n⟩
  item := by
    intro X hP hw hK hc i pins s σ H E I hf ⟨hz, hTI, ⟨x0, y0, hTO⟩, h1, h2, n1, n2⟩ ⟨xs, ys, x', y', hqx, hqy, hx', hy'⟩
    subst hP hw hK
    have S := zsep I hqx hqy hf hz ⟨_, _, hTI⟩ ⟨_, _, hTO⟩ h1 h2 n1 n2
    obtain ⟨C1, c1, ct1, D1⟩ := draws (A := X.A.in1) I (I.ok.hd hc) hqx i h1
    obtain ⟨C2, c2, ct2, D2⟩ := draws (A := X.A.in1) I (I.ok.hd hc) hqy i h2
    have hzl : z < s.heap.objs.size := Heap.lt_size hz
    refine wpAny_pyNext_zipD2_item S D1 D2 hz hTI hTO c1 c2 (List.getElem?_eq_some_iff.mp hx').1 (List.getElem?_eq_some_iff.mp hy').1 fun u u2 h' tk ⟨x, hx, ru⟩ ⟨y, hy, ru2⟩ z' TO' g1 g2 hT hsz hk => ?_
    refine ⟨_, rfl, wpAny_letOwnedTupleGo_zip (s := { s with heap := h', toks := tk }) z' fun h'' z'' sb => ?_⟩
    have hT2 := (sb.2 _ (Nat.ne_of_gt hzl)).trans hT
    have new : ObjOk X.prog X.w (upd H s.heap.objs.size (.tup [x, y])) h'' s.heap.objs.size (.tup [x, y]) :=
      ⟨by show 2 ≤ sizeLine; decide, [u, u2], .cons ru (.cons ru2 .nil), ⟨_, hT2, rfl, _, rfl⟩⟩
    have I1 : Inv X pins σ (upd H s.heap.objs.size (.tup [x, y])) { s with heap := h'', toks := tk } :=
      I.turnedNew (ch := [z, TI, TO, i1, i2]) (fun q o hb r => (sb.2 q (fun w => hb (by simp [w]))).trans (hk q o (fun w => hb (by simp [w])) (fun w => hb (by simp [w])) (fun w => hb (by simp [w])) (fun w => hb (by simp [w])) r)) hf (Nat.le_refl _) new
    refine ⟨.ref s.heap.objs.size, _, I1, rfl, ⟨_, x, y, rfl, I.hok.fresh (Nat.le_refl _), rfl, fun l hl => by rw [BC.inj I hl hqx]; exact hx, fun l hl => by rw [BC.inj I hl hqy]; exact hy⟩, ⟨z'', ?_, ⟨u, u2, ?_⟩, ?_, ?_, n1, n2⟩, fun q hq => ?_⟩
    · exact (sb.2 _ S.TIz).trans (hk _ _ S.TIz S.TITO S.TIi1 S.TIi2 hTI)
    · exact (sb.2 _ S.TOz).trans TO'
    · exact tnB_at (ct1 _ _ g1) fun o r => (sb.2 _ (Ne.symm S.zi1)).trans r
    · exact tnB_at (ct2 _ _ g2) fun o r => (sb.2 _ (Ne.symm S.zi2)).trans r
    · have hlt : q < s.heap.objs.size := by
        obtain ⟨o1, _, f1, e1, _⟩ := tnB_obj h1
        obtain ⟨o2, _, f2, e2, _⟩ := tnB_obj h2
        have hq' := hq
        simp only [List.mem_cons, List.not_mem_nil, or_false] at hq'
        rcases hq' with r | r | r | r | r <;> rw [r]
        · exact hzl
        · exact Heap.lt_size hTI
        · exact Heap.lt_size hTO
        · exact Heap.lt_size e1
        · exact Heap.lt_size e2
      rw [upd_ne (Nat.ne_of_lt hlt)]
      exact (hf q hq).1
  done := by
    intro X hP hw hK hc i pins s σ H E I hf ⟨hz, hTI, ⟨x0, y0, hTO⟩, h1, h2, n1, n2⟩ ⟨xs, ys, hqx, hqy, hl1, hl2, hend⟩
    subst hP hw hK
    have S := zsep I hqx hqy hf hz ⟨_, _, hTI⟩ ⟨_, _, hTO⟩ h1 h2 n1 n2
    obtain ⟨C1, c1, ct1, D1⟩ := draws (A := X.A.in1) I (I.ok.hd hc) hqx i h1
    obtain ⟨C2, c2, ct2, D2⟩ := draws (A := X.A.in1) I (I.ok.hd hc) hqy i h2
    exact wpAny_pyNext_zipD2_end S D1 D2 hz hTI hTO c1 c2 hl1 hl2 hend fun h' tk hk => ⟨rfl, I.turnedL (t' := tk) (ch := [z, TI, TO, i1, i2]) (fun q o hb r =>
      hk q o (fun w => hb (by simp [w])) (fun w => hb (by simp [w])) (fun w => hb (by simp [w])) (fun w => hb (by simp [w])) r) hf⟩
  self := fun A i s Q E st h => wpAny_pyIter_zip st.1 h
section
variable {X : Cx}
def iZ (K : PySem.W.Frag) (ta : TA) : TI := fun σ H R => ta σ H fun vs H1 => ∃ b c xs ys, vs = [BK.val b, BK.val c] ∧ BC K H1 b xs ∧ BC K H1 c ys ∧ R (ItZ K b c) H1
theorem piZ {e e2 : Expr} {ta : TA} {p pos tpos : Pos} {elts : List Expr} {kk : Nat} (hg : Gl X "zip") (hm : X.mg "zip" = none) (ha : PA X [e, e2] ta)
    (hs : starEach [e, e2] X.env = (false, eval e X.env) :: starEach [e2] X.env) (hpl : (backTo pos (starEach [e2] X.env)).any (·.1) = false) :
    PI X (.Tuple elts kk tpos) (.Call (.Name "zip" p) [e, e2] [] pos) (iZ X.K ta) := by
  refine ⟨fun pins s σ H R I h => ?_⟩
  refine Call_ (ld_blt I hg hm PyProof.Rows.boot_zip (PyProof.Rows.callWith_type1 (thn (ha.run pos pins s σ H _ I h) fun us s1 ⟨vs, H1, I1, r1, b, c, xs, ys, ex, hqx, hqy, q⟩ => ?_) hs hpl))
  subst ex
  obtain ⟨u, u2, rfl, ru, ru2⟩ := Vals.two r1
  obtain ⟨o1, G1, B1, g1, tn1⟩ := begins I1 hqx ru
  obtain ⟨o2, G2, B2, g2, tn2⟩ := begins I1 hqy ru2
  refine zip_begins2 B1 B2 g1 g2 fun h' hz hTI hTO e1 e2 hsz hk => wpAny_pyIter_zip hz ?_
  have I2 : Inv X pins σ H1 { s1 with heap := h' } := I1.kept (t' := s1.toks) hk
  refine ⟨s1.heap.objs.size + 4, [s1.heap.objs.size + 4, s1.heap.objs.size + 2, s1.heap.objs.size + 3, s1.heap.objs.size, s1.heap.objs.size + 1], _, _, H1, rfl, I2, turnZ b c _ _ _ _ _, ⟨hz, hTI, ⟨_, _, hTO⟩, tn1 _ _ e1, tn2 _ _ e2, Nat.ne_of_lt (Nat.lt_succ_self _), Nat.ne_of_lt (Nat.lt_succ_self _)⟩, fun q hq => ?_, q⟩
  have hle : s1.heap.objs.size ≤ q := by
    simp only [List.mem_cons, List.not_mem_nil, or_false] at hq
    rcases hq with r | r | r | r | r <;> rw [r]
    · exact Nat.le_add_right _ _
    · exact Nat.le_add_right _ _
    · exact Nat.le_add_right _ _
    · exact Nat.le_refl _
    · exact Nat.le_add_right _ _
  exact I1.fpOk hle (I1.hok.fresh hle)
end
end Den

/-! Den, part G: sources, targets, statements, loops, comprehensions. -/
namespace Den
open PySem PySem.Spec PyProof.Rows L2

/-! ### sources -/
inductive BSr where
  | con (xs : List D)
  | ref (l : Nat)
def BSr.items : BSr → Sto → Option (List D)
  | .con xs, _ => some xs
  | .ref l, S => match S.objs[l]? with
    | some (.lst xs) => some xs
    | _ => none
structure Src where
  n : Nat
  get : Nat → Sto → Option (Option D)
def itemAt (xs : List D) (i : Nat) : Option (Option D) := if i < xs.length then some xs[i]? else if i = xs.length then some none else none
def srcB (b : BSr) (n : Nat) : Src := ⟨n, fun i S => match b.items S with
  | some xs => itemAt xs i
  | none => none⟩
def srcR (lo : Int) (n : Nat) : Src := ⟨n, fun i _ => some (if i < n then some (.int (lo + i)) else none)⟩
def srcE (b : BSr) (n : Nat) : Src := ⟨n, fun i S => match b.items S with
  | some xs => (match itemAt xs i with
    | some (some d) => some (some (mkTup [.int (i : Nat), d]))
    | o => o)
  | none => none⟩
def pairAt (xs ys : List D) (i : Nat) : Option (Option D) :=
  match xs[i]?, ys[i]? with
  | some x, some y => some (some (mkTup [x, y]))
  | _, _ => if i ≤ xs.length ∧ i ≤ ys.length then some none else none
def srcZ (b c : BSr) (n : Nat) : Src := ⟨n, fun i S => match b.items S, c.items S with
  | some xs, some ys => pairAt xs ys i
  | _, _ => none⟩
/-- a value that is walked -/
def baseD : D → M BSr
  | .p (.tuple xs) => ret (.con (xs.map D.p))
  | .tup xs => ret (.con xs)
  | .p (.str z) => ret (.con (z.cps.toList.map fun c => .str ⟨#[c]⟩))
  | .ref l => bnd (getL l) fun _ => ret (.ref l)
  | _ => fail
def lenB (b : BSr) : M Nat := fun S => match b.items S with
  | some xs => .ok xs.length S
  | none => .bad
def bE (f : DE) : Rho → M BSr := fun ρ => bnd (f ρ) baseD
def bL (l : DL) : Rho → M BSr := fun ρ => bnd (l ρ) fun ds => ret (.con ds)
abbrev DS := Rho → M Src
def itB (f : Rho → M BSr) : DS := fun ρ => bnd (f ρ) fun b => bnd (lenB b) fun n => ret (srcB b n)
def itE (f : Rho → M BSr) : DS := fun ρ => bnd (f ρ) fun b => bnd (lenB b) fun n => ret (srcE b n)
def itZ (f g : Rho → M BSr) : DS := fun ρ => bnd (f ρ) fun b => bnd (g ρ) fun c => bnd (lenB b) fun n => bnd (lenB c) fun k => ret (srcZ b c (min n k))
def rng1 : D → M Src
  | .p (.int j) => guardM (decide (-(2 ^ 62) ≤ j) && decide (j < 2 ^ 62)) (ret (srcR 0 j.toNat))
  | _ => fail
def rng2 : D → D → M Src
  | .p (.int i), .p (.int j) => guardM ((decide (-(2 ^ 62) ≤ i) && decide (i < 2 ^ 62)) && (decide (-(2 ^ 62) ≤ j) && decide (j < 2 ^ 62))) (ret (srcR i (j - i).toNat))
  | _, _ => fail
def itR1 (f : DE) : DS := fun ρ => bnd (f ρ) rng1
def itR2 (f g : DE) : DS := fun ρ => bnd (f ρ) fun a => bnd (g ρ) fun b => rng2 a b

section
variable {K : PySem.W.Frag} {CT : Nat → Value} {m m1 m2 m0 : List Addr} {H H1 H2 H0 : Hp} {S S1 S2 S0 : Sto}
def BRel (K : PySem.W.Frag) (m0 : List Addr) (H0 : Hp) (b : BK) (src : BSr) : Prop :=
  ∀ (mc : List Addr) (Hc : Hp) (Sc : Sto) (ds : List D), SR K mc Hc Sc → Ext m0 H0 mc Hc → src.items Sc = some ds → ∃ vs, BC K Hc b vs ∧ DRs K mc Hc vs ds
theorem BRel.later {b : BK} {src : BSr} (h : BRel K m0 H0 b src) (e : Ext m0 H0 m H) : BRel K m H b src := fun mc Hc Sc ds sr ex i => h mc Hc Sc ds sr (e.trans ex) i
def SrcR (K : PySem.W.Frag) (m0 : List Addr) (H0 : Hp) (J : It) (src : Src) : Prop :=
  ∀ (i : Nat) (mc : List Addr) (Hc : Hp) (Sc : Sto), SR K mc Hc Sc → Ext m0 H0 mc Hc →
    (∀ d, src.get i Sc = some (some d) → J.go i Hc ∧ ∀ x H2, J.yld i Hc x H2 → DR K mc H2 x d ∧ SR K mc H2 Sc ∧ Ext mc Hc mc H2) ∧ (src.get i Sc = some none → J.stop i Hc)
abbrev rI (K : PySem.W.Frag) : Rel Src It := ⟨fun _ m H J src => SrcR K m H J src, fun _ h => h⟩
abbrev rBK (K : PySem.W.Frag) : Rel BSr BK := ⟨fun _ m H b src => BRel K m H b src, fun _ h => h⟩
abbrev tI (K : PySem.W.Frag) (CT : Nat → Value) (W : WX) (sf : DS) : TI := tG K CT W (rI K) sf
theorem itemAt_some {xs : List D} {i : Nat} {d : D} (h : itemAt xs i = some (some d)) : xs[i]? = some d := by
  unfold itemAt at h
  split at h
  · injection h
  · split at h <;> cases h
theorem itemAt_none {xs : List D} {i : Nat} (h : itemAt xs i = some none) : xs.length = i := by
  unfold itemAt at h
  split at h
  · rename_i hl
    rw [List.getElem?_eq_getElem hl] at h; cases h
  · split at h
    · rename_i e; exact e.symm
    · cases h
theorem src_tuple {a : Addr} {n : Nat} {src : BSr} (h : BRel K m0 H0 (.t a) src) : SrcR K m0 H0 (Itt K a) (srcB src n) := fun i mc Hc Sc sr ex => by
  unfold srcB
  dsimp only
  cases e : src.items Sc with
  | none => exact ⟨fun d h => (nomatch h), fun h => (nomatch h)⟩
  | some ds =>
    obtain ⟨vs, bc, r⟩ := h mc Hc Sc ds sr ex e
    refine ⟨fun d hd => ?_, fun hn => ⟨vs, bc, by rw [r.length, itemAt_none hn]; exact Nat.le_refl _⟩⟩
    obtain ⟨v, hv, rv⟩ := r.get (itemAt_some hd)
    refine ⟨⟨vs, v, bc, hv⟩, fun x H2 ⟨e1, y⟩ => ?_⟩
    subst e1
    have := y vs bc
    rw [hv] at this; cases this
    exact ⟨rv, sr, Ext.refl⟩
theorem src_list {a : Addr} {n : Nat} {src : BSr} (h : BRel K m0 H0 (.l a) src) : SrcR K m0 H0 (Itl K a) (srcB src n) := fun i mc Hc Sc sr ex => by
  unfold srcB
  dsimp only
  cases e : src.items Sc with
  | none => exact ⟨fun d h => (nomatch h), fun h => (nomatch h)⟩
  | some ds =>
    obtain ⟨vs, bc, r⟩ := h mc Hc Sc ds sr ex e
    refine ⟨fun d hd => ?_, fun hn => ⟨vs, bc, by rw [r.length, itemAt_none hn]; exact Nat.le_refl _⟩⟩
    obtain ⟨v, hv, rv⟩ := r.get (itemAt_some hd)
    refine ⟨⟨vs, v, bc, hv⟩, fun x H2 ⟨e1, y⟩ => ?_⟩
    subst e1
    have := y vs bc
    rw [hv] at this; cases this
    exact ⟨rv, sr, Ext.refl⟩
theorem src_str {a : Str} {n : Nat} {src : BSr} (h : BRel K m0 H0 (.s a) src) : SrcR K m0 H0 (Its a) (srcB src n) := fun i mc Hc Sc sr ex => by
  unfold srcB
  dsimp only
  cases e : src.items Sc with
  | none => exact ⟨fun d h => (nomatch h), fun h => (nomatch h)⟩
  | some ds =>
    obtain ⟨vs, bc, r⟩ := h mc Hc Sc ds sr ex e
    obtain rfl : vs = signs a := bc
    have hl := r.length
    rw [signs_len] at hl
    refine ⟨fun d hd => ?_, fun hn => ?_⟩
    · obtain ⟨v, hv, rv⟩ := r.get (itemAt_some hd)
      have hi : i < a.cps.size := by rw [← signs_len]; exact (List.getElem?_eq_some_iff.mp hv).1
      refine ⟨hi, fun x H2 ⟨e1, c, hc, ex2⟩ => ?_⟩
      subst e1
      rw [signs_vals a i c hc] at hv
      cases hv
      rw [ex2]
      exact ⟨rv, sr, Ext.refl⟩
    · show a.cps.size ≤ i
      rw [hl, itemAt_none hn]; exact Nat.le_refl _
theorem pair_made {x v : V} {i d : D} {T : Addr} (sr : SR K m H S) (r1 : DR K m H x i) (r2 : DR K m H v d) (nT : H T = none) : DR K m (upd H T (.tup [x, v])) (.ref T) (mkTup [i, d]) ∧ SR K m (upd H T (.tup [x, v])) S ∧ Ext m H m (upd H T (.tup [x, v])) :=
  ⟨DR.mk (SqT.of upd_same) (by show 2 ≤ sizeLine; decide) (DRs.ext sr (ext_new nT) (.cons r1 (.cons r2 .nil))), sr.new nT, ext_new nT⟩
theorem src_enum {b : BK} {n : Nat} {src : BSr} (h : BRel K m0 H0 b src) : SrcR K m0 H0 (ItE K b) (srcE src n) := fun i mc Hc Sc sr ex => by
  unfold srcE
  dsimp only
  cases e : src.items Sc with
  | none => exact ⟨fun d h => (nomatch h), fun h => (nomatch h)⟩
  | some ds =>
    obtain ⟨vs, bc, r⟩ := h mc Hc Sc ds sr ex e
    dsimp only
    cases e2 : itemAt ds i with
    | none => exact ⟨fun d h => (nomatch h), fun h => (nomatch h)⟩
    | some o =>
      cases o with
      | none => exact ⟨fun d h => (by cases h), fun hn => ⟨vs, bc, by rw [r.length, itemAt_none e2]⟩⟩
      | some d0 =>
        refine ⟨fun d hd => ?_, fun hn => by cases hn⟩
        cases hd
        obtain ⟨v, hv, rv⟩ := r.get (itemAt_some e2)
        refine ⟨⟨vs, v, bc, hv⟩, fun x H2 ⟨T, y, e1, nT, e3, hy⟩ => ?_⟩
        subst e1 e3
        have := hy vs bc
        rw [hv] at this; cases this
        exact pair_made sr (.p (.int _)) rv nT
theorem src_zip {b c : BK} {n : Nat} {s1 s2 : BSr} (h : BRel K m0 H0 b s1) (g : BRel K m0 H0 c s2) : SrcR K m0 H0 (ItZ K b c) (srcZ s1 s2 n) := fun i mc Hc Sc sr ex => by
  unfold srcZ
  dsimp only
  cases e : s1.items Sc with
  | none => exact ⟨fun d h => (nomatch h), fun h => (nomatch h)⟩
  | some ds =>
    cases e' : s2.items Sc with
    | none => exact ⟨fun d h => (nomatch h), fun h => (nomatch h)⟩
    | some es =>
      obtain ⟨vs, bc, r⟩ := h mc Hc Sc ds sr ex e
      obtain ⟨ws, bc2, r2⟩ := g mc Hc Sc es sr ex e'
      have l1 := r.length
      have l2 := r2.length
      dsimp only
      unfold pairAt
      have fin : ∀ {P : Prop}, (ds[i]? = none ∨ es[i]? = none) → ((if i ≤ ds.length ∧ i ≤ es.length then some none else none : Option (Option D)) = some none) → (ItZ K b c).stop i Hc := fun {P} hor hif => by
        split at hif
        · rename_i hle
          refine ⟨vs, ws, bc, bc2, by omega, by omega, ?_⟩
          rcases hor with q | q
          · have := List.getElem?_eq_none_iff.mp q; exact .inl (by omega)
          · have := List.getElem?_eq_none_iff.mp q; exact .inr (by omega)
        · cases hif
      cases e1 : ds[i]? with
      | none =>
        refine ⟨fun d hd => ?_, fun hn => fin (P := True) (.inl e1) hn⟩
        simp only at hd
        split at hd <;> cases hd
      | some x =>
        cases e2 : es[i]? with
        | none =>
          refine ⟨fun d hd => ?_, fun hn => fin (P := True) (.inr e2) hn⟩
          simp only at hd
          split at hd <;> cases hd
        | some y =>
          refine ⟨fun d hd => ?_, fun hn => by cases hn⟩
          cases hd
          obtain ⟨v, hv, rv⟩ := r.get e1
          obtain ⟨w, hw, rw'⟩ := r2.get e2
          refine ⟨⟨vs, ws, v, w, bc, bc2, hv, hw⟩, fun q H2 ⟨T, x1, y1, e3, nT, e4, hx, hy⟩ => ?_⟩
          subst e3 e4
          have a1 := hx vs bc
          have a2 := hy ws bc2
          rw [hv] at a1; cases a1
          rw [hw] at a2; cases a2
          exact pair_made sr rv rw' nT
theorem src_range {lo : Int} {n : Nat} : SrcR K m0 H0 (Itr lo n) (srcR lo n) := fun i mc Hc Sc sr ex => by
  unfold srcR
  dsimp only
  by_cases hi : i < n
  · rw [if_pos hi]
    refine ⟨fun d hd => ?_, fun hn => by cases hn⟩
    cases hd
    refine ⟨hi, fun x H2 ⟨e1, e2⟩ => ?_⟩
    subst e1 e2
    exact ⟨.p (.int _), sr, Ext.refl⟩
  · rw [if_neg hi]
    exact ⟨fun d hd => (by cases hd), fun _ => Nat.le_of_not_lt hi⟩
/-- what is walked, by its value -/
theorem base_rel {α β : Type} {E : XK} {rel : Rel α β} {d : D} {v : V} {g : BSr → M α} {Q : β → Hp → Prop} (sr : SR K m H S) (h : DR K m H v d) (po : Post K CT E rel m H (bnd (baseD d) g S) Q) :
    ∃ b src, v = BK.val b ∧ BRel K m H b src ∧ (∃ xs, BC K H b xs) ∧ Post K CT E rel m H (g src S) Q := by
  have tup : ∀ {a : Addr} {vs : List V} {ds : List D}, SqT K H a vs → vs.length ≤ sizeLine → DRs K m H vs ds → BRel K m H (.t a) (.con ds) := fun {a vs ds} hs z r mc Hc Sc es sr' ex e => by
    cases e
    exact ⟨vs, seqT_mono sr ex hs, r.ext sr ex⟩
  cases d with
  | ref l =>
    obtain ⟨xs, e, po⟩ := getL_inv (g := fun _ => bnd (ret (BSr.ref l)) g) (by rw [← bnd_assoc]; exact po)
    obtain ⟨a, rfl, ha⟩ := h.ref_inv
    obtain ⟨vs, h1, z, r⟩ := sr.get ha e
    refine ⟨.l a, .ref l, rfl, fun mc Hc Sc ds sr' ex e' => ?_, ⟨vs, SqL.of h1⟩, po⟩
    unfold BSr.items at e'
    dsimp only at e'
    split at e'
    · rename_i ys e2
      cases e'
      obtain ⟨ws, q1, q2, q3⟩ := sr'.get (pre_get ex.pre l a ha) e2
      exact ⟨ws, SqL.of q1, q3⟩
    · cases e'
  | tup xs =>
    obtain ⟨a, vs, rfl, h1, z, r⟩ := h.items (ds := xs) rfl
    exact ⟨.t a, .con xs, rfl, tup h1 z r, ⟨vs, h1⟩, po⟩
  | p x =>
    cases x with
    | tuple xs =>
      obtain ⟨a, vs, rfl, h1, z, r⟩ := h.items (ds := xs.map D.p) rfl
      exact ⟨.t a, .con (xs.map D.p), rfl, tup h1 z r, ⟨vs, h1⟩, po⟩
    | str q =>
      obtain rfl := h.p_inv.str_inv
      refine ⟨.s q, _, rfl, fun mc Hc Sc ds sr' ex e' => ?_, ⟨_, rfl⟩, po⟩
      cases e'
      refine ⟨signs q, rfl, ?_⟩
      unfold signs
      generalize q.cps.toList = l
      induction l with
      | nil => exact .nil
      | cons c r ih => exact .cons (.p (.str _)) ih
    | _ => exact po.elim
end

/-! ### what a for walks -/
def ItB (K : PySem.W.Frag) : BK → It
  | .l a => Itl K a
  | .t a => Itt K a
  | .s z => Its z
section
variable {X : Cx} {CT : Nat → Value} {W : WX} {tg e e2 : Expr} {f g : DE} {pos p : Pos}
def iB (K : PySem.W.Frag) (te : TE) : TI := fun σ H R => te σ H fun v H1 => ∃ b xs, v = BK.val b ∧ BC K H1 b xs ∧ R (ItB K b) H1
theorem piB {te : TE} (he : PE X e te) : PI X tg e (iB X.K te) := by
  refine ⟨fun pins s σ H R I h => ?_⟩
  refine thn (he.run pins s σ H _ I h) fun u s1 ⟨v, H1, I1, rv, b, xs, ev, bc, q⟩ => ?_
  subst ev
  have new : ∀ c ∈ [s1.heap.objs.size], FpOk X pins H1 c := fun c hc => by
    rw [List.mem_singleton] at hc; subst hc
    exact I1.fpOk (Nat.le_refl _) (I1.hok.fresh (Nat.le_refl _))
  cases b with
  | l a =>
    cases rv
    obtain ⟨its, r, pl, hz⟩ := I1.list bc
    exact wpAny_pyIter_list pl.isList ⟨s1.heap.objs.size, [s1.heap.objs.size], _, _, H1, rfl, I1.kept (t' := s1.toks) fun b o e => Heap.get?_push_of_some _ e, turn_list a _, ⟨_, Heap.get?_push_size _ rfl, rfl, rfl⟩, new, q⟩
  | t a =>
    cases rv
    obtain ⟨its, r, pl, hz⟩ := I1.tuple bc
    exact wpAny_pyIter_tuple (show s1.heap.IsTuple a its.toArray from pl) ⟨s1.heap.objs.size, [s1.heap.objs.size], _, _, H1, rfl, I1.kept (t' := s1.toks) fun b o e => Heap.get?_push_of_some _ e, turn_tuple a _, ⟨_, Heap.get?_push_size _ rfl, rfl, rfl⟩, new, q⟩
  | s z =>
    obtain ⟨t, rfl⟩ := rv
    have hty : strIterType z = "str_ascii_iterator" ∨ strIterType z = "str_iterator" := by unfold strIterType; split; exact .inl rfl; exact .inr rfl
    exact wpAny_pyIter_strU ⟨s1.heap.objs.size, [s1.heap.objs.size], _, _, H1, rfl, I1.kept (t' := s1.toks) fun b o e => Heap.get?_push_of_some _ e, turn_str _ z t (strIterType z) hty, ⟨_, Heap.get?_push_size _ rfl, rfl, rfl⟩, new, q⟩
theorem PI.imp {w w' : TI} (h : PI X tg e w) (i : ∀ σ H R, w' σ H R → w σ H R) : PI X tg e w' := ⟨fun pins s σ H R I q => h.run pins s σ H R I (i σ H R q)⟩
theorem src_base {K : PySem.W.Frag} {m : List Addr} {H : Hp} {b : BK} {src : BSr} {n : Nat} (h : BRel K m H b src) : SrcR K m H (ItB K b) (srcB src n) := by
  cases b with
  | l a => exact src_list h
  | t a => exact src_tuple h
  | s z => exact src_str h
theorem lenB_inv {K : PySem.W.Frag} {E : XK} {m : List Addr} {H : Hp} {S : Sto} {α β : Type} {rel : Rel α β} {b : BSr} {g : Nat → M α} {Q : β → Hp → Prop} (po : Post K CT E rel m H (bnd (lenB b) g S) Q) : ∃ n, Post K CT E rel m H (g n S) Q := by
  unfold bnd lenB at po
  cases e : b.items S with
  | none => rw [e] at po; exact po.elim
  | some xs => rw [e] at po; exact ⟨_, po⟩
/-- an expression whose value is walked, with its meaning -/
def PB (X : Cx) (CT : Nat → Value) (W : WX) (e : Expr) (fb : Rho → M BSr) : Prop :=
  ∃ te : TE, PE X e te ∧ ∀ {σ : L2.St} {H : Hp} {α β : Type} {rel : Rel α β} {ρ : Rho} {m : List Addr} {S : Sto} {G : BSr → M α} {Q : β → Hp → Prop} {Q' : VK}, EnvR X.K m H ρ σ → SR X.K m H S →
    Post X.K CT (fun c d H' => W c d σ H') rel m H (bnd (fb ρ) G S) Q →
    (∀ (v : V) (H1 : Hp) (m1 : List Addr) (S1 : Sto) (b : BK) (src : BSr) (xs : List V), v = BK.val b → BRel X.K m1 H1 b src → BC X.K H1 b xs → SR X.K m1 H1 S1 → Ext m H m1 H1 → Post X.K CT (fun c d H' => W c d σ H') rel m1 H1 (G src S1) Q → Q' v H1) → te σ H Q'
theorem pb_E (he : PE X e (tE X.K CT W f)) : PB X CT W e (bE f) := ⟨_, he, fun er sr po k => by
  unfold bE at po
  rw [bnd_assoc] at po
  exact tG.mono (Post.next (rel := rD X.K) er sr po) fun v H1 ⟨m1, S1, d, r, sr1, ex, p⟩ => by
    obtain ⟨b, src, e, br, ⟨xs, bc⟩, p⟩ := base_rel sr1 r p
    exact k v H1 m1 S1 b src xs e br bc sr1 ex p⟩
theorem pb_L {l : DL} (he : PE X e (tN X.K CT W l)) : PB X CT W e (bL l) := ⟨_, he, fun er sr po k => by
  unfold bL at po
  rw [bnd_assoc] at po
  exact tG.mono (Post.next (rel := rL X.K) er sr po) fun v H1 ⟨m1, S1, d, ⟨q, vs, e, np, hp, nm, z, r⟩, sr1, ex, p⟩ =>
    k v H1 m1 S1 (.l q) (.con d) vs e (fun mc Hc Sc ds sr' ex' e' => by
      cases e'
      exact ⟨vs, SqL.of (ex'.keep q _ hp (.inl nm) fun _ z => nomatch z), r.ext sr1 ex'⟩) (SqL.of hp) sr1 ex p⟩
theorem lenB_at {K : PySem.W.Frag} {E : XK} {m : List Addr} {H : Hp} {S : Sto} {α β : Type} {rel : Rel α β} {b : BSr} {g : Nat → M α} {Q : β → Hp → Prop} (po : Post K CT E rel m H (bnd (lenB b) g S) Q) : ∃ xs, b.items S = some xs ∧ Post K CT E rel m H (g xs.length S) Q := by
  unfold bnd lenB at po
  cases e : b.items S with
  | none => rw [e] at po; exact po.elim
  | some xs => rw [e] at po; exact ⟨_, rfl, po⟩
variable {fb fc : Rho → M BSr}
theorem i_base (h : PB X CT W e fb) : PI X tg e (tI X.K CT W (itB fb)) := by
  obtain ⟨te, he, hb⟩ := h
  exact PI.imp (piB he) fun σ H R ⟨ρ, m, S, er, sr, po⟩ => hb er sr po fun v H1 m1 S1 b src xs ev br bc sr1 ex p =>
    let ⟨ys, _, p⟩ := lenB_at p
    ⟨b, xs, ev, bc, p.ret sr1 (src_base br)⟩
theorem i_enum {elts : List Expr} {kk : Nat} {tpos : Pos} (hg : Gl X "enumerate") (hm : X.mg "enumerate" = none) (h : PB X CT W e fb) (hs : starEach [e] X.env = [(false, eval e X.env)]) : PI X (.Tuple elts kk tpos) (.Call (.Name "enumerate" p) [e] [] pos) (tI X.K CT W (itE fb)) := by
  obtain ⟨te, he, hb⟩ := h
  exact PI.imp (piE hg hm (pa_cons he pa_nil hs) hs) fun σ H R ⟨ρ, m, S, er, sr, po⟩ => hb er sr po fun v H1 m1 S1 b src xs ev br bc sr1 ex p =>
    let ⟨ys, _, p⟩ := lenB_at p
    ⟨b, xs, by rw [ev], bc, p.ret sr1 (src_enum br)⟩
theorem i_zip {elts : List Expr} {kk : Nat} {tpos : Pos} (hg : Gl X "zip") (hm : X.mg "zip" = none) (h1 : PB X CT W e fb) (h2 : PB X CT W e2 fc) (hs : starEach [e, e2] X.env = (false, eval e X.env) :: starEach [e2] X.env) (hs2 : starEach [e2] X.env = [(false, eval e2 X.env)]) (hpl : (backTo pos (starEach [e2] X.env)).any (·.1) = false) :
    PI X (.Tuple elts kk tpos) (.Call (.Name "zip" p) [e, e2] [] pos) (tI X.K CT W (itZ fb fc)) := by
  obtain ⟨te, he, hb⟩ := h1
  obtain ⟨te2, he2, hb2⟩ := h2
  exact PI.imp (piZ hg hm (pa_cons he (pa_cons he2 pa_nil hs2) hs) hs hpl) fun σ H R ⟨ρ, m, S, er, sr, po⟩ => hb er sr po fun v H1 m1 S1 b src xs ev br bc sr1 ex p =>
    hb2 (er.ext sr ex) sr1 p fun v2 H2 m2 S2 c src2 ys ev2 br2 bc2 sr2 ex2 p => by
      obtain ⟨as, ea, p⟩ := lenB_at p
      obtain ⟨bs, eb, p⟩ := lenB_at p
      obtain ⟨vs, hvs, _⟩ := br m2 H2 S2 as sr2 ex2 ea
      exact ⟨b, c, vs, ys, by rw [ev, ev2], hvs, bc2, p.ret sr2 (src_zip (br.later ex2) br2)⟩
theorem i_range1 (hg : Gl X "range") (hm : X.mg "range" = none) (ha : PE X e (tE X.K CT W f)) (hs : starEach [e] X.env = [(false, eval e X.env)]) : PI X tg (.Call (.Name "range" p) [e] [] pos) (tI X.K CT W (itR1 f)) :=
  PI.imp (pi_range1 hg hm (pa_cons ha pa_nil hs) hs) fun σ H R hq => tG.mono (tG.first (rel := rD X.K) hq) fun v H1 ⟨ρ, m, S, d, r, er, sr, po⟩ => by
    unfold rng1 at po
    split at po
    · rename_i j
      obtain ⟨g, po⟩ := po.guard
      rw [Bool.and_eq_true, decide_eq_true_eq, decide_eq_true_eq] at g
      obtain rfl := r.p_inv.int_inv
      exact ⟨j, rfl, g.1, g.2, po.ret sr src_range⟩
    · exact po.elim
theorem i_range2 (hg : Gl X "range") (hm : X.mg "range" = none) (ha : PE X e (tE X.K CT W f)) (hb : PE X e2 (tE X.K CT W g)) (hs : starEach [e, e2] X.env = [(false, eval e X.env), (false, eval e2 X.env)]) (hs2 : starEach [e2] X.env = [(false, eval e2 X.env)]) :
    PI X tg (.Call (.Name "range" p) [e, e2] [] pos) (tI X.K CT W (itR2 f g)) :=
  PI.imp (pi_range2 hg hm (pa_cons ha (pa_cons hb pa_nil hs2) (by rw [hs, hs2])) hs hs2) fun σ H R hq => tG.mono (two hq) fun v H1 q => tG.mono q fun w H2 ⟨ρ, m, S, d, d2, er, sr, r1, r2, po⟩ => by
    unfold rng2 at po
    split at po
    · rename_i i j
      obtain ⟨g, po⟩ := po.guard
      simp only [Bool.and_eq_true, decide_eq_true_eq] at g
      obtain rfl := r1.p_inv.int_inv
      obtain rfl := r2.p_inv.int_inv
      exact ⟨i, j, rfl, ⟨g.1.1, g.1.2, g.2.1, g.2.2⟩, po.ret sr src_range⟩
    · exact po.elim
end
end Den

/-! Den, part H: targets, statements, loops, comprehensions. -/
namespace Den
open PySem PySem.Spec PyProof.Rows L2

/-! ### meanings -/
abbrev DT := D → Rho → M Rho
inductive Fl where
  | nx (ρ : Rho)
  | rt (d : D)
  | bk (ρ : Rho)
  | ct (ρ : Rho)
abbrev DSt := Rho → M Fl
def tgN (i : Nat) : DT := fun d ρ => ret (ρ.set i (some d))
def tgAll : List DT → List D → Rho → M Rho
  | [], [], ρ => ret ρ
  | t :: ts, d :: ds, ρ => bnd (t d ρ) fun ρ' => tgAll ts ds ρ'
  | _, _, _ => fail
def tgT (ts : List DT) : DT := fun d ρ => match tupItems d with
  | some ds => guardM (decide (ds.length = ts.length)) (tgAll ts ds ρ)
  | none => fail
def skipS : DSt := fun ρ => ret (.nx ρ)
def brkS : DSt := fun ρ => ret (.bk ρ)
def cntS : DSt := fun ρ => ret (.ct ρ)
def retS (f : DE) : DSt := fun ρ => bnd (f ρ) fun d => ret (.rt d)
def retNS : DSt := fun _ => ret (.rt .non)
def asgS (f : DE) (t : DT) : DSt := fun ρ => bnd (f ρ) fun d => bnd (t d ρ) fun ρ' => ret (.nx ρ')
def exS (f : DE) : DSt := fun ρ => bnd (f ρ) fun _ => ret (.nx ρ)
def seqS (s t : DSt) : DSt := fun ρ => bnd (s ρ) fun fl => match fl with
  | .nx ρ' => t ρ'
  | fl => ret fl
def ifS (t : DB) (a b : DSt) : DSt := fun ρ => bnd (t ρ) fun c => if c = true then a ρ else b ρ
def failS : DSt := fun _ => fail
def whGo (t : DB) (b : DSt) : Nat → DSt
  | 0 => fun _ => fail
  | k + 1 => fun ρ => bnd (t ρ) fun c => if c = true then bnd (b ρ) fun fl => match fl with
      | .nx ρ' => whGo t b k ρ'
      | .ct ρ' => whGo t b k ρ'
      | .bk ρ' => ret (.nx ρ')
      | .rt d => ret (.rt d)
    else ret (.nx ρ)
def whFuel : Nat := 1000000
def whS (t : DB) (b : DSt) : DSt := whGo t b whFuel
def forGo (t : DT) (b : DSt) (src : Src) : Nat → Nat → DSt
  | 0, _ => fun _ => fail
  | k + 1, i => fun ρ S => match src.get i S with
    | none => .bad
    | some none => .ok (.nx ρ) S
    | some (some d) => bnd (t d ρ) (fun ρ1 => bnd (b ρ1) fun fl => match fl with
      | .nx ρ' => forGo t b src k (i + 1) ρ'
      | .ct ρ' => forGo t b src k (i + 1) ρ'
      | .bk ρ' => ret (.nx ρ')
      | .rt d => ret (.rt d)) S
def forS (t : DT) (sf : DS) (b : DSt) : DSt := fun ρ => bnd (sf ρ) fun src => forGo t b src (src.n + 1) 0 ρ
def noExc {α : Type} (m : M α) : M α := fun S => match m S with
  | .ok a S' => .ok a S'
  | _ => .bad
def wipeR (ρ : Rho) : List Nat → Rho
  | [] => ρ
  | v :: vs => (wipeR ρ vs).set v none
def lcGo (t : DT) (c : DB) (e : DE) (src : Src) (ρ : Rho) : Nat → Nat → List D → M (List D)
  | 0, _, _ => fail
  | k + 1, i, acc => fun S => match src.get i S with
    | none => .bad
    | some none => .ok acc S
    | some (some d) => bnd (noExc (t d ρ)) (fun ρ1 => bnd (noExc (c ρ1)) fun b =>
        if b = true then bnd (noExc (e ρ1)) fun y => lcGo t c e src ρ k (i + 1) (acc ++ [y]) else lcGo t c e src ρ k (i + 1) acc) S
def lcS (own : List Nat) (t : DT) (c : DB) (e : DE) (sf : DS) : DL := fun ρ => bnd (sf ρ) fun src => guardM (decide (src.n < sizeLine)) (lcGo t c e src (wipeR ρ own) (src.n + 1) 0 [])
def yesS : DB := fun _ => ret true

/-! ### readings -/
inductive FV where
  | nx (σ : L2.St)
  | rt (v : V)
  | bk (σ : L2.St)
  | ct (σ : L2.St)
def FR (K : PySem.W.Frag) (m : List Addr) (H : Hp) : FV → Fl → Prop
  | .nx σ, .nx ρ => EnvR K m H ρ σ
  | .rt v, .rt d => DR K m H v d
  | .bk σ, .bk ρ => EnvR K m H ρ σ
  | .ct σ, .ct ρ => EnvR K m H ρ σ
  | _, _ => False
abbrev rF (K : PySem.W.Frag) : Rel Fl FV := ⟨fun _ => FR K, fun _ h => h⟩
def ofE (D : Ends) : FV → Hp → Prop
  | .nx σ, H => D.nx σ H
  | .rt v, H => D.rt v H
  | .bk σ, H => D.bk σ H
  | .ct σ, H => D.ct σ H
abbrev wE (E : XK) : WX := fun c d _ H => E c d H
def tS (K : PySem.W.Frag) (CT : Nat → Value) (E : XK) (f : DSt) : TS := fun D σ H => tG K CT (wE E) (rF K) f σ H (ofE D)
def Off (own : List Nat) (σ σ' : L2.St) : Prop := σ'.length = σ.length ∧ ∀ j, j ∉ own → σ'[j]? = σ[j]?
abbrev rT (K : PySem.W.Frag) (own : List Nat) (σ : L2.St) : Rel Rho L2.St := ⟨fun _ m H σ' ρ => EnvR K m H ρ σ' ∧ Off own σ σ', fun _ h => h⟩
def tTg (K : PySem.W.Frag) (CT : Nat → Value) (W : WX) (own : List Nat) (f : DT) : TG := fun v σ H Q => ∃ (ρ : Rho) (m : List Addr) (S : Sto) (d : D), EnvR K m H ρ σ ∧ SR K m H S ∧ DR K m H v d ∧ Post K CT (fun c d H' => W c d σ H') (rT K own σ) m H (f d ρ S) Q
theorem PS.imp {X : Cx} {e : Stmt} {t t' : TS} (h : PS X e t) (i : ∀ D σ H, t' D σ H → t D σ H) : PS X e t' := ⟨fun pins s σ H D I q => h.run pins s σ H D I (i D σ H q)⟩
theorem PSs.imp {X : Cx} {e : List Stmt} {t t' : TS} (h : PSs X e t) (i : ∀ D σ H, t' D σ H → t D σ H) : PSs X e t' := ⟨fun pins s σ H D I q => h.run pins s σ H D I (i D σ H q)⟩
theorem PG.imp {X : Cx} {e : Expr} {t t' : TG} (h : PG X e t) (i : ∀ v σ H Q, t' v σ H Q → t v σ H Q) : PG X e t' := ⟨fun pins s σ H v u Q I r q => h.run pins s σ H v u Q I r (i v σ H Q q)⟩
theorem PGs.imp {X : Cx} {e : List Expr} {t t' : TGs} (h : PGs X e t) (i : ∀ v σ H Q, t' v σ H Q → t v σ H Q) : PGs X e t' := ⟨fun pins s σ H v u Q I r q => h.run pins s σ H v u Q I r (i v σ H Q q)⟩
section
variable {K : PySem.W.Frag} {m : List Addr} {H : Hp} {S : Sto} {ρ : Rho} {σ σ' σ'' : L2.St}
theorem EnvR.set (er : EnvR K m H ρ σ) {v : V} {d : D} (i : Nat) (r : DR K m H v d) : EnvR K m H (ρ.set i (some d)) (σ.set i (some v)) where
  len := by simp [er.len]
  val := fun j e hj => by
    by_cases h : i = j
    · subst h
      have hl : i < ρ.length := by
        have := (List.getElem?_eq_some_iff.mp hj).1
        rwa [List.length_set] at this
      rw [List.getElem?_set_self hl] at hj
      cases hj
      exact ⟨v, List.getElem?_set_self (by rw [← er.len]; exact hl), r⟩
    · rw [List.getElem?_set_ne h] at hj ⊢
      exact er.val j e hj
theorem EnvR.unset (er : EnvR K m H ρ σ) (i : Nat) : EnvR K m H (ρ.set i none) (σ.set i none) where
  len := by simp [er.len]
  val := fun j e hj => by
    by_cases h : i = j
    · subst h
      have hl : i < ρ.length := by
        have := (List.getElem?_eq_some_iff.mp hj).1
        rwa [List.length_set] at this
      rw [List.getElem?_set_self hl] at hj
      cases hj
    · rw [List.getElem?_set_ne h] at hj ⊢
      exact er.val j e hj
theorem EnvR.wipe (er : EnvR K m H ρ σ) : ∀ vs : List Nat, EnvR K m H (wipeR ρ vs) (L2.wipe σ vs)
  | [] => er
  | v :: vs => (EnvR.wipe er vs).unset v
theorem Off.refl {own : List Nat} : Off own σ σ := ⟨rfl, fun _ _ => rfl⟩
theorem Off.trans {own : List Nat} (a : Off own σ σ') (b : Off own σ' σ'') : Off own σ σ'' := ⟨b.1.trans a.1, fun j h => (b.2 j h).trans (a.2 j h)⟩
theorem Off.set {own : List Nat} {i : Nat} {o : Option V} (h : i ∈ own) : Off own σ (σ.set i o) := ⟨List.length_set, fun j hj => List.getElem?_set_ne fun e : i = j => hj (by rw [← e]; exact h)⟩
theorem wipe_off (σ : L2.St) : ∀ own : List Nat, Off own σ (L2.wipe σ own)
  | [] => Off.refl
  | v :: vs => by
    have h := wipe_off σ vs
    exact ⟨by show ((L2.wipe σ vs).set v none).length = _; rw [List.length_set]; exact h.1, fun j hj => by
      show ((L2.wipe σ vs).set v none)[j]? = _
      rw [List.getElem?_set_ne fun e : v = j => hj (by rw [e]; exact List.mem_cons_self)]
      exact h.2 j fun z => hj (List.mem_cons_of_mem _ z)⟩
theorem wipe_in (σ : L2.St) : ∀ {own : List Nat} {j : Nat}, j ∈ own → j < σ.length → (L2.wipe σ own)[j]? = some none
  | v :: vs, j, h, hl => by
    show ((L2.wipe σ vs).set v none)[j]? = _
    by_cases e : v = j
    · subst e
      exact List.getElem?_set_self (by rw [wipe_length]; exact hl)
    · rw [List.getElem?_set_ne e]
      exact wipe_in σ ((List.mem_cons.mp h).resolve_left fun z => e z.symm) hl
theorem wipe_eq {own : List Nat} (h : Off own σ σ') : L2.wipe σ' own = L2.wipe σ own := by
  apply List.ext_getElem?
  intro j
  by_cases hj : j ∈ own
  · by_cases hl : j < σ.length
    · rw [wipe_in σ hj hl, wipe_in σ' hj (by rw [h.1]; exact hl)]
    · rw [List.getElem?_eq_none (by rw [wipe_length, h.1]; omega), List.getElem?_eq_none (by rw [wipe_length]; omega)]
  · rw [(wipe_off σ' own).2 j hj, (wipe_off σ own).2 j hj, h.2 j hj]
end

section
variable {X : Cx} {CT : Nat → Value} {W : WX} {own : List Nat} {pos : Pos} {e : Expr} {f : DE} {E : XK}
theorem s_tgN {i : Nat} {x : Str} (hN : X.N.Nodup) (hi : X.N[i]? = some x) (hx : Loc X.env.scope x) (hf : X.fn x = true ∨ X.env.scope.names.lookup x = some .local) (ho : i ∈ own) : PG X (.Name x pos) (tTg X.K CT W own (tgN i)) :=
  PG.imp (pg_name hN hi hx hf) fun v σ H Q ⟨ρ, m, S, d, er, sr, r, po⟩ => po.ret sr ⟨er.set i r, Off.set ho⟩
def tTgs (K : PySem.W.Frag) (CT : Nat → Value) (W : WX) (own : List Nat) (fs : List DT) : TGs := fun vs σ H Q => ∃ (ρ : Rho) (m : List Addr) (S : Sto) (ds : List D), EnvR K m H ρ σ ∧ SR K m H S ∧ DRs K m H vs ds ∧ Post K CT (fun c d H' => W c d σ H') (rT K own σ) m H (tgAll fs ds ρ S) Q
/-- what is wanted of errors hangs on no slot -/
def Flat (W : WX) : Prop := ∀ c d σ σ' H, W c d σ H → W c d σ' H
theorem Post.wish {K : PySem.W.Frag} {α β : Type} {rel : Rel α β} {m : List Addr} {H : Hp} {r : R α} {Q : β → Hp → Prop} {E E' : XK} (h : Post K CT E rel m H r Q) (i : ∀ c d H', E c d H' → E' c d H') : Post K CT E' rel m H r Q := by
  cases r with
  | ok a S' => exact h
  | exc c d S' => exact fun v m' H' dd a b c e => i _ _ _ (h v m' H' dd a b c e)
  | bad => exact h
theorem s_tgsNil : PGs X [] (tTgs X.K CT W own []) := PGs.imp pgs_nil fun vs σ H Q ⟨ρ, m, S, ds, er, sr, r, po⟩ => by
  cases r with
  | nil => exact ⟨rfl, po.ret sr ⟨er, Off.refl⟩⟩
  | cons _ _ => exact po.elim
theorem s_tgsCons (hw : Flat W) {es : List Expr} {g : DT} {fs : List DT} (h1 : PG X e (tTg X.K CT W own g)) (h2 : PGs X es (tTgs X.K CT W own fs)) (hs : (assignEach (e :: es) X.env).map (·.2) = assign e X.env :: (assignEach es X.env).map (·.2)) : PGs X (e :: es) (tTgs X.K CT W own (g :: fs)) :=
  PGs.imp (pgs_cons h1 h2 hs) fun vs σ H Q ⟨ρ, m, S, ds, er, sr, r, po⟩ => by
    cases r with
    | nil => exact po.elim
    | cons a t =>
      refine ⟨_, _, rfl, ρ, m, S, _, er, sr, a, po.bind.imp fun σ1 H1 ⟨m1, S1, ρ1, ⟨er1, of1⟩, sr1, ex, p⟩ => ⟨ρ1, m1, S1, _, er1, sr1, t.ext sr ex, ?_⟩⟩
      refine Post.wish ?_ fun c d H' h => hw c d σ σ1 H' h
      generalize hr : tgAll fs _ ρ1 S1 = rr at p
      cases rr with
      | ok a S' => exact fun v m' H' ⟨x1, x2⟩ b c => p v m' H' ⟨x1, of1.trans x2⟩ b c
      | exc c d S' => exact p
      | bad => exact p
theorem s_tgT {es : List Expr} {kk : Nat} {fs : List DT} (hc : X.calm = true) (h : PGs X es (tTgs X.K CT W own fs)) (hl : fs.length = es.length) (hn : (assignEach es X.env).length = es.length) (hst : (assignEach es X.env).findIdx? (·.1) = none) : PG X (.Tuple es kk pos) (tTg X.K CT W own (tgT fs)) :=
  PG.imp (pg_tup hc h hn hst) fun v σ H Q ⟨ρ, m, S, d, er, sr, r, po⟩ => by
    unfold tgT at po
    cases e1 : tupItems d with
    | none => rw [e1] at po; exact po.elim
    | some ds =>
      rw [e1] at po
      obtain ⟨a, vs, rfl, h1, z, rs⟩ := r.items e1
      obtain ⟨g, po⟩ := Post.guard po
      have g := of_decide_eq_true g
      exact ⟨a, vs, rfl, h1, by rw [rs.length, g, hl], ρ, m, S, ds, er, sr, rs, po⟩

section
variable {K : PySem.W.Frag} {CT : Nat → Value} {E : XK} {m : List Addr} {H : Hp} {S : Sto} {DD : Ends}
theorem fin_nx {ρ : Rho} {σ : L2.St} (h : Post K CT E (rF K) m H (ret (.nx ρ) S) (ofE DD)) (sr : SR K m H S) (er : EnvR K m H ρ σ) : DD.nx σ H := h (.nx σ) m H er sr Ext.refl
theorem fin_bk {ρ : Rho} {σ : L2.St} (h : Post K CT E (rF K) m H (ret (.bk ρ) S) (ofE DD)) (sr : SR K m H S) (er : EnvR K m H ρ σ) : DD.bk σ H := h (.bk σ) m H er sr Ext.refl
theorem fin_ct {ρ : Rho} {σ : L2.St} (h : Post K CT E (rF K) m H (ret (.ct ρ) S) (ofE DD)) (sr : SR K m H S) (er : EnvR K m H ρ σ) : DD.ct σ H := h (.ct σ) m H er sr Ext.refl
theorem fin_rt {d : D} {v : V} (h : Post K CT E (rF K) m H (ret (.rt d) S) (ofE DD)) (sr : SR K m H S) (r : DR K m H v d) : DD.rt v H := h (.rt v) m H r sr Ext.refl
end
/-! ### statements -/
section
variable {st : Stmt} {rest : List Stmt} {s t : DSt} {u : DB} {c : Expr}
theorem s_skip : PSs X [] (tS X.K CT E skipS) := PSs.imp pss_nil fun D σ H ⟨ρ, m, S, er, sr, po⟩ => fin_nx po sr er
theorem s_pass : PS X (.Pass pos) (tS X.K CT E skipS) := PS.imp ps_pass fun D σ H ⟨ρ, m, S, er, sr, po⟩ => fin_nx po sr er
theorem s_brk : PS X (.Break pos) (tS X.K CT E brkS) := PS.imp ps_break fun D σ H ⟨ρ, m, S, er, sr, po⟩ => fin_bk po sr er
theorem s_cnt : PS X (.Continue pos) (tS X.K CT E cntS) := PS.imp ps_continue fun D σ H ⟨ρ, m, S, er, sr, po⟩ => fin_ct po sr er
theorem s_ret (he : PE X e (tE X.K CT (wE E) f)) : PS X (.Return (some e) pos) (tS X.K CT E (retS f)) :=
  PS.imp (ps_ret he) fun D σ H hq => tG.mono (tG.first (rel := rD X.K) hq) fun x H1 ⟨ρ, m, S, d, r, er, sr, po⟩ => fin_rt po sr r
theorem s_retN : PS X (.Return none pos) (tS X.K CT E retNS) := PS.imp ps_retN fun D σ H ⟨ρ, m, S, er, sr, po⟩ => fin_rt po sr (.p .non)
theorem s_ex (he : PE X e (tE X.K CT (wE E) f)) (hs : swapsWith e none pos.line X.env = pure false) : PS X (.Expr e pos) (tS X.K CT E (exS f)) :=
  PS.imp (ps_expr he hs) fun D σ H hq => tG.mono (tG.first (rel := rD X.K) hq) fun x H1 ⟨ρ, m, S, d, r, er, sr, po⟩ => fin_nx po sr er
theorem s_doc {x j pos'} : PS X (.Expr (.Constant (.str x) j pos) pos') (tS X.K CT E skipS) := PS.imp ps_doc fun D σ H ⟨ρ, m, S, er, sr, po⟩ => fin_nx po sr er
theorem s_fail : PS X st (tS X.K CT E failS) := PS.imp ps_never fun D σ H ⟨ρ, m, S, er, sr, po⟩ => po.elim
theorem s_seq (h1 : PS X st (tS X.K CT E s)) (h2 : PSs X rest (tS X.K CT E t)) : PSs X (st :: rest) (tS X.K CT E (seqS s t)) :=
  PSs.imp (pss_cons h1 h2) fun D σ H ⟨ρ, m, S, er, sr, po⟩ => ⟨ρ, m, S, er, sr, po.bind.imp fun fv H1 ⟨m1, S1, fl, r, sr1, ex, p⟩ => by
    cases fv with
    | nx σ1 => cases fl with
      | nx ρ1 => exact ⟨ρ1, m1, S1, r, sr1, p⟩
      | _ => exact r.elim
    | rt v => cases fl with
      | rt d => exact fin_rt (DD := D) p sr1 r
      | _ => exact r.elim
    | bk σ1 => cases fl with
      | bk ρ1 => exact fin_bk (DD := D) p sr1 r
      | _ => exact r.elim
    | ct σ1 => cases fl with
      | ct ρ1 => exact fin_ct (DD := D) p sr1 r
      | _ => exact r.elim⟩
theorem s_if {a b : List Stmt} (hc : PT X c (tT X.K CT (wE E) u)) (ha : PSs X a (tS X.K CT E s)) (hb : PSs X b (tS X.K CT E t)) : PS X (.If c a b pos) (tS X.K CT E (ifS u s t)) :=
  PS.imp (ps_if hc ha hb) fun D σ H hq => tG.mono (tG.first (rel := rB) hq) fun c H1 ⟨ρ, m, S, d, r1, er, sr, p⟩ => by
    obtain rfl : c = d := r1
    cases c with
    | true => rw [if_pos rfl] at p ⊢; exact ⟨ρ, m, S, er, sr, p⟩
    | false => rw [if_neg Bool.false_ne_true] at p ⊢; exact ⟨ρ, m, S, er, sr, p⟩
/-- every slot -/
abbrev anyOwn (X : Cx) : List Nat := List.range X.N.length
theorem s_asg {tg : Expr} {g : DT} (he : PE X e (tE X.K CT (wE E) f)) (hg : PG X tg (tTg X.K CT (wE E) own g)) (hs : swapsWithSole [tg] e pos.line X.env = pure false) (hw : swappedStores [tg] e X.env = pure none) (h1 : (assignEach [tg] X.env).map (·.2) = [assign tg X.env]) :
    PS X (.Assign [tg] e pos) (tS X.K CT E (asgS f g)) :=
  PS.imp (ps_asg he hg hs hw h1) fun D σ H hq => tG.mono (tG.first (rel := rD X.K) hq) fun x H1 ⟨ρ, m, S, d, r, er, sr, p⟩ =>
    ⟨ρ, m, S, d, er, sr, r, p.bind.imp fun σ2 H2 ⟨m2, S2, ρ2, ⟨er2, _⟩, sr2, ex, p2⟩ => fin_nx p2 sr2 er2⟩
theorem s_set {i : Nat} {x : Str} {pos' : Pos} (hN : X.N.Nodup) (hi : X.N[i]? = some x) (hx : Loc X.env.scope x) (he : PE X e (tE X.K CT (wE E) f)) (hs : swapsWith e (some (.Name x pos')) pos.line X.env = pure false) (hf : X.fn x = true ∨ X.env.scope.names.lookup x = some .local) :
    PS X (.Assign [.Name x pos'] e pos) (tS X.K CT E (asgS f (tgN i))) :=
  PS.imp (ps_set hN hi hx he hs hf) fun D σ H hq => tG.mono (tG.first (rel := rD X.K) hq) fun x H1 ⟨ρ, m, S, d, r, er, sr, p⟩ => fin_nx p sr (er.set i r)
theorem s_while {body : List Stmt} (hp : PassesOwn (model X.prog X.w) X.A X.env X.xe) (hc : PT X c (tT X.K CT (wE E) u)) (hb : PSs X body (tS X.K CT E s)) : PS X (.While c body [] pos) (tS X.K CT E (whS u s)) :=
  PS.imp (ps_while hp hc hb) fun D σ H ⟨ρ, m, S, er, sr, po⟩ => by
    refine ⟨fun k σ H => ∃ (ρ : Rho) (m : List Addr) (S : Sto), EnvR X.K m H ρ σ ∧ SR X.K m H S ∧ Post X.K CT (fun c d H' => wE E c d σ H') (rF X.K) m H (whGo u s k ρ S) (ofE D), ⟨whFuel, ρ, m, S, er, sr, po⟩, ?_⟩
    rintro k σ H ⟨ρ, m, S, er, sr, po⟩
    cases k with
    | zero => exact po.elim
    | succ k =>
      have hq : tG X.K CT (wE E) (rF X.K) (fun ρ => bnd (u ρ) fun c => if c = true then bnd (s ρ) fun fl => match fl with
          | .nx ρ' => whGo u s k ρ'
          | .ct ρ' => whGo u s k ρ'
          | .bk ρ' => ret (.nx ρ')
          | .rt d => ret (.rt d) else ret (.nx ρ)) σ H (ofE D) := ⟨ρ, m, S, er, sr, po⟩
      refine tG.mono (tG.first (rel := rB) hq) fun c H1 ⟨ρ1, m1, S1, d, r1, er1, sr1, p⟩ => ?_
      obtain rfl : c = d := r1
      cases c with
      | false =>
        rw [if_neg Bool.false_ne_true] at p ⊢
        exact fin_nx p sr1 er1
      | true =>
        rw [if_pos rfl] at p ⊢
        refine ⟨fun σ' H' => ∃ (ρ : Rho) (m : List Addr) (S : Sto), EnvR X.K m H' ρ σ' ∧ SR X.K m H' S ∧ Post X.K CT (fun c d H' => wE E c d σ' H') (rF X.K) m H' (whGo u s k ρ S) (ofE D), fun σ' H' q => ⟨k, Nat.lt_succ_self k, q⟩, ρ1, m1, S1, er1, sr1, p.bind.imp fun fv H2 ⟨m2, S2, fl, r, sr2, ex, p2⟩ => ?_⟩
        cases fv with
        | nx σ2 => cases fl with
          | nx ρ2 => exact ⟨ρ2, m2, S2, r, sr2, p2⟩
          | _ => exact r.elim
        | rt v => cases fl with
          | rt d => exact fin_rt (DD := D) p2 sr2 r
          | _ => exact r.elim
        | bk σ2 => cases fl with
          | bk ρ2 => exact fin_nx p2 sr2 r
          | _ => exact r.elim
        | ct σ2 => cases fl with
          | ct ρ2 => exact ⟨ρ2, m2, S2, r, sr2, p2⟩
          | _ => exact r.elim
theorem for_go {g : DT} {D : Ends} {σ : L2.St} {H1 : Hp} {J : It} {src : Src} {ρ : Rho} {m : List Addr} {S : Sto} (rs : (rI X.K).r H1 m H1 J src) (er : EnvR X.K m H1 ρ σ) (sr : SR X.K m H1 S) (p : Post X.K CT (fun c d H' => wE E c d σ H') (rF X.K) m H1 (forGo g s src (src.n + 1) 0 ρ S) (ofE D)) :
    tFor (fun _ H R => R J H) (tTg X.K CT (wE E) own g) (tS X.K CT E s) D σ H1 := by
  refine ⟨fun i k σ' H' => ∃ (ρ : Rho) (m' : List Addr) (S : Sto), EnvR X.K m' H' ρ σ' ∧ SR X.K m' H' S ∧ Ext m H1 m' H' ∧ Post X.K CT (fun c d H' => wE E c d σ H') (rF X.K) m' H' (forGo g s src k i ρ S) (ofE D), ⟨src.n + 1, ρ, m, S, er, sr, Ext.refl, p⟩, ?_⟩
  rintro i k σ' H' ⟨ρ', m', S', er', sr', ex', po⟩
  cases k with
  | zero => exact po.elim
  | succ k =>
    obtain ⟨h1, h2⟩ := rs i m' H' S' sr' ex'
    unfold forGo at po
    cases e1 : src.get i S' with
    | none => rw [e1] at po; exact po.elim
    | some o =>
      rw [e1] at po
      cases o with
      | none => exact .inl ⟨h2 e1, fin_nx po sr' er'⟩
      | some d =>
        obtain ⟨hgo, hy⟩ := h1 d e1
        refine .inr ⟨hgo, fun σ2 H2 => ∃ (ρ : Rho) (m2 : List Addr) (S : Sto), EnvR X.K m2 H2 ρ σ2 ∧ SR X.K m2 H2 S ∧ Ext m H1 m2 H2 ∧ Post X.K CT (fun c d H' => wE E c d σ H') (rF X.K) m2 H2 (forGo g s src k (i + 1) ρ S) (ofE D), fun σ2 H2 q => ⟨k, Nat.lt_succ_self k, q⟩, fun x H2 y => ?_⟩
        obtain ⟨rd, sr2, ex2⟩ := hy x H2 y
        have p2 := Post.later po ex2
        refine ⟨ρ', m', S', d, er'.ext sr' ex2, sr2, rd, p2.bind.imp fun σ3 H3 ⟨m3, S3, ρ3, ⟨er3, _⟩, sr3, ex3, p3⟩ => ⟨ρ3, m3, S3, er3, sr3, p3.bind.imp fun fv H4 ⟨m4, S4, fl, r, sr4, ex4, p4⟩ => ?_⟩⟩
        have ext := ((ex'.trans ex2).trans ex3).trans ex4
        cases fv with
        | nx σ4 => cases fl with
          | nx ρ4 => exact ⟨ρ4, m4, S4, r, sr4, ext, p4⟩
          | _ => exact r.elim
        | rt v => cases fl with
          | rt d => exact fin_rt (DD := D) p4 sr4 r
          | _ => exact r.elim
        | bk σ4 => cases fl with
          | bk ρ4 => exact fin_nx p4 sr4 r
          | _ => exact r.elim
        | ct σ4 => cases fl with
          | ct ρ4 => exact ⟨ρ4, m4, S4, r, sr4, ext, p4⟩
          | _ => exact r.elim
theorem s_for {tg iter : Expr} {body : List Stmt} {g : DT} {sf : DS} (hp : PassesOwn (model X.prog X.w) X.A X.env X.xe) (hc : X.calm = true) (hi : PI X tg iter (tI X.K CT (wE E) sf)) (hg : PG X tg (tTg X.K CT (wE E) own g)) (hb : PSs X body (tS X.K CT E s)) (hs : ∀ x, foldedSetIterable iter X.env x = pure x) :
    PS X (.For tg iter body [] pos) (tS X.K CT E (forS g sf s)) :=
  PS.imp (ps_for hp hc hi hg hb hs) fun D σ H hq => tG.mono (tG.first (rel := rI X.K) hq) fun J H1 ⟨ρ, m, S, src, rs, er, sr, p⟩ => for_go rs er sr p
end
end
end Den

/-! Den, part I: calls of built-ins. -/
namespace Den
open PySem PySem.Spec PyProof.Rows L2

/-! ### meanings -/
def optM {α β : Type} (o : Option α) (f : α → M β) : M β := match o with
  | some x => f x
  | none => fail
def lenD : List D → M D
  | [.p (.str z)] => guardM (decide (z.length ≤ sizeLine)) (ret (.int z.length))
  | [.ref l] => bnd (getL l) fun xs => ret (.int xs.length)
  | [.p (.list xs)] => ret (.int xs.length)
  | [d] => optM (tupItems d) fun xs => ret (.int xs.length)
  | _ => fail
def absD : List D → M D
  | [.p (.int i)] => ret (.int i.natAbs)
  | _ => fail
def intD : List D → M D
  | [.p (.int i)] => ret (.int i)
  | [.p (.bool b)] => ret (.int (if b then 1 else 0))
  | _ => fail
def maxD : List D → M D
  | [.p (.int i), .p (.int j)] => ret (.int (max i j))
  | _ => fail
def minD : List D → M D
  | [.p (.int i), .p (.int j)] => ret (.int (min i j))
  | _ => fail
/-- the greatest, the least of a row of ints -/
def maxL : List Int → Option Int
  | [] => none
  | i :: is => some (is.foldl max i)
def minL : List Int → Option Int
  | [] => none
  | i :: is => some (is.foldl min i)
def intsD (ds : List D) : Option (List Int) := (allP ds).bind intsOf
def maxF : List D → M D := fun ds => optM ((intsD ds).bind maxL) fun i => ret (.int i)
def minF : List D → M D := fun ds => optM ((intsD ds).bind minL) fun i => ret (.int i)
def sumF : List D → M D := fun ds => optM (intsD ds) fun is => ret (.int is.sum)
def boolsOf : List PyData → Option (List Bool)
  | [] => some []
  | .bool i :: r => match boolsOf r with
    | some is => some (i :: is)
    | none => none
  | _ :: _ => none
def boolsD (ds : List D) : Option (List Bool) := (allP ds).bind boolsOf
def allF : List D → M D := fun ds => optM (boolsD ds) fun bs => ret (.bl (bs.all id))
def anyF : List D → M D := fun ds => optM (boolsD ds) fun bs => ret (.bl (bs.any id))
/-- a built-in of one row, given a row that stands -/
def seqOp {α : Type} (g : List D → M α) : List D → M α
  | [d] => bnd (seqItems d) g
  | _ => fail
def lstOp {α : Type} (g : List D → M α) : List D → M α
  | [.ref l] => bnd (getL l) g
  | _ => fail
def lenF : List D → M D := fun ds => ret (.int ds.length)
def tupF : List D → M D := fun ds => ret (mkTup ds)
def lstF : List D → M (List D) := fun ds => ret ds
/-- repr -/
def reprP (x : PyData) : M D := guardM (PyData.showable x && !PyData.hasDict x && decide (PyData.depth x ≤ 60) && decide ((PyData.shown x).length ≤ sizeLine)) (ret (.str (PyData.shown x)))
def reprD : List D → M D
  | [d] => bnd (asPy d) reprP
  | _ => fail
def isort (is : List Int) : List Int := is.mergeSort fun a b => decide (a ≤ b)
def sortF : List D → M (List D) := fun ds => optM (intsD ds) fun is => ret ((isort is).map fun i => .int i)

/-! ### readings -/
def rBl {α : Type} (K : PySem.W.Frag) (CT : Nat → Value) (rel : Rel α V) (g : List D → M α) : List V → Hp → VK → Prop := fun vs H Q => ∃ (E : XK) (m : List Addr) (S : Sto) (ds : List D), DRs K m H vs ds ∧ SR K m H S ∧ Post K CT E rel m H (g ds S) Q
/-- .. given a list that was just made -/
def rFr {α : Type} (K : PySem.W.Frag) (CT : Nat → Value) (rel : Rel α V) (g : List D → M α) : List V → Hp → VK → Prop := fun xs H Q => ∃ (E : XK) (m : List Addr) (S : Sto) (p : Addr) (vs : List V) (ds : List D),
  xs = [.ref p] ∧ H p = some (.lst vs) ∧ p ∉ m ∧ vs.length ≤ sizeLine ∧ DRs K m H vs ds ∧ SR K m H S ∧ Post K CT E rel m H (g ds S) Q
section
variable {X : Cx} {CT : Nat → Value} {W : WX} {x : Str} {p pos : Pos} {e : Expr} {es : List Expr} {fs : List DE} {l : DL} {α : Type} {rel : Rel α V} {g : List D → M α} {id T : String}
theorem rd_bl {σ : L2.St} {H : Hp} {Q : VK} (hq : tG X.K CT W rel (fun ρ => bnd (argsS fs ρ) g) σ H Q) : tCB (rBl X.K CT rel g) (tL X.K CT W (argsS fs)) σ H Q :=
  tG.mono (tG.first (rel := rDs X.K) hq) fun vs H1 ⟨ρ, m, S, ds, rs, er, sr, p⟩ => ⟨_, m, S, ds, rs, sr, p⟩
theorem rd_fr {σ : L2.St} {H : Hp} {Q : VK} (hq : tG X.K CT W rel (fun ρ => bnd (l ρ) g) σ H Q) : tCB (rFr X.K CT rel g) (tCons (tN X.K CT W l) tNil) σ H Q :=
  tG.mono (tG.first (rel := rL X.K) hq) fun v H1 ⟨ρ, m, S, ds, ⟨p, vs, ev, _, hp, np, z, rs⟩, er, sr, po⟩ => ⟨_, m, S, p, vs, ds, by rw [ev], hp, np, z, rs, sr, po⟩
theorem s_bltB (hc : CallR X (.builtin id) (rBl X.K CT rel g)) (hg : Gl X x) (hm : X.mg x = none) (hv : bootBuiltins x = some (.builtin id)) (ha : PA X (e :: es) (tL X.K CT W (argsS fs))) (hn : x ≠ "__name__") (hdb : (x == ("__debug__" : Str)) = false)
    (he : starEach (e :: es) X.env = (false, eval e X.env) :: starEach es X.env) (hpl : (backTo pos (starEach es X.env)).any (·.1) = false) : PE X (.Call (.Name x p) (e :: es) [] pos) (tG X.K CT W rel fun ρ => bnd (argsS fs ρ) g) :=
  PE.imp (pe_callB hc hg hm hv ha hn hdb he hpl) fun σ H Q hq => rd_bl hq
theorem s_bltT (hc : CallR X (.type T) (rBl X.K CT rel g)) (hg : Gl X x) (hm : X.mg x = none) (hv : bootBuiltins x = some (.type T)) (ha : PA X (e :: es) (tL X.K CT W (argsS fs))) (hn : x ≠ "__name__") (hdb : (x == ("__debug__" : Str)) = false)
    (he : starEach (e :: es) X.env = (false, eval e X.env) :: starEach es X.env) (hpl : (backTo pos (starEach es X.env)).any (·.1) = false) : PE X (.Call (.Name x p) (e :: es) [] pos) (tG X.K CT W rel fun ρ => bnd (argsS fs ρ) g) :=
  PE.imp (pe_callTy hc hg hm hv ha hn hdb he hpl) fun σ H Q hq => rd_bl hq
theorem s_bltBF (hc : CallR X (.builtin id) (rFr X.K CT rel g)) (hg : Gl X x) (hm : X.mg x = none) (hv : bootBuiltins x = some (.builtin id)) (ha : PE X e (tN X.K CT W l)) (hn : x ≠ "__name__") (hdb : (x == ("__debug__" : Str)) = false)
    (he : starEach [e] X.env = [(false, eval e X.env)]) : PE X (.Call (.Name x p) [e] [] pos) (tG X.K CT W rel fun ρ => bnd (l ρ) g) :=
  PE.imp (pe_callB hc hg hm hv (pa_cons ha pa_nil he) hn hdb he rfl) fun σ H Q hq => rd_fr hq
theorem s_bltTF (hc : CallR X (.type T) (rFr X.K CT rel g)) (hg : Gl X x) (hm : X.mg x = none) (hv : bootBuiltins x = some (.type T)) (ha : PE X e (tN X.K CT W l)) (hn : x ≠ "__name__") (hdb : (x == ("__debug__" : Str)) = false)
    (he : starEach [e] X.env = [(false, eval e X.env)]) : PE X (.Call (.Name x p) [e] [] pos) (tG X.K CT W rel fun ρ => bnd (l ρ) g) :=
  PE.imp (pe_callTy hc hg hm hv (pa_cons ha pa_nil he) hn hdb he rfl) fun σ H Q hq => rd_fr hq
end

/-! ### the built-ins -/
section
variable {K : PySem.W.Frag} {m : List Addr} {H : Hp} {S : Sto} {E : XK} {CT : Nat → Value}
theorem DRs.one {vs : List V} {d : D} (h : DRs K m H vs [d]) : ∃ v, vs = [v] ∧ DR K m H v d := by
  cases h with | cons a t => cases t; exact ⟨_, rfl, a⟩
theorem DRs.two {vs : List V} {d e : D} (h : DRs K m H vs [d, e]) : ∃ v w, vs = [v, w] ∧ DR K m H v d ∧ DR K m H w e := by
  cases h with | cons a t => cases t with | cons b t => cases t; exact ⟨_, _, rfl, a, b⟩
theorem seqOp_inv {α β : Type} {rel : Rel α β} {g : List D → M α} {vs : List V} {ds : List D} {Q : β → Hp → Prop} (rs : DRs K m H vs ds) (sr : SR K m H S) (po : Post K CT E rel m H (seqOp g ds S) Q) :
    ∃ a ws xs, vs = [.ref a] ∧ (H a = some (.lst ws) ∨ SqT K H a ws) ∧ ws.length ≤ sizeLine ∧ DRs K m H ws xs ∧ Post K CT E rel m H (g xs S) Q := by
  match ds, rs with
  | [d], rs =>
    obtain ⟨v, rfl, r⟩ := rs.one
    obtain ⟨a, ws, xs, rfl, h⟩ := seqItems_inv sr r po
    exact ⟨a, ws, xs, rfl, h⟩
  | [], _ => exact po.elim
  | _ :: _ :: _, _ => exact po.elim
theorem lstOp_inv {α β : Type} {rel : Rel α β} {g : List D → M α} {vs : List V} {ds : List D} {Q : β → Hp → Prop} (rs : DRs K m H vs ds) (sr : SR K m H S) (po : Post K CT E rel m H (lstOp g ds S) Q) :
    ∃ a ws xs, vs = [.ref a] ∧ H a = some (.lst ws) ∧ ws.length ≤ sizeLine ∧ DRs K m H ws xs ∧ Post K CT E rel m H (g xs S) Q := by
  unfold lstOp at po
  split at po
  · obtain ⟨v, rfl, r⟩ := rs.one
    obtain ⟨a, rfl, ha⟩ := r.ref_inv
    obtain ⟨xs, e1, po⟩ := getL_inv (g := g) po
    obtain ⟨ws, h1, z, rr⟩ := sr.get ha e1
    exact ⟨a, ws, xs, rfl, h1, z, rr, po⟩
  · exact po.elim
theorem optM_inv {α β γ : Type} {rel : Rel α β} {o : Option γ} {f : γ → M α} {Q : β → Hp → Prop} (po : Post K CT E rel m H (optM o f S) Q) : ∃ x, o = some x ∧ Post K CT E rel m H (f x S) Q := by
  cases o with
  | none => exact po.elim
  | some x => exact ⟨x, rfl, po⟩
theorem ints_rel {ds : List D} {vs : List V} {is : List Int} (e : intsD ds = some is) (r : DRs K m H vs ds) : vs = is.map V.int := by
  unfold intsD at e
  cases e1 : allP ds with
  | none => rw [e1] at e; cases e
  | some xs =>
    rw [e1] at e
    rw [allP_rel e1] at r
    exact intsOf_rel e r.toP
theorem boolsOf_rel : ∀ {xs : List PyData} {is : List Bool} {vs : List V}, boolsOf xs = some is → RPs K H vs xs → vs = is.map V.bl
  | [], is, vs, h, r => by
    cases r
    simp [boolsOf] at h
    subst h
    rfl
  | .bool i :: xs, is, vs, h, r => by
    cases r with
    | cons a t =>
      simp only [boolsOf] at h
      cases e : boolsOf xs with
      | none => rw [e] at h; cases h
      | some js =>
        rw [e] at h
        cases h
        rw [a.bl_inv, boolsOf_rel e t]
        rfl
  | .none :: _, _, _, h, _ => by simp [boolsOf] at h
  | .int _ :: _, _, _, h, _ => by simp [boolsOf] at h
  | .str _ :: _, _, _, h, _ => by simp [boolsOf] at h
  | .list _ :: _, _, _, h, _ => by simp [boolsOf] at h
  | .tuple _ :: _, _, _, h, _ => by simp [boolsOf] at h
  | .dict _ :: _, _, _, h, _ => by simp [boolsOf] at h
theorem bools_rel {ds : List D} {vs : List V} {is : List Bool} (e : boolsD ds = some is) (r : DRs K m H vs ds) : vs = is.map V.bl := by
  unfold boolsD at e
  cases e1 : allP ds with
  | none => rw [e1] at e; cases e
  | some xs =>
    rw [e1] at e
    rw [allP_rel e1] at r
    exact boolsOf_rel e r.toP
end
section
variable {X : Cx} {CT : Nat → Value}
theorem b_len : CallR X (.builtin "len") (rBl X.K CT (rD X.K) lenD) := by
  intro pins s σ H xs us Q I r ⟨E, m, S, ds, rs, sr, po⟩
  unfold lenD at po
  split at po
  · obtain ⟨v, rfl, r1⟩ := rs.one
    obtain rfl := r1.p_inv.str_inv
    obtain ⟨g, po⟩ := po.guard
    exact call_len pins s σ H _ us Q I r ⟨_, _, rfl, ⟨of_decide_eq_true g, rfl⟩, po.ret sr (.p (.int _))⟩
  · obtain ⟨v, rfl, r1⟩ := rs.one
    obtain ⟨a, rfl, ha⟩ := r1.ref_inv
    obtain ⟨ys, e1, po⟩ := getL_inv po
    obtain ⟨ws, h1, z, rr⟩ := sr.get ha e1
    exact call_len pins s σ H _ us Q I r ⟨_, ws.length, rfl, .inl ⟨ws, SqL.of h1, rfl⟩, by rw [rr.length]; exact po.ret sr (.p (.int _))⟩
  · obtain ⟨v, rfl, r1⟩ := rs.one
    obtain ⟨a, ws, rfl, h1, z, rr⟩ := r1.p_inv.lst_inv
    exact call_len pins s σ H _ us Q I r ⟨_, ws.length, rfl, .inl ⟨ws, h1.sq, rfl⟩, by rw [rr.length]; exact po.ret sr (.p (.int _))⟩
  · obtain ⟨v, rfl, r1⟩ := rs.one
    obtain ⟨ys, e1, po⟩ := optM_inv po
    obtain ⟨a, ws, rfl, h1, z, rr⟩ := r1.items e1
    exact call_len pins s σ H _ us Q I r ⟨_, ws.length, rfl, .inr ⟨ws, h1, rfl⟩, by rw [rr.length]; exact po.ret sr (.p (.int _))⟩
  · exact po.elim
theorem b_lenF : CallR X (.builtin "len") (rFr X.K CT (rD X.K) lenF) := by
  intro pins s σ H xs us Q I r ⟨E, m, S, p, vs, ds, e1, hp, np, z, rs, sr, po⟩
  subst e1
  exact call_len pins s σ H _ us Q I r ⟨_, vs.length, rfl, .inl ⟨vs, SqL.of hp, rfl⟩, by rw [rs.length]; exact po.ret sr (.p (.int _))⟩
theorem b_abs : CallR X (.builtin "abs") (rBl X.K CT (rD X.K) absD) := by
  intro pins s σ H xs us Q I r ⟨E, m, S, ds, rs, sr, po⟩
  unfold absD at po
  split at po
  · rename_i i
    obtain ⟨v, rfl, r1⟩ := rs.one
    obtain rfl := r1.p_inv.int_inv
    refine call_abs pins s σ H _ us Q I r ⟨i, rfl, ?_⟩
    rw [show (if i < 0 then -i else i) = (i.natAbs : Int) by split <;> omega]
    exact po.ret sr (.p (.int _))
  · exact po.elim
theorem b_int : CallR X (.type "int") (rBl X.K CT (rD X.K) intD) := by
  intro pins s σ H xs us Q I r ⟨E, m, S, ds, rs, sr, po⟩
  unfold intD at po
  split at po
  · obtain ⟨v, rfl, r1⟩ := rs.one
    obtain rfl := r1.p_inv.int_inv
    exact call_int1 pins s σ H _ us Q I r (.inl ⟨_, rfl, po.ret sr (.p (.int _))⟩)
  · obtain ⟨v, rfl, r1⟩ := rs.one
    obtain rfl := r1.p_inv.bl_inv
    exact call_int1 pins s σ H _ us Q I r (.inr ⟨_, rfl, po.ret sr (.p (.int _))⟩)
  · exact po.elim
theorem b_max (hc : X.calm = true) : CallR X (.builtin "max") (rBl X.K CT (rD X.K) maxD) := by
  intro pins s σ H xs us Q I r ⟨E, m, S, ds, rs, sr, po⟩
  unfold maxD at po
  split at po
  · rename_i i j
    obtain ⟨v, w, rfl, r1, r2⟩ := rs.two
    obtain rfl := r1.p_inv.int_inv
    obtain rfl := r2.p_inv.int_inv
    refine call_max2 hc pins s σ H _ us Q I r ⟨i, j, rfl, ?_⟩
    rw [show (if j > i then j else i) = max i j by split <;> omega]
    exact po.ret sr (.p (.int _))
  · exact po.elim
theorem b_min (hc : X.calm = true) : CallR X (.builtin "min") (rBl X.K CT (rD X.K) minD) := by
  intro pins s σ H xs us Q I r ⟨E, m, S, ds, rs, sr, po⟩
  unfold minD at po
  split at po
  · rename_i i j
    obtain ⟨v, w, rfl, r1, r2⟩ := rs.two
    obtain rfl := r1.p_inv.int_inv
    obtain rfl := r2.p_inv.int_inv
    refine call_min2 hc pins s σ H _ us Q I r ⟨i, j, rfl, ?_⟩
    rw [show (if j < i then j else i) = min i j by split <;> omega]
    exact po.ret sr (.p (.int _))
  · exact po.elim
/-- a rule of a tracked list, of ints -/
theorem foldl_max : ∀ (l : List Int) (i m : Int), (m = i ∨ m ∈ l) → i ≤ m → (∀ y ∈ l, y ≤ m) → l.foldl max i = m
  | [], i, m, h, _, _ => by
    rcases h with h | h
    · exact h.symm
    · cases h
  | a :: l, i, m, h, h1, h2 => by
    rw [List.foldl_cons]
    refine foldl_max l (max i a) m ?_ (by have := h2 a (by simp); omega) fun y hy => h2 y (by simp [hy])
    rcases h with h | h
    · have := h2 a (by simp); left; omega
    · rcases List.mem_cons.mp h with h | h
      · left; omega
      · exact .inr h
theorem foldl_min : ∀ (l : List Int) (i m : Int), (m = i ∨ m ∈ l) → m ≤ i → (∀ y ∈ l, m ≤ y) → l.foldl min i = m
  | [], i, m, h, _, _ => by
    rcases h with h | h
    · exact h.symm
    · cases h
  | a :: l, i, m, h, h1, h2 => by
    rw [List.foldl_cons]
    refine foldl_min l (min i a) m ?_ (by have := h2 a (by simp); omega) fun y hy => h2 y (by simp [hy])
    rcases h with h | h
    · have := h2 a (by simp); left; omega
    · rcases List.mem_cons.mp h with h | h
      · left; omega
      · exact .inr h
theorem c_maxF (hc : X.calm = true) {pins : List (Addr × Obj)} {s : Shared} {σ : L2.St} {H : Hp} {us : List Value} {Q : VK} {E : XK} {m : List Addr} {S : Sto} {p : Addr} {vs : List V} {ds : List D} (I : Inv X pins σ H s) (r : Vals [.ref p] us) (hp : H p = some (.lst vs)) (rs : DRs X.K m H vs ds) (sr : SR X.K m H S) (po : Post X.K CT E (rD X.K) m H (maxF ds S) Q) :
    wpAny (model X.prog X.w) X.A (call (.builtin "max") us) (EP X pins σ Q) X.xe s := by
  obtain ⟨k0, e0, po⟩ := optM_inv po
  cases e1 : intsD ds with
  | none => rw [e1] at e0; cases e0
  | some il => cases il with
  | nil => rw [e1] at e0; cases e0
  | cons i is =>
    rw [e1] at e0
    cases e0
    refine cr_max hc pins s σ H _ us Q I r ⟨p, i :: is, rfl, by rw [← ints_rel e1 rs]; exact SqL.of hp, by simp, fun k hk h => ?_⟩
    rw [← foldl_max is i k (List.mem_cons.mp hk) (h i (by simp)) fun y hy => h y (by simp [hy])]
    exact po.ret sr (.p (.int _))
theorem c_minF (hc : X.calm = true) {pins : List (Addr × Obj)} {s : Shared} {σ : L2.St} {H : Hp} {us : List Value} {Q : VK} {E : XK} {m : List Addr} {S : Sto} {p : Addr} {vs : List V} {ds : List D} (I : Inv X pins σ H s) (r : Vals [.ref p] us) (hp : H p = some (.lst vs)) (rs : DRs X.K m H vs ds) (sr : SR X.K m H S) (po : Post X.K CT E (rD X.K) m H (minF ds S) Q) :
    wpAny (model X.prog X.w) X.A (call (.builtin "min") us) (EP X pins σ Q) X.xe s := by
  obtain ⟨k0, e0, po⟩ := optM_inv po
  cases e1 : intsD ds with
  | none => rw [e1] at e0; cases e0
  | some il => cases il with
  | nil => rw [e1] at e0; cases e0
  | cons i is =>
    rw [e1] at e0
    cases e0
    refine cr_min hc pins s σ H _ us Q I r ⟨p, i :: is, rfl, by rw [← ints_rel e1 rs]; exact SqL.of hp, by simp, fun k hk h => ?_⟩
    rw [← foldl_min is i k (List.mem_cons.mp hk) (h i (by simp)) fun y hy => h y (by simp [hy])]
    exact po.ret sr (.p (.int _))
theorem c_sumF (hc : X.calm = true) {pins : List (Addr × Obj)} {s : Shared} {σ : L2.St} {H : Hp} {us : List Value} {Q : VK} {E : XK} {m : List Addr} {S : Sto} {p : Addr} {vs : List V} {ds : List D} (I : Inv X pins σ H s) (r : Vals [.ref p] us) (hp : H p = some (.lst vs)) (rs : DRs X.K m H vs ds) (sr : SR X.K m H S) (po : Post X.K CT E (rD X.K) m H (sumF ds S) Q) :
    wpAny (model X.prog X.w) X.A (call (.builtin "sum") us) (EP X pins σ Q) X.xe s := by
  obtain ⟨is, e1, po⟩ := optM_inv po
  exact cr_sum hc pins s σ H _ us Q I r ⟨p, is, rfl, by rw [← ints_rel e1 rs]; exact SqL.of hp, po.ret sr (.p (.int _))⟩
theorem c_allF (hc : X.calm = true) {pins : List (Addr × Obj)} {s : Shared} {σ : L2.St} {H : Hp} {us : List Value} {Q : VK} {E : XK} {m : List Addr} {S : Sto} {p : Addr} {vs : List V} {ds : List D} (I : Inv X pins σ H s) (r : Vals [.ref p] us) (hp : H p = some (.lst vs)) (rs : DRs X.K m H vs ds) (sr : SR X.K m H S) (po : Post X.K CT E (rD X.K) m H (allF ds S) Q) :
    wpAny (model X.prog X.w) X.A (call (.builtin "all") us) (EP X pins σ Q) X.xe s := by
  obtain ⟨is, e1, po⟩ := optM_inv po
  exact cr_all hc pins s σ H _ us Q I r ⟨p, is, rfl, by rw [← bools_rel e1 rs]; exact SqL.of hp, po.ret sr (.p (.bl _))⟩
theorem c_anyF (hc : X.calm = true) {pins : List (Addr × Obj)} {s : Shared} {σ : L2.St} {H : Hp} {us : List Value} {Q : VK} {E : XK} {m : List Addr} {S : Sto} {p : Addr} {vs : List V} {ds : List D} (I : Inv X pins σ H s) (r : Vals [.ref p] us) (hp : H p = some (.lst vs)) (rs : DRs X.K m H vs ds) (sr : SR X.K m H S) (po : Post X.K CT E (rD X.K) m H (anyF ds S) Q) :
    wpAny (model X.prog X.w) X.A (call (.builtin "any") us) (EP X pins σ Q) X.xe s := by
  obtain ⟨is, e1, po⟩ := optM_inv po
  exact cr_any hc pins s σ H _ us Q I r ⟨p, is, rfl, by rw [← bools_rel e1 rs]; exact SqL.of hp, po.ret sr (.p (.bl _))⟩
/-- a rule of a list, as one of a list that was just made, of a list that stands -/
def LRule (X : Cx) (CT : Nat → Value) {α : Type} (rel : Rel α V) (f : Value) (g : List D → M α) : Prop :=
  ∀ {pins : List (Addr × Obj)} {s : Shared} {σ : L2.St} {H : Hp} {us : List Value} {Q : VK} {E : XK} {m : List Addr} {S : Sto} {p : Addr} {vs : List V} {ds : List D}, Inv X pins σ H s → Vals [.ref p] us → H p = some (.lst vs) → vs.length ≤ sizeLine → DRs X.K m H vs ds → SR X.K m H S → Post X.K CT E rel m H (g ds S) Q →
    wpAny (model X.prog X.w) X.A (call f us) (EP X pins σ Q) X.xe s
theorem LRule.fr {α : Type} {rel : Rel α V} {f : Value} {g : List D → M α} (h : LRule X CT rel f g) : CallR X f (rFr X.K CT rel g) := by
  intro pins s σ H xs us Q I r ⟨E, m, S, p, vs, ds, e1, hp, np, z, rs, sr, po⟩
  subst e1
  exact h I r hp z rs sr po
theorem LRule.ls {α : Type} {rel : Rel α V} {f : Value} {g : List D → M α} (h : LRule X CT rel f g) : CallR X f (rBl X.K CT rel (lstOp g)) := by
  intro pins s σ H xs us Q I r ⟨E, m, S, ds, rs, sr, po⟩
  obtain ⟨a, ws, ys, rfl, h1, z, rr, po⟩ := lstOp_inv rs sr po
  exact h I r h1 z rr sr po
def TRule (X : Cx) (CT : Nat → Value) {α : Type} (rel : Rel α V) (f : Value) (g : List D → M α) : Prop :=
  ∀ {pins : List (Addr × Obj)} {s : Shared} {σ : L2.St} {H : Hp} {us : List Value} {Q : VK} {E : XK} {m : List Addr} {S : Sto} {p : Addr} {vs : List V} {ds : List D}, Inv X pins σ H s → Vals [.ref p] us → SqT X.K H p vs → vs.length ≤ sizeLine → DRs X.K m H vs ds → SR X.K m H S → Post X.K CT E rel m H (g ds S) Q →
    wpAny (model X.prog X.w) X.A (call f us) (EP X pins σ Q) X.xe s
/-- of lists and of tuples -/
theorem LRule.sq {α : Type} {rel : Rel α V} {f : Value} {g : List D → M α} (h : LRule X CT rel f g) (h2 : TRule X CT rel f g) : CallR X f (rBl X.K CT rel (seqOp g)) := by
  intro pins s σ H xs us Q I r ⟨E, m, S, ds, rs, sr, po⟩
  obtain ⟨a, ws, ys, rfl, h1, z, rr, po⟩ := seqOp_inv rs sr po
  rcases h1 with h1 | h1
  · exact h I r h1 z rr sr po
  · exact h2 I r h1 z rr sr po
theorem l_sum (hc : X.calm = true) : LRule X CT (rD X.K) (.builtin "sum") sumF := fun I r hp z rs sr po => c_sumF hc I r hp rs sr po
theorem l_all (hc : X.calm = true) : LRule X CT (rD X.K) (.builtin "all") allF := fun I r hp z rs sr po => c_allF hc I r hp rs sr po
theorem l_any (hc : X.calm = true) : LRule X CT (rD X.K) (.builtin "any") anyF := fun I r hp z rs sr po => c_anyF hc I r hp rs sr po
theorem l_max (hc : X.calm = true) : LRule X CT (rD X.K) (.builtin "max") maxF := fun I r hp z rs sr po => c_maxF hc I r hp rs sr po
theorem l_min (hc : X.calm = true) : LRule X CT (rD X.K) (.builtin "min") minF := fun I r hp z rs sr po => c_minF hc I r hp rs sr po
theorem l_tup : LRule X CT (rD X.K) (.type "tuple") tupF := by
  intro pins s σ H us Q E m S p vs ds I r hp z rs sr po
  refine call_tuple_of pins s σ H _ us Q I r ⟨p, vs, rfl, .inl ⟨SqL.of hp, fun q nq => ?_⟩⟩
  exact po _ m _ (DR.mk (SqT.of upd_same) z (rs.ext sr (ext_new nq))) (sr.new nq) (ext_new nq)
theorem t_tup : TRule X CT (rD X.K) (.type "tuple") tupF := by
  intro pins s σ H us Q E m S p vs ds I r hp z rs sr po
  refine call_tuple_of pins s σ H _ us Q I r ⟨p, vs, rfl, .inr ⟨hp, ?_⟩⟩
  exact po.ret sr (DR.mk hp z rs)
theorem l_lst : LRule X CT (rL X.K) (.type "list") lstF := by
  intro pins s σ H us Q E m S p vs ds I r hp z rs sr po
  refine call_list_of pins s σ H _ us Q I r ⟨p, vs, rfl, .inl (SqL.of hp), fun q nq => ?_⟩
  exact po _ m _ ⟨q, vs, rfl, nq, upd_same, sr.fresh nq, z, rs.ext sr (ext_new nq)⟩ (sr.new nq) (ext_new nq)
theorem t_lst : TRule X CT (rL X.K) (.type "list") lstF := by
  intro pins s σ H us Q E m S p vs ds I r hp z rs sr po
  refine call_list_of pins s σ H _ us Q I r ⟨p, vs, rfl, .inr hp, fun q nq => ?_⟩
  exact po _ m _ ⟨q, vs, rfl, nq, upd_same, sr.fresh nq, z, rs.ext sr (ext_new nq)⟩ (sr.new nq) (ext_new nq)
theorem isort_eq {is js : List Int} (h1 : js.Perm is) (h2 : js.Pairwise (· ≤ ·)) : isort is = js := by
  have h3 : (isort is).Perm js := (List.mergeSort_perm _ _).trans h1.symm
  have h4 : (isort is).Pairwise fun a b => decide (a ≤ b) = true := List.pairwise_mergeSort (fun a b c x y => by simp at *; omega) (fun a b => by simp; omega) is
  have h5 : (isort is).Pairwise (· ≤ ·) := h4.imp fun h => of_decide_eq_true h
  exact h3.eq_of_pairwise (fun a b _ _ x y => Int.le_antisymm x y) h5 h2
theorem drs_ints {K : PySem.W.Frag} {m : List Addr} {H : Hp} : ∀ is : List Int, DRs K m H (is.map V.int) (is.map fun i => D.int i)
  | [] => .nil
  | i :: is => .cons (.p (.int i)) (drs_ints is)
theorem l_sort : LRule X CT (rL X.K) (.builtin "sorted") sortF := by
  intro pins s σ H us Q E m S p vs ds I r hp z rs sr po
  obtain ⟨is, e1, po⟩ := optM_inv po
  have ev := ints_rel e1 rs
  refine cr_sortedI pins s σ H _ us Q I r ⟨p, is, rfl, by rw [← ev]; exact SqL.of hp, fun js q h1 h2 nq => ?_⟩
  rw [isort_eq h1 h2] at po
  refine po _ m _ ⟨q, js.map V.int, rfl, nq, upd_same, sr.fresh nq, ?_, drs_ints js⟩ (sr.new nq) (ext_new nq)
  rw [ev] at z
  simpa [h1.length_eq] using z
end
end Den

/-! Den, part J: subscripts, cuts, stores, methods, parallel assignment, comprehensions. -/
namespace Den
open PySem PySem.Spec PyProof.Rows L2

/-! ### subscripts -/
section
variable {K : PySem.W.Frag} {CT : Nat → Value} {E : XK} {m : List Addr} {H : Hp} {S : Sto}
theorem at_get {α : Type} {xs : List α} {vs : List V} {i : Int} {x : α} (hl : vs.length = xs.length) (e : ((L2.ixN xs.length i).bind fun j => xs[j]?) = some x) : ∃ (j : Nat) (v : V), xs[j]? = some x ∧ vs[j]? = some v ∧ atI vs i = some v := by
  cases e1 : L2.ixN xs.length i with
  | none => rw [e1] at e; cases e
  | some j =>
    rw [e1] at e
    have e2 : xs[j]? = some x := e
    have hj : j < vs.length := by rw [hl]; exact (List.getElem?_eq_some_iff.mp e2).1
    exact ⟨j, vs[j], e2, List.getElem?_eq_getElem hj, by unfold atI; rw [hl, e1]; exact List.getElem?_eq_getElem hj⟩
theorem RPs.at_ : ∀ {vs : List V} {xs : List PyData}, RPs K H vs xs → ∀ {j : Nat} {v : V} {x : PyData}, xs[j]? = some x → vs[j]? = some v → RP K H v x
  | _, _, .cons h _, 0, _, _, e, f => by
    simp at e f; subst e f; exact h
  | _, _, .cons _ r, j + 1, _, _, e, f => RPs.at_ r (j := j) (by simpa using e) (by simpa using f)
theorem DRs.at_ : ∀ {vs : List V} {xs : List D}, DRs K m H vs xs → ∀ {j : Nat} {v : V} {x : D}, xs[j]? = some x → vs[j]? = some v → DR K m H v x
  | _, _, .cons h _, 0, _, _, e, f => by
    simp at e f; subst e f; exact h
  | _, _, .cons _ r, j + 1, _, _, e, f => DRs.at_ r (j := j) (by simpa using e) (by simpa using f)
theorem sub_rd {x y : V} {a b : D} {Q : VK} (ra : DR K m H x a) (rb : DR K m H y b) (sr : SR K m H S) (po : Post K CT E (rD K) m H (subItem a b S) Q) : rIx K x y H Q := by
  unfold subItem at po
  split at po
  · rename_i xs i
    obtain ⟨p, vs, rfl, h1, z, r⟩ := ra.p_inv.tup_inv
    obtain rfl := rb.p_inv.int_inv
    cases e : (L2.ixN xs.length i).bind fun j => xs[j]? with
    | none => rw [e] at po; exact po.elim
    | some u =>
      rw [e] at po
      obtain ⟨j, v, e1, e2, e3⟩ := at_get r.length e
      exact .inr (.inl ⟨p, vs, i, v, rfl, rfl, h1, e3, Post.ret po sr (.p (r.at_ e1 e2))⟩)
  · rename_i xs i
    obtain ⟨p, vs, rfl, h1, z, r⟩ := ra.p_inv.lst_inv
    obtain rfl := rb.p_inv.int_inv
    cases e : (L2.ixN xs.length i).bind fun j => xs[j]? with
    | none => rw [e] at po; exact po.elim
    | some u =>
      rw [e] at po
      obtain ⟨j, v, e1, e2, e3⟩ := at_get r.length e
      exact .inl ⟨p, vs, i, v, rfl, rfl, h1.sq, e3, Post.ret po sr (.p (r.at_ e1 e2))⟩
  · rename_i xs i
    obtain ⟨p, vs, rfl, h1, z, r⟩ := ra.items (ds := xs) rfl
    obtain rfl := rb.p_inv.int_inv
    cases e : (L2.ixN xs.length i).bind fun j => xs[j]? with
    | none => rw [e] at po; exact po.elim
    | some u =>
      rw [e] at po
      obtain ⟨j, v, e1, e2, e3⟩ := at_get r.length e
      exact .inr (.inl ⟨p, vs, i, v, rfl, rfl, h1, e3, Post.ret po sr (r.at_ e1 e2)⟩)
  · rename_i z i
    obtain rfl := ra.p_inv.str_inv
    obtain rfl := rb.p_inv.int_inv
    obtain ⟨g, po⟩ := Post.guard po
    cases e : (L2.ixN z.cps.toList.length i).bind fun j => z.cps.toList[j]? with
    | none => rw [e] at po; exact po.elim
    | some u =>
      rw [e] at po
      exact .inr (.inr ⟨z, i, u, rfl, rfl, of_decide_eq_true g, e, Post.ret po sr (.p (.str _))⟩)
  · rename_i l i
    obtain ⟨p, rfl, hp⟩ := ra.ref_inv
    obtain rfl := rb.p_inv.int_inv
    cases e0 : S.objs[l]? with
    | none => rw [e0] at po; exact po.elim
    | some o =>
      rw [e0] at po
      cases o with
      | dic _ => exact po.elim
      | gone => exact po.elim
      | lst xs =>
        obtain ⟨vs, h1, z, r⟩ := sr.get hp e0
        dsimp only at po
        cases e : (L2.ixN xs.length i).bind fun j => xs[j]? with
        | none => rw [e] at po; exact po.elim
        | some u =>
          rw [e] at po
          obtain ⟨j, v, e1, e2, e3⟩ := at_get r.length e
          exact .inl ⟨p, vs, i, v, rfl, rfl, SqL.of h1, e3, po _ _ _ (r.at_ e1 e2) sr Ext.refl⟩
  · exact po.elim
end
section
variable {X : Cx} {CT : Nat → Value} {W : WX} {a b : Expr} {f g : DE} {pos p2 : Pos}
theorem ix_den : IxR X (rS X.K CT subItem) := fun value slice pins s σ H x y v u Q I rx ry ⟨E, m, S, a, b, ra, rb, sr, po⟩ hs =>
  ix_seq value slice pins s σ H x y v u Q I rx ry (sub_rd ra rb sr po) hs
theorem s_sub (ha : PE X a (tE X.K CT W f)) (hb : PE X b (tE X.K CT W g)) (hs : PlainIx b) : PE X (.Subscript a b pos) (tE X.K CT W (subS f g)) :=
  PE.imp (pe_ix (ix_den (CT := CT)) ha hb hs) fun σ H Q hq => tG.mono (two hq) fun x H1 q => tG.mono q fun y H2 ⟨ρ, m, S, d, e, er, sr, r1, r2, p⟩ => ⟨_, m, S, d, e, r1, r2, sr, p⟩

/-! ### cuts -/
def rC (K : PySem.W.Frag) (CT : Nat → Value) {α : Type} (rel : Rel α V) (g : D → Option Int → Option Int → M α) : V → Option Int → Option Int → Hp → VK → Prop := fun x lo hi H Q => ∃ (E : XK) (m : List Addr) (S : Sto) (a : D), DR K m H x a ∧ SR K m H S ∧ Post K CT E rel m H (g a lo hi S) Q
theorem cut_whole {α : Type} {xs : List α} {lo hi : Option Int} (h : HT.sIx xs.length 0 lo = 0 ∧ HT.sIx xs.length xs.length hi = xs.length) : cutL xs lo hi = xs := by
  unfold cutL
  rw [h.1, h.2, List.drop_zero, Nat.sub_zero, List.take_length]
theorem cutV_cut (vs : List V) (lo hi : Option Int) : cutV vs lo hi = cutL vs lo hi := rfl
theorem drs_cut {K : PySem.W.Frag} {m : List Addr} {H : Hp} {vs : List V} {ds : List D} (r : DRs K m H vs ds) (lo hi : Option Int) : DRs K m H (cutL vs lo hi) (cutL ds lo hi) := by
  unfold cutL
  rw [r.length]
  exact (r.drop _).take _
theorem cutL_le {α : Type} (xs : List α) (lo hi : Option Int) : (cutL xs lo hi).length ≤ xs.length := by
  unfold cutL
  rw [List.length_take, List.length_drop]
  omega
theorem mkTup_p (xs : List PyData) : mkTup (xs.map D.p) = .p (.tuple xs) := mkTup_map xs
/-- a cut of a list, as one that was just made -/
def cutDL (d : D) (lo hi : Option Int) : M (List D) := match d with
  | .ref l => bnd (getL l) fun xs => ret (cutL xs lo hi)
  | .p (.list xs) => ret (cutL (xs.map D.p) lo hi)
  | _ => fail
theorem tup_cut {K : PySem.W.Frag} {m : List Addr} {H : Hp} {S : Sto} {E : XK} {a : Addr} {vs : List V} {ds : List D} {lo hi : Option Int} {Q : VK} (h1 : SqT K H a vs) (z : vs.length ≤ sizeLine) (r : DRs K m H vs ds) (sr : SR K m H S)
    (po : Post K CT E (rD K) m H (ret (mkTup (cutL ds lo hi)) S) Q) : rSlA K (.ref a) lo hi H Q := by
  refine ⟨a, vs, rfl, h1, fun w => ?_, fun _ q nq => ?_⟩
  · have e := drs_cut r lo hi
    rw [cut_whole w] at e
    exact po.ret sr (DR.mk h1 z e)
  · exact po _ m _ (DR.mk (SqT.of upd_same) (Nat.le_trans (cutL_le _ _ _) z) ((drs_cut r lo hi).ext sr (ext_new nq))) (sr.new nq) (ext_new nq)
theorem cutL_map {α β : Type} (f : α → β) (xs : List α) (lo hi : Option Int) : cutL (xs.map f) lo hi = (cutL xs lo hi).map f := by
  unfold cutL
  rw [List.length_map, List.map_take, List.map_drop]
theorem sl_den : SlR X (rC X.K CT (rD X.K) cutD) := by
  intro pins s σ H x v vl vu lo hi sl Q I rx hs pl pu ⟨E, m, S, a, ra, sr, po⟩
  unfold cutD at po
  split at po
  · rename_i xs
    obtain ⟨p, vs, rfl, h1, z, r⟩ := ra.p_inv.tup_inv
    refine sl_tupA pins s σ H _ v vl vu lo hi sl Q I rx hs pl pu (tup_cut h1 z r.toD sr (E := E) (CT := CT) ?_)
    rw [cutL_map, mkTup_map]
    exact po
  · rename_i xs
    obtain ⟨p, vs, rfl, h1, z, r⟩ := ra.items (ds := xs) rfl
    exact sl_tupA pins s σ H _ v vl vu lo hi sl Q I rx hs pl pu (tup_cut h1 z r sr po)
  · rename_i l
    obtain ⟨p, rfl, hp⟩ := ra.ref_inv
    obtain ⟨xs, e, po⟩ := getL_inv po
    obtain ⟨vs, h1, z, r⟩ := sr.get hp e
    refine sl_list pins s σ H _ v vl vu lo hi sl Q I rx hs pl pu ⟨p, vs, rfl, SqL.of h1, fun q nq => ?_⟩
    exact Post.push po (sr.pushL nq (Nat.le_trans (cutL_le _ _ _) z) (drs_cut r lo hi)) nq sr.len
  · rename_i z
    obtain rfl := ra.p_inv.str_inv
    obtain ⟨g, po⟩ := Post.guard po
    exact sl_str pins s σ H _ v vl vu lo hi sl Q I rx hs pl pu ⟨z, rfl, of_decide_eq_true g, po.ret sr (.p (.str _))⟩
  · exact po.elim
theorem sl_denL : SlR X (rC X.K CT (rL X.K) cutDL) := by
  intro pins s σ H x v vl vu lo hi sl Q I rx hs pl pu ⟨E, m, S, a, ra, sr, po⟩
  unfold cutDL at po
  split at po
  · rename_i l
    obtain ⟨p, rfl, hp⟩ := ra.ref_inv
    obtain ⟨xs, e, po⟩ := getL_inv po
    obtain ⟨vs, h1, z, r⟩ := sr.get hp e
    refine sl_list pins s σ H _ v vl vu lo hi sl Q I rx hs pl pu ⟨p, vs, rfl, SqL.of h1, fun q nq => ?_⟩
    exact po _ m _ ⟨q, cutL vs lo hi, rfl, nq, upd_same, sr.fresh nq, Nat.le_trans (cutL_le _ _ _) z, (drs_cut r lo hi).ext sr (ext_new nq)⟩ (sr.new nq) (ext_new nq)
  · rename_i xs
    obtain ⟨p, vs, rfl, h1, z, r⟩ := ra.p_inv.lst_inv
    refine sl_list pins s σ H _ v vl vu lo hi sl Q I rx hs pl pu ⟨p, vs, rfl, h1.sq, fun q nq => ?_⟩
    exact po _ m _ ⟨q, cutL vs lo hi, rfl, nq, upd_same, sr.fresh nq, Nat.le_trans (cutL_le _ _ _) z, (drs_cut r.toD lo hi).ext sr (ext_new nq)⟩ (sr.new nq) (ext_new nq)
  · exact po.elim
def cutG {α : Type} (c : D → Option Int → Option Int → M α) (f : DE) (lo hi : Option DE) : Rho → M α := fun ρ => bnd (f ρ) fun a => bnd (bnd (optS lo ρ) partI) fun l => bnd (bnd (optS hi ρ) partI) fun h => c a l h
abbrev rO : Rel (Option Int) (Option Int) := ⟨fun _ _ _ b c => b = c, fun _ h => h⟩
theorem partI_inv {K : PySem.W.Frag} {CT : Nat → Value} {E : XK} {m : List Addr} {H : Hp} {S : Sto} {d : D} {Q : Option Int → Hp → Prop} (po : Post K CT E rO m H (partI (some d) S) Q) : ∃ i, d = .int i ∧ Post K CT E rO m H (ret (some i) S) Q := by
  cases d with
  | p x => cases x with
    | int i => exact ⟨i, rfl, po⟩
    | _ => exact po.elim
  | _ => exact po.elim
/-- the bounds -/
def Bd (X : Cx) (CT : Nat → Value) (W : WX) (e : Option Expr) (f : Option DE) : Prop := ∃ t, PO X e t ∧ ∀ σ H Q, tG X.K CT W rO (fun ρ => bnd (optS f ρ) partI) σ H Q → t σ H Q
theorem bd_none : Bd X CT W none none := ⟨_, po_none, fun σ H Q ⟨ρ, m, S, er, sr, po⟩ => Post.ret (rel := rO) (a := none) po sr rfl⟩
theorem bd_some (ha : PE X a (tE X.K CT W f)) : Bd X CT W (some a) (some f) := ⟨_, po_some ha, fun σ H Q ⟨ρ, m, S, er, sr, po⟩ => by
  have hq : tG X.K CT W rO (fun ρ => bnd (f ρ) fun d => partI (some d)) σ H Q := ⟨ρ, m, S, er, sr, by
    have e : bnd (optS (some f) ρ) partI = bnd (f ρ) fun d => partI (some d) := by unfold optS; rw [bnd_assoc]; rfl
    show Post X.K CT _ rO m H (bnd (f ρ) (fun d => partI (some d)) S) Q
    rw [← e]
    exact po⟩
  refine tG.mono (tG.first (rel := rD X.K) hq) fun x H1 ⟨ρ, m, S, d, r, er, sr, p⟩ => ?_
  obtain ⟨i, rfl, p⟩ := partI_inv p
  exact ⟨i, r.p_inv.int_inv, Post.ret (rel := rO) p sr rfl⟩⟩
theorem s_cutG {α : Type} {rel : Rel α V} {c : D → Option Int → Option Int → M α} {lo hi : Option Expr} {fl fh : Option DE} (hc : SlR X (rC X.K CT rel c)) (ha : PE X a (tE X.K CT W f)) (hl : Bd X CT W lo fl) (hh : Bd X CT W hi fh) :
    PE X (.Subscript a (.Slice lo hi none p2) pos) (tG X.K CT W rel (cutG c f fl fh)) := by
  obtain ⟨t1, h1, r1⟩ := hl
  obtain ⟨t2, h2, r2⟩ := hh
  refine PE.imp (pe_slice hc ha h1 h2) fun σ H Q hq => tG.mono (tG.first (rel := rD X.K) hq) fun x H1 ⟨ρ, m, S, d, r, er, sr, p⟩ => r1 _ _ _ ?_
  refine tG.mono (Post.next (rel := rO) er sr p) fun l H2 ⟨m2, S2, l', e2, sr2, ex2, p2⟩ => r2 _ _ _ ?_
  obtain rfl : l = l' := e2
  refine tG.mono (Post.next (rel := rO) (er.ext sr ex2) sr2 p2) fun u H3 ⟨m3, S3, u', e3, sr3, ex3, p3⟩ => ?_
  obtain rfl : u = u' := e3
  exact ⟨_, m3, S3, d, (r.ext sr ex2).ext sr2 ex3, sr3, p3⟩
end
end Den

/-! Den, part K: repr, isinstance, lists of a range, stores, methods, parallel assignment. -/
namespace Den
open PySem PySem.Spec PyProof.Rows L2

/-! ### repr -/
section
variable {X : Cx} {CT : Nat → Value} {k : Nat}
theorem room_unit (hr : Room k X.A) : X.A.units + 199 < cLine := by have := hr.un; omega
theorem repr_run (hr : Room k X.A) (hgd : X.A.guards = some []) {pins : List (Addr × Obj)} {s : Shared} {σ : L2.St} {H : Hp} {v : V} {us : List Value} {x : PyData} {Q : VK} (I : Inv X pins σ H s) (r : Vals [v] us) (d : Dp X.K H v x)
    (g : (PyData.showable x && !PyData.hasDict x && decide (PyData.depth x ≤ 60) && decide ((PyData.shown x).length ≤ sizeLine)) = true) (q : Q (.str (PyData.shown x)) H) :
    wpAny (model X.prog X.w) X.A (call (.builtin "repr") us) (EP X pins σ Q) X.xe s := by
  simp only [Bool.and_eq_true, Bool.not_eq_true', decide_eq_true_eq] at g
  obtain ⟨⟨⟨g1, g2⟩, g3⟩, g4⟩ := g
  obtain ⟨u, rfl, rv⟩ := vals1 r
  have hu := room_unit hr
  cases d with
  | non =>
    cases (show u = Value.none from rv)
    exact PySem.P.repr_of_none ⟨.str _, H, I.tok _, ⟨_, rfl⟩, by simpa only [PyData.shown] using q⟩
  | bl b =>
    cases (show u = Value.bool b from rv)
    exact PySem.P.repr_of_bool ⟨.str _, H, I.tok _, ⟨_, rfl⟩, by simpa only [PyData.shown] using q⟩
  | int i =>
    obtain ⟨t, rfl⟩ := rv
    simp only [PyData.showable, decide_eq_true_eq] at g1
    exact PySem.P.repr_of_int g1 ⟨.str _, H, I.tok _, ⟨_, rfl⟩, by simpa only [PyData.shown] using q⟩
  | str z =>
    obtain ⟨t, rfl⟩ := rv
    simp only [PyData.shown] at g4
    exact PySem.P.repr_of_str (hsz := g4) ⟨.str _, H, I.tok _, ⟨_, rfl⟩, by simpa only [PyData.shown] using q⟩
  | lst hs ha =>
    rename_i a xs ds
    obtain rfl : u = Value.ref a := rv
    obtain ⟨as, rd⟩ := Dp.reads I (.list ds) (.ref a) (.ref a) (.lst hs ha) rfl
    exact repr_of_reads' rd g1 (fun z => by rw [g2] at z; cases z) hgd (by omega) (fun _ _ e => e) (fun h' u tk hk => ⟨.str _, H, I.kept (t' := tk) hk, ⟨_, rfl⟩, q⟩) g4
  | tup hs ha =>
    rename_i a xs ds
    obtain rfl : u = Value.ref a := rv
    obtain ⟨as, rd⟩ := Dp.reads I (.tuple ds) (.ref a) (.ref a) (.tup hs ha) rfl
    exact repr_of_reads' rd g1 (fun z => by rw [g2] at z; cases z) hgd (by omega) (fun _ _ e => e) (fun h' u tk hk => ⟨.str _, H, I.kept (t' := tk) hk, ⟨_, rfl⟩, q⟩) g4
theorem b_repr (hr : Room k X.A) (hgd : X.A.guards = some []) : CallR X (.builtin "repr") (rBl X.K CT (rD X.K) reprD) := by
  intro pins s σ H xs us Q I r ⟨E, m, S, ds, rs, sr, po⟩
  unfold reprD at po
  split at po
  · obtain ⟨v, rfl, r1⟩ := rs.one
    obtain ⟨x, dx, _, po⟩ := asPy_inv sr r1 po
    obtain ⟨g, po⟩ := Post.guard (f := (ret (D.str (PyData.shown x)) : M D)) po
    exact repr_run hr hgd I r dx g (po.ret sr (.p (.str _)))
  · exact po.elim
/-- of a list that was just made: its items, told -/
def reprF : List D → M D := fun ds S => match toPyAll (toPy S.objs 39) ds with
  | some xs => reprP (.list xs) S
  | none => .bad
theorem f_repr (hr : Room k X.A) (hgd : X.A.guards = some []) : CallR X (.builtin "repr") (rFr X.K CT (rD X.K) reprF) := by
  intro pins s σ H xs us Q I r ⟨E, m, S, p, vs, ds, e1, hp, np, z, rs, sr, po⟩
  subst e1
  unfold reprF at po
  cases e2 : toPyAll (toPy S.objs 39) ds with
  | none => rw [e2] at po; exact po.elim
  | some ys =>
    rw [e2] at po
    obtain ⟨g, po⟩ := Post.guard (f := (ret (D.str (PyData.shown (.list ys))) : M D)) po
    exact repr_run hr hgd I r (.lst (SqL.of hp) (toPyAll_ok (toPy_ok sr 39) rs e2)) g (po.ret sr (.p (.str _)))
end

/-! ### isinstance -/
def tyP : PyData → String
  | .none => "NoneType"
  | .bool _ => "bool"
  | .int _ => "int"
  | .str _ => "str"
  | .list _ => "list"
  | .tuple _ => "tuple"
  | .dict _ => "dict"
def tyD (S : List O) : D → Option String
  | .p (.dict _) => none
  | .p x => some (tyP x)
  | .tup _ => some "tuple"
  | .ref l => match S[l]? with
    | some (.lst _) => some "list"
    | some (.dic _) => some "dict"
    | _ => none
def isiD (T : String) (d : D) : M D := fun S => match (tyD S.objs d).bind fun t => kitB t T with
  | some b => .ok (.bl b) S
  | none => .bad
section
variable {X : Cx} {CT : Nat → Value} {W : WX} {e : Expr} {f : DE} {p p2 pos : Pos} {T : String} {x : Str}
theorem sqT_ty {K : PySem.W.Frag} {H : Hp} {a : Addr} {vs : List V} (h : SqT K H a vs) : TyX K H (.ref a) (.type "tuple") := by
  rcases h with (h | ⟨o, h⟩) | ⟨o, its, n, h, c, _⟩
  · exact .base (.tup h)
  · exact .fTuple h
  · exact .kTuple h c
theorem tyD_ok {K : PySem.W.Frag} {m : List Addr} {H : Hp} {S : Sto} {v : V} {d : D} {t : String} (r : DR K m H v d) (sr : SR K m H S) (e : tyD S.objs d = some t) : TyX K H v (.type t) := by
  cases r with
  | p h =>
    cases h with
    | non => cases e; exact .base .non
    | bl b => cases e; exact .base (.bl b)
    | int b => cases e; exact .base (.int b)
    | str b => cases e; exact .base (.str b)
    | tup h1 _ _ => cases e; exact sqT_ty h1
    | flst h1 _ _ =>
      cases e
      rcases h1 with ⟨o, h1⟩ | ⟨o, its, n, h1, c, _⟩
      · exact .base (.frz h1)
      · exact .kList h1 c
  | tup h1 _ _ => cases e; exact sqT_ty h1
  | ref h =>
    rename_i a l
    simp only [tyD] at e
    cases e1 : S.objs[l]? with
    | none => rw [e1] at e; cases e
    | some o =>
      rw [e1] at e
      cases o with
      | lst xs => cases e; obtain ⟨vs, h1, _⟩ := sr.get h e1; exact .base (.lst h1)
      | dic xs => cases e; obtain ⟨vs, h1, _⟩ := sr.getD h e1; exact .base (.dK h1)
      | gone => cases e
theorem s_isi (hg : Gl X "isinstance") (hm : X.mg "isinstance" = none) (ha : PE X e (tE X.K CT W f)) (ht : PE X (.Name x p2) (tC (.ty T))) (he : starEach [e, .Name x p2] X.env = (false, eval e X.env) :: starEach [.Name x p2] X.env) :
    PE X (.Call (.Name "isinstance" p) [e, .Name x p2] [] pos) (tE X.K CT W fun ρ => bnd (f ρ) (isiD T)) :=
  PE.imp (pe_callB call_isi hg hm PyProof.Rows.boot_isinstance (pa_cons ha (pa_cons ht pa_nil rfl) he) (by decide) (by decide) he rfl) fun σ H Q hq => tG.mono (tG.first (rel := rD X.K) hq) fun x H1 ⟨ρ, m, S, d, r, er, sr, po⟩ => by
    unfold isiD at po
    cases e1 : tyD S.objs d with
    | none => rw [e1] at po; exact po.elim
    | some t =>
      rw [e1] at po
      cases e2 : kitB t T with
      | none => simp only [Option.bind_some, e2] at po; exact po.elim
      | some b =>
        simp only [Option.bind_some, e2] at po
        exact ⟨x, .ty T, .type t, .type T, b, rfl, .ty T, tyD_ok r sr e1, kit_ty e2, po _ _ _ (.p (.bl b)) sr Ext.refl⟩
end

/-! ### lists of a range -/
def rgD (lo : Int) (n : Nat) : List D := (List.range n).map fun i => .int (lo + (i : Nat))
def rgL (a b : Int) : M (List D) := guardM (decide (-(2 ^ 62) ≤ a) && decide (a < 2 ^ 62) && decide (-(2 ^ 62) ≤ b) && decide (b < 2 ^ 62) && decide ((b - a).toNat ≤ 2 ^ 24)) (ret (rgD a (b - a).toNat))
def rgI : D → (Int → M (List D)) → M (List D)
  | .p (.int i), k => k i
  | _, _ => fail
def lrg1 (f : DE) : DL := fun ρ => bnd (f ρ) fun a => rgI a fun i => rgL 0 i
def lrg2 (f g : DE) : DL := fun ρ => bnd (f ρ) fun a => bnd (g ρ) fun b => rgI a fun i => rgI b fun j => rgL i j
section
variable {X : Cx} {CT : Nat → Value} {W : WX} {a b : Expr} {f g : DE} {p p2 pos pos2 : Pos}
theorem drs_rg {K : PySem.W.Frag} {m : List Addr} {H : Hp} (a b : Int) : DRs K m H (rgV a b) (rgD a (b - a).toNat) := by
  unfold rgV rgD
  generalize List.range (b - a).toNat = l
  induction l with
  | nil => exact .nil
  | cons i l ih => exact .cons (.p (.int _)) ih
theorem rgI_inv {K : PySem.W.Frag} {E : XK} {m : List Addr} {H : Hp} {S : Sto} {d : D} {v : V} {k : Int → M (List D)} {Q : VK} (r : DR K m H v d) (po : Post K CT E (rL K) m H (rgI d k S) Q) : ∃ i, v = .int i ∧ Post K CT E (rL K) m H (k i S) Q := by
  cases d with
  | p x => cases x with
    | int i => exact ⟨i, r.p_inv.int_inv, po⟩
    | _ => exact po.elim
  | _ => exact po.elim
theorem rgL_inv {K : PySem.W.Frag} {E : XK} {m : List Addr} {H : Hp} {S : Sto} {i j : Int} {Q : VK} (sr : SR K m H S) (po : Post K CT E (rL K) m H (rgL i j S) Q) : RgOk i j ∧ ∀ q, H q = none → Q (.ref q) (upd H q (.lst (rgV i j))) := by
  obtain ⟨g, po⟩ := Post.guard po
  simp only [Bool.and_eq_true, decide_eq_true_eq] at g
  obtain ⟨⟨⟨⟨g1, g2⟩, g3⟩, g4⟩, g5⟩ := g
  refine ⟨⟨g1, g2, g3, g4, g5⟩, fun q nq => po _ m _ ⟨q, rgV i j, rfl, nq, upd_same, sr.fresh nq, ?_, drs_rg i j⟩ (sr.new nq) (ext_new nq)⟩
  rw [rgV_length, sizeLine_eq]
  omega
theorem s_lrg1 (hc : X.calm = true) (hg : Gl X "list") (hm : X.mg "list" = none) (hg2 : Gl X "range") (hm2 : X.mg "range" = none) (ha : PE X a (tE X.K CT W f)) (n1 : starEach [a] X.env = [(false, eval a X.env)]) :
    PE X (.Call (.Name "list" p) [.Call (.Name "range" p2) [a] [] pos2] [] pos) (tN X.K CT W (lrg1 f)) :=
  PE.imp (pe_listRg hc hg hm (prg_1 hg2 hm2 ha n1) rfl) fun σ H Q hq => tG.mono (tG.first (rel := rD X.K) hq) fun x H1 ⟨ρ, m, S, d, r, er, sr, po⟩ => by
    obtain ⟨i, rfl, po⟩ := rgI_inv r po
    exact ⟨i, rfl, rgL_inv sr po⟩
theorem s_lrg2 (hc : X.calm = true) (hg : Gl X "list") (hm : X.mg "list" = none) (hg2 : Gl X "range") (hm2 : X.mg "range" = none) (ha : PE X a (tE X.K CT W f)) (hb : PE X b (tE X.K CT W g)) (n1 : starEach [a, b] X.env = (false, eval a X.env) :: starEach [b] X.env)
    (n2 : starEach [b] X.env = [(false, eval b X.env)]) (n3 : (backTo pos2 (starEach [b] X.env)).any (·.1) = false) :
    PE X (.Call (.Name "list" p) [.Call (.Name "range" p2) [a, b] [] pos2] [] pos) (tN X.K CT W (lrg2 f g)) :=
  PE.imp (pe_listRg hc hg hm (prg_2 hg2 hm2 ha hb n1 n2 n3) rfl) fun σ H Q hq => tG.mono (two hq) fun x H1 q => tG.mono q fun y H2 ⟨ρ, m, S, d, e, er, sr, r1, r2, po⟩ => by
    obtain ⟨i, rfl, po⟩ := rgI_inv r1 po
    obtain ⟨j, rfl, po⟩ := rgI_inv r2 po
    exact ⟨i, j, rfl, rfl, rgL_inv sr po⟩
end
end Den

/-! Den, part L: stores, methods, parallel assignment. -/
namespace Den
open PySem PySem.Spec PyProof.Rows L2

/-! ### a list written -/
section
variable {K : PySem.W.Frag} {CT : Nat → Value} {E : XK} {m : List Addr} {H : Hp} {S : Sto}
theorem mxs_append : ∀ xs ys : List D, mxs (xs ++ ys) = max (mxs xs) (mxs ys)
  | [], ys => by simp [mxs]
  | x :: xs, ys => by
    simp only [List.cons_append, mxs, mxs_append xs ys]
    omega
theorem mxs_set : ∀ (xs : List D) (i : Nat) (d : D), mxs (xs.set i d) ≤ max (mxs xs) d.mx
  | [], _, _ => by simp [mxs]
  | x :: xs, 0, d => by simp only [List.set_cons_zero, mxs]; omega
  | x :: xs, i + 1, d => by
    have := mxs_set xs i d
    simp only [List.set_cons_succ, mxs]; omega
theorem mxs_mem : ∀ (xs : List D) (i : Nat) (d : D), xs[i]? = some d → d.mx ≤ mxs xs
  | [], _, _, h => by simp at h
  | x :: xs, 0, d, h => by simp at h; subst h; simp only [mxs]; omega
  | x :: xs, i + 1, d, h => by
    have := mxs_mem xs i d (by simpa using h)
    simp only [mxs]; omega
theorem mxs_erase : ∀ (xs : List D) (i : Nat), mxs (xs.eraseIdx i) ≤ mxs xs
  | [], _ => by simp [mxs]
  | x :: xs, 0 => by simp only [List.eraseIdx_cons_zero, mxs]; omega
  | x :: xs, i + 1 => by
    have := mxs_erase xs i
    simp only [List.eraseIdx_cons_succ, mxs]; omega
theorem DRs.erase : ∀ {vs : List V} {ds : List D} (i : Nat), DRs K m H vs ds → DRs K m H (vs.eraseIdx i) (ds.eraseIdx i)
  | _, _, _, .nil => .nil
  | _, _, 0, .cons _ r => r
  | _, _, i + 1, .cons h r => .cons h (DRs.erase i r)
theorem not_frz_lst {vs : List V} : ¬ Frz (.lst vs) := fun ⟨_, _, z⟩ => nomatch z
theorem not_frz_dK {vs : List (L2.Key × V)} : ¬ Frz (.dK vs) := fun ⟨_, _, z⟩ => nomatch z
theorem setL_inv {α β : Type} {rel : Rel α β} {l k : Nat} {a : Addr} {xs ys : List D} {vs ws : List V} {f : Unit → M α} {Q : β → Hp → Prop} (sr : SR K m H S) (hm : m[l]? = some a) (e : S.objs[l]? = some (.lst xs)) (ha : H a = some (.lst vs)) (rs : DRs K m H ws ys)
    (z : ws.length ≤ sizeLine) (hk : mxs ys ≤ max (mxs xs) k) (po : Post K CT E rel m H (bnd (setL l ys k) f S) Q) :
    ∃ S', SR K m (upd H a (.lst ws)) S' ∧ Ext m H m (upd H a (.lst ws)) ∧ Post K CT E rel m (upd H a (.lst ws)) (f () S') Q := by
  have ex : Ext m H m (upd H a (.lst ws)) := ext_set hm ha (fun _ z => nomatch z) not_frz_lst
  refine ⟨⟨S.objs.set l (.lst ys), S.nt || decide (l < k)⟩, SR.set sr (k := 0) hm ha (fun _ z => nomatch z) not_frz_lst ⟨ws, upd_same, z, rs.ext sr ex⟩ fun hb => ?_, ex, Post.later po ex⟩
  simp only [Bool.or_eq_false_iff, decide_eq_false_iff_not] at hb
  have := sr.wf hb.1 l _ e
  refine ⟨hb.1, ?_⟩
  have h1 : (O.lst xs).mx = mxs xs := rfl
  have h2 : (O.lst ys).mx = mxs ys := rfl
  omega
theorem setDic_inv {α β : Type} {rel : Rel α β} {l k : Nat} {a : Addr} {xs ys : List (L2.Key × D)} {vs ws : List (L2.Key × V)} {f : Unit → M α} {Q : β → Hp → Prop} (sr : SR K m H S) (hm : m[l]? = some a) (e : S.objs[l]? = some (.dic xs)) (ha : H a = some (.dK vs)) (rs : KRs K m H ws ys)
    (z : ws.length ≤ sizeLine) (hk : mxs (ys.map (·.2)) ≤ max (mxs (xs.map (·.2))) k) (po : Post K CT E rel m H (bnd (setDic l ys k) f S) Q) :
    ∃ S', SR K m (upd H a (.dK ws)) S' ∧ Ext m H m (upd H a (.dK ws)) ∧ Post K CT E rel m (upd H a (.dK ws)) (f () S') Q := by
  have ex : Ext m H m (upd H a (.dK ws)) := ext_set hm ha (fun _ z => nomatch z) not_frz_dK
  refine ⟨⟨S.objs.set l (.dic ys), S.nt || decide (l < k)⟩, SR.set sr (k := 0) hm ha (fun _ z => nomatch z) not_frz_dK ⟨ws, upd_same, z, KRs.ext sr ex rs⟩ fun hb => ?_, ex, Post.later po ex⟩
  simp only [Bool.or_eq_false_iff, decide_eq_false_iff_not] at hb
  have := sr.wf hb.1 l _ e
  refine ⟨hb.1, ?_⟩
  have h1 : (O.dic xs).mx = mxs (xs.map (·.2)) := rfl
  have h2 : (O.dic ys).mx = mxs (ys.map (·.2)) := rfl
  omega
end

/-! ### o[i] = d -/
def keyD : D → Option L2.Key
  | .p (.int i) => some (.inl i)
  | .p (.str x) => some (.inr x)
  | _ => none
def valD (kvs : List (L2.Key × D)) (k : L2.Key) : Option D := (kvs.find? fun kv => decide (kv.1 = k)).map (·.2)
def putKD (kvs : List (L2.Key × D)) (k : L2.Key) (v : D) : List (L2.Key × D) :=
  if (kvs.any fun kv => decide (kv.1 = k)) = true then kvs.map (fun kv => if kv.1 = k then (kv.1, v) else kv) else kvs ++ [(k, v)]
def putD (o i d : D) : M Unit := match o, i with
  | .ref l, .p (.int k) => fun S => match S.objs[l]? with
    | some (.lst xs) => (match L2.ixN xs.length k with
      | some j => setL l (xs.set j d) d.mx S
      | none => .bad)
    | some (.dic kvs) => if kvs.length < sizeLine then setDic l (putKD kvs (.inl k) d) d.mx S else .bad
    | _ => .bad
  | .ref l, .p (.str k) => fun S => match S.objs[l]? with
    | some (.dic kvs) => if kvs.length < sizeLine then setDic l (putKD kvs (.inr k) d) d.mx S else .bad
    | _ => .bad
  | _, _ => fail
def subT (f g : DE) : DT := fun d ρ => bnd (f ρ) fun a => bnd (g ρ) fun i => bnd (putD a i d) fun _ => ret ρ
section
variable {K : PySem.W.Frag} {m : List Addr} {H : Hp} {S : Sto}
theorem krs_any {ws : List (L2.Key × V)} {kvs : List (L2.Key × D)} (r : KRs K m H ws kvs) (k : L2.Key) : (ws.any fun kv => decide (kv.1 = k)) = kvs.any fun kv => decide (kv.1 = k) := by
  induction r with
  | nil => rfl
  | cons h t ih => rw [List.any_cons, List.any_cons, ih, h.1]
theorem krs_put {ws : List (L2.Key × V)} {kvs : List (L2.Key × D)} (r : KRs K m H ws kvs) (k : L2.Key) {v : V} {d : D} (rv : DR K m H v d) : KRs K m H (putK ws k v) (putKD kvs k d) := by
  unfold putK putKD
  rw [krs_any r k]
  split
  · rename_i h
    clear h
    induction r with
    | nil => exact .nil
    | cons h t ih =>
      refine .cons ?_ ih
      rename_i a b _ _
      obtain ⟨a1, a2⟩ := a
      obtain ⟨b1, b2⟩ := b
      obtain ⟨h1, h2⟩ := h
      simp only at h1 h2
      subst h1
      by_cases e : a1 = k
      · simp only [e, if_true]; exact ⟨trivial, rv⟩
      · simp only [e, if_false]; exact ⟨trivial, h2⟩
  · exact r.snoc ⟨rfl, rv⟩
theorem krs_val {ws : List (L2.Key × V)} {kvs : List (L2.Key × D)} (r : KRs K m H ws kvs) (k : L2.Key) : (valV ws k = none ∧ valD kvs k = none) ∨ ∃ v d, valV ws k = some v ∧ valD kvs k = some d ∧ DR K m H v d := by
  induction r with
  | nil => exact .inl ⟨rfl, rfl⟩
  | @cons a b l1 l2 h t ih =>
    by_cases e : b.1 = k
    · refine .inr ⟨a.2, b.2, valV_pos (by rw [h.1]; exact e), by simp [valD, List.find?_cons, e], h.2⟩
    · rw [valV_neg (by rw [h.1]; exact e)]
      have : valD (b :: l2) k = valD l2 k := by simp [valD, List.find?_cons, e]
      rw [this]
      exact ih
theorem mxs_putKD (kvs : List (L2.Key × D)) (k : L2.Key) (d : D) : mxs ((putKD kvs k d).map (·.2)) ≤ max (mxs (kvs.map (·.2))) d.mx := by
  unfold putKD
  split
  · rename_i h
    clear h
    induction kvs with
    | nil => simp [mxs]
    | cons a r ih =>
      simp only [List.map_cons, mxs]
      by_cases e : a.1 = k
      · simp only [e, if_true]; omega
      · simp only [e, if_false]; omega
  · rw [List.map_append, mxs_append]
    simp only [List.map_cons, List.map_nil, mxs]
    omega
def rPut (K : PySem.W.Frag) (CT : Nat → Value) : TSet := fun o i v H Q => ∃ (E : XK) (m : List Addr) (S : Sto) (a b d : D), DR K m H o a ∧ DR K m H i b ∧ DR K m H v d ∧ SR K m H S ∧ Post K CT E (⟨fun _ _ _ _ _ => True, fun _ h => h⟩ : Rel Unit Unit) m H (putD a b d S) fun _ H' => Q H'
abbrev rUn : Rel Unit Unit := ⟨fun _ _ _ _ _ => True, fun _ h => h⟩
theorem putDic_rd {CT : Nat → Value} {E : XK} {l : Nat} {kvs : List (L2.Key × D)} {a : Addr} {v : V} {d : D} {k : L2.Key} {Q : Hp → Prop} (sr : SR K m H S) (hm : m[l]? = some a) (e : S.objs[l]? = some (.dic kvs)) (rv : DR K m H v d)
    (po : Post K CT E rUn m H (if kvs.length < sizeLine then setDic l (putKD kvs k d) d.mx S else .bad) fun _ H' => Q H') : ∃ H', DPut H a (kV k) v H' ∧ Q H' := by
  split at po
  · rename_i hz
    obtain ⟨ws, h1, z, r⟩ := sr.getD hm e
    have hz' : ws.length < sizeLine := by rw [Paired.length r]; exact hz
    have po : Post K CT E rUn m H (bnd (setDic l (putKD kvs k d) d.mx) (fun _ => ret ()) S) fun _ H' => Q H' := po
    obtain ⟨S', sr', ex, po⟩ := setDic_inv sr hm e h1 (krs_put r k rv) (Nat.le_trans (length_putK _ _ _) hz') (mxs_putKD kvs k d) po
    exact ⟨_, DPut.k h1 hz', Post.ret (rel := rUn) po sr' (x := ()) True.intro⟩
  · exact po.elim
theorem put_rd {CT : Nat → Value} {E : XK} {o i v : V} {a b d : D} {Q : Hp → Prop} (ra : DR K m H o a) (rb : DR K m H i b) (rv : DR K m H v d) (sr : SR K m H S) (po : Post K CT E rUn m H (putD a b d S) fun _ H' => Q H') : rSetL o i v H Q ∨ rSetD o i v H Q := by
  unfold putD at po
  split at po
  · rename_i l k
    obtain ⟨p, rfl, hp⟩ := ra.ref_inv
    obtain rfl := rb.p_inv.int_inv
    cases e : S.objs[l]? with
    | none => rw [e] at po; exact po.elim
    | some ob =>
      rw [e] at po
      cases ob with
      | gone => exact po.elim
      | dic kvs =>
        obtain ⟨H', h1, h2⟩ := putDic_rd sr hp e rv po
        exact .inr ⟨p, H', rfl, h1, h2⟩
      | lst xs =>
        dsimp only at po
        cases e1 : L2.ixN xs.length k with
        | none => rw [e1] at po; exact po.elim
        | some j =>
          rw [e1] at po
          obtain ⟨ws, h1, z, r⟩ := sr.get hp e
          have po : Post K CT E rUn m H (bnd (setL l (xs.set j d) d.mx) (fun _ => ret ()) S) fun _ H' => Q H' := po
          obtain ⟨S', sr', ex, po⟩ := setL_inv sr hp e h1 (r.set j rv) (by rw [List.length_set]; exact z) (mxs_set xs j d) po
          exact .inl ⟨p, ws, k, j, rfl, rfl, h1, by rw [r.length]; exact e1, Post.ret (rel := rUn) po sr' (x := ()) True.intro⟩
  · rename_i l k
    obtain ⟨p, rfl, hp⟩ := ra.ref_inv
    obtain rfl := rb.p_inv.str_inv
    cases e : S.objs[l]? with
    | none => rw [e] at po; exact po.elim
    | some ob =>
      rw [e] at po
      cases ob with
      | gone => exact po.elim
      | lst _ => exact po.elim
      | dic kvs =>
        obtain ⟨H', h1, h2⟩ := putDic_rd sr hp e rv po
        exact .inr ⟨p, H', rfl, h1, h2⟩
  · exact po.elim
end
section
variable {X : Cx} {CT : Nat → Value} {W : WX} {o i e : Expr} {f g : DE} {pos pos' : Pos} {k : Nat} {own : List Nat}
theorem set_den (hr : Room k X.A) : PSet X (fun o i v H Q => rSetL o i v H Q ∨ rSetD o i v H Q) := by
  intro pins s σ H o i v ov iv u Q I ro ri rv h
  rcases h with h | h
  · exact set_list pins s σ H o i v ov iv u Q I ro ri rv h
  · exact set_dict (by have := hr.un; omega) pins s σ H o i v ov iv u Q I ro ri rv h
/-- .. and the store told behind it -/
theorem put_rd2 {K : PySem.W.Frag} {m : List Addr} {H : Hp} {S : Sto} {E : XK} {α β : Type} {rel : Rel α β} {o i v : V} {a b d : D} {f : Unit → M α} {Q : β → Hp → Prop} {R : Hp → Prop} (ra : DR K m H o a) (rb : DR K m H i b) (rv : DR K m H v d) (sr : SR K m H S) (po : Post K CT E rel m H (bnd (putD a b d) f S) Q)
    (h : ∀ H' S', SR K m H' S' → Ext m H m H' → Post K CT E rel m H' (f () S') Q → R H') : rSetL o i v H R ∨ rSetD o i v H R := by
  refine put_rd (CT := CT) (E := fun c dd H' => E c dd H') ra rb rv sr ?_
  unfold bnd at po
  cases e : putD a b d S with
  | ok u S' =>
    rw [e] at po
    intro _ m' H' _ sr' ex
    have em : m' = m := ex.pre.eq_of_length (by rw [sr.len, sr'.len]; exact (put_len e).symm) |>.symm
    subst em
    exact h H' S' sr' ex (Post.later po ex)
  | exc c dd S' => rw [e] at po; exact po
  | bad => rw [e] at po; exact po.elim
where
  put_len {a b d : D} {S S' : Sto} {u : Unit} (e : putD a b d S = .ok u S') : S'.objs.length = S.objs.length := by
    unfold putD at e
    split at e
    · split at e
      · split at e
        · cases e; simp [setL]
        · cases e
      · split at e
        · cases e; simp
        · cases e
      · cases e
    · split at e
      · split at e
        · cases e; simp
        · cases e
      · cases e
    · cases e
end
end Den

/-! Den, part M: stores to a subscript, parallel assignment, methods. -/
namespace Den
open PySem PySem.Spec PyProof.Rows L2

section
variable {X : Cx} {CT : Nat → Value} {W : WX} {o i e : Expr} {f g : DE} {pos pos' : Pos} {k : Nat} {own : List Nat}
theorem s_subT (hr : Room k X.A) (ho : PE X o (tE X.K CT W f)) (hi : PE X i (tE X.K CT W g))
    (ha : ∀ v, assign (.Subscript o i pos) X.env v = (do
      let ov ← holding [v] (eval o X.env)
      let iv ← holding [v, ov] (eval i X.env)
      standAt pos
      holding [v, ov, iv] (setItem ov iv v)
      release [v, ov, iv] [])) : PG X (.Subscript o i pos) (tTg X.K CT W own (subT f g)) :=
  PG.imp (pg_sub ho hi (set_den hr) ha) fun v σ H Q ⟨ρ, m, S, d, er, sr, r, po⟩ =>
    tG.mono (Post.next (rel := rD X.K) er sr po) fun x H1 ⟨m1, S1, a, ra, sr1, ex1, p1⟩ =>
      tG.mono (Post.next (rel := rD X.K) (er.ext sr ex1) sr1 p1) fun y H2 ⟨m2, S2, b, rb, sr2, ex2, p2⟩ =>
        put_rd2 (ra.ext sr1 ex2) rb ((r.ext sr ex1).ext sr1 ex2) sr2 p2 fun H3 S3 sr3 ex3 p3 => Post.ret p3 sr3 ⟨((er.ext sr ex1).ext sr1 ex2).ext sr2 ex3, Off.refl⟩
end

/-! ### a, b = x, y of plain names: stored from the right -/
def setAll (ρ : Rho) : List Nat → List D → Rho
  | i :: is, d :: ds => setAll (ρ.set i (some d)) is ds
  | _, _ => ρ
def parS (is : List Nat) (fs : List DE) : DSt := fun ρ => bnd (argsS fs ρ) fun ds => guardM (decide (ds.length = is.length)) (ret (.nx (setAll ρ is ds)))
section
variable {X : Cx} {CT : Nat → Value} {E : XK} {i j l : Nat} {x y z : Str} {a b c : Expr} {fs : List DE} {px py pz pt pos : Pos} {kt k2 : Nat} {pt2 : Pos}
theorem DRs.three {K : PySem.W.Frag} {m : List Addr} {H : Hp} {vs : List V} {d e f : D} (h : DRs K m H vs [d, e, f]) : ∃ v w u, vs = [v, w, u] ∧ DR K m H v d ∧ DR K m H w e ∧ DR K m H u f := by
  cases h with | cons a t => obtain ⟨v, w, rfl, b, c⟩ := t.two; exact ⟨_, _, _, rfl, a, b, c⟩
theorem len2 {α : Type} {xs : List α} (h : xs.length = 2) : ∃ a b, xs = [a, b] := by
  match xs, h with
  | [a, b], _ => exact ⟨a, b, rfl⟩
theorem len3 {α : Type} {xs : List α} (h : xs.length = 3) : ∃ a b c, xs = [a, b, c] := by
  match xs, h with
  | [a, b, c], _ => exact ⟨a, b, c, rfl⟩
theorem s_par2 (hc : X.calm = true) (hN : X.N.Nodup) (hi : X.N[i]? = some x) (hj : X.N[j]? = some y) (hij : i ≠ j) (hx : X.env.scope.names.lookup x = some .local) (hy : X.env.scope.names.lookup y = some .local) (ha : PA X [a, b] (tL X.K CT (wE E) (argsS fs)))
    (hw : swappedStores [.Tuple [.Name x px, .Name y py] kt pt] (.Tuple [a, b] k2 pt2) X.env = pure (some [x, y])) (hs : swapsWithSole [.Tuple [.Name x px, .Name y py] kt pt] (.Tuple [a, b] k2 pt2) pos.line X.env = pure false) :
    PS X (.Assign [.Tuple [.Name x px, .Name y py] kt pt] (.Tuple [a, b] k2 pt2) pos) (tS X.K CT E (parS [i, j] fs)) :=
  PS.imp (ps_par hc hN hi hj hij hx hy ha hw hs) fun D σ H hq => tG.mono (tG.first (rel := rDs X.K) hq) fun vs H1 ⟨ρ, m, S, ds, rs, er, sr, p⟩ => by
    obtain ⟨g, p⟩ := Post.guard p
    obtain ⟨d, e, rfl⟩ := len2 (of_decide_eq_true g)
    obtain ⟨v, w, rfl, r1, r2⟩ := rs.two
    exact ⟨v, w, rfl, fin_nx p sr ((er.set i r1).set j r2)⟩
theorem s_par3 (hc : X.calm = true) (hN : X.N.Nodup) (hi : X.N[i]? = some x) (hj : X.N[j]? = some y) (hl : X.N[l]? = some z) (hij : i ≠ j) (hil : i ≠ l) (hjl : j ≠ l) (hx : X.env.scope.names.lookup x = some .local) (hy : X.env.scope.names.lookup y = some .local) (hz : X.env.scope.names.lookup z = some .local)
    (ha : PA X [a, b, c] (tL X.K CT (wE E) (argsS fs)))
    (hw : swappedStores [.Tuple [.Name x px, .Name y py, .Name z pz] kt pt] (.Tuple [a, b, c] k2 pt2) X.env = pure (some [x, y, z])) (hs : swapsWithSole [.Tuple [.Name x px, .Name y py, .Name z pz] kt pt] (.Tuple [a, b, c] k2 pt2) pos.line X.env = pure false) :
    PS X (.Assign [.Tuple [.Name x px, .Name y py, .Name z pz] kt pt] (.Tuple [a, b, c] k2 pt2) pos) (tS X.K CT E (parS [i, j, l] fs)) :=
  PS.imp (ps_par3 hc hN hi hj hl hij hil hjl hx hy hz ha hw hs) fun D σ H hq => tG.mono (tG.first (rel := rDs X.K) hq) fun vs H1 ⟨ρ, m, S, ds, rs, er, sr, p⟩ => by
    obtain ⟨g, p⟩ := Post.guard p
    obtain ⟨d, e, f, rfl⟩ := len3 (of_decide_eq_true g)
    obtain ⟨v, w, u, rfl, r1, r2, r3⟩ := rs.three
    exact ⟨v, w, u, rfl, fin_nx p sr (((er.set i r1).set j r2).set l r3)⟩
end

/-! ### methods -/
def appD : D → List D → M D
  | .ref l, [d] => bnd (getL l) fun xs => guardM (decide (xs.length < sizeLine)) (bnd (setL l (xs ++ [d]) d.mx) fun _ => ret .non)
  | _, _ => fail
def extF : D → List D → M D
  | .ref l, ds => bnd (getL l) fun xs => guardM (decide (xs.length + ds.length ≤ sizeLine)) (bnd (setL l (xs ++ ds) (mxs ds)) fun _ => ret .non)
  | _, _ => fail
def extD : D → List D → M D
  | a, [.ref k] => bnd (getL k) fun ds => extF a ds
  | _, _ => fail
def popD : D → List D → M D
  | .ref l, [] => bnd (getL l) fun xs => optM xs[xs.length - 1]? fun d => bnd (setL l xs.dropLast 0) fun _ => ret d
  | _, _ => fail
def popI : D → List D → M D
  | .ref l, [.p (.int i)] => bnd (getL l) fun xs => guardM (decide (-(2 ^ 63) ≤ i) && decide (i < 2 ^ 63)) (optM (L2.ixN xs.length i) fun j => optM xs[j]? fun d => bnd (setL l (xs.eraseIdx j) 0) fun _ => ret d)
  | _, _ => fail
def cntD : D → List D → M D
  | .ref l, [.p (.int i)] => bnd (getL l) fun xs => optM (intsD xs) fun is => ret (.int (is.count i : Nat))
  | _, _ => fail
def scntD : D → List D → M D
  | .p (.str a), [.p (.str b)] => ret (.int (Txt.count a b))
  | _, _ => fail
def strsOf : List PyData → Option (List Str)
  | [] => some []
  | .str i :: r => match strsOf r with
    | some is => some (i :: is)
    | none => none
  | _ :: _ => none
def strsD (ds : List D) : Option (List Str) := (allP ds).bind strsOf
def joinF : D → List D → M D
  | .p (.str a), ds => optM (strsD ds) fun ys => guardM (decide ((ys.map (·.length)).sum + ys.length * a.length ≤ 16777216)) (ret (.str (Txt.join a ys)))
  | _, _ => fail
def joinD : D → List D → M D
  | a, [d] => bnd (seqItems d) fun ds => joinF a ds
  | _, _ => fail
def chk (T : String) (a : D) : M Unit := fun S => if tyD S.objs a = some T then .ok () S else .bad
def mthS {α : Type} (T : String) (g : D → List D → M α) (f : DE) (as : DL) : Rho → M α := fun ρ => bnd (f ρ) fun a => bnd (chk T a) fun _ => bnd (as ρ) fun ds => g a ds

/-! ### readings -/
def rMt {α : Type} (K : PySem.W.Frag) (CT : Nat → Value) (rel : Rel α V) (g : D → List D → M α) : V → List V → Hp → VK → Prop := fun x vs H Q => ∃ (E : XK) (m : List Addr) (S : Sto) (a : D) (ds : List D), DR K m H x a ∧ DRs K m H vs ds ∧ SR K m H S ∧ Post K CT E rel m H (g a ds S) Q
def rMf {α : Type} (K : PySem.W.Frag) (CT : Nat → Value) (rel : Rel α V) (g : D → List D → M α) : V → List V → Hp → VK → Prop := fun x xs H Q => ∃ (E : XK) (m : List Addr) (S : Sto) (a : D) (p : Addr) (vs : List V) (ds : List D),
  xs = [.ref p] ∧ DR K m H x a ∧ H p = some (.lst vs) ∧ p ∉ m ∧ vs.length ≤ sizeLine ∧ DRs K m H vs ds ∧ SR K m H S ∧ Post K CT E rel m H (g a ds S) Q
section
variable {K : PySem.W.Frag} {m : List Addr} {H : Hp} {S : Sto} {E : XK} {CT : Nat → Value}
theorem tyD_V {v : V} {d : D} {t : String} (r : DR K m H v d) (sr : SR K m H S) (e : tyD S.objs d = some t) (h : t = "list" ∨ t = "str" ∨ t = "dict") : tyV K t v H := by
  cases r with
  | p h' =>
    cases h' with
    | non => cases e; simp [tyP] at h
    | bl b => cases e; simp [tyP] at h
    | int b => cases e; simp [tyP] at h
    | str b => cases e; exact rfl
    | tup _ _ _ => cases e; simp [tyP] at h
    | flst h1 _ _ => cases e; exact .inl ⟨rfl, _, h1.sq⟩
  | tup h1 _ _ => cases e; simp at h
  | ref h' =>
    rename_i a l
    simp only [tyD] at e
    cases e1 : S.objs[l]? with
    | none => rw [e1] at e; cases e
    | some o =>
      rw [e1] at e
      cases o with
      | lst xs => cases e; obtain ⟨vs, h1, _⟩ := sr.get h' e1; exact .inl ⟨rfl, vs, SqL.of h1⟩
      | dic xs => cases e; obtain ⟨vs, h1, _⟩ := sr.getD h' e1; exact .inr (.inr (.inl ⟨rfl, .inl ⟨vs, h1⟩⟩))
      | gone => cases e
theorem chk_inv {α β : Type} {rel : Rel α β} {T : String} {a : D} {f : Unit → M α} {Q : β → Hp → Prop} (po : Post K CT E rel m H (bnd (chk T a) f S) Q) : tyD S.objs a = some T ∧ Post K CT E rel m H (f () S) Q := by
  unfold bnd chk at po
  by_cases h : tyD S.objs a = some T
  · rw [if_pos h] at po
    exact ⟨h, po⟩
  · rw [if_neg h] at po
    exact po.elim
end
section
variable {X : Cx} {CT : Nat → Value} {W : WX} {o e : Expr} {es : List Expr} {f : DE} {fs : List DE} {l : DL} {name : Str} {apos cpos : Pos} {T id : String} {α : Type} {rel : Rel α V} {g : D → List D → M α}
theorem s_mth0 (hT : T = "list" ∨ T = "str" ∨ T = "dict") (pa : PlainAttrs T) (slot : Slot T name id) (hty : typeOf (.builtin id) = pure (.type "method_descriptor")) (hm : MtR X id (rMt X.K CT rel g)) (ho : PE X o (tE X.K CT W f))
    (hbase : attributeBase o name X.env (eval o X.env) = eval o X.env) (hline : (apos.endLine == cpos.line) = true) : PE X (.Call (.Attribute o name apos) [] [] cpos) (tG X.K CT W rel (mthS T g f (argsS []))) :=
  PE.imp (pe_bm0 pa slot hty hm ho hbase hline) fun σ H Q hq => tG.mono (tG.first (rel := rD X.K) hq) fun x H1 ⟨ρ, m, S, a, r, er, sr, po⟩ => by
    obtain ⟨h1, po⟩ := chk_inv po
    exact ⟨tyD_V r sr h1 hT, _, m, S, a, [], r, .nil, sr, po⟩
theorem s_mth (hT : T = "list" ∨ T = "str" ∨ T = "dict") (pa : PlainAttrs T) (slot : Slot T name id) (hty : typeOf (.builtin id) = pure (.type "method_descriptor")) (hm : MtR X id (rMt X.K CT rel g)) (ho : PE X o (tE X.K CT W f)) (ha : PA X (e :: es) (tL X.K CT W (argsS fs)))
    (hbase : attributeBase o name X.env (eval o X.env) = eval o X.env)
    (hfew : ((backTo cpos (starEach (e :: es) X.env)).all (fun x => !x.1) && (backToKw cpos (keywordEach [] X.env)).all (fun x => x.1.isSome) && decide ((e :: es).length + ([] : List Keyword).length + (if ([] : List Keyword).isEmpty then 0 else 1) < 30)) = true)
    (hline : (apos.endLine == cpos.line) = true) (hs : starEach (e :: es) X.env = (false, eval e X.env) :: starEach es X.env) (hpl : (backTo cpos (starEach es X.env)).any (·.1) = false) :
    PE X (.Call (.Attribute o name apos) (e :: es) [] cpos) (tG X.K CT W rel (mthS T g f (argsS fs))) :=
  PE.imp (pe_bm pa slot hty hm ho ha hbase hfew hline hs hpl) fun σ H Q hq => tG.mono (tG.first (rel := rD X.K) hq) fun x H1 ⟨ρ, m, S, a, r, er, sr, po⟩ => by
    obtain ⟨h1, po⟩ := chk_inv po
    exact ⟨tyD_V r sr h1 hT, tG.mono (Post.next (rel := rDs X.K) er sr po) fun vs H2 ⟨m2, S2, ds, rs, sr2, ex, p2⟩ => ⟨_, m2, S2, a, ds, r.ext sr ex, rs, sr2, p2⟩⟩
theorem s_mthF (hT : T = "list" ∨ T = "str" ∨ T = "dict") (pa : PlainAttrs T) (slot : Slot T name id) (hty : typeOf (.builtin id) = pure (.type "method_descriptor")) (hm : MtR X id (rMf X.K CT rel g)) (ho : PE X o (tE X.K CT W f)) (ha : PE X e (tN X.K CT W l))
    (hbase : attributeBase o name X.env (eval o X.env) = eval o X.env)
    (hfew : ((backTo cpos (starEach [e] X.env)).all (fun x => !x.1) && (backToKw cpos (keywordEach [] X.env)).all (fun x => x.1.isSome) && decide ([e].length + ([] : List Keyword).length + (if ([] : List Keyword).isEmpty then 0 else 1) < 30)) = true)
    (hline : (apos.endLine == cpos.line) = true) (hs : starEach [e] X.env = [(false, eval e X.env)]) :
    PE X (.Call (.Attribute o name apos) [e] [] cpos) (tG X.K CT W rel (mthS T g f l)) :=
  PE.imp (pe_bm pa slot hty hm ho (pa_cons ha pa_nil hs) hbase hfew hline hs rfl) fun σ H Q hq => tG.mono (tG.first (rel := rD X.K) hq) fun x H1 ⟨ρ, m, S, a, r, er, sr, po⟩ => by
    obtain ⟨h1, po⟩ := chk_inv po
    exact ⟨tyD_V r sr h1 hT, tG.mono (Post.next (rel := rL X.K) er sr po) fun v H2 ⟨m2, S2, ds, ⟨p, vs, ev, _, hp, np, z, rs⟩, sr2, ex, p2⟩ => ⟨_, m2, S2, a, p, vs, ds, by rw [ev], r.ext sr ex, hp, np, z, rs, sr2, p2⟩⟩
end

/-! ### the methods -/
section
variable {X : Cx} {CT : Nat → Value}
theorem m_app : MtR X "list.append" (rMt X.K CT (rD X.K) appD) := by
  intro pins s σ H x xs v us Q I rx rxs ⟨E, m, S, a, ds, ra, rs, sr, po⟩
  unfold appD at po
  split at po
  · rename_i l d
    obtain ⟨p, rfl, hp⟩ := ra.ref_inv
    obtain ⟨w, rfl, rw'⟩ := rs.one
    obtain ⟨ys, e, po⟩ := getL_inv po
    obtain ⟨g, po⟩ := Post.guard po
    obtain ⟨ws, h1, z, r⟩ := sr.get hp e
    have hz : ws.length < sizeLine := by rw [r.length]; exact of_decide_eq_true g
    obtain ⟨S', sr', ex, po⟩ := setL_inv sr hp e h1 (r.append (.cons rw' .nil)) (by rw [List.length_append]; exact hz) (by rw [mxs_append]; simp only [mxs]; omega) po
    exact mt_append pins s σ H _ _ v us Q I rx rxs ⟨p, ws, w, rfl, rfl, h1, hz, po.ret sr' (.p .non)⟩
  · exact po.elim
theorem ext_run {pins : List (Addr × Obj)} {s : Shared} {σ : L2.St} {H : Hp} {x : V} {q : Addr} {v : Value} {us : List Value} {Q : VK} {E : XK} {m : List Addr} {S : Sto} {a : D} {vs : List V} {ds : List D} (I : Inv X pins σ H s) (rx : RelV x v) (rxs : Vals [.ref q] us) (ra : DR X.K m H x a) (hq : H q = some (.lst vs))
    (rs : DRs X.K m H vs ds) (sr : SR X.K m H S) (po : Post X.K CT E (rD X.K) m H (extF a ds S) Q) : wpAny (model X.prog X.w) X.A (call (.builtin "list.extend") (v :: us)) (EP X pins σ Q) X.xe s := by
  unfold extF at po
  split at po
  · rename_i l
    obtain ⟨p, rfl, hp⟩ := ra.ref_inv
    obtain ⟨ys, e, po⟩ := getL_inv po
    obtain ⟨g, po⟩ := Post.guard po
    obtain ⟨ws, h1, z, r⟩ := sr.get hp e
    have hz : ws.length + vs.length ≤ sizeLine := by rw [r.length, rs.length]; exact of_decide_eq_true g
    obtain ⟨S', sr', ex, po⟩ := setL_inv sr hp e h1 (r.append rs) (by rw [List.length_append]; exact hz) (by rw [mxs_append]; exact Nat.le_refl _) po
    exact mt_extend pins s σ H _ _ v us Q I rx rxs ⟨p, q, ws, vs, rfl, rfl, h1, hq, hz, po.ret sr' (.p .non)⟩
  · exact po.elim
theorem m_extF : MtR X "list.extend" (rMf X.K CT (rD X.K) extF) := by
  intro pins s σ H x xs v us Q I rx rxs ⟨E, m, S, a, p, vs, ds, ev, ra, hp, np, z, rs, sr, po⟩
  subst ev
  exact ext_run I rx rxs ra hp rs sr po
theorem m_ext : MtR X "list.extend" (rMt X.K CT (rD X.K) extD) := by
  intro pins s σ H x xs v us Q I rx rxs ⟨E, m, S, a, ds, ra, rs, sr, po⟩
  unfold extD at po
  split at po
  · rename_i k
    obtain ⟨w, rfl, rw'⟩ := rs.one
    obtain ⟨q, rfl, hq⟩ := rw'.ref_inv
    obtain ⟨ys, e, po⟩ := getL_inv po
    obtain ⟨ws, h1, z, r⟩ := sr.get hq e
    exact ext_run I rx rxs ra h1 r sr po
  · exact po.elim
theorem m_pop : MtR X "list.pop" (rMt X.K CT (rD X.K) popD) := by
  intro pins s σ H x xs v us Q I rx rxs ⟨E, m, S, a, ds, ra, rs, sr, po⟩
  unfold popD at po
  split at po
  · rename_i l
    obtain ⟨p, rfl, hp⟩ := ra.ref_inv
    cases rs
    obtain ⟨ys, e, po⟩ := getL_inv po
    obtain ⟨d, e1, po⟩ := optM_inv po
    obtain ⟨ws, h1, z, r⟩ := sr.get hp e
    have hl := r.length
    obtain ⟨w, e2, rw'⟩ := r.get e1
    have er : DRs X.K m H ws.dropLast ys.dropLast := by
      rw [List.dropLast_eq_take, List.dropLast_eq_take, hl]
      exact r.take _
    obtain ⟨S', sr', ex, po⟩ := setL_inv sr hp e h1 er (by rw [List.length_dropLast]; omega) (by
      have : mxs ys.dropLast ≤ mxs ys := by
        have h := mxs_append (ys.take (ys.length - 1)) (ys.drop (ys.length - 1))
        rw [List.take_append_drop] at h
        rw [List.dropLast_eq_take]
        omega
      omega) po
    refine mt_pop pins s σ H _ _ v us Q I rx rxs ⟨p, ws, w, rfl, rfl, h1, by rw [hl]; exact e2, po.ret sr' (rw'.ext sr ex)⟩
  · exact po.elim
theorem m_popI : MtR X "list.pop" (rMt X.K CT (rD X.K) popI) := by
  intro pins s σ H x xs v us Q I rx rxs ⟨E, m, S, a, ds, ra, rs, sr, po⟩
  unfold popI at po
  split at po
  · rename_i l i
    obtain ⟨p, rfl, hp⟩ := ra.ref_inv
    obtain ⟨w0, rfl, rw0⟩ := rs.one
    obtain rfl := rw0.p_inv.int_inv
    obtain ⟨ys, e, po⟩ := getL_inv po
    obtain ⟨g, po⟩ := Post.guard po
    simp only [Bool.and_eq_true, decide_eq_true_eq] at g
    obtain ⟨j, ej, po⟩ := optM_inv po
    obtain ⟨d, e1, po⟩ := optM_inv po
    obtain ⟨ws, h1, z, r⟩ := sr.get hp e
    obtain ⟨w, e2, rw'⟩ := r.get e1
    obtain ⟨S', sr', ex, po⟩ := setL_inv sr hp e h1 (r.erase j) (Nat.le_trans (len_erase _ _) z) (by have := mxs_erase ys j; omega) po
    exact mt_popAt pins s σ H _ _ v us Q I rx rxs ⟨p, ws, i, j, w, rfl, rfl, h1, g.1, g.2, by rw [r.length]; exact (ixN_seq ej).1, e2, po.ret sr' (rw'.ext sr ex)⟩
  · exact po.elim
theorem m_cnt : MtR X "list.count" (rMt X.K CT (rD X.K) cntD) := by
  intro pins s σ H x xs v us Q I rx rxs ⟨E, m, S, a, ds, ra, rs, sr, po⟩
  unfold cntD at po
  split at po
  · rename_i l i
    obtain ⟨p, rfl, hp⟩ := ra.ref_inv
    obtain ⟨w0, rfl, rw0⟩ := rs.one
    obtain rfl := rw0.p_inv.int_inv
    obtain ⟨ys, e, po⟩ := getL_inv po
    obtain ⟨is, e1, po⟩ := optM_inv po
    obtain ⟨ws, h1, z, r⟩ := sr.get hp e
    exact mt_lcount pins s σ H _ _ v us Q I rx rxs ⟨p, is, i, rfl, rfl, by rw [← ints_rel e1 r]; exact SqL.of h1, po.ret sr (.p (.int _))⟩
  · exact po.elim
theorem m_scnt : MtR X "str.count" (rMt X.K CT (rD X.K) scntD) := by
  intro pins s σ H x xs v us Q I rx rxs ⟨E, m, S, a, ds, ra, rs, sr, po⟩
  unfold scntD at po
  split at po
  · obtain rfl := ra.p_inv.str_inv
    obtain ⟨w0, rfl, rw0⟩ := rs.one
    obtain rfl := rw0.p_inv.str_inv
    exact mt_count pins s σ H _ _ v us Q I rx rxs ⟨_, _, rfl, rfl, po.ret sr (.p (.int _))⟩
  · exact po.elim
theorem strsOf_rel {K : PySem.W.Frag} {H : Hp} : ∀ {xs : List PyData} {is : List Str} {vs : List V}, strsOf xs = some is → RPs K H vs xs → vs = is.map V.str
  | [], is, vs, h, r => by
    cases r
    simp [strsOf] at h
    subst h
    rfl
  | .str i :: xs, is, vs, h, r => by
    cases r with
    | cons a t =>
      simp only [strsOf] at h
      cases e : strsOf xs with
      | none => rw [e] at h; cases h
      | some js =>
        rw [e] at h
        cases h
        rw [a.str_inv, strsOf_rel e t]
        rfl
  | .none :: _, _, _, h, _ => by simp [strsOf] at h
  | .bool _ :: _, _, _, h, _ => by simp [strsOf] at h
  | .int _ :: _, _, _, h, _ => by simp [strsOf] at h
  | .list _ :: _, _, _, h, _ => by simp [strsOf] at h
  | .tuple _ :: _, _, _, h, _ => by simp [strsOf] at h
  | .dict _ :: _, _, _, h, _ => by simp [strsOf] at h
theorem strs_rel {K : PySem.W.Frag} {m : List Addr} {H : Hp} {ds : List D} {vs : List V} {is : List Str} (e : strsD ds = some is) (r : DRs K m H vs ds) : vs = is.map V.str := by
  unfold strsD at e
  cases e1 : allP ds with
  | none => rw [e1] at e; cases e
  | some xs =>
    rw [e1] at e
    rw [allP_rel e1] at r
    exact strsOf_rel e r.toP
theorem join_run {pins : List (Addr × Obj)} {s : Shared} {σ : L2.St} {H : Hp} {x : V} {q : Addr} {v : Value} {us : List Value} {Q : VK} {E : XK} {m : List Addr} {S : Sto} {a : D} {vs : List V} {ds : List D} (I : Inv X pins σ H s) (rx : RelV x v) (rxs : Vals [.ref q] us) (ra : DR X.K m H x a) (hq : H q = some (.lst vs) ∨ SqT X.K H q vs)
    (rs : DRs X.K m H vs ds) (sr : SR X.K m H S) (po : Post X.K CT E (rD X.K) m H (joinF a ds S) Q) : wpAny (model X.prog X.w) X.A (call (.builtin "str.join") (v :: us)) (EP X pins σ Q) X.xe s := by
  unfold joinF at po
  split at po
  · rename_i z
    obtain rfl := ra.p_inv.str_inv
    obtain ⟨ys, e1, po⟩ := optM_inv po
    obtain ⟨g, po⟩ := Post.guard po
    have ev := strs_rel e1 rs
    subst ev
    exact mt_join pins s σ H _ _ v us Q I rx rxs ⟨z, q, ys, rfl, rfl, hq.imp_left SqL.of, of_decide_eq_true g, po.ret sr (.p (.str _))⟩
  · exact po.elim
theorem m_joinF : MtR X "str.join" (rMf X.K CT (rD X.K) joinF) := by
  intro pins s σ H x xs v us Q I rx rxs ⟨E, m, S, a, p, vs, ds, ev, ra, hp, np, z, rs, sr, po⟩
  subst ev
  exact join_run I rx rxs ra (.inl hp) rs sr po
theorem m_join : MtR X "str.join" (rMt X.K CT (rD X.K) joinD) := by
  intro pins s σ H x xs v us Q I rx rxs ⟨E, m, S, a, ds, ra, rs, sr, po⟩
  unfold joinD at po
  split at po
  · obtain ⟨w, rfl, rw'⟩ := rs.one
    obtain ⟨q, ws, ys, rfl, h1, z, r, po⟩ := seqItems_inv sr rw' po
    exact join_run I rx rxs ra h1 r sr po
  · exact po.elim
end
end Den

/-! Den, part N: list comprehensions; a list that was just made gets its place. -/
namespace Den
open PySem PySem.Spec PyProof.Rows L2

section
variable {K : PySem.W.Frag} {CT : Nat → Value} {E E' : XK} {m m' : List Addr} {H H' : Hp} {S S' : Sto} {p : Addr}
theorem Post.step {α β α' β' : Type} {rel : Rel α β} {rel' : Rel α' β'} {a : M α} {g : α → M α'} {Q : β' → Hp → Prop} (h : Post K CT E rel' m H (bnd a g S) Q) (e : Ext m H m' H') :
    Post K CT E rel m' H' (a S) (fun x H2 => ∃ m1 S1 y, rel.r H' m1 H2 x y ∧ SR K m1 H2 S1 ∧ Ext m' H' m1 H2 ∧ Post K CT E rel' m H (g y S1) Q) := by
  unfold bnd at h
  cases q : a S with
  | ok y S1 =>
    rw [q] at h
    exact fun v m1 H1 r sr x => ⟨m1, S1, y, r, sr, x, h⟩
  | exc c d S1 => rw [q] at h; exact fun v m1 H1 dd a b x => h v m1 H1 dd a b (e.trans x)
  | bad => rw [q] at h; exact h.elim
theorem noExc_post {α β : Type} {rel : Rel α β} {f : M α} {Q : β → Hp → Prop} (h : Post K CT E rel m H (noExc f S) Q) : Post K CT E' rel m H (f S) Q := by
  unfold noExc at h
  cases q : f S with
  | ok y S1 => rw [q] at h; exact h
  | exc c d S1 => rw [q] at h; exact h.elim
  | bad => rw [q] at h; exact h.elim
/-- a list of one's own is written: the rest stands -/
theorem own_k {vs ws : List V} (h : H p = some (.lst vs)) (a : Addr) (us : List V) (q : SqT K H a us) : SqT K (upd H p (.lst ws)) a us := by
  have ne : ∀ {o : HO}, H a = some o → (∀ us, o ≠ .lst us) → a ≠ p := fun {o} e n z => by
    rw [z, h] at e; cases e; exact n _ rfl
  rcases q with (q | ⟨o, q⟩) | q
  · exact .inl (.inl (by rw [upd_ne (ne q fun _ z => nomatch z)]; exact q))
  · exact .inl (.inr ⟨o, by rw [upd_ne (ne q fun _ z => nomatch z)]; exact q⟩)
  · exact .inr q
theorem own_f {vs ws : List V} (h : H p = some (.lst vs)) : FzK K H (upd H p (.lst ws)) := fun a us q => q.imp_left fun ⟨o, q⟩ => ⟨o, by
  rw [upd_ne fun z : a = p => by rw [z, h] at q; cases q]
  exact q⟩
theorem SR.own {vs ws : List V} (sr : SR K m H S) (hp : p ∉ m) (h : H p = some (.lst vs)) : SR K m (upd H p (.lst ws)) S where
  len := sr.len
  nd := sr.nd
  wf := sr.wf
  obj := fun l a o hm ho => by
    have ne : a ≠ p := fun z => hp (by rw [← z]; exact List.mem_of_getElem? hm)
    have q := sr.obj l a o hm ho
    cases o with
    | lst xs =>
      obtain ⟨us, h1, z, r⟩ := q
      exact ⟨us, by rw [upd_ne ne]; exact h1, z, drs_mono (own_k h) (own_f h) (fun _ _ z => z) r⟩
    | dic kvs =>
      obtain ⟨us, h1, z, r⟩ := q
      exact ⟨us, by rw [upd_ne ne]; exact h1, z, Paired.mapP r fun _ _ r => ⟨r.1, dr_mono (own_k h) (own_f h) (fun _ _ z => z) r.2⟩⟩
    | gone =>
      obtain ⟨od, u, h1, h2⟩ := q
      exact ⟨od, u, by rw [upd_ne ne]; exact h1, h2⟩
theorem Ext.own {vs ws : List V} (e : Ext m H m' H') (h0 : H p = none) (h : H' p = some (.lst vs)) : Ext m H m' (upd H' p (.lst ws)) where
  keep := fun a o q n t => by
    rw [upd_ne fun z : a = p => by rw [z, h0] at q; cases q]
    exact e.keep a o q n t
  tbl := fun a ps q => by
    rw [upd_ne fun z : a = p => by rw [z, h0] at q; cases q]
    exact e.tbl a ps q
  pre := e.pre
  new := e.new
  non := fun a q => e.non a (upd_non q)
theorem Ext.keepL {vs : List V} (e : Ext m H m' H') (hp : p ∉ m) (h : H p = some (.lst vs)) : p ∉ m' ∧ H' p = some (.lst vs) :=
  ⟨fun z => (e.new p z).elim hp (fun q => by rw [h] at q; cases q), e.keep p _ h (.inl hp) (fun _ z => nomatch z)⟩
end

section
variable {X : Cx} {CT : Nat → Value} {W : WX} {elt tg iter : Expr} {ifs : List Expr} {scope : Scope} {own : List (Str × Nat)} {pos : Pos} {t : DT} {c : DB} {e : DE} {sf : DS}
abbrev W0 : WX := fun _ _ _ _ => False
theorem PTs.imp {X : Cx} {e : List Expr} {t t' : TT} (h : PTs X e t) (i : ∀ σ H Q, t' σ H Q → t σ H Q) : PTs X e t' := ⟨fun pins s σ H Q I q => h.run pins s σ H Q I (i σ H Q q)⟩
theorem s_yes : PTs X [] (tT X.K CT W yesS) := PTs.imp pts_nil fun σ H Q ⟨ρ, m, S, er, sr, po⟩ => Post.ret (rel := rB) (a := true) (x := true) po sr rfl
theorem s_one {ex : Expr} (h : PT X ex (tT X.K CT W c)) : PTs X [ex] (tT X.K CT W c) := pts_one h
theorem lc_go {vs : List Nat} {σ : L2.St} {H1 : Hp} {Q : VK} {J : It} {src : Src} {ρ : Rho} {m : List Addr} {S : Sto} (rs : (rI X.K).r H1 m H1 J src) (er : EnvR X.K m H1 ρ σ) (sr : SR X.K m H1 S) (hn : src.n < sizeLine)
    (po : Post X.K CT (fun c d H' => W c d σ H') (rL X.K) m H1 (lcGo t c e src (wipeR ρ vs) (src.n + 1) 0 [] S) Q) : tLc (fun _ H R => R J H) (tTg X.K CT W0 vs t) (tT X.K CT W0 c) (tE X.K CT W0 e) vs σ H1 Q := by
  intro A hA
  refine ⟨fun i k H' => ∃ (m' : List Addr) (S' : Sto) (acc : List D) (us : List V), SR X.K m' H' S' ∧ Ext m H1 m' H' ∧ A ∉ m' ∧ H' A = some (.lst us) ∧ us.length ≤ i ∧ DRs X.K m' H' us acc ∧ i + k = src.n + 1 ∧
    Post X.K CT (fun c d H' => W c d σ H') (rL X.K) m H1 (lcGo t c e src (wipeR ρ vs) k i acc S') Q, ⟨src.n + 1, m, S, [], [], sr.new hA, ext_new hA, sr.fresh hA, upd_same, Nat.le_refl _, .nil, by omega, po⟩, ?_⟩
  rintro i k H' ⟨m', S', acc, us, sr', ex', nD, hA', hl, rs', hk, po⟩
  cases k with
  | zero => exact po.elim
  | succ k =>
    have hus : us.length < sizeLine := by omega
    obtain ⟨h1, h2⟩ := rs i m' H' S' sr' ex'
    unfold lcGo at po
    cases e1 : src.get i S' with
    | none => rw [e1] at po; exact po.elim
    | some o =>
      rw [e1] at po
      cases o with
      | none => exact .inl ⟨h2 e1, po (.ref A) m' H' ⟨A, us, rfl, hA, hA', nD, Nat.le_of_lt hus, rs'⟩ sr' ex'⟩
      | some d =>
        obtain ⟨hgo, hy⟩ := h1 d e1
        refine .inr ⟨hgo, fun H2 => ∃ (m' : List Addr) (S' : Sto) (acc : List D) (us : List V), SR X.K m' H2 S' ∧ Ext m H1 m' H2 ∧ A ∉ m' ∧ H2 A = some (.lst us) ∧ us.length ≤ i + 1 ∧ DRs X.K m' H2 us acc ∧ i + 1 + k = src.n + 1 ∧
          Post X.K CT (fun c d H' => W c d σ H') (rL X.K) m H1 (lcGo t c e src (wipeR ρ vs) k (i + 1) acc S') Q, fun H2 q => ⟨k, Nat.lt_succ_self k, q⟩, fun x H2 y => ?_⟩
        obtain ⟨rd, sr2, ex2⟩ := hy x H2 y
        obtain ⟨nD2, hD2⟩ := ex2.keepL nD hA'
        have e12 := ex'.trans ex2
        refine ⟨wipeR ρ vs, m', S', d, (er.wipe vs).ext sr e12, sr2, rd, (noExc_post (E' := fun c d H' => W0 c d (L2.wipe σ vs) H') (Post.step (rel := rT X.K vs (L2.wipe σ vs)) po e12)).imp fun σ3 H3 ⟨m3, S3, ρ3, ⟨er3, off⟩, sr3, ex3, p3⟩ => ⟨?_, ρ3, m3, S3, er3, sr3, ?_⟩⟩
        · rw [wipe_eq off, wipe_eq (wipe_off σ vs)]
        · have e13 := e12.trans ex3
          obtain ⟨nD3, hD3⟩ := ex3.keepL nD2 hD2
          refine (noExc_post (E' := fun c d H' => W0 c d σ3 H') (Post.step (rel := rB) p3 e13)).imp fun b H4 ⟨m4, S4, b', rb, sr4, ex4, p4⟩ => ?_
          obtain rfl : b = b' := rb
          have e14 := e13.trans ex4
          obtain ⟨nD4, hD4⟩ := ex4.keepL nD3 hD3
          cases b with
          | false =>
            rw [if_neg Bool.false_ne_true] at p4 ⊢
            exact ⟨m4, S4, acc, us, sr4, e14, nD4, hD4, by omega, ((rs'.ext sr' ex2).ext sr2 ex3).ext sr3 ex4, by omega, p4⟩
          | true =>
            rw [if_pos rfl] at p4 ⊢
            refine ⟨ρ3, m4, S4, er3.ext sr3 ex4, sr4, (noExc_post (E' := fun c d H' => W0 c d σ3 H') (Post.step (rel := rD X.K) p4 e14)).imp fun v H5 ⟨m5, S5, d5, r5, sr5, ex5, p5⟩ => ?_⟩
            obtain ⟨nD5, hD5⟩ := ex5.keepL nD4 hD4
            have e15 := e14.trans ex5
            have rs5 := ((((rs'.ext sr' ex2).ext sr2 ex3).ext sr3 ex4).ext sr4 ex5).append (.cons r5 .nil)
            exact ⟨us, hD5, hus, m5, S5, acc ++ [d5], us ++ [v], sr5.own nD5 hD5, e15.own hA hD5, nD5, upd_same, by rw [List.length_append]; simp only [List.length_singleton]; omega, drs_mono (own_k hD5) (own_f hD5) (fun _ _ z => z) rs5, by omega, p5⟩
theorem lc_read {vs : List Nat} {σ : L2.St} {H : Hp} {Q : VK} (hq : tN X.K CT W (lcS vs t c e sf) σ H Q) : tLc (tI X.K CT W sf) (tTg X.K CT W0 vs t) (tT X.K CT W0 c) (tE X.K CT W0 e) vs σ H Q :=
  tG.mono (tG.first (rel := rI X.K) hq) fun J H1 ⟨ρ, m, S, src, rs, er, sr, po⟩ => by
    obtain ⟨g, po⟩ := Post.guard po
    exact lc_go rs er sr (of_decide_eq_true g) po
theorem s_lc (hc : X.calm = true) (hN : X.N.Nodup) (hi : PI X tg iter (tI X.K CT W sf)) (ok : BlkOk X.N X.env.scope scope own)
    (hg : ∀ (s : Shared) (H : Hp) (C : Addr) (cl : List (Str × Addr)) (fp : List Addr), PG (X.blk s H scope (compEnvC scope cl C X.env) fp) tg (tTg X.K CT W0 (own.map (·.2)) t))
    (ht : ∀ (s : Shared) (H : Hp) (C : Addr) (cl : List (Str × Addr)) (fp : List Addr), PTs (X.blk s H scope (compEnvC scope cl C X.env) fp) ifs (tT X.K CT W0 c))
    (he : ∀ (s : Shared) (H : Hp) (C : Addr) (cl : List (Str × Addr)) (fp : List Addr), PE (X.blk s H scope (compEnvC scope cl C X.env) fp) elt (tE X.K CT W0 e)) (hs : ∀ x, foldedSetIterable iter X.env x = pure x) :
    PE X (.ListComp elt [⟨tg, iter, ifs, 0⟩] scope pos) (tN X.K CT W (lcS (own.map (·.2)) t c e sf)) :=
  PE.imp (pe_lc hc hN hi ok hg ht he hs) fun σ H Q hq => lc_read hq
end

/-! ### a fresh list gets its place -/
section
variable {K : PySem.W.Frag} {CT : Nat → Value} {E : XK} {m m' : List Addr} {H H' : Hp} {S S' : Sto} {p : Addr}
theorem SR.adopt {vs : List V} {xs : List D} (sr : SR K m H S) (hp : p ∉ m) (h : H p = some (.lst vs)) (z : vs.length ≤ sizeLine) (r : DRs K m H vs xs) : SR K (m ++ [p]) H ⟨S.objs ++ [.lst xs], S.nt⟩ where
  len := by simp [sr.len]
  nd := List.nodup_append.mpr ⟨sr.nd, by simp, fun a ha b hb => by rw [List.mem_singleton] at hb; subst hb; exact fun q => hp (q ▸ ha)⟩
  obj := fun l a u hm hs => by
    have k : ∀ (l : Nat) (a : Addr), m[l]? = some a → (m ++ [p])[l]? = some a := pre_get (List.prefix_append _ _)
    by_cases hl : l < m.length
    · rw [List.getElem?_append_left hl] at hm
      rw [List.getElem?_append_left (by rw [← sr.len]; exact hl)] at hs
      have q := sr.obj l a u hm hs
      cases u with
      | lst ys => obtain ⟨us, h1, z1, r1⟩ := q; exact ⟨us, h1, z1, drs_mono (fun _ _ z => z) (fun _ _ z => z) k r1⟩
      | dic ys => obtain ⟨us, h1, z1, r1⟩ := q; exact ⟨us, h1, z1, Paired.mapP r1 fun _ _ r => ⟨r.1, dr_mono (fun _ _ z => z) (fun _ _ z => z) k r.2⟩⟩
      | gone => exact q
    · have e : l = m.length := by
        have := (List.getElem?_eq_some_iff.mp hm).1
        rw [List.length_append, List.length_singleton] at this; omega
      subst e
      rw [List.getElem?_append_right (Nat.le_refl _), Nat.sub_self] at hm
      rw [List.getElem?_append_right (by rw [sr.len]; exact Nat.le_refl _), sr.len, Nat.sub_self] at hs
      simp at hm hs; subst hm hs
      exact ⟨vs, h, z, drs_mono (fun _ _ z => z) (fun _ _ z => z) k r⟩
  wf := fun h l o hs => by
    by_cases hl : l < S.objs.length
    · rw [List.getElem?_append_left hl] at hs; exact sr.wf h l o hs
    · have e : l = S.objs.length := by
        have := (List.getElem?_eq_some_iff.mp hs).1
        rw [List.length_append, List.length_singleton] at this; omega
      subst e
      rw [List.getElem?_append_right (Nat.le_refl _), Nat.sub_self] at hs
      simp at hs; subst hs
      rw [← sr.len]; exact r.mxle
theorem Ext.adopt (e : Ext m H m' H') (h : H p = none) : Ext m H (m' ++ [p]) H' where
  keep := e.keep
  tbl := e.tbl
  pre := e.pre.trans (List.prefix_append _ _)
  non := e.non
  new := fun a ha => by
    rcases List.mem_append.mp ha with ha | ha
    · exact e.new a ha
    · rw [List.mem_singleton] at ha; subst ha; exact .inr h
theorem push_read {α β : Type} {rel : Rel α β} {f : M (List D)} {g : D → M α} {Q : β → Hp → Prop} (h : Post K CT E rel m H (bnd f (fun ds => bnd (push (.lst ds)) g) S) Q) :
    Post K CT E (rL K) m H (f S) fun v H1 => ∃ (m1 : List Addr) (S1 : Sto) (d : D), DR K m1 H1 v d ∧ SR K m1 H1 S1 ∧ Ext m H m1 H1 ∧ Post K CT E rel m1 H1 (g d S1) Q := by
  unfold bnd at h
  cases e : f S with
  | ok ds S1 =>
    rw [e] at h
    rintro v m1 H1 ⟨p, vs, rfl, h0, h1, np, z, rs⟩ sr ex
    have q : m1.length = S1.objs.length := sr.len
    exact ⟨m1 ++ [p], _, .ref S1.objs.length, .ref (by rw [← q, List.getElem?_append_right (Nat.le_refl _), Nat.sub_self]; rfl), sr.adopt np h1 z rs, ex.adopt h0, Post.later h (ex.adopt h0)⟩
  | exc c d S1 => rw [e] at h; exact h
  | bad => rw [e] at h; exact h.elim
end
section
variable {X : Cx} {CT : Nat → Value} {W : WX} {E : XK} {e : Expr} {l : DL}
theorem bnd_ret {α : Type} (f : M α) : bnd f ret = f := by
  funext S
  unfold bnd
  cases f S <;> rfl
theorem s_push (h : PE X e (tN X.K CT W l)) : PE X e (tE X.K CT W (pushL l)) :=
  PE.imp h fun σ H Q ⟨ρ, m, S, er, sr, po⟩ => ⟨ρ, m, S, er, sr, by
    have e : pushL l ρ = bnd (l ρ) fun ds => bnd (push (.lst ds)) ret := by
      unfold pushL
      congr 1
    rw [e] at po
    exact (push_read (rel := rD X.K) (g := ret) po).imp fun v H1 ⟨m1, S1, d, r, sr1, ex, p⟩ => Post.ret (rel := rD X.K) p sr1 r⟩
variable {i : Nat} {y : Str} {py : Pos} {elt tg iter : Expr} {ifs : List Expr} {scope : Scope} {own : List (Str × Nat)} {pos spos : Pos} {t : DT} {c : DB} {sf : DS} {el : DE}
theorem s_setLc (hc : X.calm = true) (hN : X.N.Nodup) (hy : X.N[i]? = some y) (hyl : X.env.scope.names.lookup y = some .local) (hsw : swapsWith (.ListComp elt [⟨tg, iter, ifs, 0⟩] scope pos) (some (.Name y py)) spos.line X.env = pure true)
    (hi : PI X tg iter (tI X.K CT (wE E) sf)) (ok : BlkOk X.N X.env.scope scope own)
    (hg : ∀ (s : Shared) (H : Hp) (C : Addr) (cl : List (Str × Addr)) (fp : List Addr), PG (X.blk s H scope (compEnvC scope cl C X.env) fp) tg (tTg X.K CT W0 (own.map (·.2)) t))
    (ht : ∀ (s : Shared) (H : Hp) (C : Addr) (cl : List (Str × Addr)) (fp : List Addr), PTs (X.blk s H scope (compEnvC scope cl C X.env) fp) ifs (tT X.K CT W0 c))
    (he : ∀ (s : Shared) (H : Hp) (C : Addr) (cl : List (Str × Addr)) (fp : List Addr), PE (X.blk s H scope (compEnvC scope cl C X.env) fp) elt (tE X.K CT W0 el)) (hs : ∀ x, foldedSetIterable iter X.env x = pure x) :
    PS X (.Assign [.Name y py] (.ListComp elt [⟨tg, iter, ifs, 0⟩] scope pos) spos) (tS X.K CT E (asgS (pushL (lcS (own.map (·.2)) t c el sf)) (tgN i))) :=
  PS.imp (ps_setLc hc hN hy hyl hsw hi ok hg ht he hs) fun D σ H ⟨ρ, m, S, er, sr, po⟩ => lc_read (W := wE E) ⟨ρ, m, S, er, sr, by
    unfold asgS pushL at po
    rw [bnd_assoc] at po
    exact (push_read (rel := rF X.K) (g := fun d => bnd (tgN i d ρ) fun ρ' => ret (.nx ρ')) po).imp fun v H1 ⟨m1, S1, d, r, sr1, ex, p⟩ => fin_nx (ρ := ρ.set i (some d)) p sr1 ((er.ext sr ex).set i r)⟩
end
end Den

/-! Den, part N2: dicts: made, asked, walked. -/
namespace Den
open PySem PySem.Spec PyProof.Rows L2

/-! ### meanings -/
def newD : DE := fun _ => push (.dic [])
/-- {k: v}, atoms -/
def oneD (k v : Int) : DE := fun _ => push (.dic [(.inl k, .int v)])
def getD2 (f g h : DE) : DE := fun ρ => bnd (f ρ) fun a => bnd (chk "dict" a) fun _ => bnd (g ρ) fun b => bnd (h ρ) fun d => match a with
  | .ref l => bnd (getDic l) fun kvs => optM (keyD b) fun k => ret ((valD kvs k).getD d)
  | _ => fail
def keyP : L2.Key → D
  | .inl i => .int i
  | .inr x => .str x
def itemD (kv : L2.Key × D) : D := mkTup [keyP kv.1, kv.2]
def srcK (kvs : List (L2.Key × D)) : Src := ⟨kvs.length, fun i _ => itemAt (kvs.map itemD) i⟩
/-- while the dict in slot i is walked it is out of reach -/
def lockM {α : Type} (i : Nat) (ρ : Rho) (f : List (L2.Key × D) → M α) : M α := fun S => match ρ[i]? with
  | some (some (.ref l)) => (match S.objs[l]? with
    | some (.dic kvs) => (match f kvs ⟨S.objs.set l .gone, S.nt⟩ with
      | .ok a S' => .ok a ⟨S'.objs.set l (.dic kvs), S'.nt || decide (l < mxs (kvs.map (·.2)))⟩
      | _ => .bad)
    | _ => .bad)
  | _ => .bad
def forKS (i : Nat) (t : DT) (b : DSt) : DSt := fun ρ => lockM i ρ fun kvs => forGo t b (srcK kvs) (kvs.length + 1) 0 ρ
def lcKS (i : Nat) (own : List Nat) (t : DT) (c : DB) (e : DE) : DL := fun ρ => lockM i ρ fun kvs => guardM (decide (kvs.length < sizeLine)) (lcGo t c e (srcK kvs) (wipeR ρ own) (kvs.length + 1) 0 [])

section
variable {K : PySem.W.Frag} {CT : Nat → Value} {E : XK} {m m' : List Addr} {H H' : Hp} {S S' : Sto}
theorem getDic_inv {α β : Type} {rel : Rel α β} {l : Nat} {g : List (L2.Key × D) → M α} {Q : β → Hp → Prop} (h : Post K CT E rel m H (bnd (getDic l) g S) Q) : ∃ xs, S.objs[l]? = some (.dic xs) ∧ Post K CT E rel m H (g xs S) Q := by
  unfold bnd getDic at h
  cases e : S.objs[l]? with
  | none => rw [e] at h; exact h.elim
  | some o =>
    rw [e] at h
    cases o with
    | dic xs => exact ⟨xs, rfl, h⟩
    | lst xs => exact h.elim
    | gone => exact h.elim
theorem keyD_rel {v : V} {d : D} {k : L2.Key} (r : DR K m H v d) (e : keyD d = some k) : v = kV k := by
  unfold keyD at e
  split at e
  · cases e; exact r.p_inv.int_inv
  · cases e; exact r.p_inv.str_inv
  · cases e
theorem keyP_rel (k : L2.Key) : DR K m H (kV k) (keyP k) := by
  cases k with
  | inl i => exact .p (.int i)
  | inr x => exact .p (.str x)
theorem src_items {m0 : List Addr} {H0 : Hp} {d : Addr} {od : Obj} {ws : List (L2.Key × V)} {kvs : List (L2.Key × D)} {S0 : Sto} (sr0 : SR K m0 H0 S0) (h : H0 d = some (.frz od (.dK ws))) (r : KRs K m0 H0 ws kvs) : SrcR K m0 H0 (Iti d od ws) (srcK kvs) := fun i mc Hc Sc sr ex => by
  have hd : Hc d = some (.frz od (.dK ws)) := ex.keep d _ h (.inr ⟨_, _, rfl⟩) fun _ z => nomatch z
  have rc := KRs.ext sr0 ex r
  have hl : ws.length = kvs.length := Paired.length r
  refine ⟨fun x hx => ?_, fun hn => ?_⟩
  · have e := itemAt_some (show itemAt (kvs.map itemD) i = some (some x) from hx)
    rw [List.getElem?_map] at e
    cases e1 : kvs[i]? with
    | none => rw [e1] at e; cases e
    | some kv =>
      rw [e1] at e
      cases e
      have hi : i < ws.length := by rw [hl]; exact (List.getElem?_eq_some_iff.mp e1).1
      refine ⟨⟨hd, hi⟩, fun x H2 ⟨T, k, v, e2, ex2, nT, e3⟩ => ?_⟩
      obtain ⟨kv', e4, q1, q2⟩ := L2.paired_get rc e2
      rw [e1] at e4
      cases e4
      have q1 : k = kv.1 := q1
      subst ex2 e3
      rw [q1]
      exact pair_made sr (keyP_rel kv.1) q2 nT
  · have e := itemAt_none (show itemAt (kvs.map itemD) i = some none from hn)
    rw [List.length_map] at e
    exact ⟨hd, by omega⟩
theorem frz_dK_k {d : Addr} {od : Obj} {ws : List (L2.Key × V)} (h : H d = some (.frz od (.dK ws))) (a : Addr) (us : List V) (q : SqT K H a us) : SqT K (upd H d (.dK ws)) a us := by
  have ne : ∀ {o : HO}, H a = some o → (∀ us, o = .tup us ∨ ∃ ob, o = .frz ob (.tup us) → True) → (o ≠ .frz od (.dK ws)) → a ≠ d := fun {o} e _ n z => by
    rw [z, h] at e; cases e; exact n rfl
  rcases q with (q | ⟨o, q⟩) | q
  · exact .inl (.inl (by rw [upd_ne fun z : a = d => by rw [z, h] at q; cases q]; exact q))
  · exact .inl (.inr ⟨o, by rw [upd_ne fun z : a = d => by rw [z, h] at q; cases q]; exact q⟩)
  · exact .inr q
theorem frz_dK_f {d : Addr} {od : Obj} {ws : List (L2.Key × V)} (h : H d = some (.frz od (.dK ws))) : FzK K H (upd H d (.dK ws)) := fun a us q => q.imp_left fun ⟨o, q⟩ => ⟨o, by
  rw [upd_ne fun z : a = d => by rw [z, h] at q; cases q]
  exact q⟩
/-- unlocked -/
theorem SR.unlock {l : Nat} {d : Addr} {od : Obj} {ws : List (L2.Key × V)} {kvs : List (L2.Key × D)} (sr : SR K m H S) (hm : m[l]? = some d) (h : H d = some (.frz od (.dK ws))) (z : ws.length ≤ sizeLine) (r : KRs K m H ws kvs) :
    SR K m (upd H d (.dK ws)) ⟨S.objs.set l (.dic kvs), S.nt || decide (l < mxs (kvs.map (·.2)))⟩ where
  len := by simp [sr.len]
  nd := sr.nd
  obj := fun i a o ha ho => by
    have ho : (S.objs.set l (.dic kvs))[i]? = some o := ho
    have hlt : l < S.objs.length := by rw [← sr.len]; exact (List.getElem?_eq_some_iff.mp hm).1
    by_cases e : i = l
    · subst e
      rw [hm] at ha
      cases ha
      rw [List.getElem?_set_self hlt] at ho
      cases ho
      exact ⟨ws, upd_same, z, Paired.mapP r fun _ _ r => ⟨r.1, dr_mono (frz_dK_k h) (frz_dK_f h) (fun _ _ z => z) r.2⟩⟩
    · rw [List.getElem?_set_ne (Ne.symm e)] at ho
      have ne : a ≠ d := fun q => by
        obtain ⟨x1, y1⟩ := List.getElem?_eq_some_iff.mp ha
        obtain ⟨x2, y2⟩ := List.getElem?_eq_some_iff.mp hm
        exact e ((List.getElem_inj sr.nd).mp (y1.trans (q.trans y2.symm)))
      have q := sr.obj i a o ha ho
      cases o with
      | lst xs => obtain ⟨us, h1, z, r⟩ := q; exact ⟨us, by rw [upd_ne ne]; exact h1, z, drs_mono (frz_dK_k h) (frz_dK_f h) (fun _ _ z => z) r⟩
      | dic xs => obtain ⟨us, h1, z, r⟩ := q; exact ⟨us, by rw [upd_ne ne]; exact h1, z, Paired.mapP r fun _ _ r => ⟨r.1, dr_mono (frz_dK_k h) (frz_dK_f h) (fun _ _ z => z) r.2⟩⟩
      | gone => obtain ⟨o2, u, h1, h2⟩ := q; exact ⟨o2, u, by rw [upd_ne ne]; exact h1, h2⟩
  wf := fun hb i o ho => by
    have hb : (S.nt || decide (l < mxs (kvs.map (·.2)))) = false := hb
    simp only [Bool.or_eq_false_iff, decide_eq_false_iff_not] at hb
    have ho : (S.objs.set l (.dic kvs))[i]? = some o := ho
    by_cases e : i = l
    · subst e
      have hlt : i < S.objs.length := by simpa using (List.getElem?_eq_some_iff.mp ho).1
      rw [List.getElem?_set_self hlt] at ho
      cases ho
      show mxs (kvs.map (·.2)) ≤ i
      omega
    · rw [List.getElem?_set_ne (Ne.symm e)] at ho
      exact sr.wf hb.1 i o ho
theorem Ext.unlock {H0 : Hp} {m0 : List Addr} {d : Addr} {od : Obj} {ws : List (L2.Key × V)} (e : Ext m0 (upd H0 d (.frz od (.dK ws))) m' H') (hd : d ∈ m0) (h0 : H0 d = some (.dK ws)) : Ext m0 H0 m' (upd H' d (.dK ws)) where
  keep := fun a o q n t => by
    have ne : a ≠ d := fun z => by
      rcases n with n | ⟨ob, u, rfl⟩
      · exact n (by rw [z]; exact hd)
      · rw [z, h0] at q; cases q
    rw [upd_ne ne]
    exact e.keep a o (by rw [upd_ne ne]; exact q) n t
  tbl := fun a ps q => by
    have ne : a ≠ d := fun z => by rw [z, h0] at q; cases q
    rw [upd_ne ne]
    exact e.tbl a ps (by rw [upd_ne ne]; exact q)
  pre := e.pre
  new := fun a ha => (e.new a ha).imp_right upd_non
  non := fun a q => upd_non (e.non a (upd_non q))
/-- a dict is locked, a run, unlocked -/
theorem lock_read {α β : Type} {rel : Rel α β} (hrel : ∀ (m : List Addr) (H : Hp) (d : Addr) (od : Obj) (ws : List (L2.Key × V)) (v : β) (a : α) (H0 : Hp), H d = some (.frz od (.dK ws)) → H0 d = some (.dK ws) → rel.r (upd H0 d (.frz od (.dK ws))) m H v a → rel.r H0 m (upd H d (.dK ws)) v a)
    {i : Nat} {ρ : Rho} {σ : L2.St} {f : List (L2.Key × D) → M α} {Q : β → Hp → Prop} (er : EnvR K m H ρ σ) (sr : SR K m H S) (po : Post K CT E rel m H (lockM i ρ f S) Q) :
    ∃ (d : Addr) (ws : List (L2.Key × V)) (kvs : List (L2.Key × D)), σ[i]? = some (some (.ref d)) ∧ H d = some (.dK ws) ∧ ws.length = kvs.length ∧ ∀ od : Obj, ∃ S1 : Sto, (upd H d (.frz od (.dK ws))) d = some (.frz od (.dK ws)) ∧ SR K m (upd H d (.frz od (.dK ws))) S1 ∧ EnvR K m (upd H d (.frz od (.dK ws))) ρ σ ∧ KRs K m (upd H d (.frz od (.dK ws))) ws kvs ∧
      Post K CT E rel m (upd H d (.frz od (.dK ws))) (f kvs S1) fun v H' => H' d = some (.frz od (.dK ws)) ∧ Q v (upd H' d (.dK ws)) := by
  unfold lockM at po
  cases e0 : ρ[i]? with
  | none => rw [e0] at po; exact po.elim
  | some o => cases o with
    | none => rw [e0] at po; exact po.elim
    | some x => cases x with
      | p _ => rw [e0] at po; exact po.elim
      | tup _ => rw [e0] at po; exact po.elim
      | ref l =>
        rw [e0] at po
        dsimp only at po
        cases e1 : S.objs[l]? with
        | none => rw [e1] at po; exact po.elim
        | some ob => cases ob with
          | lst _ => rw [e1] at po; exact po.elim
          | gone => rw [e1] at po; exact po.elim
          | dic kvs =>
            rw [e1] at po
            dsimp only at po
            obtain ⟨v, hv, rv⟩ := er.val i _ e0
            obtain ⟨d, rfl, hd⟩ := rv.ref_inv
            obtain ⟨ws, h1, z, r⟩ := sr.getD hd e1
            refine ⟨d, ws, kvs, hv, h1, Paired.length r, fun od => ?_⟩
            have ex : Ext m H m (upd H d (.frz od (.dK ws))) := ext_set hd h1 (fun _ z => nomatch z) not_frz_dK
            have sr1 : SR K m (upd H d (.frz od (.dK ws))) ⟨S.objs.set l .gone, S.nt⟩ := SR.set sr (k := 0) hd h1 (fun _ z => nomatch z) not_frz_dK ⟨od, _, upd_same, fun _ => ⟨fun z => (nomatch z), fun z => (nomatch z)⟩⟩ fun hb => ⟨hb, Nat.zero_le _⟩
            refine ⟨_, upd_same, sr1, er.ext sr ex, KRs.ext sr ex r, ?_⟩
            generalize f kvs ⟨S.objs.set l .gone, S.nt⟩ = rr at po
            cases rr with
            | bad => exact po.elim
            | exc _ _ _ => exact po.elim
            | ok a S' =>
              intro v m' H' rl sr' ex'
              have hd' : H' d = some (.frz od (.dK ws)) := ex'.keep d _ upd_same (.inr ⟨_, _, rfl⟩) fun _ z => nomatch z
              have hm' : m'[l]? = some d := pre_get ex'.pre l d hd
              have exu : Ext m H m' (upd H' d (.dK ws)) := ex'.unlock (List.mem_of_getElem? hd) h1
              exact ⟨hd', po v m' _ (hrel m' H' d od ws v a H hd' h1 rl) (sr'.unlock hm' hd' z (KRs.ext sr1 ex' (KRs.ext sr ex r))) exu⟩
end
section
variable {X : Cx} {CT : Nat → Value} {W : WX} {E : XK} {i : Nat} {x : Str} {a b e : Expr} {f g h : DE} {t : DT} {c : DB} {el : DE} {s : DSt} {apos cpos pos p : Pos} {k : Nat} {elts : List Expr} {kk : Nat} {tpos : Pos} {own : List Nat}
theorem envR_lock {K : PySem.W.Frag} {m : List Addr} {H : Hp} {d : Addr} {od : Obj} {ws : List (L2.Key × V)} {ρ : Rho} {σ : L2.St} (hf : H d = some (.frz od (.dK ws))) (r : EnvR K m H ρ σ) : EnvR K m (upd H d (.dK ws)) ρ σ :=
  ⟨r.len, fun j d' e => let ⟨v, a, b⟩ := r.val j d' e; ⟨v, a, dr_mono (frz_dK_k hf) (frz_dK_f hf) (fun _ _ z => z) b⟩⟩
theorem rF_lock {K : PySem.W.Frag} (m : List Addr) (H : Hp) (d : Addr) (od : Obj) (ws : List (L2.Key × V)) (v : FV) (a : Fl) (H0 : Hp) (hf : H d = some (.frz od (.dK ws))) (_ : H0 d = some (.dK ws)) (r : (rF K).r (upd H0 d (.frz od (.dK ws))) m H v a) : (rF K).r H0 m (upd H d (.dK ws)) v a := by
  cases v with
  | nx σ' => cases a with
    | nx ρ' => exact envR_lock hf r
    | _ => exact r.elim
  | rt v => cases a with
    | rt d' => exact dr_mono (frz_dK_k hf) (frz_dK_f hf) (fun _ _ z => z) r
    | _ => exact r.elim
  | bk σ' => cases a with
    | bk ρ' => exact envR_lock hf r
    | _ => exact r.elim
  | ct σ' => cases a with
    | ct ρ' => exact envR_lock hf r
    | _ => exact r.elim
theorem rL_lock {K : PySem.W.Frag} (m : List Addr) (H : Hp) (d : Addr) (od : Obj) (ws : List (L2.Key × V)) (v : V) (a : List D) (H0 : Hp) (hf : H d = some (.frz od (.dK ws))) (_ : H0 d = some (.dK ws)) (r : (rL K).r (upd H0 d (.frz od (.dK ws))) m H v a) : (rL K).r H0 m (upd H d (.dK ws)) v a := by
  obtain ⟨q, us, ev, hn, hq, np, z, rs⟩ := r
  have ne : q ≠ d := fun z => by rw [z, hf] at hq; cases hq
  exact ⟨q, us, ev, upd_non hn, by rw [upd_ne ne]; exact hq, np, z, drs_mono (frz_dK_k hf) (frz_dK_f hf) (fun _ _ z => z) rs⟩
theorem s_newD : PE X (.Dict [] [] pos) (tE X.K CT W newD) := PE.imp pe_dnewK fun σ H Q ⟨ρ, m, S, er, sr, po⟩ q nq => Post.push po (sr.pushD nq (Nat.zero_le _) .nil) nq sr.len
theorem s_oneD {n1 n2 : Int} {j1 j2 : Nat} {q1 q2 : Pos} : PE X (.Dict [some (.Constant (.int n1) j1 q1)] [.Constant (.int n2) j2 q2] pos) (tE X.K CT W (oneD n1 n2)) :=
  PE.imp (pe_disp (pps_cons pe_int pe_int pps_nil) rfl rfl (by simp) (by show 1 ≤ 15; decide)) fun σ H Q ⟨ρ, m, S, er, sr, po⟩ q nq => by
    refine ⟨upd_same, [(.inl n1, .int n2)], rfl, by show 1 ≤ 15; decide, ?_⟩
    have e : upd (upd H q (.dK [])) q (.dK (mergeK [] [(.inl n1, .int n2)])) = upd H q (.dK [(.inl n1, .int n2)]) := by
      funext y
      unfold upd
      split <;> rfl
    rw [e]
    exact Post.push po (sr.pushD nq (by show 1 ≤ sizeLine; decide) (.cons ⟨rfl, .p (.int n2)⟩ .nil)) nq sr.len
theorem s_getD2 (hr : Room k X.A) (ho : PE X e (tE X.K CT W f)) (ha : PE X a (tE X.K CT W g)) (hb : PE X b (tE X.K CT W h)) (M : M2 X e "get" apos a b cpos) : PE X (.Call (.Attribute e "get" apos) [a, b] [] cpos) (tE X.K CT W (getD2 f g h)) :=
  PE.imp (pe_dget2 (by have := hr.un; omega) ho ha hb M) fun σ H Q hq => tG.mono (tG.first (rel := rD X.K) hq) fun x H1 ⟨ρ, m, S, d, r, er, sr, po⟩ => by
    obtain ⟨ty, po⟩ := chk_inv po
    cases d with
    | p z => cases z <;> simp [tyD, tyP] at ty
    | tup _ => simp [tyD] at ty
    | ref l =>
      obtain ⟨q, rfl, hq⟩ := r.ref_inv
      have isd : IsD H1 q := by
        simp only [tyD] at ty
        cases e1 : S.objs[l]? with
        | none => rw [e1] at ty; cases ty
        | some o => cases o with
          | dic kvs => obtain ⟨ws, h1, _⟩ := sr.getD hq e1; exact .inl ⟨ws, .inl h1⟩
          | lst _ => rw [e1] at ty; simp at ty
          | gone => rw [e1] at ty; cases ty
      refine ⟨q, rfl, isd, tG.mono (Post.next (rel := rD X.K) er sr po) fun y H2 ⟨m2, S2, b2, rb, sr2, ex2, p2⟩ => tG.mono (Post.next (rel := rD X.K) (er.ext sr ex2) sr2 p2) fun z H3 ⟨m3, S3, d3, rd, sr3, ex3, p3⟩ => ?_⟩
      obtain ⟨kvs, e1, p3⟩ := getDic_inv p3
      obtain ⟨key, e2, p3⟩ := optM_inv p3
      have hq3 : m3[l]? = some q := pre_get ex3.pre l q (pre_get ex2.pre l q hq)
      obtain ⟨ws, h1, zz, rr⟩ := sr3.getD hq3 e1
      have ek := keyD_rel (rb.ext sr2 ex3) e2
      refine ⟨valV ws key, by rw [ek]; exact DGet.k h1, ?_⟩
      rcases krs_val rr key with ⟨v1, v2⟩ | ⟨v, dv, v1, v2, v3⟩
      · rw [v1]
        rw [v2] at p3
        exact p3.ret sr3 rd
      · rw [v1]
        rw [v2] at p3
        exact p3.ret sr3 v3
theorem s_forK {body : List Stmt} (hp : PassesOwn (model X.prog X.w) X.A X.env X.xe) (hc : X.calm = true) (hN : X.N[i]? = some x) (hv : Vis X.env.scope x) (hd : (x == ("__debug__" : Str)) = false) (hcd : (x == ("__classdict__" : Str)) = false) (hl : (apos.endLine == cpos.line) = true)
    (hg : PG X (.Tuple elts kk tpos) (tTg X.K CT (wE E) own t)) (hb : PSs X body (tS X.K CT E s)) : PS X (.For (.Tuple elts kk tpos) (.Call (.Attribute (.Name x p) "items" apos) [] [] cpos) body [] pos) (tS X.K CT E (forKS i t s)) :=
  PS.imp (ps_lock (ps_for hp hc (pi_items (pe_var hN hv hd hcd) (base_ok' rfl) hl) hg hb fun _ => rfl)) fun D σ H ⟨ρ, m, S, er, sr, po⟩ => by
    obtain ⟨d, ws, kvs, h1, h2, h3, h4⟩ := lock_read (rel := rF X.K) rF_lock er sr po
    refine ⟨d, .dK ws, h2, True.intro, fun od => ?_⟩
    obtain ⟨S1, q1, sr1, er1, r1, p1⟩ := h4 od
    refine ⟨.ref d, h1, d, od, ws, rfl, q1, for_go (ρ := ρ) (m := m) (S := S1) (src := srcK kvs) (src_items sr1 q1 r1) er1 sr1 (p1.imp fun fv H' ⟨q2, q3⟩ => ?_)⟩
    cases fv with
    | nx σ' => exact ⟨q2, q3⟩
    | rt v => exact ⟨q2, q3⟩
    | bk σ' => exact ⟨q2, q3⟩
    | ct σ' => exact ⟨q2, q3⟩
where
  base_ok' {o : Expr} {attr : Str} {env : Env} {y : Str} {q : Pos} (h : o = .Name y q) : attributeBase o attr env (eval o env) = eval o env := by subst h; rfl
theorem s_lcK {elt : Expr} {ifs : List Expr} {scope : Scope} {ow : List (Str × Nat)} (hc : X.calm = true) (hNd : X.N.Nodup) (hN : X.N[i]? = some x) (hv : Vis X.env.scope x) (hd : (x == ("__debug__" : Str)) = false) (hcd : (x == ("__classdict__" : Str)) = false) (hl : (apos.endLine == cpos.line) = true) (ok : BlkOk X.N X.env.scope scope ow)
    (hg : ∀ (s : Shared) (H : Hp) (C : Addr) (cl : List (Str × Addr)) (fp : List Addr), PG (X.blk s H scope (compEnvC scope cl C X.env) fp) (.Tuple elts kk tpos) (tTg X.K CT W0 (ow.map (·.2)) t))
    (ht : ∀ (s : Shared) (H : Hp) (C : Addr) (cl : List (Str × Addr)) (fp : List Addr), PTs (X.blk s H scope (compEnvC scope cl C X.env) fp) ifs (tT X.K CT W0 c))
    (he : ∀ (s : Shared) (H : Hp) (C : Addr) (cl : List (Str × Addr)) (fp : List Addr), PE (X.blk s H scope (compEnvC scope cl C X.env) fp) elt (tE X.K CT W0 el)) :
    PE X (.ListComp elt [⟨.Tuple elts kk tpos, .Call (.Attribute (.Name x p) "items" apos) [] [] cpos, ifs, 0⟩] scope pos) (tN X.K CT W (lcKS i (ow.map (·.2)) t c el)) :=
  PE.imp (pe_lock (pe_lc hc hNd (pi_items (pe_var hN hv hd hcd) (s_forK.base_ok' rfl) hl) ok hg ht he fun _ => rfl)) fun σ H Q ⟨ρ, m, S, er, sr, po⟩ => by
    obtain ⟨d, ws, kvs, h1, h2, h3, h4⟩ := lock_read (rel := rL X.K) rL_lock er sr po
    refine ⟨d, .dK ws, h2, True.intro, fun od => ?_⟩
    obtain ⟨S1, q1, sr1, er1, r1, p1⟩ := h4 od
    obtain ⟨g, p1⟩ := Post.guard p1
    exact ⟨.ref d, h1, d, od, ws, rfl, q1, lc_go (W := W) (ρ := ρ) (m := m) (S := S1) (src := srcK kvs) (src_items sr1 q1 r1) er1 sr1 (of_decide_eq_true g) p1⟩
end
end Den

/-! Den, part N3: sorted(d.items()), sum(d.values()). -/
namespace Den
open PySem PySem.Spec PyProof.Rows L2

/-! ### one step below -/
abbrev under1 (X : Cx) : Cx := { X with A := X.A.in1 }
section
variable {X : Cx} {pins : List (Addr × Obj)} {σ : L2.St} {H : Hp} {s : Shared}
theorem inv_in (I : Inv X pins σ H s) : Inv (under1 X) pins σ H s :=
  ⟨⟨I.ok.mod, I.ok.kind, I.ok.glob, I.ok.blt, I.ok.above, I.ok.inj, I.ok.has, I.ok.cab, I.ok.hd, I.ok.frames, I.ok.stk, I.ok.exf, I.ok.bs, I.ok.bsz, I.ok.noex, I.ok.exfs, I.ok.funs, I.ok.frf⟩, I.os, I.bare, I.base, I.loc, I.cell, I.free, I.freeC, I.pin, I.hok, I.len⟩
theorem inv_out (I : Inv (under1 X) pins σ H s) (ok : X.Ok) : Inv X pins σ H s := ⟨ok, I.os, I.bare, I.base, I.loc, I.cell, I.free, I.freeC, I.pin, I.hok, I.len⟩
end

/-! ### pairs of ints in their order -/
def lexLe (p q : Int × Int) : Bool := decide (p.1 < q.1) || (decide (p.1 = q.1) && decide (p.2 ≤ q.2))
def psort (ps : List (Int × Int)) : List (Int × Int) := ps.mergeSort lexLe
theorem lexLe_iff {p q : Int × Int} : lexLe p q = true ↔ p.1 < q.1 ∨ (p.1 = q.1 ∧ p.2 ≤ q.2) := by simp [lexLe]
theorem psort_eq {ps qs : List (Int × Int)} (h1 : qs.Perm ps) (h2 : qs.Pairwise fun a b => lexLe a b = true) : psort ps = qs := by
  have h3 : (psort ps).Perm qs := (List.mergeSort_perm _ _).trans h1.symm
  have h4 : (psort ps).Pairwise fun a b => lexLe a b = true := List.pairwise_mergeSort (fun a b c x y => by rw [lexLe_iff] at *; omega) (fun a b => by
    rw [Bool.or_eq_true, lexLe_iff, lexLe_iff]; omega) ps
  refine h3.eq_of_pairwise (fun a b _ _ x y => ?_) h4 h2
  rw [lexLe_iff] at x y
  obtain ⟨a1, a2⟩ := a
  obtain ⟨b1, b2⟩ := b
  simp only at x y
  have e1 : a1 = b1 := by omega
  have e2 : a2 = b2 := by omega
  rw [e1, e2]
def pairsOf : List (L2.Key × D) → Option (List (Int × Int))
  | [] => some []
  | (.inl k, .p (.int v)) :: r => (pairsOf r).map ((k, v) :: ·)
  | _ :: _ => none
def pairD (p : Int × Int) : D := .p (.tuple [.int p.1, .int p.2])
def dictM {α : Type} (f : DE) (g : List (L2.Key × D) → M α) : Rho → M α := fun ρ => bnd (f ρ) fun a => match a with
  | .ref l => bnd (getDic l) g
  | _ => fail
def sortItS (f : DE) : DL := dictM f fun kvs => optM (pairsOf kvs) fun ps => guardM (decide (ps.length < sizeLine)) (ret ((psort ps).map pairD))
def sumValS (f : DE) : DE := dictM f fun kvs => sumF (kvs.map (·.2))

section
variable {K : PySem.W.Frag} {CT : Nat → Value} {E : XK} {m : List Addr} {H : Hp} {S : Sto}
theorem dictM_inv {α β : Type} {rel : Rel α β} {d : D} {v : V} {g : List (L2.Key × D) → M α} {Q : β → Hp → Prop} (sr : SR K m H S) (r : DR K m H v d) (po : Post K CT E rel m H ((match d with | .ref l => bnd (getDic l) g | _ => fail) S) Q) :
    ∃ a ws kvs, v = .ref a ∧ H a = some (.dK ws) ∧ ws.length ≤ sizeLine ∧ KRs K m H ws kvs ∧ Post K CT E rel m H (g kvs S) Q := by
  cases d with
  | p _ => exact po.elim
  | tup _ => exact po.elim
  | ref l =>
    obtain ⟨a, rfl, ha⟩ := r.ref_inv
    obtain ⟨kvs, e, po⟩ := getDic_inv (g := g) po
    obtain ⟨ws, h1, z, rr⟩ := sr.getD ha e
    exact ⟨a, ws, kvs, rfl, h1, z, rr, po⟩
theorem krs_vals {ws : List (L2.Key × V)} {kvs : List (L2.Key × D)} (rr : KRs K m H ws kvs) : DRs K m H (ws.map (·.2)) (kvs.map (·.2)) := by
  induction rr with
  | nil => exact .nil
  | cons h t ih => exact .cons h.2 ih
theorem pairs_rel : ∀ {kvs : List (L2.Key × D)} {ps : List (Int × Int)} {ws : List (L2.Key × V)}, pairsOf kvs = some ps → KRs K m H ws kvs → ws = ps.map fun p => (.inl p.1, .int p.2)
  | [], ps, ws, e, r => by
    cases r
    cases e
    rfl
  | (k, d) :: kvs, ps, ws, e, r => by
    cases r with
    | cons h t =>
      cases k with
      | inr _ => simp [pairsOf] at e
      | inl k =>
        cases d with
        | tup _ => simp [pairsOf] at e
        | ref _ => simp [pairsOf] at e
        | p x => cases x with
          | int v =>
            simp only [pairsOf] at e
            cases e1 : pairsOf kvs with
            | none => rw [e1] at e; cases e
            | some qs =>
              rw [e1] at e
              cases e
              rw [pairs_rel e1 t]
              obtain ⟨a1, a2⟩ := h
              rename_i a _
              obtain ⟨b1, b2⟩ := a
              simp only at a1 a2
              subst a1
              rw [a2.p_inv.int_inv]
              rfl
          | none => simp [pairsOf] at e
          | bool _ => simp [pairsOf] at e
          | str _ => simp [pairsOf] at e
          | list _ => simp [pairsOf] at e
          | tuple _ => simp [pairsOf] at e
          | dict _ => simp [pairsOf] at e
end

/-! ### sum(d.values()) -/
section
variable {X : Cx} {CT : Nat → Value} {W : WX} {o : Expr} {f : DE} {p pos apos mpos : Pos}
def tSumVals (td : TE) : TE := fun σ H Q => td σ H fun x H1 => ∃ (a : Addr) (kvs : List (L2.Key × V)) (is : List Int), x = V.ref a ∧ H1 a = some (.dK kvs) ∧ kvs.map (·.2) = is.map V.int ∧ Q (.int is.sum) H1
theorem preSum_take (is : List Int) : ∀ n : Nat, n ≤ is.length → preSum (fun i => is.getD i 0) n = (is.take n).sum
  | 0, _ => by simp [preSum]
  | n + 1, h => by
    show preSum (fun i => is.getD i 0) n + is.getD n 0 = _
    rw [preSum_take is n (by omega), List.take_add_one, List.sum_append, List.getD_eq_getElem?_getD, List.getElem?_eq_getElem (by omega)]
    simp
theorem preSum_list (is : List Int) : preSum (fun i => is.getD i 0) is.length = is.sum := by
  rw [preSum_take is _ (Nat.le_refl _), List.take_length]
theorem pe_sumVals {td : TE} (hc : X.calm = true) (hg : Gl X "sum") (hm : X.mg "sum" = none) (hd : PE X o td) (hbase : attributeBase o "values" X.env (eval o X.env) = eval o X.env) (hline : (apos.endLine == mpos.line) = true) :
    PE X (.Call (.Name "sum" p) [.Call (.Attribute o "values" apos) [] [] mpos] [] pos) (tSumVals td) := by
  refine ⟨fun pins s σ H Q I h => ?_⟩
  refine wpAny_Call_Name_kw (ld_blt I hg hm (u := .builtin "sum") (by decide +kernel) ?_)
  rw [show starEach [.Call (.Attribute o "values" apos) [] [] mpos] X.env = [(false, eval (.Call (.Attribute o "values" apos) [] [] mpos) X.env)] from rfl]
  refine PySem.callWith_builtin1 (wpAny_Call_method0_late hbase hline (thn (hd.run pins s σ H _ I h) fun v s1 ⟨x, H1, I1, r1, a, kvs, is, ex, ha, hv, q⟩ => ?_))
  subst ex
  obtain rfl : v = Value.ref a := r1
  obtain ⟨_, hsys, vs, rel, dof⟩ := dk_of I1.hok ha
  obtain ⟨ep, ob, es, ho, ex, hdat, rest⟩ := dof.dictAt
  have dat : s1.heap.DictAt (mixKind X.prog X.w) a vs ep := ⟨ob, es, ho, ex, hdat, rest⟩
  refine ⟨"dict", "dict.values", F.plainAttrs_dict, F.slot_dict_values, F.type_dict_values, ⟨ob, ho, ex.1⟩, fun b e => ⟨ob, by cases e; exact ho, ex.2.1⟩, Calls.callWith_builtin rfl (PySem.evalArgs_none ?_)⟩
  refine call_meetsIn F.slot_dict_values ⟨ob, ho, ex.1⟩ F.entry_dict_values (F.args_dict_values_1 _) (meets_dict_values (mixKind X.prog X.w) a hsys) ⟨⟨vs, dof⟩, ?_⟩
  have hlv : vs.length = is.length := by
    have e1 := congrArg List.length hv
    simp only [List.length_map] at e1
    rw [← e1, KV.length rel]
  have hval : ∀ (i : Nat) (v : Value), (∃ k, vs[i]? = some (k, v)) → ∃ t, v = Value.int (is.getD i 0) t := fun i v ⟨k, hk⟩ => by
    obtain ⟨y, h1, h2⟩ := KV.at' rel hk
    have e1 : (kvs.map (·.2))[i]? = some y := by rw [List.getElem?_map, h1]; rfl
    rw [hv, List.getElem?_map] at e1
    cases ej : is[i]? with
    | none => rw [ej] at e1; cases e1
    | some j =>
      rw [ej] at e1
      obtain rfl : V.int j = y := Option.some.inj e1
      obtain ⟨t, e3⟩ := h2
      exact ⟨t, by rw [e3, List.getD_eq_getElem?_getD, ej]; rfl⟩
  have hlt : a < s1.heap.objs.size := Heap.lt_size ho
  have hne : a ≠ (s1.heap.push { cls := .type "dict_values", data := .fields #[.ref a] }).objs.size := by
    rw [Heap.size_push]; exact Nat.ne_of_lt (Nat.lt_succ_of_lt hlt)
  have dat1 : (s1.heap.push { cls := .type "dict_values", data := .fields #[.ref a] }).DictAt (mixKind X.prog X.w) a vs ep := dat.keep fun b u e => Heap.get?_push_of_some _ e
  refine call_sum_walkAnyS (wpAny_pyIter_values (v := s1.heap.objs.size) (d := a) ⟨_, Heap.get?_push_size _ rfl, rfl, rfl⟩ dat1 ?_)
  have Wk := (Walks.dictValues (prog := X.prog) (w := X.w) (A := X.A.in1) (knd := mixKind X.prog X.w) (I1.ok.hd hc) _ a hne vs ep).toS
  refine ⟨_, _, _, _, vs.length, _, _, fun i => is.getD i 0, rfl, Wk, ⟨⟨_, Heap.get?_push_size _ rfl, rfl, rfl⟩, dat1.keep fun b u e => Heap.get?_push_of_some _ e⟩, fun b hb => ?_, fun i v hP => hval i v hP, fun s' t' hm => ?_⟩
  · rcases List.mem_cons.mp hb with rfl | hb
    · simp only [Heap.size_push]; exact Nat.lt_succ_self _
    · obtain rfl := List.mem_singleton.mp hb
      simp only [Heap.size_push]
      exact Nat.lt_succ_of_lt (Nat.lt_succ_of_lt hlt)
  · rw [hlv, preSum_list]
    obtain ⟨h', g2, d', tk', os'⟩ := s'
    have eg : g2 = s1.gens := hm.gens
    have ed : d' = s1.drawn := hm.drawn
    have eo : os' = s1.os := hm.os
    subst eg ed eo
    refine ⟨.int is.sum, H1, I1.kept (t' := tk') fun b u e => ?_, ⟨_, rfl⟩, q⟩
    have hb := Heap.lt_size e
    exact hm.heap b u (fun z => by
      have z := List.mem_singleton.mp z
      rw [z, Heap.size_push] at hb
      exact absurd hb (Nat.not_lt.mpr (Nat.le_succ _))) (Heap.get?_push_of_some _ (Heap.get?_push_of_some _ e))
theorem s_sumVals (hc : X.calm = true) (hg : Gl X "sum") (hm : X.mg "sum" = none) (hd : PE X o (tE X.K CT W f)) (hbase : attributeBase o "values" X.env (eval o X.env) = eval o X.env) (hline : (apos.endLine == mpos.line) = true) :
    PE X (.Call (.Name "sum" p) [.Call (.Attribute o "values" apos) [] [] mpos] [] pos) (tE X.K CT W (sumValS f)) :=
  PE.imp (pe_sumVals hc hg hm hd hbase hline) fun σ H Q hq => tG.mono (tG.first (rel := rD X.K) hq) fun x H1 ⟨ρ, m, S, d, r, er, sr, po⟩ => by
    obtain ⟨a, ws, kvs, rfl, h1, z, rr, po⟩ := dictM_inv sr r po
    obtain ⟨is, e1, po⟩ := optM_inv po
    refine ⟨a, ws, is, rfl, h1, ?_, po.ret sr (.p (.int _))⟩
    exact ints_rel (m := m) (H := H1) (K := X.K) e1 (krs_vals rr)
end
end Den

/-! Den, part N4: sorted(d.items()). -/
namespace Den
open PySem PySem.Spec PyProof.Rows L2

section
variable {X : Cx} {CT : Nat → Value} {W : WX} {o : Expr} {f : DE} {p pos apos mpos : Pos}
/-- sorted(d.items()), keys and values ints -/
def tSortIt (td : TE) : TE := fun σ H Q => td σ H fun x H1 => ∃ (a : Addr) (ps : List (Int × Int)), x = V.ref a ∧ H1 a = some (.dK (ps.map fun p => (.inl p.1, .int p.2))) ∧ ps.length < sizeLine ∧
  ∀ (H' : Hp) (l : Addr) (ts : List Addr), (∀ b u, H1 b = some u → H' b = some u) → H1 l = none → H' l = some (.lst (ts.map V.ref)) → Paired (fun t q => H' t = some (.tup [.int q.1, .int q.2])) ts (psort ps) → Q (.ref l) H'
theorem paired_at {α β : Type} {F : α → β → Prop} {xs : List α} {ys : List β} (h : Paired F xs ys) {i : Nat} {x : α} {y : β} (hx : xs[i]? = some x) (hy : ys[i]? = some y) : F x y := by
  obtain ⟨y', e, f⟩ := LiI.paired_get h hx
  rw [hy] at e
  cases e
  exact f
theorem paired_of_get {α β : Type} {F : α → β → Prop} : ∀ {xs : List α} {ys : List β}, xs.length = ys.length → (∀ (i : Nat) (x : α) (y : β), xs[i]? = some x → ys[i]? = some y → F x y) → Paired F xs ys
  | [], [], _, _ => .nil
  | [], _ :: _, h, _ => by cases h
  | _ :: _, [], h, _ => by cases h
  | x :: xs, y :: ys, h, f => .cons (f 0 x y rfl rfl) (paired_of_get (Nat.succ.inj h) fun i x y a b => f (i + 1) x y (by simpa using a) (by simpa using b))
/-- the pairs told by their addresses -/
def kOf (as : List Addr) (ps : List (Int × Int)) : V → Int × Int
  | .ref a => ((as.zip ps).lookup a).getD (0, 0)
  | _ => (0, 0)
theorem lookup_zip : ∀ {as : List Addr} {ps : List (Int × Int)}, as.Nodup → ∀ {i : Nat} {a : Addr} {q : Int × Int}, as[i]? = some a → ps[i]? = some q → (as.zip ps).lookup a = some q
  | [], _, _, i, a, q, h, _ => by simp at h
  | _ :: _, [], _, i, a, q, _, h => by simp at h
  | b :: as, r :: ps, hn, 0, a, q, h1, h2 => by
    simp at h1 h2
    subst h1 h2
    simp [List.lookup_cons]
  | b :: as, r :: ps, hn, i + 1, a, q, h1, h2 => by
    have hn := List.nodup_cons.mp hn
    have h1 : as[i]? = some a := by simpa using h1
    have h2 : ps[i]? = some q := by simpa using h2
    have ne : (a == b) = false := beq_eq_false_iff_ne.mpr fun e => hn.1 (by rw [← e]; exact List.mem_of_getElem? h1)
    rw [List.zip_cons_cons, List.lookup_cons, ne]
    exact lookup_zip hn.2 h1 h2
theorem pairs_len {K : Type} [DecidableEq K] {prog : Program} {w : World} {knd : KeyKind prog w K} : ∀ {es : List DictEntry} {vs : List (K × Value)}, Pairs knd es vs → es.length = vs.length
  | _, _, .nil => rfl
  | _, _, .cons _ _ t => by rw [List.length_cons, List.length_cons, pairs_len t]
theorem pairs_get {K : Type} [DecidableEq K] {prog : Program} {w : World} {knd : KeyKind prog w K} : ∀ {es : List DictEntry} {vs : List (K × Value)}, Pairs knd es vs → ∀ {j : Nat} {e : DictEntry}, es[j]? = some e → ∃ kv, vs[j]? = some kv ∧ knd.is kv.1 e.key = true ∧ e.val = kv.2
  | _, _, .nil, j, e, h => by simp at h
  | _, _, .cons h1 h2 t, 0, e, h => by
    simp at h
    subst h
    exact ⟨_, rfl, h1, h2⟩
  | _, _, .cons h1 h2 t, j + 1, e, h => by
    obtain ⟨kv, a, b⟩ := pairs_get t (j := j) (by simpa using h)
    exact ⟨kv, by simpa using a, b⟩
theorem pe_sortIt {td : TE} (hc : X.calm = true) (hg : Gl X "sorted") (hm : X.mg "sorted" = none) (hd : PE X o td) (hbase : attributeBase o "items" X.env (eval o X.env) = eval o X.env) (hline : (apos.endLine == mpos.line) = true) :
    PE X (.Call (.Name "sorted" p) [.Call (.Attribute o "items" apos) [] [] mpos] [] pos) (tSortIt td) := by
  refine ⟨fun pins s σ H Q I h => ?_⟩
  refine wpAny_Call_Name_kw (ld_blt I hg hm (u := .builtin "sorted") (by decide +kernel) ?_)
  rw [show starEach [.Call (.Attribute o "items" apos) [] [] mpos] X.env = [(false, eval (.Call (.Attribute o "items" apos) [] [] mpos) X.env)] from rfl]
  refine PySem.callWith_builtin1 (wpAny_Call_method0_late hbase hline (thn (hd.run pins s σ H _ I h) fun v s1 ⟨x, H1, I1, r1, a, ps, ex, ha, hz, q⟩ => ?_))
  subst ex
  obtain rfl : v = Value.ref a := r1
  obtain ⟨_, hsys, vs, rel, dof⟩ := dk_of I1.hok ha
  obtain ⟨ep, ob, es, ho, ex, hdat, hko, hpr, hnd⟩ := dof.dictAt
  refine ⟨"dict", "dict.items", F.plainAttrs_dict, F.slot_dict_items, F.type_dict_items, ⟨ob, ho, ex.1⟩, fun b e => ⟨ob, by cases e; exact ho, ex.2.1⟩, Calls.callWith_builtin rfl (PySem.evalArgs_none ?_)⟩
  refine call_meetsIn F.slot_dict_items ⟨ob, ho, ex.1⟩ F.entry_dict_items (F.args_dict_items_1 _) (meets_dict_items (mixKind X.prog X.w) a hsys) ⟨⟨vs, dof⟩, ?_⟩
  have lv : ps.length = vs.length := by have := KV.length rel; simpa using this
  have le : es.size = vs.length := by
    rw [← Array.length_toList]
    exact pairs_len hpr
  have I2 : Inv X pins σ H1 { s1 with heap := s1.heap.push { cls := .type "dict_items", data := .fields #[.ref a] } } := I1.kept (t' := s1.toks) fun b u e => Heap.get?_push_of_some _ e
  refine DT.sortedI (es := es) (ep := ep) (I1.ok.hd hc) ⟨_, Heap.get?_push_size _ rfl, rfl, rfl⟩ ⟨ob, Heap.get?_push_of_some _ ho, ex, hdat⟩ (by rw [le, ← lv]; exact Nat.le_of_lt hz) fun h' tk as hk hlt hl hG => ?_
  have la : as.length = ps.length := by rw [hl, le, lv]
  have nd : as.Nodup := hG.rise.imp fun h => Nat.ne_of_lt h
  -- each pair that was made
  have made : ∀ (j : Nat) (b : Addr) (r : Int × Int), as[j]? = some b → ps[j]? = some r → ∃ t1 t2, h'.get? b = some { cls := .type "tuple", data := .seq #[Value.int r.1 t1, Value.int r.2 t2] } := fun j b r hj hr => by
    obtain ⟨en, he, hg⟩ := hG.pairs j b hj
    rw [← Array.getElem?_toList] at he
    obtain ⟨⟨k, v⟩, e1, e2, e3⟩ := pairs_get hpr he
    obtain ⟨y, e4, e5⟩ := KV.at' rel e1
    rw [List.getElem?_map, hr] at e4
    cases e4
    obtain ⟨t1, q1⟩ := relV_key (k := .inl r.1) (show keyIs (.inl r.1) en.key = true from e2)
    obtain ⟨t2, q2⟩ := e5
    have e3 : en.val = v := e3
    exact ⟨t1, t2, by rw [hg, q1, e3, q2]⟩
  have fresh : ∀ b, s1.heap.objs.size ≤ b → H1 b = none := fun b hb => I1.hok.fresh hb
  have hs1 : (s1.heap.push { cls := .type "dict_items", data := .fields #[.ref a] }).objs.size = s1.heap.objs.size + 1 := Heap.size_push _ _
  have hL0 : s1.heap.objs.size ≤ h'.objs.size := by
    have : (s1.heap.push { cls := .type "dict_items", data := .fields #[.ref a] }).objs.size < h'.objs.size := hlt
    omega
  have hb0 : ∀ b ∈ as, s1.heap.objs.size ≤ b := fun b hb => by
    have : (s1.heap.push { cls := .type "dict_items", data := .fields #[.ref a] }).objs.size < b := hG.above b hb
    omega
  have nL : h'.objs.size ∉ as := fun z => Nat.lt_irrefl _ (hG.there z)
  generalize hh2 : h'.push { cls := .type "list", data := .seq (as.map Value.ref).toArray } = h2
  have ka : ∀ b u, h'.get? b = some u → h2.get? b = some u := fun b u e => by rw [← hh2]; exact Heap.get?_push_of_some _ e
  have kp : ∀ b u, s1.heap.get? b = some u → h2.get? b = some u := fun b u e => ka b u (hk b u (Heap.get?_push_of_some _ e))
  have hob : h2.get? h'.objs.size = some { cls := .type "list", data := .seq (as.map Value.ref).toArray } := by rw [← hh2]; exact Heap.get?_push_size _ rfl
  -- what is told of it
  generalize hws : ps.map (fun r : Int × Int => ((.inl r.1, .int r.2) : L2.Key × V)) = ws at ha rel
  have lw : as.length = ws.length := by rw [← hws, List.length_map, la]
  have tups := LiI.putT_at as ws H1 lw nd
  have off : ∀ b, b ∉ as → b ≠ h'.objs.size → upd (LiI.putT H1 as ws) h'.objs.size (.lst (as.map V.ref)) b = H1 b := fun b g1 g2 => by rw [upd_ne g2, LiI.putT_off as ws H1 g1]
  have atT : ∀ (j : Nat) (b : Addr) (r : Int × Int), as[j]? = some b → ps[j]? = some r → upd (LiI.putT H1 as ws) h'.objs.size (.lst (as.map V.ref)) b = some (.tup [.int r.1, .int r.2]) := fun j b r hj hr => by
    rw [upd_ne fun z : b = h'.objs.size => nL (by rw [← z]; exact List.mem_of_getElem? hj)]
    exact paired_at tups hj (by rw [← hws, List.getElem?_map, hr]; rfl)
  generalize hH2 : upd (LiI.putT H1 as ws) h'.objs.size (.lst (as.map V.ref)) = H2 at off atT
  have atL : H2 h'.objs.size = some (.lst (as.map V.ref)) := by rw [← hH2]; exact upd_same
  have kH : ∀ b u, H1 b = some u → H2 b = some u := fun b u e => by
    rw [off b (fun z => by rw [fresh b (hb0 b z)] at e; cases e) fun z => by rw [z, fresh _ hL0] at e; cases e]
    exact e
  have mem_as : ∀ b ∈ as, ∃ (j : Nat) (r : Int × Int), as[j]? = some b ∧ ps[j]? = some r := fun b hb => by
    obtain ⟨j, hj⟩ := List.getElem?_of_mem hb
    have : j < ps.length := by rw [← la]; exact (List.getElem?_eq_some_iff.mp hj).1
    exact ⟨j, ps[j], hj, List.getElem?_eq_getElem this⟩
  have low : ∀ b u, s1.heap.get? b = some u → b ∉ as ∧ b ≠ h'.objs.size := fun b u e => by
    have hb : b < s1.heap.objs.size := Heap.lt_size e
    exact ⟨fun z => absurd (hb0 b z) (Nat.not_le.mpr hb), Nat.ne_of_lt (Nat.lt_of_lt_of_le hb hL0)⟩
  have hok2 : HOk X.prog X.w H2 h2 := fun b u e => by
    by_cases g1 : b ∈ as
    · obtain ⟨j, r, e1, e2⟩ := mem_as b g1
      rw [atT j b r e1 e2] at e
      cases e
      obtain ⟨t1, t2, hg⟩ := made j b r e1 e2
      exact ⟨by show 2 ≤ sizeLine; decide, [.int r.1 t1, .int r.2 t2], .cons ⟨t1, rfl⟩ (.cons ⟨t2, rfl⟩ .nil), _, ka _ _ hg, rfl, _, rfl⟩
    · by_cases g2 : b = h'.objs.size
      · subst g2
        rw [atL] at e
        cases e
        exact ⟨by rw [List.length_map, la]; exact Nat.le_of_lt hz, as.map Value.ref, 0, LiI.vals_refs as, hob⟩
      · rw [off b g1 g2] at e
        exact (I1.hok b u e).stay (fun c v _ y => kp c v y) (fun c y => kH c _ y) fun c xs y => kH c _ y
  have J : Inv X pins σ H2 { s1 with heap := h2, toks := tk } := I1.call' (s' := { s1 with heap := h2, toks := tk }) (ch := []) rfl
    ⟨fun b u e _ _ _ => kp b u e, fun b u e _ _ _ => ⟨u.slots, kp b u e⟩, fun b u e n _ => by rw [off b (low b u e).1 (low b u e).2]; exact n, fun b u e _ => ⟨u, kp b u e⟩, fun b xs e => kH b _ e, fun b u xs e => kH b _ e, fun b qs e => ⟨#[], by rw [kH b _ e]; simp⟩⟩ hok2 I1.bare fun b z => by simp at z
  have hkO : ∀ (j : Nat) (b : Addr) (r : Int × Int), as[j]? = some b → ps[j]? = some r → kOf as ps (.ref b) = r := fun j b r e1 e2 => by
    show ((as.zip ps).lookup b).getD (0, 0) = r
    rw [lookup_zip nd e1 e2]
    rfl
  have hmap : (as.map V.ref).map (kOf as ps) = ps := by
    apply List.ext_getElem?
    intro j
    rw [List.getElem?_map, List.getElem?_map]
    cases e1 : as[j]? with
    | none =>
      have : ps[j]? = none := by
        rw [List.getElem?_eq_none_iff] at e1 ⊢
        omega
      rw [this]; rfl
    | some b =>
      have hj : j < ps.length := by rw [← la]; exact (List.getElem?_eq_some_iff.mp e1).1
      have e2 : ps[j]? = some ps[j] := List.getElem?_eq_getElem hj
      rw [e2]
      show some (kOf as ps (.ref b)) = _
      rw [hkO j b _ e1 e2]
  refine wpAny_mono (mt_sortPO (X := under1 X) pins { s1 with heap := h2, toks := tk } σ H2 (.ref h'.objs.size) [] (.ref h'.objs.size) [] (fun v H' => Q (.ref h'.objs.size) H') (inv_in J) rfl .nil ⟨h'.objs.size, as.map V.ref, kOf as ps, rfl, rfl, atL, fun y hy => ?_, fun zs hs hb => ?_⟩) (fun u s' ⟨v, H3, I3, _, q3⟩ => ⟨.ref h'.objs.size, H3, inv_out I3 I1.ok, rfl, q3⟩) fun _ _ z => z
  · obtain ⟨b, hb, rfl⟩ := List.mem_map.mp hy
    obtain ⟨j, r, e1, e2⟩ := mem_as b hb
    exact ⟨b, rfl, by rw [hkO j b r e1 e2]; exact atT j b r e1 e2⟩
  · have hmem : ∀ z ∈ zs, ∃ b ∈ as, z = V.ref b := fun z hz => by
      obtain ⟨b, hb, e⟩ := List.mem_map.mp (hb.perm.mem_iff.mp hz)
      exact ⟨b, hb, e.symm⟩
    have hps : psort ps = zs.map (kOf as ps) := by
      refine psort_eq ?_ ?_
      · have := hb.perm.map (kOf as ps)
        rw [hmap] at this
        exact this
      · rw [List.pairwise_map]
        refine hs.imp fun {y z} h => ?_
        have h := SrtO.lexB_no.mp h
        rw [lexLe_iff]
        omega
    have hzs : zs = (zs.map fun z => match z with | .ref b => b | _ => 0).map V.ref := by
      rw [List.map_map]
      refine (List.map_id zs).symm.trans (List.map_congr_left fun z hz => ?_)
      obtain ⟨b, _, rfl⟩ := hmem z hz
      rfl
    refine q (upd H2 h'.objs.size (.lst zs)) h'.objs.size (zs.map fun z => match z with | .ref b => b | _ => 0) (fun b u e => ?_) (fresh _ hL0) ?_ ?_
    · rw [upd_ne fun z : b = h'.objs.size => by rw [z, fresh _ hL0] at e; cases e]
      exact kH b u e
    · rw [← hzs]; exact upd_same
    · refine paired_of_get (by rw [hps, List.length_map, List.length_map]) fun i t r e1 e2 => ?_
      rw [hps, List.getElem?_map] at e2
      rw [List.getElem?_map] at e1
      cases ez : zs[i]? with
      | none => rw [ez] at e1; cases e1
      | some z =>
        rw [ez] at e1 e2
        obtain ⟨b, hb', rfl⟩ := hmem z (List.mem_of_getElem? ez)
        cases e1
        obtain rfl : kOf as ps (.ref b) = r := Option.some.inj e2
        obtain ⟨j, r, f1, f2⟩ := mem_as b hb'
        rw [upd_ne fun z : b = h'.objs.size => nL (by rw [← z]; exact hb'), hkO j b r f1 f2]
        exact atT j b r f1 f2
theorem s_sortIt (hc : X.calm = true) (hg : Gl X "sorted") (hm : X.mg "sorted" = none) (hd : PE X o (tE X.K CT W f)) (hbase : attributeBase o "items" X.env (eval o X.env) = eval o X.env) (hline : (apos.endLine == mpos.line) = true) :
    PE X (.Call (.Name "sorted" p) [.Call (.Attribute o "items" apos) [] [] mpos] [] pos) (tN X.K CT W (sortItS f)) :=
  PE.imp (pe_sortIt hc hg hm hd hbase hline) fun σ H Q hq => tG.mono (tG.first (rel := rD X.K) hq) fun x H1 ⟨ρ, m, S, d, r, er, sr, po⟩ => by
    obtain ⟨a, ws, kvs, rfl, h1, z, rr, po⟩ := dictM_inv sr r po
    obtain ⟨ps, e1, po⟩ := optM_inv po
    obtain ⟨g, po⟩ := Post.guard po
    have ew := pairs_rel e1 rr
    refine ⟨a, ps, rfl, by rw [← ew]; exact h1, of_decide_eq_true g, fun H' l ts hk hl hL ht => ?_⟩
    have ex : Ext m H1 m H' := ⟨fun b u e _ _ => hk b u e, fun b qs e => ⟨#[], by rw [hk b _ e, Array.append_empty]⟩, List.prefix_refl _, fun _ h => .inl h, fun b e => by
      cases e2 : H1 b with
      | none => rfl
      | some u => rw [hk b u e2] at e; cases e⟩
    have sr' : SR X.K m H' S := ⟨sr.len, fun l a o hm ho => (sr.obj l a o hm ho).ext sr ex fun u hu => hk a u hu, sr.nd, sr.wf⟩
    have lt : ts.length = (psort ps).length := Paired.length ht
    refine po (.ref l) m H' ⟨l, ts.map V.ref, rfl, hl, hL, sr.fresh hl, ?_, ?_⟩ sr' ex
    · rw [List.length_map, lt, psort, List.length_mergeSort]
      exact Nat.le_of_lt (of_decide_eq_true g)
    · clear lt hL po
      generalize psort ps = qs at ht
      induction ht with
      | nil => exact .nil
      | cons h t ih => exact .cons (.p (.tup (SqT.of h) (by show 2 ≤ sizeLine; decide) (.cons (.int _) (.cons (.int _) .nil)))) ih
end
end Den

/-! Den, part N5: set(xs) of a list of ints, sorted(set(xs)). -/
namespace Den
open PySem PySem.Spec PyProof.Rows L2

section
variable {P : Program} {w : World} {A : Around} {E : Value → Shared → Prop} {s : Shared}
/-- an empty set's object -/
abbrev emptyS (w : World) : Obj := { cls := .type "set", dict := none, data := .set #[] 0 (.fresh 0 0 (!w.params.followText "set-order")) }
/-- what set.__init__ leaves -/
def SetI (w : World) (s : Shared) (ns : List Int) (s2 : Shared) : Prop := ∃ (h' : Heap) (tk c : Nat), s2 = { s with heap := h', toks := tk } ∧ SetR w h' s.heap.objs.size (fun j => decide (j ∈ ns)) c ∧ c ≤ ns.length ∧ ∀ b o, s.heap.get? b = some o → h'.get? b = some o
theorem call_set_listI {l : Addr} {items : Array Value} (ns : List Int) {Q : Value → Shared → Prop} (hl : s.heap.IsList l items) (hit : IntsAre items.toList ns) (hb : ns.length + 1 < scanBound) (hh : A.handled = none)
    (h : ∀ (h' : Heap) (tk c : Nat), SetR w h' s.heap.objs.size (fun j => decide (j ∈ ns)) c → c ≤ ns.length → (∀ b o, s.heap.get? b = some o → h'.get? b = some o) → Q (.ref s.heap.objs.size) { s with heap := h', toks := tk }) :
    wpAny (model P w) A (call (.type "set") [.ref l]) Q E s := by
  have hn : items.size = ns.length := by have := hit.length; simpa using this
  obtain ⟨c, tl, hmro⟩ := F.called_set.mro
  have f1 := F.called_set.made
  have f2 := F.called_set.sub
  refine wpAny_call (codeAny_of_tree ?_)
  show wpAny _ _ (callAny (.type "set") _) _ _ _
  refine wpAny_pure ⟨Code.quiet_builtin _ (by decide +kernel), codeAny_builtin F.entry_type_call ?_⟩
  rw [Around.under_plain (weight_type_call_type "set" [.ref l] []) rfl]
  have f3 := F.called_set.notType
  have f4 := F.called_set.canCreate
  have f5 := F.typeCall_set_1 (.ref l)
  repeat (any_goals (first | assumption | wp_step))
  refine codeAny_mono (code_set_led1 (.ref l) (E := E) (Q₁ := fun u s1 => u = .ref s.heap.objs.size ∧ s1 = { s with heap := s.heap.push (emptyS w) }) ⟨rfl, rfl⟩) fun r1 s1 hr => ?_
  match r1, hr with
  | .error _, hr => exact hr
  | .ok .next, hr => exact hr.elim
  | .ok .brk, hr => exact hr.elim
  | .ok .cont, hr => exact hr.elim
  | .ok (.ret u), hr =>
    obtain ⟨rfl, rfl⟩ := hr
    have hS : (s.heap.push (emptyS w)).get? s.heap.objs.size = some (emptyS w) := Heap.get?_push_size _ rfl
    have hT : Shared.TypeIs { s with heap := s.heap.push (emptyS w) } (.ref s.heap.objs.size) "set" := ⟨_, hS, rfl⟩
    have f6 := F.called_set.init.lookup
    have f7 := F.called_set.init.bind (.ref s.heap.objs.size)
    repeat (any_goals (first | assumption | wp_step))
    refine codeAny_mono (codeAny_call_builtin (R := wants (fun r s2 => r = .none ∧ SetI w s ns s2) E) F.called_set.init.plain F.entry_set_init (check_set_init_1 hT ?_)) fun r2 s2 hr2 => ?_
    · obtain ⟨ol, hol, hcl, nl, hdl⟩ := hl
      obtain ⟨oc, od, dt, osl⟩ := ol
      simp only at hcl hdl
      subst hcl hdl
      have hol' : (s.heap.push (emptyS w)).get? l = some { cls := .type "list", dict := od, data := .seq items nl, slots := osl } := Heap.get?_push_of_some _ hol
      have g1 := F.sub_list_set
      have g2 := F.sub_list_frozenset
      have g3 : (Value.type "list" == Value.type "dict") = false := by decide
      have hl1 : (s.heap.push (emptyS w)).IsList l items := ⟨_, hol', rfl, nl, rfl⟩
      unfold Builtin.«set.__init__» noKeywords Builtin.Frozenset.updateFrom
      generalize hPI : pyIter = PI
      wp_walk
      subst hPI
      refine wpAny_pyIter_list hl1 (wpAny_bind (wpAny_runValue ?_))
      have hlS : l < s.heap.objs.size := Heap.lt_size hol
      have hh3 : A.in1.in1.in1.handled = none := by simp [hh]
      have sz : (s.heap.push (emptyS w)).objs.size = s.heap.objs.size + 1 := Heap.size_push ..
      have hneI : l ≠ (s.heap.push (emptyS w)).objs.size := by rw [sz]; exact Nat.ne_of_lt (Nat.lt_succ_of_lt hlS)
      have hSf : s.heap.objs.size ∉ [(s.heap.push (emptyS w)).objs.size, l] := by
        rw [sz]
        simp only [List.mem_cons, List.not_mem_nil, or_false, not_or]
        exact ⟨Nat.ne_of_lt (Nat.lt_succ_self _), fun z => Nat.lt_irrefl _ (by rw [← z] at hlS; exact hlS)⟩
      have hval : ∀ (i : Nat) (v : Value), items[i]? = some v → ∃ k t, ns[i]? = some k ∧ v = .int k t := fun i v hv => by
        have hi : i < ns.length := by rw [← hn]; exact (Array.getElem?_eq_some_iff.mp hv).1
        obtain ⟨t, e⟩ := PyProof.Rows.IntsAre.int_at hit i v (by rw [Array.getElem?_toList]; exact hv)
        exact ⟨ns[i], t, List.getElem?_eq_getElem hi, by rw [e, List.getD_eq_getElem?_getD, List.getElem?_eq_getElem hi]; rfl⟩
      refine set_update_ints ((Walks.list hh3 _ l hneI items).toS) s.heap.objs.size hSf ns hn hb hval (items.size - 0) 0 _ (by omega) (Nat.zero_le _) ⟨⟨_, Heap.get?_push_size _ rfl, rfl, rfl⟩, (hl1.push _)⟩ ?hS0 ?hR
      case hS0 => exact ⟨0, Nat.le_refl 0, setR_new_at (Heap.get?_push_of_some _ hS)⟩
      case hR =>
        intro s' c' hm hc' hS'
        obtain ⟨h', g', d', tk', os'⟩ := s'
        obtain rfl : g' = s.gens := hm.gens
        obtain rfl : d' = s.drawn := hm.drawn
        obtain rfl : os' = s.os := hm.os
        show wpAny _ _ _ _ _ _
        refine wpAny_pure ?_
        show wpAny _ _ (PySem.ret Value.none) _ _ _
        rw [hn] at hc'
        refine wpAny_pure ⟨rfl, h', tk', c', rfl, hS', hc', fun b o e => ?_⟩
        have b0 : b < s.heap.objs.size := Heap.lt_size e
        refine hm.heap b o ?_ (Heap.get?_push_of_some _ (Heap.get?_push_of_some _ e))
        rw [sz]
        simp only [List.mem_cons, List.not_mem_nil, or_false, not_or]
        exact ⟨Nat.ne_of_lt b0, Nat.ne_of_lt (Nat.lt_succ_of_lt b0)⟩
    · match r2, hr2 with
      | .error _, hr2 => exact hr2
      | .ok .next, hr2 => exact hr2.elim
      | .ok .brk, hr2 => exact hr2.elim
      | .ok .cont, hr2 => exact hr2.elim
      | .ok (.ret r), hr2 =>
        obtain ⟨rfl, h', tk, c', rfl, hS', hc', hk'⟩ := hr2
        repeat (any_goals (first | assumption | wp_step))
        exact h _ _ _ hS' hc' hk'
end

/-! ### distinct ints in their order -/
def uins (a : Int) : List Int → List Int
  | [] => [a]
  | b :: l => if a < b then a :: b :: l else if a = b then b :: l else b :: uins a l
def usort : List Int → List Int
  | [] => []
  | a :: l => uins a (usort l)
theorem mem_uins {a x : Int} : ∀ {l : List Int}, x ∈ uins a l ↔ x = a ∨ x ∈ l
  | [] => by simp [uins]
  | b :: l => by
    unfold uins
    split
    · simp
    · split
      · rename_i h; subst h; simp
      · simp only [List.mem_cons, mem_uins (l := l)]
        constructor
        · rintro (h | h | h) <;> simp [h]
        · rintro (h | h | h) <;> simp [h]
theorem mem_usort {x : Int} : ∀ {l : List Int}, x ∈ usort l ↔ x ∈ l
  | [] => by simp [usort]
  | a :: l => by rw [usort, mem_uins, mem_usort, List.mem_cons]
theorem uins_lt {a : Int} : ∀ {l : List Int}, l.Pairwise (· < ·) → (uins a l).Pairwise (· < ·)
  | [], _ => by simp [uins]
  | b :: l, h => by
    obtain ⟨h1, h2⟩ := List.pairwise_cons.mp h
    unfold uins
    split
    · rename_i hab
      refine List.pairwise_cons.mpr ⟨fun y hy => ?_, h⟩
      rcases List.mem_cons.mp hy with e | e
      · rw [e]; exact hab
      · have := h1 y e; omega
    · split
      · exact h
      · refine List.pairwise_cons.mpr ⟨fun y hy => ?_, uins_lt h2⟩
        rcases mem_uins.mp hy with e | e
        · omega
        · exact h1 y e
theorem usort_lt : ∀ l : List Int, (usort l).Pairwise (· < ·)
  | [] => .nil
  | _ :: l => uins_lt (usort_lt l)
theorem lt_uniq : ∀ {l k : List Int}, l.Pairwise (· < ·) → k.Pairwise (· < ·) → (∀ x, x ∈ l ↔ x ∈ k) → l = k
  | [], [], _, _, _ => rfl
  | [], b :: k, _, _, h => by have := (h b).mpr (by simp); cases this
  | a :: l, [], _, _, h => by have := (h a).mp (by simp); cases this
  | a :: l, b :: k, h1, h2, h => by
    obtain ⟨p1, p2⟩ := List.pairwise_cons.mp h1
    obtain ⟨q1, q2⟩ := List.pairwise_cons.mp h2
    have e : a = b := by
      have m1 := (h a).mp (by simp)
      have m2 := (h b).mpr (by simp)
      rcases List.mem_cons.mp m1 with e | m1
      · exact e
      · rcases List.mem_cons.mp m2 with e | m2
        · exact e.symm
        · have := p1 b m2
          have := q1 a m1
          omega
    subst e
    congr 1
    refine lt_uniq p2 q2 fun x => ⟨fun hx => ?_, fun hx => ?_⟩
    · rcases List.mem_cons.mp ((h x).mp (List.mem_cons_of_mem _ hx)) with e | m
      · have := p1 x hx; omega
      · exact m
    · rcases List.mem_cons.mp ((h x).mpr (List.mem_cons_of_mem _ hx)) with e | m
      · have := q1 x hx; omega
      · exact m
def ssortF : List D → M (List D) := fun ds => optM (intsD ds) fun is => guardM (decide (is.length < 60)) (ret ((usort is).map fun i => .int i))

section
variable {X : Cx} {CT : Nat → Value} {W : WX} {e : Expr} {f : DE} {l : DL} {p q pos pos2 : Pos}
def rSetL (K : PySem.W.Frag) (w : World) : List V → Hp → VK → Prop := fun xs H Q => ∃ (a : Addr) (is : List Int), xs = [.ref a] ∧ SqL K H a (is.map V.int) ∧ is.length < 60 ∧ ∀ (b : Addr) (c : Nat), H b = none → c ≤ is.length → Q (.ref b) (upd H b (SetO w b (fun j => decide (j ∈ is)) c))
theorem cr_setL (hc : X.calm = true) : CallR X (.type "set") (rSetL X.K X.w) := by
  intro pins s σ H xs us Q I r ⟨a, is, e1, hs, hz, q⟩
  subst e1
  rw [Vals.ref1 r]
  obtain ⟨its, rv, hl, _⟩ := I.list hs
  refine call_set_listI (P := X.prog) (w := X.w) is hl.isList (by simpa using intsAre_of rv) (by unfold scanBound; omega) (I.ok.hd hc) fun h' tk c R hcn hk => ?_
  exact ⟨.ref s.heap.objs.size, _, I.laid (t' := tk) hk (Nat.le_refl _) (setO_new R), rfl, q _ c I.fresh hcn⟩
theorem sset_read {E : XK} {m : List Addr} {H : Hp} {S : Sto} {a : Addr} {vs : List V} {ds : List D} {Q : VK} (h1 : H a = some (.lst vs)) (rs : DRs X.K m H vs ds) (sr : SR X.K m H S) (po : Post X.K CT E (rL X.K) m H (ssortF ds S) Q) :
    rSetL X.K X.w [.ref a] H fun v H1 => rSortedSet X.w [v] H1 Q := by
  obtain ⟨is, e1, po⟩ := optM_inv po
  obtain ⟨g, po⟩ := Post.guard po
  have g := of_decide_eq_true g
  refine ⟨a, is, rfl, by rw [← ints_rel e1 rs]; exact SqL.of h1, g, fun b c nb hcn => ⟨b, fun j => decide (j ∈ is), c, rfl, upd_same, by omega, fun ns l h2 h3 h4 nl => ?_⟩⟩
  have e2 : usort is = ns := lt_uniq (usort_lt is) h2 fun x => by rw [mem_usort, h3 x, decide_eq_true_eq]
  rw [e2] at po
  have sr1 := sr.new (o := SetO X.w b (fun j => decide (j ∈ is)) c) nb
  refine po (.ref l) m _ ⟨l, ns.map V.int, rfl, upd_non nl, upd_same, sr1.fresh nl, ?_, drs_ints ns⟩ (sr1.new nl) ((ext_new nb).trans (ext_new nl))
  rw [List.length_map, h4, sizeLine_eq]
  omega
theorem pe_sset {te : TE} (hc : X.calm = true) (hg : Gl X "sorted") (hm : X.mg "sorted" = none) (hg2 : Gl X "set") (hm2 : X.mg "set" = none) (he : PE X e te) (hs : starEach [e] X.env = [(false, eval e X.env)]) :
    PE X (.Call (.Name "sorted" p) [.Call (.Name "set" q) [e] [] pos2] [] pos) (tCB (rSortedSet X.w) (tCons (tCB (rSetL X.K X.w) (tCons te tNil)) tNil)) :=
  pe_callB (cr_sortedSet hc) hg hm (by decide +kernel) (pa_cons (pe_callTy (cr_setL hc) hg2 hm2 (by decide +kernel) (pa_cons he pa_nil hs) (he := hs)) pa_nil rfl)
theorem s_ssetE (hc : X.calm = true) (hg : Gl X "sorted") (hm : X.mg "sorted" = none) (hg2 : Gl X "set") (hm2 : X.mg "set" = none) (he : PE X e (tE X.K CT W f)) (hs : starEach [e] X.env = [(false, eval e X.env)]) :
    PE X (.Call (.Name "sorted" p) [.Call (.Name "set" q) [e] [] pos2] [] pos) (tN X.K CT W fun ρ => bnd (f ρ) fun d => lstOp ssortF [d]) :=
  PE.imp (pe_sset hc hg hm hg2 hm2 he hs) fun σ H Q hq => tG.mono (tG.first (rel := rD X.K) hq) fun x H1 ⟨ρ, m, S, d, r, er, sr, po⟩ => by
    obtain ⟨a, ws, ys, e1, h1, z, rr, po⟩ := lstOp_inv (vs := [x]) (.cons r .nil) sr po
    cases e1
    exact sset_read h1 rr sr po
theorem s_ssetL (hc : X.calm = true) (hg : Gl X "sorted") (hm : X.mg "sorted" = none) (hg2 : Gl X "set") (hm2 : X.mg "set" = none) (he : PE X e (tN X.K CT W l)) (hs : starEach [e] X.env = [(false, eval e X.env)]) :
    PE X (.Call (.Name "sorted" p) [.Call (.Name "set" q) [e] [] pos2] [] pos) (tN X.K CT W fun ρ => bnd (l ρ) ssortF) :=
  PE.imp (pe_sset hc hg hm hg2 hm2 he hs) fun σ H Q hq => tG.mono (tG.first (rel := rL X.K) hq) fun x H1 ⟨ρ, m, S, ds, ⟨a, vs, ev, _, h1, np, z, rr⟩, er, sr, po⟩ => by
    subst ev
    exact sset_read h1 rr sr po
end
end Den

/-! Den, part O: defs and their calls. -/
namespace Den
open PySem PySem.Spec PyProof.Rows L2

/-! ### a call's meaning: what it left behind is forgotten -/
def D.pure : D → Bool
  | .p _ => true
  | _ => false
/-- the call run on a store of its own -/
def fresh (r : R D) : M D := fun S => match r with
  | .ok (.p x) _ => .ok (.p x) S
  | .ok (.ref l) S1 => (match S1.objs[l]? with
    | some o => if o.mx = 0 then .ok (.ref S.objs.length) ⟨S.objs ++ [o], S.nt⟩ else .bad
    | none => .bad)
  | .exc c (.p x) _ => .exc c (.p x) S
  | _ => .bad
/-- .. on the store that stands, cut down behind it -/
def trim (n : Nat) (r : R D) : R D := match r with
  | .ok (.p x) S1 => if S1.nt = false then .ok (.p x) ⟨S1.objs.take n, false⟩ else r
  | .ok (.ref l) S1 => if S1.nt = false ∧ n ≤ l then (match S1.objs[l]? with
    | some o => if o.mx ≤ n then .ok (.ref n) ⟨S1.objs.take n ++ [o], false⟩ else r
    | none => r) else r
  | .exc c (.p x) S1 => if S1.nt = false then .exc c (.p x) ⟨S1.objs.take n, false⟩ else r
  | r => r
def frame (F : List D → M D) : List D → M D := fun ds S => if ds.all D.pure = true then fresh (F ds Sto.new) S else trim S.objs.length (F ds S)

section
variable {K : PySem.W.Frag} {CT : Nat → Value} {E : XK} {m m' m1 : List Addr} {H H1 : Hp} {S S1 : Sto}
mutual
theorem DR.sub {k : Nat} (h : ∀ (l : Nat) (a : Addr), l < k → m[l]? = some a → m'[l]? = some a) : ∀ {v : V} {d : D}, d.mx ≤ k → DR K m H v d → DR K m' H v d
  | _, _, _, .p r => .p r
  | _, _, z, .tup h1 h2 r => .tup h1 h2 (DRs.sub h z r)
  | _, _, z, .ref r => .ref (h _ _ z r)
theorem DRs.sub {k : Nat} (h : ∀ (l : Nat) (a : Addr), l < k → m[l]? = some a → m'[l]? = some a) : ∀ {v : List V} {d : List D}, mxs d ≤ k → DRs K m H v d → DRs K m' H v d
  | _, _, _, .nil => .nil
  | _, _, z, .cons r t => .cons (DR.sub h (Nat.le_trans (Nat.le_max_left _ _) z) r) (DRs.sub h (Nat.le_trans (Nat.le_max_right _ _) z) t)
end
theorem KRs.sub {k : Nat} (h : ∀ (l : Nat) (a : Addr), l < k → m[l]? = some a → m'[l]? = some a) {ws : List (L2.Key × V)} {kvs : List (L2.Key × D)} (z : mxs (kvs.map (·.2)) ≤ k) (r : KRs K m H ws kvs) : KRs K m' H ws kvs := by
  induction r with
  | nil => exact .nil
  | cons a t ih =>
    simp only [List.map_cons, mxs] at z
    exact .cons ⟨a.1, DR.sub h (by omega) a.2⟩ (ih (by omega))
theorem OR.sub {k : Nat} {a : Addr} {o : O} (h : ∀ (l : Nat) (a : Addr), l < k → m[l]? = some a → m'[l]? = some a) (z : o.mx ≤ k) (r : OR K m H a o) : OR K m' H a o := by
  cases o with
  | lst xs => obtain ⟨vs, h1, h2, h3⟩ := r; exact ⟨vs, h1, h2, DRs.sub h z h3⟩
  | dic xs => obtain ⟨vs, h1, h2, h3⟩ := r; exact ⟨vs, h1, h2, KRs.sub h z h3⟩
  | gone => exact r
theorem SR.adoptO {p : Addr} {o : O} (sr : SR K m H S) (hp : p ∉ m) (r : OR K m H p o) (z : o.mx ≤ m.length) : SR K (m ++ [p]) H ⟨S.objs ++ [o], S.nt⟩ where
  len := by simp [sr.len]
  nd := List.nodup_append.mpr ⟨sr.nd, by simp, fun a ha b hb => by rw [List.mem_singleton] at hb; subst hb; exact fun q => hp (q ▸ ha)⟩
  obj := fun l a u hm hs => by
    have k : ∀ (l : Nat) (a : Addr), l < m.length → m[l]? = some a → (m ++ [p])[l]? = some a := fun l a _ => pre_get (List.prefix_append _ _) l a
    by_cases hl : l < m.length
    · rw [List.getElem?_append_left hl] at hm
      rw [List.getElem?_append_left (by rw [← sr.len]; exact hl)] at hs
      have q := sr.obj l a u hm hs
      have k : ∀ (l : Nat) (a : Addr), m[l]? = some a → (m ++ [p])[l]? = some a := pre_get (List.prefix_append _ _)
      cases u with
      | lst ys => obtain ⟨us, h1, z1, r1⟩ := q; exact ⟨us, h1, z1, drs_mono (fun _ _ z => z) (fun _ _ z => z) k r1⟩
      | dic ys => obtain ⟨us, h1, z1, r1⟩ := q; exact ⟨us, h1, z1, Paired.mapP r1 fun _ _ r => ⟨r.1, dr_mono (fun _ _ z => z) (fun _ _ z => z) k r.2⟩⟩
      | gone => exact q
    · have e : l = m.length := by
        have := (List.getElem?_eq_some_iff.mp hm).1
        rw [List.length_append, List.length_singleton] at this; omega
      subst e
      rw [List.getElem?_append_right (Nat.le_refl _), Nat.sub_self] at hm
      rw [List.getElem?_append_right (by rw [sr.len]; exact Nat.le_refl _), sr.len, Nat.sub_self] at hs
      simp at hm hs; subst hm hs
      exact OR.sub k z r
  wf := fun h l u hs => by
    by_cases hl : l < S.objs.length
    · rw [List.getElem?_append_left hl] at hs; exact sr.wf h l u hs
    · have e : l = S.objs.length := by
        have := (List.getElem?_eq_some_iff.mp hs).1
        rw [List.length_append, List.length_singleton] at this; omega
      subst e
      rw [List.getElem?_append_right (Nat.le_refl _), Nat.sub_self] at hs
      simp at hs; subst hs
      rw [← sr.len]; exact z
theorem Ext.widen (e : Ext [] H m1 H1) (sr : SR K m H S) : Ext m H m H1 ∧ SR K m H1 S := by
  have ex : Ext m H m H1 := ⟨fun a o h _ t => e.keep a o h (.inl (by simp)) t, e.tbl, List.prefix_refl _, fun _ h => .inl h, e.non⟩
  refine ⟨ex, sr.len, fun l a o hm ho => (sr.obj l a o hm ho).ext sr ex fun u hu => e.keep a u hu (.inl (by simp)) fun ps z => ?_, sr.nd, sr.wf⟩
  subst z
  rcases sr.ml (List.mem_of_getElem? hm) with ⟨vs, q⟩ | ⟨vs, q⟩ | ⟨od, u, q, _⟩ <;> rw [hu] at q <;> cases q
theorem DRs.pure : ∀ {vs : List V} {ds : List D}, DRs K m H vs ds → ds.all D.pure = true → DRs K m' H vs ds
  | _, _, .nil, _ => .nil
  | _, _, .cons r t, h => by
    rw [List.all_cons, Bool.and_eq_true] at h
    refine .cons ?_ (DRs.pure t h.2)
    cases r with
    | p r => exact .p r
    | tup _ _ _ => cases h.1
    | ref _ => cases h.1
theorem srNew : SR K [] H Sto.new := ⟨rfl, fun l a o h => by simp at h, .nil, fun _ l o h => by simp [Sto.new] at h⟩
theorem SR.cut (sr : SR K m1 H S1) (hn : S1.nt = false) (p : m <+: m1) : SR K m H ⟨S1.objs.take m.length, false⟩ where
  len := by
    have h1 := p.length_le
    have h2 := sr.len
    rw [List.length_take]
    omega
  nd := p.sublist.nodup sr.nd
  obj := fun l a o hm ho => by
    have hl := (List.getElem?_eq_some_iff.mp hm).1
    have ho : (S1.objs.take m.length)[l]? = some o := ho
    rw [List.getElem?_take_of_lt hl] at ho
    refine OR.sub (k := l) (fun i b hi hb => ?_) (sr.wf hn l o ho) (sr.obj l a o (pre_get p l a hm) ho)
    obtain ⟨t, rfl⟩ := p
    rwa [List.getElem?_append_left (by omega)] at hb
  wf := fun _ l o ho => by
    have ho : (S1.objs.take m.length)[l]? = some o := ho
    have hl : l < m.length := by
      have := (List.getElem?_eq_some_iff.mp ho).1
      rw [List.length_take] at this
      omega
    rw [List.getElem?_take_of_lt hl] at ho
    exact sr.wf hn l o ho
theorem Ext.cut (e : Ext m H m1 H1) : Ext m H m H1 := ⟨e.keep, e.tbl, List.prefix_refl _, fun _ h => .inl h, e.non⟩
/-- what a def promises of values -/
def spD (K : PySem.W.Frag) (CT : Nat → Value) (F : List D → M D) : Sp := fun vs H Q E => ∃ (m : List Addr) (S : Sto) (ds : List D), DRs K m H vs ds ∧ SR K m H S ∧ Post K CT E (rD K) m H (F ds S) Q
theorem frame_read {F : List D → M D} {vs : List V} {ds : List D} {Q : VK} (rs : DRs K m H vs ds) (sr : SR K m H S) (po : Post K CT E (rD K) m H (frame F ds S) Q) : spD K CT F vs H Q E := by
  unfold frame at po
  by_cases hp : ds.all D.pure = true
  · rw [if_pos hp] at po
    refine ⟨[], Sto.new, ds, rs.pure hp, srNew, ?_⟩
    generalize F ds Sto.new = r at po
    cases r with
    | bad => exact po.elim
    | exc c d S1 => cases d with
      | p x =>
        intro v m1 H1 dd r1 sr1 ex hd
        obtain ⟨ex2, sr2⟩ := ex.widen sr
        exact po v m H1 dd (.p r1.p_inv) sr2 ex2 hd
      | tup _ => exact po.elim
      | ref _ => exact po.elim
    | ok d S1 => cases d with
      | p x =>
        intro v m1 H1 r1 sr1 ex
        obtain ⟨ex2, sr2⟩ := ex.widen sr
        exact po v m H1 (.p r1.p_inv) sr2 ex2
      | tup _ => exact po.elim
      | ref l =>
        unfold fresh at po
        dsimp only at po
        cases e : S1.objs[l]? with
        | none => rw [e] at po; exact po.elim
        | some o =>
          rw [e] at po
          dsimp only at po
          by_cases hz : o.mx = 0
          · rw [if_pos hz] at po
            intro v m1 H1 r1 sr1 ex
            obtain ⟨ex2, sr2⟩ := ex.widen sr
            obtain ⟨a, rfl, ha⟩ := r1.ref_inv
            have hn : H a = none := (ex.new a (List.mem_of_getElem? ha)).resolve_left (by simp)
            have hm : a ∉ m := sr.fresh hn
            refine po (.ref a) (m ++ [a]) H1 (.ref ?_) (sr2.adoptO hm (OR.sub (k := 0) (fun _ _ z => absurd z (Nat.not_lt_zero _)) (by omega) (sr1.obj l a o ha e)) (by omega)) (ex2.adopt hn)
            rw [← sr.len, List.getElem?_append_right (Nat.le_refl _), Nat.sub_self]
            rfl
          · rw [if_neg hz] at po
            exact po.elim
  · rw [if_neg hp] at po
    refine ⟨m, S, ds, rs, sr, ?_⟩
    generalize F ds S = r at po
    rw [← sr.len] at po
    cases r with
    | bad => exact po.elim
    | exc c d S1 => cases d with
      | p x =>
        unfold trim at po
        dsimp only at po
        by_cases hn : S1.nt = false
        · rw [if_pos hn] at po
          intro v m1 H1 dd r1 sr1 ex hd
          exact po v m H1 dd (.p r1.p_inv) (sr1.cut hn ex.pre) ex.cut hd
        · rw [if_neg hn] at po
          exact po
      | tup _ => exact po
      | ref _ => exact po
    | ok d S1 => cases d with
      | p x =>
        unfold trim at po
        dsimp only at po
        by_cases hn : S1.nt = false
        · rw [if_pos hn] at po
          intro v m1 H1 r1 sr1 ex
          exact po v m H1 (.p r1.p_inv) (sr1.cut hn ex.pre) ex.cut
        · rw [if_neg hn] at po
          exact po
      | tup _ => exact po
      | ref l =>
        unfold trim at po
        dsimp only at po
        by_cases hn : S1.nt = false ∧ m.length ≤ l
        · rw [if_pos hn] at po
          cases e : S1.objs[l]? with
          | none => rw [e] at po; exact po
          | some o =>
            rw [e] at po
            dsimp only at po
            by_cases hz : o.mx ≤ m.length
            · rw [if_pos hz] at po
              intro v m1 H1 r1 sr1 ex
              obtain ⟨a, rfl, ha⟩ := r1.ref_inv
              have hm : a ∉ m := fun z => by
                obtain ⟨i, hi⟩ := List.getElem?_of_mem z
                have hi1 := pre_get ex.pre i a hi
                obtain ⟨x1, y1⟩ := List.getElem?_eq_some_iff.mp hi1
                obtain ⟨x2, y2⟩ := List.getElem?_eq_some_iff.mp ha
                have : i = l := (List.getElem_inj sr1.nd).mp (y1.trans y2.symm)
                have := (List.getElem?_eq_some_iff.mp hi).1
                omega
              have h0 : H a = none := (ex.new a (List.mem_of_getElem? ha)).resolve_left hm
              refine po (.ref a) (m ++ [a]) H1 (.ref ?_) ((sr1.cut hn.1 ex.pre).adoptO hm (OR.sub (k := m.length) (fun i b hi hb => ?_) hz (sr1.obj l a o ha e)) hz) (ex.cut.adopt h0)
              · rw [List.getElem?_append_right (Nat.le_refl _), Nat.sub_self]
                rfl
              · obtain ⟨t, rfl⟩ := ex.pre
                rwa [List.getElem?_append_left hi] at hb
            · rw [if_neg hz] at po
              exact po
        · rw [if_neg hn] at po
          exact po
end
end Den

/-! Den, part P: what defs promise (no repr is under way), their calls. -/
namespace Den
open PySem PySem.Spec PyProof.Rows L2

/-- a def's promise, where no repr is under way -/
structure FnG (P : Program) (w : World) (K : PySem.W.Frag) (mg : Str → Option Value) (base : Heap) (CX : CXT) (k : Nat) (f : Addr) (fd : FuncData) (ps : List Str) (sp : Sp) : Prop where
  len : ∀ vs H Q E, sp vs H Q E → vs.length = ps.length
  run : ∀ (A : Around) (outer : List Env) (s : Shared) (H : Hp) (args : Args) (us : List Value) (vs : List V) (Q : VK) (E : XK), Room k A → A.guards = some [] → Env0 P w K mg base A outer s H → BindsTo s fd args (ps.zip us) → Vals vs us → sp vs H Q E →
    codeAny (model P w) A (.call (.ref f) args) (CR CX outer P w H s Q E) s
/-- what an error of a callee must lead to -/
def PassW (CX : CXT) (X : Cx) (W : WX) : Prop := ∀ (pins : List (Addr × Obj)) (σ : L2.St) (H : Hp) (s : Shared) (e : Value) (s' : Shared), Inv X pins σ H s → CX X.stack H s (fun c d H' => W c d σ H') e s' → X.xe e s'
theorem pass00 {X : Cx} {W : WX} : PassW CX0 X W := fun _ _ _ _ _ _ _ h => h.elim
def pmL {α : Type} (perm : List Nat) (xs : List α) : List α := perm.filterMap fun i => xs[i]?
/-- how n written values and keywords bind -/
def KB (K : PySem.W.Frag) (fd : FuncData) (ps ks : List Str) (n : Nat) (perm : List Nat) : Prop := ∀ (s : Shared) (us ws : List Value), K.In s.heap → us.length = n → ws.length = ks.length → BindsTo s fd ⟨us, ks.zip ws⟩ (ps.zip (pmL perm (us ++ ws)))
section
variable {X : Cx} {CX : CXT} {k : Nat} {f : Addr} {fd : FuncData} {ps ks : List Str} {sp : Sp} {W : WX} {x : Str} {p pos : Pos} {e : Expr} {es : List Expr} {kws : List Keyword} {perm : List Nat} {n : Nat}
theorem run_fnG {pins : List (Addr × Obj)} {σ : L2.St} {H : Hp} {s : Shared} {Q : VK} {us ws rs : List Value} {vs : List V} (F : FnG X.prog X.w X.K X.mg X.base CX k f fd ps sp) (hr : Room k X.A) (hgd : X.A.guards = some []) (hx : PassW CX X W)
    (I : Inv X pins σ H s) (hb : BindsTo s fd ⟨us, ks.zip ws⟩ (ps.zip rs)) (r : Vals vs rs) (h : sp vs H Q fun c d H' => W c d σ H') : wpAny (model X.prog X.w) X.A (call (.ref f) us (ks.zip ws)) (EP X pins σ Q) X.xe s := by
  refine wpAny_call (codeAny_mono (F.run X.A X.stack s H ⟨us, ks.zip ws⟩ rs vs Q _ hr hgd I.env0 hb r h) fun r s' hq => ?_)
  match r, hq with
  | .error e, hq => exact hx pins σ H s e s' I hq
  | .ok (.ret u), hq => exact I.after hq
  | .ok .next, hq => exact False.elim hq
  | .ok .brk, hq => exact False.elim hq
  | .ok .cont, hq => exact False.elim hq
variable {CT : Nat → Value} {G : List D → M D} {fs gs : List DE}
def callS (n m : Nat) (perm : List Nat) (G : List D → M D) (fs gs : List DE) : DE := fun ρ => bnd (argsS fs ρ) fun as => bnd (argsS gs ρ) fun bs => guardM (decide (as.length = n) && decide (bs.length = m)) (frame G (pmL perm (as ++ bs)))
theorem pmL_vals {vs : List V} {us : List Value} (r : Vals vs us) : ∀ perm : List Nat, Vals (pmL perm vs) (pmL perm us) := by
  intro perm
  induction perm with
  | nil => exact .nil
  | cons i is ih =>
    unfold pmL at ih ⊢
    rw [List.filterMap_cons, List.filterMap_cons]
    cases e : vs[i]? with
    | none =>
      have e2 : us[i]? = none := by
        rw [List.getElem?_eq_none_iff] at e ⊢
        rw [← r.length]; exact e
      rw [e2]; exact ih
    | some v =>
      obtain ⟨u, e2, ru⟩ := r.get e
      rw [e2]
      exact .cons ru ih
theorem pmL_drs {K : PySem.W.Frag} {m : List Addr} {H : Hp} {vs : List V} {us : List D} (r : DRs K m H vs us) : ∀ perm : List Nat, DRs K m H (pmL perm vs) (pmL perm us) := by
  intro perm
  induction perm with
  | nil => exact .nil
  | cons i is ih =>
    unfold pmL at ih ⊢
    rw [List.filterMap_cons, List.filterMap_cons]
    cases e : us[i]? with
    | none =>
      have e2 : vs[i]? = none := by
        rw [List.getElem?_eq_none_iff] at e ⊢
        rw [r.length]; exact e
      rw [e2]; exact ih
    | some v =>
      obtain ⟨u, e2, ru⟩ := r.get e
      rw [e2]
      exact .cons ru ih
/-- the values of keywords -/
theorem s_knil : PK X [] (tL X.K CT W (argsS [])) := ⟨fun pos pins s σ H Q I ⟨ρ, m, S, er, sr, po⟩ => pk_nil.run pos pins s σ H Q I (show tNil σ H Q from Post.ret po sr .nil)⟩
theorem s_kcons {nm : Option Str} {kpos : Pos} {f : DE} (ha : PE X e (tE X.K CT W f)) (hr : PK X kws (tL X.K CT W (argsS fs))) : PK X (⟨nm, e, kpos⟩ :: kws) (tL X.K CT W (argsS (f :: fs))) :=
  ⟨fun pos pins s σ H Q I hq => (pk_cons ha hr).run pos pins s σ H Q I (tG.mono (tG.first (rel := rD X.K) hq) fun x H1 ⟨ρ, m, S, d, r1, er, sr, p⟩ =>
    tG.mono (Post.next (rel := rDs X.K) er sr p) fun xs H2 ⟨m2, S2, ds, rs, sr2, ex, p2⟩ => p2.ret sr2 (.cons (r1.ext sr ex) rs))⟩
/-- what stands behind the arguments -/
theorem call_read {σ : L2.St} {H1 : Hp} {Q : VK} {m1 : List Addr} {S1 : Sto} {vs zs : List V} {as bs : List D} (ra : DRs X.K m1 H1 vs as) (rb : DRs X.K m1 H1 zs bs) (sr : SR X.K m1 H1 S1)
    (p : Post X.K CT (fun c d H' => W c d σ H') (rD X.K) m1 H1 (guardM (decide (as.length = n) && decide (bs.length = ks.length)) (frame G (pmL perm (as ++ bs))) S1) Q) :
    vs.length = n ∧ zs.length = ks.length ∧ spD X.K CT G (pmL perm (vs ++ zs)) H1 Q fun c d H' => W c d σ H' := by
  obtain ⟨g, p⟩ := Post.guard p
  simp only [Bool.and_eq_true, decide_eq_true_eq] at g
  exact ⟨by rw [ra.length]; exact g.1, by rw [rb.length]; exact g.2, frame_read (pmL_drs (ra.append rb) perm) sr p⟩
theorem s_callK0 (F : FnG X.prog X.w X.K X.mg X.base CX k f fd ps (spD X.K CT G)) (hr : Room k X.A) (hgd : X.A.guards = some []) (hx : PassW CX X W) (hg : Gl X x) (hm : X.mg x = some (.ref f)) (hk : PySem.W.keepIn X.K (.ref f) = true) (hb : KB X.K fd ps ks 0 perm)
    (hkw : PK X kws (tL X.K CT W (argsS gs))) (hall : (backToKw pos (keywordEach kws X.env)).all (·.1.isSome) = true) (hks : (backToKw pos (keywordEach kws X.env)).filterMap (·.1) = ks) (hdb : (x == ("__debug__" : Str)) = false)
    (hpl : ((backTo pos (starEach [] X.env)).any (·.1) || (backToKw pos (keywordEach kws X.env)).any (·.1.isNone)) = false) : PE X (.Call (.Name x p) [] kws pos) (tE X.K CT W (callS 0 ks.length perm G [] gs)) := by
  refine ⟨fun pins s σ H Q I ⟨ρ, m, S, er, sr, po⟩ => ?_⟩
  refine wpAny_Call_Name_kw (ld_glob I hg hm ?_ hdb)
  refine PySem.W.callWith_KW0 (h₀ := X.base) I.ok.mod.kin hk hall (thn (hkw.run pos pins s σ H _ I (Post.next (rel := rDs X.K) er sr po)) fun ws s2 ⟨zs, H2, I2, rz, m2, S2, bs, rb, sr2, ex, p2⟩ => ⟨I2.kIn, ?_⟩) hpl
  rw [hks]
  obtain ⟨_, h2, h3⟩ := call_read (n := 0) (ks := ks) (.nil) rb sr2 p2
  exact run_fnG (us := []) F hr hgd hx I2 (hb s2 [] ws I2.kIn rfl (by rw [← rz.length]; exact h2)) (pmL_vals rz perm) h3
theorem s_callK (F : FnG X.prog X.w X.K X.mg X.base CX k f fd ps (spD X.K CT G)) (hr : Room k X.A) (hgd : X.A.guards = some []) (hx : PassW CX X W) (hg : Gl X x) (hm : X.mg x = some (.ref f)) (hk : PySem.W.keepIn X.K (.ref f) = true) (hb : KB X.K fd ps ks n perm)
    (ha : PA X (e :: es) (tL X.K CT W (argsS fs))) (hkw : PK X kws (tL X.K CT W (argsS gs))) (hall : (backToKw pos (keywordEach kws X.env)).all (·.1.isSome) = true) (hks : (backToKw pos (keywordEach kws X.env)).filterMap (·.1) = ks) (hdb : (x == ("__debug__" : Str)) = false)
    (he : starEach (e :: es) X.env = (false, eval e X.env) :: starEach es X.env)
    (hpl : ((backTo pos (starEach (e :: es) X.env)).any (·.1) || (backToKw pos (keywordEach kws X.env)).any (·.1.isNone)) = false) : PE X (.Call (.Name x p) (e :: es) kws pos) (tE X.K CT W (callS n ks.length perm G fs gs)) := by
  refine ⟨fun pins s σ H Q I hq => ?_⟩
  refine wpAny_Call_Name_kw (ld_glob I hg hm ?_ hdb)
  refine PySem.W.callWith_KW (h₀ := X.base) I.ok.mod.kin hk hall (thn (ha.run pos pins s σ H _ I (tG.first (rel := rDs X.K) hq)) fun us s1 ⟨vs, H1, I1, rv, ρ, m1, S1, as, ra, er, sr, p1⟩ => ?_) hpl he
  refine thn (hkw.run pos pins s1 σ H1 _ I1 (Post.next (rel := rDs X.K) er sr p1)) fun ws s2 ⟨zs, H2, I2, rz, m2, S2, bs, rb, sr2, ex, p2⟩ => ⟨I2.kIn, ?_⟩
  rw [hks]
  obtain ⟨h1, h2, h3⟩ := call_read (ra.ext sr ex) rb sr2 p2
  exact run_fnG F hr hgd hx I2 (hb s2 us ws I2.kIn (by rw [← rv.length]; exact h1) (by rw [← rz.length]; exact h2)) (pmL_vals (rv.append rz) perm) h3
end

/-! ### a def's meaning -/
def endS : Fl → M D
  | .nx _ => ret .non
  | .rt d => ret d
  | _ => fail
/-- n parameters, N slots -/
def runF (n N : Nat) (body : DSt) : List D → M D := fun ds => guardM (decide (ds.length = n)) (bnd (body (ds.map some ++ List.replicate (N - n) none)) endS)
section
variable {P : Program} {w : World} {K : PySem.W.Frag} {mg : Str → Option Value} {base : Heap} {CX : CXT} {CT : Nat → Value}
theorem EnvR.start {m : List Addr} {H : Hp} {N : List Str} {vs : List V} {ds : List D} (rs : DRs K m H vs ds) : EnvR K m H (ds.map some ++ List.replicate (N.length - ds.length) none) (L2.start N vs) where
  len := by simp [L2.start, rs.length]
  val := fun i d h => by
    unfold L2.start
    by_cases hi : i < ds.length
    · rw [List.getElem?_append_left (by simpa using hi)] at h
      rw [List.getElem?_append_left (by simpa [rs.length] using hi)]
      rw [List.getElem?_map] at h ⊢
      cases e : ds[i]? with
      | none => rw [e] at h; cases h
      | some d' =>
        rw [e] at h
        cases h
        obtain ⟨v, e2, r⟩ := rs.get e
        exact ⟨v, by rw [e2]; rfl, r⟩
    · rw [List.getElem?_append_right (by simpa using hi)] at h
      rw [List.getElem?_replicate] at h
      split at h <;> cases h
theorem fnG_of {k : Nat} {f : Addr} {name qual : Str} {params : Arguments} {body : List Stmt} {scope : Scope} {dV kV doc pm cdv ct oc : Value} {an od : Option Addr} {osl : Array (Option Value)} {N ps : List Str} {s : DSt}
    (lk : K.lookup f = some ⟨oc, od, .func (PySem.W.fnOf name qual params body scope dV kV doc pm an cdv ct), osl⟩) (hcd : PySem.W.codeIn K cdv qual = true) (Sc : FnScope N ps scope)
    (hbody : ∀ (A : Around) (outer : List Env) (s0 : Shared) (H : Hp) (E : XK), Room k (A.deeper (envOfC qual scope s0.heap.objs.size f cdv)) → A.guards = some [] → PSs (cxOf CX P w K mg base N qual scope f cdv A outer s0 H E) body (tS K CT E s)) :
    FnG P w K mg base CX (k + 1) f (PySem.W.fnOf name qual params body scope dV kV doc pm an cdv ct) ps (spD K CT (runF ps.length N.length s)) where
  len := fun vs H Q E ⟨m, S, ds, rs, sr, po⟩ => by
    obtain ⟨g, po⟩ := Post.guard po
    rw [rs.length]
    exact of_decide_eq_true g
  run := fun A outer s0 H args us vs Q E hr hgd e0 hb r ⟨m, S, ds, rs, sr, po⟩ => by
    obtain ⟨g, po⟩ := Post.guard po
    have g := of_decide_eq_true g
    refine LamX.run_ofS lk hcd Sc hr e0 hb r (by rw [rs.length]; exact g) fun hr' => ⟨_, hbody A outer s0 H E hr' hgd, ?_⟩
    refine ⟨_, m, S, EnvR.start rs, sr, ?_⟩
    rw [← g] at po
    refine (Post.bind (rel := rF K) po).imp fun fv H1 ⟨m1, S1, fl, rr, sr1, ex, p⟩ => ?_
    cases fv with
    | nx σ' => cases fl with
      | nx ρ' => exact Post.ret (rel := rD K) (a := .non) p sr1 (.p .non)
      | _ => exact rr.elim
    | rt v => cases fl with
      | rt d => exact Post.ret (rel := rD K) (a := d) p sr1 rr
      | _ => exact rr.elim
    | bk σ' => cases fl with
      | bk ρ' => exact p.elim
      | _ => exact rr.elim
    | ct σ' => cases fl with
      | ct ρ' => exact p.elim
      | _ => exact rr.elim
end
end Den

/-! Den, part Q: the text's shapes (what the rules ask of it, by computation). -/
namespace Den
open PySem PySem.Spec PyProof.Rows L2

def isStar : Expr → Bool
  | .Starred _ _ => true
  | _ => false
def noStars (es : List Expr) : Bool := es.all fun e => !isStar e
theorem star_cons {e : Expr} {es : List Expr} {env : Env} (h : isStar e = false) : starEach (e :: es) env = (false, eval e env) :: starEach es env := by
  cases e <;> first | rfl | cases h
theorem star_one {e : Expr} {env : Env} (h : isStar e = false) : starEach [e] env = [(false, eval e env)] := star_cons h
theorem star_two {a b : Expr} {env : Env} (h : isStar a = false) (g : isStar b = false) : starEach [a, b] env = [(false, eval a env), (false, eval b env)] := by rw [star_cons h, star_one g]
theorem star_any {env : Env} {pos : Pos} : ∀ {es : List Expr}, noStars es = true → (backTo pos (starEach es env)).any (·.1) = false
  | [], _ => rfl
  | e :: es, h => by
    unfold noStars at h
    rw [List.all_cons, Bool.and_eq_true, Bool.not_eq_true'] at h
    rw [star_cons h.1]
    show (false || (backTo pos (starEach es env)).any (·.1)) = false
    rw [star_any (es := es) h.2]
    rfl
theorem star_len {env : Env} : ∀ {es : List Expr}, noStars es = true → (starEach es env).length = es.length
  | [], _ => rfl
  | e :: es, h => by
    unfold noStars at h
    rw [List.all_cons, Bool.and_eq_true, Bool.not_eq_true'] at h
    rw [star_cons h.1, List.length_cons, List.length_cons, star_len (es := es) h.2]
theorem star_all {env : Env} {pos : Pos} : ∀ {es : List Expr}, noStars es = true → (backTo pos (starEach es env)).all (fun x => !x.1) = true
  | [], _ => rfl
  | e :: es, h => by
    unfold noStars at h
    rw [List.all_cons, Bool.and_eq_true, Bool.not_eq_true'] at h
    rw [star_cons h.1]
    show (true && (backTo pos (starEach es env)).all (fun x => !x.1)) = true
    rw [star_all (es := es) h.2]
    rfl
theorem few_ok {env : Env} {cpos : Pos} {es : List Expr} (h : noStars es = true) (hl : es.length < 30) :
    ((backTo cpos (starEach es env)).all (fun x => !x.1) && (backToKw cpos (keywordEach [] env)).all (fun x => x.1.isSome) && decide (es.length + ([] : List Keyword).length + (if ([] : List Keyword).isEmpty then 0 else 1) < 30)) = true := by
  rw [star_all h, Bool.true_and, Bool.and_eq_true]
  exact ⟨rfl, decide_eq_true (by simpa using hl)⟩
def notCall0 : Expr → Bool
  | .Call (.Name _ _) [] [] _ => false
  | _ => true
theorem base_ok {o : Expr} {attr : Str} {env : Env} (h : notCall0 o = true) : attributeBase o attr env (eval o env) = eval o env := by
  cases o with
  | Call f as ks p =>
    cases f with
    | Name i q =>
      cases as with
      | nil => cases ks with
        | nil => cases h
        | cons _ _ => rfl
      | cons _ _ => rfl
    | _ => rfl
  | _ => rfl
theorem asg_cons {e : Expr} {es : List Expr} {env : Env} (h : isStar e = false) : assignEach (e :: es) env = (false, assign e env) :: assignEach es env := by
  cases e <;> first | rfl | cases h
theorem asg_len {env : Env} : ∀ {es : List Expr}, noStars es = true → (assignEach es env).length = es.length
  | [], _ => rfl
  | e :: es, h => by
    unfold noStars at h
    rw [List.all_cons, Bool.and_eq_true, Bool.not_eq_true'] at h
    rw [asg_cons h.1, List.length_cons, List.length_cons, asg_len (es := es) h.2]
theorem asg_find {env : Env} : ∀ {es : List Expr}, noStars es = true → (assignEach es env).findIdx? (·.1) = none
  | [], _ => rfl
  | e :: es, h => by
    unfold noStars at h
    rw [List.all_cons, Bool.and_eq_true, Bool.not_eq_true'] at h
    rw [asg_cons h.1, List.findIdx?_cons, asg_find (es := es) h.2]
    rfl
theorem asg_map {e : Expr} {es : List Expr} {env : Env} (h : isStar e = false) : (assignEach (e :: es) env).map (·.2) = assign e env :: (assignEach es env).map (·.2) := by rw [asg_cons h]; rfl
def isComp : Expr → Bool
  | .ListComp _ _ _ _ => true
  | .SetComp _ _ _ _ => true
  | .DictComp _ _ _ _ _ => true
  | _ => false
theorem swaps_no {e : Expr} {t : Option Expr} {n : Nat} {env : Env} (h : isComp e = false) : swapsWith e t n env = pure false := by
  cases e <;> first | rfl | cases h
def notName : Expr → Bool
  | .Name _ _ => false
  | _ => true
theorem swaps_tg {e t : Expr} {n : Nat} {env : Env} (h : notName t = true) : swapsWith e (some t) n env = pure false := by
  cases t <;> first | (cases h; done) | (cases e <;> rfl)
/-- a comprehension that goes to a name -/
def swapLc (sc : Scope) (t : Str) (l1 l2 : Nat) (scope : Scope) : Bool := (sc.names.lookup t == some .local) && l1 == l2 && !(scope.names.any fun (n, k) => n == t && (k == .local || k == .cell))
theorem swaps_lc {elt : Expr} {gs : List Comprehension} {scope : Scope} {pos py : Pos} {t : Str} {n : Nat} {env : Env} {sc : Scope} (hs : env.scope = sc) (hk : sc.kind = .function) :
    swapsWith (.ListComp elt gs scope pos) (some (.Name t py)) n env = pure (swapLc sc t py.line pos.line scope) := by
  have hb : env.blockKind = .function := by
    unfold Env.blockKind
    rw [hs, hk]
    rfl
  have hkd : env.kindOf t = sc.names.lookup t := by
    unfold Env.kindOf
    rw [hs]
  show (pure (env.blockKind == .function && env.kindOf t == some .local && py.line == pos.line && !(scope.names.any fun (n, k) => n == t && (k == .local || k == .cell))) : Sem Bool) = _
  rw [hb, hkd]
  rfl
def plainTest : Expr → Bool
  | .UnaryOp _ _ _ => false
  | .BoolOp _ _ _ => false
  | .IfExp _ _ _ _ => false
  | .Compare _ _ _ _ => false
  | _ => true
theorem test_ok {a : Expr} {env : Env} (h : plainTest a = true) (whole : Sem Value) : isTrue a env whole = (do let v ← whole; standAt a.pos; holding [v] (truthy v)) := by
  cases a <;> first | rfl | cases h
def notSlice : Expr → Bool
  | .Slice _ _ _ _ => false
  | _ => true
theorem plainIx {b : Expr} (h : notSlice b = true) : PlainIx b := fun o i => by
  cases b <;> first | rfl | cases h
theorem asgSub {o i : Expr} {env : Env} {pos : Pos} (h : notSlice i = true) (v : Value) : assign (.Subscript o i pos) env v = (do
      let ov ← holding [v] (eval o env)
      let iv ← holding [v, ov] (eval i env)
      standAt pos
      holding [v, ov, iv] (setItem ov iv v)
      release [v, ov, iv] []) := by
  cases i <;> first | rfl | cases h
def notSet : Expr → Bool
  | .Set _ _ _ => false
  | _ => true
theorem folded_ok {e : Expr} {env : Env} (h : notSet e = true) (x : Value) : foldedSetIterable e env x = pure x := by
  cases e <;> first | rfl | cases h
def ite5 {α : Type} (c1 c2 c3 c4 c5 : Bool) (a b c : α) : α := if c1 = true then a else if c2 = true then a else if c3 = true then a else if c4 = true then a else if c5 = true then b else c
theorem ite5_of {α β : Type} {c1 c2 c3 c4 c5 : Bool} {n : α} {o : Option α} {u : Sem (Option α)} (h : ite5 c1 c2 c3 c4 c5 (some none) none (some (some n)) = some o) : ite5 c1 c2 c3 c4 c5 (pure none) u (pure (some n)) = (pure o : Sem (Option α)) := by
  cases c1 <;> cases c2 <;> cases c3 <;> cases c4 <;> cases c5 <;> simp [ite5] at h ⊢ <;> subst h <;> rfl
def swNames (sc : Scope) (ts : List Expr) : List Str := ts.filterMap fun
  | .Name id pos => if (sc.names.lookup id == some .local && pos.line == (Option.map (fun x : Expr => x.pos.line) ts.head?).getD 0) = true then some id else none
  | _ => none
/-- swappedStores, computed -/
def swapC (sc : Scope) (t v : Expr) : Option (Option (List Str)) := match t, v with
  | .Tuple ts _ _, .Tuple vs _ _ => ite5 (!(ts.length == 2 || ts.length == 3) || vs.length != ts.length || ScopeKind.function != ScopeKind.function) (vs.any isStar) ((swNames sc ts).length != ts.length || (swNames sc ts).eraseDups.length != (swNames sc ts).length) (vs.all (foldedForSure 8)) (vs.all (constantsAlone 8)) (some none) none (some (some (swNames sc ts)))
  | .List _ _, _ => none
  | _, _ => some none
theorem swap_ok {env : Env} {sc : Scope} {t v : Expr} {o : Option (List Str)} (hs : env.scope = sc) (hk : sc.kind = .function) (h : swapC sc t v = some o) : swappedStores [t] v env = pure o := by
  have hb : env.blockKind = .function := by
    unfold Env.blockKind
    rw [hs, hk]
    rfl
  have hkd : ∀ t, env.kindOf t = sc.names.lookup t := fun t => by
    unfold Env.kindOf
    rw [hs]
  cases t with
  | Tuple ts k p =>
    cases v with
    | Tuple vs k2 p2 =>
      have e : swappedStores [.Tuple ts k p] (.Tuple vs k2 p2) env = ite5 (!(ts.length == 2 || ts.length == 3) || vs.length != ts.length || ScopeKind.function != ScopeKind.function) (vs.any isStar) ((swNames sc ts).length != ts.length || (swNames sc ts).eraseDups.length != (swNames sc ts).length) (vs.all (foldedForSure 8)) (vs.all (constantsAlone 8)) (pure none) (do let _ ← (unsupported "assign.tuple-of-constant-expressions:order-of-the-stores" : Sem Unit); pure (some (swNames sc ts))) (pure (some (swNames sc ts))) := by
        unfold swappedStores
        simp only [hb, hkd]
        rfl
      rw [e]
      exact ite5_of (β := Unit) h
    | _ => cases h; rfl
  | List ts p => cases v <;> cases h
  | _ => cases v <;> cases h <;> rfl
/-- keywords -/
def kwNames (kws : List Keyword) : Option (List Str) := kws.foldr (fun k r => match k with | ⟨some n, _, _⟩ => r.map (n :: ·) | _ => none) (some [])
theorem kw_ok {pos : Pos} {env : Env} : ∀ {kws : List Keyword} {ks : List Str}, kwNames kws = some ks → (backToKw pos (keywordEach kws env)).all (·.1.isSome) = true ∧ (backToKw pos (keywordEach kws env)).filterMap (·.1) = ks ∧ (backToKw pos (keywordEach kws env)).any (·.1.isNone) = false
  | [], ks, h => by cases h; exact ⟨rfl, rfl, rfl⟩
  | ⟨nm, v, p⟩ :: kws, ks, h => by
    cases nm with
    | none => cases h
    | some n =>
      have h : (kwNames kws).map (n :: ·) = some ks := h
      cases e : kwNames kws with
      | none => rw [e] at h; cases h
      | some ks' =>
        rw [e] at h
        cases h
        obtain ⟨h1, h2, h3⟩ := kw_ok (pos := pos) (env := env) e
        refine ⟨?_, ?_, ?_⟩
        · show (true && _) = true
          rw [Bool.true_and]; exact h1
        · show n :: _ = _
          rw [← h2]; rfl
        · show (false || _) = false
          rw [Bool.false_or]; exact h3
end Den

/-! Den, part R: the written meanings (terms), what they mean, and whether a text is such a term. -/
namespace Den
open PySem PySem.Spec PyProof.Rows L2

/-! ### the operations' names -/
inductive Op1 where
  | len | abs | int | max | min | repr | sumL | allL | anyL | maxL | minL | tup
inductive OpF where
  | len | sum | all | any | max | min | tup | repr
inductive OpL where
  | lst | sort
inductive Mt where
  | app | ext | pop | popN | cnt | scnt | join
inductive MtF where
  | ext | join
inductive Ty where
  | int | bool | str | tuple | list
def Op1.name : Op1 → Str
  | .len => "len"
  | .abs => "abs"
  | .int => "int"
  | .max => "max"
  | .min => "min"
  | .repr => "repr"
  | .sumL => "sum"
  | .allL => "all"
  | .anyL => "any"
  | .maxL => "max"
  | .minL => "min"
  | .tup => "tuple"
def Op1.den : Op1 → List D → M D
  | .len => lenD
  | .abs => absD
  | .int => intD
  | .max => maxD
  | .min => minD
  | .repr => reprD
  | .sumL => lstOp sumF
  | .allL => lstOp allF
  | .anyL => lstOp anyF
  | .maxL => lstOp maxF
  | .minL => lstOp minF
  | .tup => seqOp tupF
def OpF.name : OpF → Str
  | .len => "len"
  | .sum => "sum"
  | .all => "all"
  | .any => "any"
  | .max => "max"
  | .min => "min"
  | .tup => "tuple"
  | .repr => "repr"
def OpF.den : OpF → List D → M D
  | .len => lenF
  | .sum => sumF
  | .all => allF
  | .any => anyF
  | .max => maxF
  | .min => minF
  | .tup => tupF
  | .repr => reprF
def OpL.name : OpL → Str
  | .lst => "list"
  | .sort => "sorted"
def OpL.den1 : OpL → List D → M (List D)
  | .lst => seqOp lstF
  | .sort => lstOp sortF
def OpL.denF : OpL → List D → M (List D)
  | .lst => lstF
  | .sort => sortF
def Mt.name : Mt → Str
  | .app => "append"
  | .ext => "extend"
  | .pop => "pop"
  | .popN => "pop"
  | .cnt => "count"
  | .scnt => "count"
  | .join => "join"
def Mt.ty : Mt → String
  | .scnt => "str"
  | .join => "str"
  | _ => "list"
def Mt.den : Mt → D → List D → M D
  | .app => appD
  | .ext => extD
  | .pop => popD
  | .popN => popI
  | .cnt => cntD
  | .scnt => scntD
  | .join => joinD
def MtF.name : MtF → Str
  | .ext => "extend"
  | .join => "join"
def MtF.ty : MtF → String
  | .ext => "list"
  | .join => "str"
def MtF.den : MtF → D → List D → M D
  | .ext => extF
  | .join => joinF
def Ty.name : Ty → String
  | .int => "int"
  | .bool => "bool"
  | .str => "str"
  | .tuple => "tuple"
  | .list => "list"

/-! ### terms -/
mutual
inductive Ex where
  | var (i : Nat)
  | int (n : Int)
  | str (x : Str)
  | bl (b : Bool)
  | non
  | glo (j : Nat)
  | bin (op : Operator) (a b : Ex)
  | neg (a : Ex)
  | ofB (b : Bx)
  | ite (c : Bx) (a b : Ex)
  | tup (as : Exs)
  | push (l : Lx)
  | sub (a b : Ex)
  | cut (a : Ex) (lo hi : Eo)
  | call (j : Nat) (as ks : Exs)
  | op1 (o : Op1) (as : Exs)
  | opF (o : OpF) (l : Lx)
  | mt (o : Mt) (a : Ex) (as : Exs)
  | mtF (o : MtF) (a : Ex) (l : Lx)
  | isi (t : Ty) (a : Ex)
  | newD
  | oneD (k v : Int)
  | getD (a k d : Ex)
  | sumV (a : Ex)
inductive Eo where
  | no
  | so (a : Ex)
inductive Exs where
  | nil
  | cons (a : Ex) (as : Exs)
inductive Bx where
  | cmp (op : CmpOp) (a b : Ex)
  | chn (op op' : CmpOp) (a b c : Ex)
  | bop (op : BoolOp) (bs : Bs)
  | not (a : Bx)
  | tru (a : Ex)
  | asB (a : Ex)
inductive Bs where
  | one (b : Bx)
  | cons (b : Bx) (bs : Bs)
inductive Lx where
  | disp (as : Exs)
  | lc (own : List Nat) (t : Tg) (c : Bo) (e : Ex) (s : Ix)
  | cut (a : Ex) (lo hi : Eo)
  | op1 (o : OpL) (as : Exs)
  | opF (o : OpL) (l : Lx)
  | rg1 (a : Ex)
  | rg2 (a b : Ex)
  | sortIt (a : Ex)
  | sset (a : Ex)
  | ssetL (l : Lx)
  | lcK (i : Nat) (own : List Nat) (t : Tg) (c : Bo) (e : Ex)
inductive Bo where
  | yes
  | so (b : Bx)
inductive Kx where
  | e (a : Ex)
  | l (l : Lx)
inductive Ix where
  | b (k : Kx)
  | en (k : Kx)
  | zp (k j : Kx)
  | r1 (a : Ex)
  | r2 (a b : Ex)
inductive Tg where
  | nm (i : Nat)
  | tup (ts : Tgs)
  | sub (a b : Ex)
inductive Tgs where
  | nil
  | cons (t : Tg) (ts : Tgs)
end
mutual
inductive Sx where
  | skip
  | brk
  | cnt
  | ret (a : Ex)
  | retN
  | asg (a : Ex) (t : Tg)
  | ex (a : Ex)
  | par (is : List Nat) (as : Exs)
  | ifs (c : Bx) (a b : Sxs)
  | wh (c : Bx) (a : Sxs)
  | fr (t : Tg) (s : Ix) (a : Sxs)
  | frK (i : Nat) (t : Tg) (a : Sxs)
  | fail
inductive Sxs where
  | nil
  | cons (s : Sx) (r : Sxs)
end

/-! ### meanings -/
/-- a form of a call: name, keywords, written values, where the values go -/
structure Form where
  name : Str
  ks : List Str
  n : Nat
  perm : List Nat
/-- the module's constants, the forms of calls, the slots .. -/
structure Cc where
  gl : List (Str × PyData)
  no : List Str
  fns : List Form
  N : List Str
  sc : Scope
  fn : Str → Bool
def bsD (op : BoolOp) (t u : DB) : DB := match op with
  | .And => andS t u
  | .Or => orS t u
def eoD : Option DE → Option DE := fun o => o
structure Gm where
  gl : List PyData
  fns : List (Nat × Nat × List Nat)
  call : Nat → List D → M D
def gloS (G : Gm) (j : Nat) : DE := match G.gl[j]? with
  | some x => kS (.p x)
  | none => fun _ => fail
def callG (G : Gm) (j : Nat) (fs gs : List DE) : DE := match G.fns[j]? with
  | some (n, m, perm) => callS n m perm (G.call j) fs gs
  | none => fun _ => fail
mutual
def Ex.den (G : Gm) : Ex → DE
  | .var i => vS i
  | .int n => kS (.int n)
  | .str x => kS (.str x)
  | .bl b => kS (.bl b)
  | .non => kS .non
  | .glo j => gloS G j
  | .bin op a b => binS op (a.den G) (b.den G)
  | .neg a => negS (a.den G)
  | .ofB b => boolS (b.den G)
  | .ite c a b => iteS (c.den G) (a.den G) (b.den G)
  | .tup as => tupS (as.den G)
  | .push l => pushL (l.den G)
  | .sub a b => subS (a.den G) (b.den G)
  | .cut a lo hi => cutG cutD (a.den G) (lo.den G) (hi.den G)
  | .call j as ks => callG G j (as.den G) (ks.den G)
  | .op1 o as => fun ρ => bnd (argsS (as.den G) ρ) o.den
  | .opF o l => fun ρ => bnd (l.den G ρ) o.den
  | .mt o a as => mthS o.ty o.den (a.den G) (argsS (as.den G))
  | .mtF o a l => mthS o.ty o.den (a.den G) (l.den G)
  | .isi t a => fun ρ => bnd (a.den G ρ) (isiD t.name)
  | .newD => Den.newD
  | .oneD k v => Den.oneD k v
  | .getD a k d => getD2 (a.den G) (k.den G) (d.den G)
  | .sumV a => sumValS (a.den G)
termination_by structural x => x
def Eo.den (G : Gm) : Eo → Option DE
  | .no => none
  | .so a => some (a.den G)
termination_by structural x => x
def Exs.den (G : Gm) : Exs → List DE
  | .nil => []
  | .cons a as => a.den G :: as.den G
termination_by structural x => x
def Bx.den (G : Gm) : Bx → DB
  | .cmp op a b => cmpS op (a.den G) (b.den G)
  | .chn op op' a b c => chnS op op' (a.den G) (b.den G) (c.den G)
  | .bop op bs => bs.den G op
  | .not a => notS (a.den G)
  | .tru a => truS (a.den G)
  | .asB a => asBS (a.den G)
termination_by structural x => x
def Bs.den (G : Gm) : Bs → BoolOp → DB
  | .one b => fun _ => b.den G
  | .cons b bs => fun op => bsD op (b.den G) (bs.den G op)
termination_by structural x => x
def Lx.den (G : Gm) : Lx → DL
  | .disp as => lstS (as.den G)
  | .lc own t c e s => lcS own (t.den G) (c.den G) (e.den G) (s.den G)
  | .cut a lo hi => cutG cutDL (a.den G) (lo.den G) (hi.den G)
  | .op1 o as => fun ρ => bnd (argsS (as.den G) ρ) o.den1
  | .opF o l => fun ρ => bnd (l.den G ρ) o.denF
  | .rg1 a => lrg1 (a.den G)
  | .rg2 a b => lrg2 (a.den G) (b.den G)
  | .sortIt a => sortItS (a.den G)
  | .sset a => fun ρ => bnd (a.den G ρ) fun d => lstOp ssortF [d]
  | .ssetL l => fun ρ => bnd (l.den G ρ) ssortF
  | .lcK i own t c e => lcKS i own (t.den G) (c.den G) (e.den G)
termination_by structural x => x
def Bo.den (G : Gm) : Bo → DB
  | .yes => yesS
  | .so b => b.den G
termination_by structural x => x
def Kx.den (G : Gm) : Kx → Rho → M BSr
  | .e a => bE (a.den G)
  | .l l => bL (l.den G)
termination_by structural x => x
def Ix.den (G : Gm) : Ix → DS
  | .b k => itB (k.den G)
  | .en k => itE (k.den G)
  | .zp k j => itZ (k.den G) (j.den G)
  | .r1 a => itR1 (a.den G)
  | .r2 a b => itR2 (a.den G) (b.den G)
termination_by structural x => x
def Tg.den (G : Gm) : Tg → DT
  | .nm i => tgN i
  | .tup ts => tgT (ts.den G)
  | .sub a b => subT (a.den G) (b.den G)
termination_by structural x => x
def Tgs.den (G : Gm) : Tgs → List DT
  | .nil => []
  | .cons t ts => t.den G :: ts.den G
termination_by structural x => x
end
mutual
def Sx.den (G : Gm) : Sx → DSt
  | .skip => skipS
  | .brk => brkS
  | .cnt => cntS
  | .ret a => retS (a.den G)
  | .retN => retNS
  | .asg a t => asgS (a.den G) (t.den G)
  | .ex a => exS (a.den G)
  | .par is as => parS is (as.den G)
  | .ifs c a b => ifS (c.den G) (a.den G) (b.den G)
  | .wh c a => whS (c.den G) (a.den G)
  | .fr t s a => forS (t.den G) (s.den G) (a.den G)
  | .frK i t a => forKS i (t.den G) (a.den G)
  | .fail => failS
termination_by structural x => x
def Sxs.den (G : Gm) : Sxs → DSt
  | .nil => skipS
  | .cons s r => seqS (s.den G) (r.den G)
termination_by structural x => x
end

/-! ### whether a text is such a term -/
def isLoc (sc : Scope) (x : Str) : Bool := sc.names.lookup x == some .local || sc.names.lookup x == some .cell
def isVis (sc : Scope) (x : Str) : Bool := sc.names.lookup x == some .local || sc.names.lookup x == some .cell || sc.names.lookup x == some .free
def isGl (sc : Scope) (x : Str) : Bool := sc.names.lookup x == some .globalImplicit
def notDbg (x : Str) : Bool := !(x == "__debug__") && !(x == "__classdict__") && !(x == "__name__")
def Cc.blt (C : Cc) (x : Str) : Bool := isGl C.sc x && C.no.contains x && notDbg x
def relab (sc scope : Scope) : Scope := { scope with names := scope.names.map fun (n, k) => if (k == .free && sc.kind == .function && sc.names.lookup n == some .cell) then (n, .cell) else (n, k) }
def blkB (N : List Str) (sc scope : Scope) (own : List (Str × Nat)) : Bool :=
  (scope.kind == .function) && (scope.names.all fun y => scope.names.lookup y.1 == some y.2) && (own.all fun p => N[p.2]? == some p.1) &&
    (scope.names.all fun y => !(y.2 == .free) || sc.names.lookup y.1 == some .cell || sc.names.lookup y.1 == some .free) &&
    (scope.names.all fun y => !(y.2 == .local || y.2 == .cell) || (own.map (·.1)).contains y.1 || !(N.contains y.1))
def ownOf (N : List Str) (own : List Nat) : List (Str × Nat) := own.filterMap fun i => (N[i]?).map fun x => (x, i)
/-- the block of a comprehension -/
def Cc.blk (C : Cc) (scope : Scope) : Cc := { C with sc := relab C.sc scope, fn := fun x => scope.names.lookup x == some .cell }
def isTupE : Expr → Bool
  | .Tuple _ _ _ => true
  | _ => false
mutual
def ckE (C : Cc) : Ex → Expr → Bool
  | .var i, e => match e with
    | .Name x _ => C.N[i]? == some x && isVis C.sc x && notDbg x
    | _ => false
  | .int n, e => match e with
    | .Constant (.int k) _ _ => k == n
    | _ => false
  | .str n, e => match e with
    | .Constant (.str k) _ _ => k == n
    | _ => false
  | .bl n, e => match e with
    | .Constant (.bool k) _ _ => k == n
    | _ => false
  | .non, e => match e with
    | .Constant .none _ _ => true
    | _ => false
  | .glo j, e => match e with
    | .Name x _ => (C.gl[j]?).map (·.1) == some x && isGl C.sc x && notDbg x
    | _ => false
  | .bin op a b, e => match e with
    | .BinOp x o y _ => o == op && ckE C a x && ckE C b y
    | _ => false
  | .neg a, e => match e with
    | .UnaryOp .USub x _ => ckE C a x
    | _ => false
  | .ofB b, e => ckV C b e
  | .ite c a b, e => match e with
    | .IfExp x y z _ => ckT C c x && ckE C a y && ckE C b z
    | _ => false
  | .tup as, e => match e with
    | .Tuple es _ _ => noStars es && ckA C as es
    | _ => false
  | .push l, e => ckL C l e
  | .sub a b, e => match e with
    | .Subscript x y _ => notSlice y && ckE C a x && ckE C b y
    | _ => false
  | .cut a lo hi, e => match e with
    | .Subscript x (.Slice l h none _) _ => ckE C a x && ckO C lo l && ckO C hi h
    | _ => false
  | .call j as ks, e => match e with
    | .Call (.Name x _) es kws _ => (match C.fns[j]? with
      | some f => f.name == x && isGl C.sc x && notDbg x && noStars es && ckA C as es && kwNames kws == some f.ks && (!es.isEmpty || f.n == 0) && ckA C ks (kws.map fun k => k.value)
      | none => false)
    | _ => false
  | .op1 o as, e => match e with
    | .Call (.Name x _) es [] _ => x == o.name && C.blt x && noStars es && !es.isEmpty && ckA C as es
    | _ => false
  | .opF o l, e => match e with
    | .Call (.Name x _) [y] [] _ => x == o.name && C.blt x && !isStar y && ckL C l y
    | _ => false
  | .mt o a as, e => match e with
    | .Call (.Attribute y n p) es [] q => n == o.name && notCall0 y && p.endLine == q.line && ckE C a y && noStars es && decide (es.length < 30) && ckA C as es
    | _ => false
  | .mtF o a l, e => match e with
    | .Call (.Attribute y n p) [z] [] q => n == o.name && notCall0 y && p.endLine == q.line && ckE C a y && !isStar z && ckL C l z
    | _ => false
  | .isi t a, e => match e with
    | .Call (.Name x _) [y, .Name z _] [] _ => x == "isinstance" && C.blt x && z == Str.ofString t.name && C.blt z && !isStar y && ckE C a y
    | _ => false
  | .newD, e => match e with
    | .Dict [] [] _ => true
    | _ => false
  | .oneD k v, e => match e with
    | .Dict [some (.Constant (.int i) _ _)] [.Constant (.int j) _ _] _ => i == k && j == v
    | _ => false
  | .getD a k d, e => match e with
    | .Call (.Attribute y n p) [z, u] [] q => n == "get" && notCall0 y && p.endLine == q.line && noStars [z, u] && ckE C a y && ckE C k z && ckE C d u
    | _ => false
  | .sumV a, e => match e with
    | .Call (.Name x _) [.Call (.Attribute y n p) [] [] q] [] _ => x == "sum" && C.blt x && n == "values" && notCall0 y && p.endLine == q.line && ckE C a y
    | _ => false
termination_by structural x => x
def ckO (C : Cc) : Eo → Option Expr → Bool
  | .no, o => o.isNone
  | .so a, o => match o with
    | some e => ckE C a e
    | none => false
termination_by structural x => x
def ckA (C : Cc) : Exs → List Expr → Bool
  | .nil, es => es.isEmpty
  | .cons a as, es => match es with
    | e :: es => ckE C a e && ckA C as es
    | [] => false
termination_by structural x => x
def ckV (C : Cc) : Bx → Expr → Bool
  | .cmp op a b, e => match e with
    | .Compare x [o] [y] _ => o == op && ckE C a x && ckE C b y && !behindInMarks o y
    | _ => false
  | .chn op op' a b c, e => match e with
    | .Compare x [o, o'] [y, z] _ => o == op && o' == op' && ckE C a x && ckE C b y && ckE C c z && !lastMarks [o, o'] [y, z]
    | _ => false
  | .bop op bs, e => match e with
    | .BoolOp o es _ => o == op && ckVs C bs op es
    | _ => false
  | .not a, e => match e with
    | .UnaryOp .Not x _ => ckV C a x
    | _ => false
  | .tru _, _ => false
  | .asB a, e => ckE C a e
termination_by structural x => x
def ckVs (C : Cc) : Bs → BoolOp → List Expr → Bool
  | .one b, _, es => match es with
    | [e] => ckV C b e
    | _ => false
  | .cons b bs, op, es => match es with
    | e :: es => ckV C b e && ckVs C bs op es
    | [] => false
termination_by structural x => x
def ckT (C : Cc) : Bx → Expr → Bool
  | .cmp op a b, e => match e with
    | .Compare x [o] [y] _ => o == op && ckE C a x && ckE C b y && !behindInMarks o y
    | _ => false
  | .chn op op' a b c, e => match e with
    | .Compare x [o, o'] [y, z] _ => o == op && o' == op' && ckE C a x && ckE C b y && ckE C c z && !lastMarks [o, o'] [y, z]
    | _ => false
  | .bop op bs, e => match e with
    | .BoolOp o es _ => o == op && ckTs C bs op es
    | _ => false
  | .not a, e => match e with
    | .UnaryOp .Not x _ => ckT C a x
    | _ => false
  | .tru a, e => plainTest e && ckE C a e
  | .asB _, _ => false
termination_by structural x => x
def ckTs (C : Cc) : Bs → BoolOp → List Expr → Bool
  | .one b, _, es => match es with
    | [e] => ckT C b e
    | _ => false
  | .cons b bs, op, es => match es with
    | e :: es => ckT C b e && ckTs C bs op es
    | [] => false
termination_by structural x => x
def ckL (C : Cc) : Lx → Expr → Bool
  | .disp as, e => match e with
    | .List es _ => noStars es && ckA C as es
    | _ => false
  | .lc own t c x s, e => match e with
    | .ListComp elt [⟨tg, iter, ifs, 0⟩] scope _ => blkB C.N C.sc scope (ownOf C.N own) && (ownOf C.N own).map (·.2) == own && ckI C s tg iter && notSet iter && ckG (C.blk scope) t own tg && ckB (C.blk scope) c ifs && ckE (C.blk scope) x elt
    | _ => false
  | .cut a lo hi, e => match e with
    | .Subscript x (.Slice l h none _) _ => ckE C a x && ckO C lo l && ckO C hi h
    | _ => false
  | .op1 o as, e => match e with
    | .Call (.Name x _) es [] _ => x == o.name && C.blt x && noStars es && !es.isEmpty && ckA C as es
    | _ => false
  | .opF o l, e => match e with
    | .Call (.Name x _) [y] [] _ => x == o.name && C.blt x && !isStar y && ckL C l y
    | _ => false
  | .rg1 a, e => match e with
    | .Call (.Name x _) [.Call (.Name y _) [z] [] _] [] _ => x == "list" && C.blt x && y == "range" && C.blt y && !isStar z && ckE C a z
    | _ => false
  | .rg2 a b, e => match e with
    | .Call (.Name x _) [.Call (.Name y _) [z, u] [] _] [] _ => x == "list" && C.blt x && y == "range" && C.blt y && !isStar z && !isStar u && ckE C a z && ckE C b u
    | _ => false
  | .sortIt a, e => match e with
    | .Call (.Name x _) [.Call (.Attribute y n p) [] [] q] [] _ => x == "sorted" && C.blt x && n == "items" && notCall0 y && p.endLine == q.line && ckE C a y
    | _ => false
  | .sset a, e => match e with
    | .Call (.Name x _) [.Call (.Name y _) [z] [] _] [] _ => x == "sorted" && C.blt x && y == "set" && C.blt y && !isStar z && ckE C a z
    | _ => false
  | .ssetL l, e => match e with
    | .Call (.Name x _) [.Call (.Name y _) [z] [] _] [] _ => x == "sorted" && C.blt x && y == "set" && C.blt y && !isStar z && ckL C l z
    | _ => false
  | .lcK i own t c x, e => match e with
    | .ListComp elt [⟨tg, .Call (.Attribute (.Name y _) n p) [] [] q, ifs, 0⟩] scope _ => isTupE tg && n == "items" && C.N[i]? == some y && isVis C.sc y && notDbg y && p.endLine == q.line && blkB C.N C.sc scope (ownOf C.N own) && (ownOf C.N own).map (·.2) == own && ckG (C.blk scope) t own tg && ckB (C.blk scope) c ifs && ckE (C.blk scope) x elt
    | _ => false
termination_by structural x => x
def ckB (C : Cc) : Bo → List Expr → Bool
  | .yes, es => es.isEmpty
  | .so b, es => match es with
    | [e] => ckT C b e
    | _ => false
termination_by structural x => x
def ckK (C : Cc) : Kx → Expr → Bool
  | .e a, e => ckE C a e
  | .l l, e => ckL C l e
termination_by structural x => x
def ckI (C : Cc) : Ix → Expr → Expr → Bool
  | .b k, _, e => ckK C k e
  | .en k, tg, e => match e with
    | .Call (.Name x _) [y] [] _ => isTupE tg && x == "enumerate" && C.blt x && !isStar y && ckK C k y
    | _ => false
  | .zp k j, tg, e => match e with
    | .Call (.Name x _) [y, z] [] _ => isTupE tg && x == "zip" && C.blt x && !isStar y && !isStar z && ckK C k y && ckK C j z
    | _ => false
  | .r1 a, _, e => match e with
    | .Call (.Name x _) [y] [] _ => x == "range" && C.blt x && !isStar y && ckE C a y
    | _ => false
  | .r2 a b, _, e => match e with
    | .Call (.Name x _) [y, z] [] _ => x == "range" && C.blt x && !isStar y && !isStar z && ckE C a y && ckE C b z
    | _ => false
termination_by structural x => x
def ckG (C : Cc) : Tg → List Nat → Expr → Bool
  | .nm i, own, e => match e with
    | .Name x _ => C.N[i]? == some x && isLoc C.sc x && (C.fn x || C.sc.names.lookup x == some .local) && own.contains i
    | _ => false
  | .tup ts, own, e => match e with
    | .Tuple es _ _ => noStars es && ckGs C ts own es
    | _ => false
  | .sub a b, _, e => match e with
    | .Subscript x y _ => notSlice y && ckE C a x && ckE C b y
    | _ => false
termination_by structural x => x
def ckGs (C : Cc) : Tgs → List Nat → List Expr → Bool
  | .nil, _, es => es.isEmpty
  | .cons t ts, own, es => match es with
    | e :: es => ckG C t own e && ckGs C ts own es
    | [] => false
termination_by structural x => x
end
/-- plain local names and their slots -/
def namesAt (C : Cc) : List Nat → List Expr → Bool
  | [], [] => true
  | i :: is, .Name x _ :: es => C.N[i]? == some x && C.sc.names.lookup x == some .local && namesAt C is es
  | _, _ => false
def nameIds : List Expr → List Str
  | .Name x _ :: es => x :: nameIds es
  | _ => []
def plainAsg (C : Cc) (tg e : Expr) : Bool := match tg with
  | .Name x py => !isComp e || (match e with
    | .ListComp _ _ scope pos => !swapLc C.sc x py.line pos.line scope
    | _ => false)
  | tg => swapC C.sc tg e == some none
def lcAsg (C : Cc) (a : Ex) (t : Tg) (tg e : Expr) : Bool := match a, t, tg, e with
  | .push l, .nm i, .Name y py, .ListComp elt gs scope pos => swapLc C.sc y py.line pos.line scope && C.N[i]? == some y && C.sc.names.lookup y == some .local && (match l with
    | .lc _ _ _ _ _ => true
    | _ => false) && ckL C l (.ListComp elt gs scope pos)
  | _, _, _, _ => false
mutual
def ckS (C : Cc) : Sx → Stmt → Bool
  | .skip, s => match s with
    | .Pass _ => true
    | .Expr (.Constant (.str _) _ _) _ => true
    | _ => false
  | .brk, s => match s with
    | .Break _ => true
    | _ => false
  | .cnt, s => match s with
    | .Continue _ => true
    | _ => false
  | .ret a, s => match s with
    | .Return (some e) _ => ckE C a e
    | _ => false
  | .retN, s => match s with
    | .Return none _ => true
    | _ => false
  | .asg a t, s => match s with
    | .Assign [tg] e _ => (!isStar tg && ckE C a e && ckG C t (List.range C.N.length) tg && plainAsg C tg e) || lcAsg C a t tg e
    | _ => false
  | .ex a, s => match s with
    | .Expr e _ => !isComp e && ckE C a e
    | _ => false
  | .par is as, s => match s with
    | .Assign [.Tuple ts k p] (.Tuple vs k2 p2) _ => noStars vs && ckA C as vs && namesAt C is ts && swapC C.sc (.Tuple ts k p) (.Tuple vs k2 p2) == some (some (nameIds ts)) && decide is.Nodup
    | _ => false
  | .ifs c a b, s => match s with
    | .If x y z _ => ckT C c x && ckSs C a y && ckSs C b z
    | _ => false
  | .wh c a, s => match s with
    | .While x y [] _ => ckT C c x && ckSs C a y
    | _ => false
  | .fr t i a, s => match s with
    | .For tg iter body [] _ => ckI C i tg iter && notSet iter && ckG C t (List.range C.N.length) tg && ckSs C a body
    | _ => false
  | .frK i t a, s => match s with
    | .For tg (.Call (.Attribute (.Name y _) n p) [] [] q) body [] _ => isTupE tg && n == "items" && C.N[i]? == some y && isVis C.sc y && notDbg y && p.endLine == q.line && ckG C t (List.range C.N.length) tg && ckSs C a body
    | _ => false
  | .fail, _ => true
termination_by structural x => x
def ckSs (C : Cc) : Sxs → List Stmt → Bool
  | .nil, ss => ss.isEmpty
  | .cons s r, ss => match ss with
    | x :: ss => ckS C s x && ckSs C r ss
    | [] => false
termination_by structural x => x
end
end Den

/-! Den, part S: a text that is such a term does what the term means. -/
namespace Den
open PySem PySem.Spec PyProof.Rows L2

structure CxOk (CX : CXT) (X : Cx) (C : Cc) (CT : Nat → Value) (G : Gm) (W : WX) : Prop where
  N : X.N = C.N
  nd : C.N.Nodup
  sc : X.env.scope = C.sc
  kind : C.sc.kind = .function
  fn : ∀ x, C.fn x = true → X.fn x = true
  room : ∃ k, Room k X.A
  calm : X.calm = true
  gd : X.A.guards = some []
  gl : ∀ (j : Nat) (x : Str) (p : PyData), C.gl[j]? = some (x, p) → G.gl[j]? = some p ∧ ∃ (u : Value) (v : V), X.mg x = some u ∧ RelV v u ∧ ∀ H, RP X.K H v p
  no : ∀ x, C.no.contains x = true → X.mg x = none
  fns : ∀ (j : Nat) (f : Form), C.fns[j]? = some f → G.fns[j]? = some (f.n, f.ks.length, f.perm) ∧ ∃ (k : Nat) (a : Addr) (fd : FuncData) (ps : List Str),
    FnG X.prog X.w X.K X.mg X.base CX k a fd ps (spD X.K CT (G.call j)) ∧ Room k X.A ∧ X.mg f.name = some (.ref a) ∧ PySem.W.keepIn X.K (.ref a) = true ∧ KB X.K fd ps f.ks f.n f.perm
  pass : PassW CX X W

section
variable {CX : CXT} {X : Cx} {C : Cc} {CT : Nat → Value} {G : Gm} {W : WX} {x : Str}
theorem kindOf_sc (o : CxOk CX X C CT G W) (x : Str) : X.env.kindOf x = C.sc.names.lookup x := by
  unfold Env.kindOf
  rw [o.sc]
theorem gl_ok (o : CxOk CX X C CT G W) (h : isGl C.sc x = true) : Gl X x := by
  unfold isGl at h
  show X.env.kindOf x = _
  rw [kindOf_sc o]
  exact eq_of_beq h
theorem vis_ok (o : CxOk CX X C CT G W) (h : isVis C.sc x = true) : Vis X.env.scope x := by
  unfold isVis at h
  unfold Vis
  rw [o.sc]
  simp only [Bool.or_eq_true, beq_iff_eq] at h
  rcases h with (h | h) | h
  · exact .inl h
  · exact .inr (.inl h)
  · exact .inr (.inr h)
theorem loc_ok (o : CxOk CX X C CT G W) (h : isLoc C.sc x = true) : L2.Loc X.env.scope x := by
  unfold isLoc at h
  unfold L2.Loc
  rw [o.sc]
  simpa only [Bool.or_eq_true, beq_iff_eq] using h
theorem dbg_ok (h : notDbg x = true) : (x == ("__debug__" : Str)) = false ∧ (x == ("__classdict__" : Str)) = false ∧ x ≠ "__name__" := by
  unfold notDbg at h
  simp only [Bool.and_eq_true, Bool.not_eq_true'] at h
  exact ⟨h.1.1, h.1.2, beq_eq_false_iff_ne.mp h.2⟩
theorem blt_ok (o : CxOk CX X C CT G W) (h : C.blt x = true) : Gl X x ∧ X.mg x = none ∧ (x == ("__debug__" : Str)) = false ∧ x ≠ "__name__" := by
  unfold Cc.blt at h
  simp only [Bool.and_eq_true] at h
  exact ⟨gl_ok o h.1.1, o.no x h.1.2, (dbg_ok h.2).1, (dbg_ok h.2).2.2⟩
theorem star_of {e : Expr} {es : List Expr} (h : noStars (e :: es) = true) : isStar e = false ∧ noStars es = true := by
  unfold noStars at h
  rw [List.all_cons, Bool.and_eq_true, Bool.not_eq_true'] at h
  exact h
theorem Bool.of_not {b : Bool} (h : (!b) = true) : b = false := by simpa using h
theorem s_op1 (o : CxOk CX X C CT G W) {op : Op1} {p pos : Pos} {e : Expr} {es : List Expr} {fs : List DE} (hb : C.blt op.name = true) (hs : noStars (e :: es) = true) (ha : PA X (e :: es) (tL X.K CT W (argsS fs))) :
    PE X (.Call (.Name op.name p) (e :: es) [] pos) (tE X.K CT W fun ρ => bnd (argsS fs ρ) op.den) := by
  obtain ⟨hg, hm, hd, hn⟩ := blt_ok o hb
  obtain ⟨k, hr⟩ := o.room
  have s1 := star_cons (es := es) (env := X.env) (star_of hs).1
  have s2 := star_any (env := X.env) (pos := pos) (star_of hs).2
  cases op with
  | len => exact s_bltB b_len hg hm (by decide +kernel) ha hn hd s1 s2
  | abs => exact s_bltB b_abs hg hm (by decide +kernel) ha hn hd s1 s2
  | int => exact s_bltT b_int hg hm (by decide +kernel) ha hn hd s1 s2
  | max => exact s_bltB (b_max o.calm) hg hm (by decide +kernel) ha hn hd s1 s2
  | min => exact s_bltB (b_min o.calm) hg hm (by decide +kernel) ha hn hd s1 s2
  | repr => exact s_bltB (b_repr hr o.gd) hg hm (by decide +kernel) ha hn hd s1 s2
  | sumL => exact s_bltB (LRule.ls (l_sum o.calm)) hg hm (by decide +kernel) ha hn hd s1 s2
  | allL => exact s_bltB (LRule.ls (l_all o.calm)) hg hm (by decide +kernel) ha hn hd s1 s2
  | anyL => exact s_bltB (LRule.ls (l_any o.calm)) hg hm (by decide +kernel) ha hn hd s1 s2
  | maxL => exact s_bltB (LRule.ls (l_max o.calm)) hg hm (by decide +kernel) ha hn hd s1 s2
  | minL => exact s_bltB (LRule.ls (l_min o.calm)) hg hm (by decide +kernel) ha hn hd s1 s2
  | tup => exact s_bltT (LRule.sq l_tup t_tup) hg hm (by decide +kernel) ha hn hd s1 s2
theorem s_opF (o : CxOk CX X C CT G W) {op : OpF} {p pos : Pos} {e : Expr} {l : DL} (hb : C.blt op.name = true) (hs : isStar e = false) (ha : PE X e (tN X.K CT W l)) :
    PE X (.Call (.Name op.name p) [e] [] pos) (tE X.K CT W fun ρ => bnd (l ρ) op.den) := by
  obtain ⟨hg, hm, hd, hn⟩ := blt_ok o hb
  obtain ⟨k, hr⟩ := o.room
  have s1 := star_one (env := X.env) hs
  cases op with
  | len => exact s_bltBF b_lenF hg hm (by decide +kernel) ha hn hd s1
  | sum => exact s_bltBF (LRule.fr (l_sum o.calm)) hg hm (by decide +kernel) ha hn hd s1
  | all => exact s_bltBF (LRule.fr (l_all o.calm)) hg hm (by decide +kernel) ha hn hd s1
  | any => exact s_bltBF (LRule.fr (l_any o.calm)) hg hm (by decide +kernel) ha hn hd s1
  | max => exact s_bltBF (LRule.fr (l_max o.calm)) hg hm (by decide +kernel) ha hn hd s1
  | min => exact s_bltBF (LRule.fr (l_min o.calm)) hg hm (by decide +kernel) ha hn hd s1
  | tup => exact s_bltTF (LRule.fr l_tup) hg hm (by decide +kernel) ha hn hd s1
  | repr => exact s_bltBF (f_repr hr o.gd) hg hm (by decide +kernel) ha hn hd s1
theorem s_opL (o : CxOk CX X C CT G W) {op : OpL} {p pos : Pos} {e : Expr} {es : List Expr} {fs : List DE} (hb : C.blt op.name = true) (hs : noStars (e :: es) = true) (ha : PA X (e :: es) (tL X.K CT W (argsS fs))) :
    PE X (.Call (.Name op.name p) (e :: es) [] pos) (tN X.K CT W fun ρ => bnd (argsS fs ρ) op.den1) := by
  obtain ⟨hg, hm, hd, hn⟩ := blt_ok o hb
  have s1 := star_cons (es := es) (env := X.env) (star_of hs).1
  have s2 := star_any (env := X.env) (pos := pos) (star_of hs).2
  cases op with
  | lst => exact s_bltT (LRule.sq l_lst t_lst) hg hm (by decide +kernel) ha hn hd s1 s2
  | sort => exact s_bltB (LRule.ls l_sort) hg hm (by decide +kernel) ha hn hd s1 s2
theorem s_opLF (o : CxOk CX X C CT G W) {op : OpL} {p pos : Pos} {e : Expr} {l : DL} (hb : C.blt op.name = true) (hs : isStar e = false) (ha : PE X e (tN X.K CT W l)) :
    PE X (.Call (.Name op.name p) [e] [] pos) (tN X.K CT W fun ρ => bnd (l ρ) op.denF) := by
  obtain ⟨hg, hm, hd, hn⟩ := blt_ok o hb
  have s1 := star_one (env := X.env) hs
  cases op with
  | lst => exact s_bltTF (LRule.fr l_lst) hg hm (by decide +kernel) ha hn hd s1
  | sort => exact s_bltBF (LRule.fr l_sort) hg hm (by decide +kernel) ha hn hd s1
theorem s_mtA (o : CxOk CX X C CT G W) {op : Mt} {p q : Pos} {y : Expr} {es : List Expr} {f : DE} {fs : List DE} (h0 : notCall0 y = true) (hl : (p.endLine == q.line) = true) (hs : noStars es = true) (h30 : es.length < 30) (hy : PE X y (tE X.K CT W f)) (ha : PA X es (tL X.K CT W (argsS fs))) (he : es = [] → fs = []) :
    PE X (.Call (.Attribute y op.name p) es [] q) (tE X.K CT W (mthS op.ty op.den f (argsS fs))) := by
  have hb := base_ok (attr := op.name) (env := X.env) h0
  cases es with
  | nil =>
    rw [he rfl]
    cases op with
    | app => exact s_mth0 (.inl rfl) PySem.F.plainAttrs_list PySem.F.slot_list_append PySem.F.type_list_append m_app hy hb hl
    | ext => exact s_mth0 (.inl rfl) PySem.F.plainAttrs_list PySem.F.slot_list_extend PySem.F.type_list_extend m_ext hy hb hl
    | pop => exact s_mth0 (.inl rfl) PySem.F.plainAttrs_list PySem.F.slot_list_pop PySem.F.type_list_pop m_pop hy hb hl
    | popN => exact s_mth0 (.inl rfl) PySem.F.plainAttrs_list PySem.F.slot_list_pop PySem.F.type_list_pop m_popI hy hb hl
    | cnt => exact s_mth0 (.inl rfl) PySem.F.plainAttrs_list PySem.F.slot_list_count PySem.F.type_list_count m_cnt hy hb hl
    | scnt => exact s_mth0 (.inr (.inl rfl)) PySem.F.plainAttrs_str PySem.F.slot_str_count PySem.F.type_str_count m_scnt hy hb hl
    | join => exact s_mth0 (.inr (.inl rfl)) PySem.F.plainAttrs_str PySem.F.slot_str_join PySem.F.type_str_join m_join hy hb hl
  | cons e es =>
    have s1 := star_cons (es := es) (env := X.env) (star_of hs).1
    have s2 := star_any (env := X.env) (pos := q) (star_of hs).2
    have s3 := few_ok (env := X.env) (cpos := q) hs h30
    cases op with
    | app => exact s_mth (.inl rfl) PySem.F.plainAttrs_list PySem.F.slot_list_append PySem.F.type_list_append m_app hy ha hb s3 hl s1 s2
    | ext => exact s_mth (.inl rfl) PySem.F.plainAttrs_list PySem.F.slot_list_extend PySem.F.type_list_extend m_ext hy ha hb s3 hl s1 s2
    | pop => exact s_mth (.inl rfl) PySem.F.plainAttrs_list PySem.F.slot_list_pop PySem.F.type_list_pop m_pop hy ha hb s3 hl s1 s2
    | popN => exact s_mth (.inl rfl) PySem.F.plainAttrs_list PySem.F.slot_list_pop PySem.F.type_list_pop m_popI hy ha hb s3 hl s1 s2
    | cnt => exact s_mth (.inl rfl) PySem.F.plainAttrs_list PySem.F.slot_list_count PySem.F.type_list_count m_cnt hy ha hb s3 hl s1 s2
    | scnt => exact s_mth (.inr (.inl rfl)) PySem.F.plainAttrs_str PySem.F.slot_str_count PySem.F.type_str_count m_scnt hy ha hb s3 hl s1 s2
    | join => exact s_mth (.inr (.inl rfl)) PySem.F.plainAttrs_str PySem.F.slot_str_join PySem.F.type_str_join m_join hy ha hb s3 hl s1 s2
theorem s_mtAF (o : CxOk CX X C CT G W) {op : MtF} {p q : Pos} {y e : Expr} {f : DE} {l : DL} (h0 : notCall0 y = true) (hl : (p.endLine == q.line) = true) (hs : isStar e = false) (hy : PE X y (tE X.K CT W f)) (ha : PE X e (tN X.K CT W l)) :
    PE X (.Call (.Attribute y op.name p) [e] [] q) (tE X.K CT W (mthS op.ty op.den f l)) := by
  have hb := base_ok (attr := op.name) (env := X.env) h0
  have hs' : noStars [e] = true := by unfold noStars; simp [hs]
  have s1 := star_one (env := X.env) hs
  have s3 := few_ok (env := X.env) (cpos := q) hs' (by simp)
  cases op with
  | ext => exact s_mthF (.inl rfl) PySem.F.plainAttrs_list PySem.F.slot_list_extend PySem.F.type_list_extend m_extF hy ha hb s3 hl s1
  | join => exact s_mthF (.inr (.inl rfl)) PySem.F.plainAttrs_str PySem.F.slot_str_join PySem.F.type_str_join m_joinF hy ha hb s3 hl s1
/-- the block of a comprehension -/
theorem blk_ok {N : List Str} {sc scope : Scope} {own : List (Str × Nat)} (h : blkB N sc scope own = true) : BlkOk N sc scope own := by
  unfold blkB at h
  simp only [Bool.and_eq_true, List.all_eq_true, beq_iff_eq, Bool.or_eq_true, Bool.not_eq_true', beq_eq_false_iff_ne, Bool.or_eq_false_iff, List.contains_iff_mem] at h
  obtain ⟨⟨⟨⟨h1, h2⟩, h3⟩, h4⟩, h5⟩ := h
  refine ⟨h1, h2, fun p hp => h3 p hp, fun y hy e => ?_, fun y hy e => ?_⟩
  · rcases h4 y hy with (q | q) | q
    · exact absurd e q
    · exact .inl q
    · exact .inr q
  · rcases h5 y hy with (q | q) | q
    · rcases e with e | e
      · exact absurd e q.1
      · exact absurd e q.2
    · exact .inl q
    · refine .inr fun z => ?_
      rw [List.contains_iff_mem.mpr z] at q
      cases q
theorem CxOk.blk (o : CxOk CX X C CT G W) (hF : ∀ (outer : List Env) (H : Hp) (s : Shared) (e : Value) (s' : Shared), CX outer H s (fun _ _ _ => False) e s' → False) {scope : Scope} (hk : scope.kind = .function) (s : Shared) (H : Hp) (a : Addr) (cl : List (Str × Addr)) (fp : List Addr) :
    CxOk CX (X.blk s H scope (compEnvC scope cl a X.env) fp) (C.blk scope) CT G W0 where
  N := o.N
  nd := o.nd
  sc := by
    show relabel scope X.env = relab C.sc scope
    unfold relabel relab Env.kindOf
    rw [o.sc]
  kind := hk
  fn := fun x h => h
  room := o.room
  calm := o.calm
  gd := o.gd
  gl := o.gl
  no := o.no
  fns := o.fns
  pass := fun pins σ H s e s' I h => hF _ _ _ _ _ h
end
theorem flat_wE {E : XK} : Flat (wE E) := fun _ _ _ _ _ h => h
theorem flat_W0 : Flat W0 := fun _ _ _ _ _ h => h
end Den

/-! Den, part T: soundness of the test «this text is this term». -/
namespace Den
open PySem PySem.Spec PyProof.Rows L2

section
variable {CX : CXT} {CT : Nat → Value} {G : Gm}
/-- an error that is not wanted cannot be -/
def NoF (CX : CXT) : Prop := ∀ (outer : List Env) (H : Hp) (s : Shared) (e : Value) (s' : Shared), CX outer H s (fun _ _ _ => False) e s' → False
mutual
theorem ckE_ok (hF : NoF CX) : ∀ (t : Ex) {X : Cx} {C : Cc} {W : WX} {e : Expr}, CxOk CX X C CT G W → ckE C t e = true → PE X e (tE X.K CT W (t.den G))
  | .var i, X, C, W, e, o, h => by
    simp only [ckE] at h
    split at h
    · simp only [Bool.and_eq_true, beq_iff_eq] at h
      obtain ⟨d1, d2, _⟩ := dbg_ok h.2
      exact s_var (by rw [o.N]; exact h.1.1) (vis_ok o h.1.2) d1 d2
    · cases h
  | .int n, X, C, W, e, o, h => by
    simp only [ckE] at h
    split at h
    · rw [← eq_of_beq h]; exact s_int
    · cases h
  | .str n, X, C, W, e, o, h => by
    simp only [ckE] at h
    split at h
    · rw [← eq_of_beq h]; exact s_str
    · cases h
  | .bl n, X, C, W, e, o, h => by
    simp only [ckE] at h
    split at h
    · rw [← eq_of_beq h]; exact s_bl
    · cases h
  | .non, X, C, W, e, o, h => by
    simp only [ckE] at h
    split at h
    · exact s_non
    · cases h
  | .glo j, X, C, W, e, o, h => by
    simp only [ckE] at h
    split at h
    · rename_i x pos
      simp only [Bool.and_eq_true, beq_iff_eq] at h
      obtain ⟨d1, d2, _⟩ := dbg_ok h.2
      cases e1 : C.gl[j]? with
      | none => rw [e1] at h; cases h.1.1
      | some q =>
        obtain ⟨y, p⟩ := q
        rw [e1] at h
        obtain rfl : y = x := Option.some.inj h.1.1
        obtain ⟨g1, u, v, g2, g3, g4⟩ := o.gl j y p e1
        have : (Ex.glo j).den G = kS (.p p) := by
          show gloS G j = _
          unfold gloS
          rw [g1]
        rw [this]
        exact s_const (pe_glob (gl_ok o h.1.2) g2 g3 d1) fun m H => .p (g4 H)
    · cases h
  | .bin op a b, X, C, W, e, o, h => by
    simp only [ckE] at h
    split at h
    · simp only [Bool.and_eq_true] at h
      rw [eq_of_beq h.1.1]
      exact s_bin (ckE_ok hF a o h.1.2) (ckE_ok hF b o h.2)
    · cases h
  | .neg a, X, C, W, e, o, h => by
    simp only [ckE] at h
    split at h
    · exact s_neg (ckE_ok hF a o h)
    · cases h
  | .ofB b, X, C, W, e, o, h => by
    simp only [ckE] at h
    exact ckV_ok hF b o h
  | .ite c a b, X, C, W, e, o, h => by
    simp only [ckE] at h
    split at h
    · simp only [Bool.and_eq_true] at h
      exact s_ite (ckT_ok hF c o h.1.1) (ckE_ok hF a o h.1.2) (ckE_ok hF b o h.2)
    · cases h
  | .tup as, X, C, W, e, o, h => by
    simp only [ckE] at h
    split at h
    · simp only [Bool.and_eq_true] at h
      exact s_tup (ckA_ok hF as o h.1 h.2)
    · cases h
  | .push l, X, C, W, e, o, h => by
    simp only [ckE] at h
    exact s_push (ckL_ok hF l o h)
  | .sub a b, X, C, W, e, o, h => by
    simp only [ckE] at h
    split at h
    · simp only [Bool.and_eq_true] at h
      exact s_sub (ckE_ok hF a o h.1.2) (ckE_ok hF b o h.2) (plainIx h.1.1)
    · cases h
  | .cut a lo hi, X, C, W, e, o, h => by
    simp only [ckE] at h
    split at h
    · simp only [Bool.and_eq_true] at h
      exact s_cutG sl_den (ckE_ok hF a o h.1.1) (ckO_ok hF lo o h.1.2) (ckO_ok hF hi o h.2)
    · cases h
  | .call j as ks, X, C, W, e, o, h => by
    simp only [ckE] at h
    split at h
    · rename_i x p es kws pos
      split at h
      · rename_i f e1
        simp only [Bool.and_eq_true, beq_iff_eq] at h
        obtain ⟨⟨⟨⟨⟨⟨⟨h1, h2⟩, h3⟩, h4⟩, h5⟩, h6⟩, h7⟩, h8⟩ := h
        subst h1
        obtain ⟨g1, k, a, fd, ps, F, hr, hm, hk, hb⟩ := o.fns j f e1
        obtain ⟨d1, _, _⟩ := dbg_ok h3
        obtain ⟨k1, k2, k3⟩ := kw_ok (pos := pos) (env := X.env) h6
        have hd : (Ex.call j as ks).den G = callS f.n f.ks.length f.perm (G.call j) (as.den G) (ks.den G) := by
          show callG G j (as.den G) (ks.den G) = _
          unfold callG
          rw [g1]
        rw [hd]
        have hkw := ckP_ok hF ks o h8
        cases es with
        | nil =>
          have h7' : f.n = 0 := by simpa using h7
          have has : as.den G = [] := by
            cases as with
            | nil => rfl
            | cons _ _ => simp only [ckA] at h5; cases h5
          rw [has, h7']
          exact s_callK0 F hr o.gd o.pass (gl_ok o h2) hm hk (h7' ▸ hb) hkw k1 k2 d1 (by rw [k3]; rfl)
        | cons e es =>
          exact s_callK F hr o.gd o.pass (gl_ok o h2) hm hk hb (ckA_ok hF as o h4 h5) hkw k1 k2 d1 (star_cons (star_of h4).1) (by rw [k3, star_any h4]; rfl)
      · cases h
    · cases h
  | .op1 op as, X, C, W, e, o, h => by
    simp only [ckE] at h
    split at h
    · rename_i x p es pos
      simp only [Bool.and_eq_true, beq_iff_eq] at h
      obtain ⟨⟨⟨⟨h1, h2⟩, h3⟩, h4⟩, h5⟩ := h
      subst h1
      cases es with
      | nil => cases h4
      | cons e es => exact s_op1 o h2 h3 (ckA_ok hF as o h3 h5)
    · cases h
  | .opF op l, X, C, W, e, o, h => by
    simp only [ckE] at h
    split at h
    · simp only [Bool.and_eq_true, beq_iff_eq] at h
      obtain ⟨⟨⟨h1, h2⟩, h3⟩, h4⟩ := h
      subst h1
      exact s_opF o h2 (Bool.of_not h3) (ckL_ok hF l o h4)
    · cases h
  | .mt op a as, X, C, W, e, o, h => by
    simp only [ckE] at h
    split at h
    · simp only [Bool.and_eq_true, decide_eq_true_eq] at h
      obtain ⟨⟨⟨⟨⟨⟨h1, h2⟩, h3⟩, h4⟩, h5⟩, h6⟩, h7⟩ := h
      rw [eq_of_beq h1]
      refine s_mtA o h2 h3 h5 h6 (ckE_ok hF a o h4) (ckA_ok hF as o h5 h7) fun z => ?_
      subst z
      cases as with
      | nil => rfl
      | cons _ _ => simp only [ckA] at h7; cases h7
    · cases h
  | .mtF op a l, X, C, W, e, o, h => by
    simp only [ckE] at h
    split at h
    · simp only [Bool.and_eq_true] at h
      obtain ⟨⟨⟨⟨⟨h1, h2⟩, h3⟩, h4⟩, h5⟩, h6⟩ := h
      rw [eq_of_beq h1]
      exact s_mtAF o h2 h3 (Bool.of_not h5) (ckE_ok hF a o h4) (ckL_ok hF l o h6)
    · cases h
  | .isi t a, X, C, W, e, o, h => by
    simp only [ckE] at h
    split at h
    · simp only [Bool.and_eq_true] at h
      obtain ⟨⟨⟨⟨⟨h1, h2⟩, h3⟩, h4⟩, h5⟩, h6⟩ := h
      obtain ⟨hg, hm, hd, hn⟩ := blt_ok o h2
      obtain ⟨hg', hm', hd', hn'⟩ := blt_ok o h4
      have e1 := eq_of_beq h1
      have e3 := eq_of_beq h3
      subst e1 e3
      refine s_isi hg hm (ckE_ok hF a o h6) (pe_bltn hg' hm' (u := .type t.name) ?_ rfl hn' hd') (star_cons (Bool.of_not h5))
      cases t <;> decide +kernel
    · cases h
  | .newD, X, C, W, e, o, h => by
    simp only [ckE] at h
    split at h
    · exact s_newD
    · cases h
  | .oneD k v, X, C, W, e, o, h => by
    simp only [ckE] at h
    split at h
    · simp only [Bool.and_eq_true, beq_iff_eq] at h
      rw [h.1, h.2]
      exact s_oneD
    · cases h
  | .getD a k d, X, C, W, e, o, h => by
    simp only [ckE] at h
    obtain ⟨kk, hr⟩ := o.room
    split at h
    · simp only [Bool.and_eq_true] at h
      obtain ⟨⟨⟨⟨⟨⟨h1, h2⟩, h3⟩, h4⟩, h5⟩, h6⟩, h7⟩ := h
      have e1 := eq_of_beq h1
      subst e1
      obtain ⟨z1, z2⟩ := star_of h4
      exact s_getD2 hr (ckE_ok hF a o h5) (ckE_ok hF k o h6) (ckE_ok hF d o h7) ⟨base_ok h2, few_ok h4 (by simp), h3, by rw [star_two z1 (star_of z2).1]; rfl⟩
    · cases h
  | .sumV a, X, C, W, e, o, h => by
    simp only [ckE] at h
    split at h
    · simp only [Bool.and_eq_true] at h
      obtain ⟨⟨⟨⟨⟨h1, h2⟩, h3⟩, h4⟩, h5⟩, h6⟩ := h
      have e1 := eq_of_beq h1
      have e3 := eq_of_beq h3
      subst e1 e3
      obtain ⟨hg, hm, _, _⟩ := blt_ok o h2
      exact s_sumVals o.calm hg hm (ckE_ok hF a o h6) (base_ok h4) h5
    · cases h
termination_by structural t => t
theorem ckO_ok (hF : NoF CX) : ∀ (t : Eo) {X : Cx} {C : Cc} {W : WX} {e : Option Expr}, CxOk CX X C CT G W → ckO C t e = true → Bd X CT W e (t.den G)
  | .no, X, C, W, e, o, h => by
    simp only [ckO] at h
    cases e with
    | none => exact bd_none
    | some _ => cases h
  | .so a, X, C, W, e, o, h => by
    simp only [ckO] at h
    split at h
    · exact bd_some (ckE_ok hF a o h)
    · cases h
termination_by structural t => t
theorem ckA_ok (hF : NoF CX) : ∀ (t : Exs) {X : Cx} {C : Cc} {W : WX} {es : List Expr}, CxOk CX X C CT G W → noStars es = true → ckA C t es = true → PA X es (tL X.K CT W (argsS (t.den G)))
  | .nil, X, C, W, es, o, hs, h => by
    simp only [ckA] at h
    cases es with
    | nil => exact s_nil
    | cons _ _ => cases h
  | .cons a as, X, C, W, es, o, hs, h => by
    simp only [ckA] at h
    split at h
    · simp only [Bool.and_eq_true] at h
      exact s_cons (ckE_ok hF a o h.1) (ckA_ok hF as o (star_of hs).2 h.2) (star_cons (star_of hs).1)
    · cases h
termination_by structural t => t
theorem ckP_ok (hF : NoF CX) : ∀ (t : Exs) {X : Cx} {C : Cc} {W : WX} {kws : List Keyword}, CxOk CX X C CT G W → ckA C t (kws.map fun k => k.value) = true → PK X kws (tL X.K CT W (argsS (t.den G)))
  | .nil, X, C, W, kws, o, h => by
    simp only [ckA] at h
    cases kws with
    | nil => exact s_knil
    | cons _ _ => cases h
  | .cons a as, X, C, W, kws, o, h => by
    simp only [ckA] at h
    cases kws with
    | nil => cases h
    | cons k ks =>
      obtain ⟨nm, v, p⟩ := k
      simp only [List.map_cons, Bool.and_eq_true] at h
      exact s_kcons (ckE_ok hF a o h.1) (ckP_ok hF as o h.2)
termination_by structural t => t
theorem ckV_ok (hF : NoF CX) : ∀ (t : Bx) {X : Cx} {C : Cc} {W : WX} {e : Expr}, CxOk CX X C CT G W → ckV C t e = true → PE X e (tE X.K CT W (boolS (t.den G)))
  | .cmp op a b, X, C, W, e, o, h => by
    simp only [ckV] at h
    obtain ⟨k, hr⟩ := o.room
    split at h
    · simp only [Bool.and_eq_true] at h
      obtain ⟨⟨⟨h1, h2⟩, h3⟩, h4⟩ := h
      have e1 := eq_of_beq h1
      subst e1
      exact s_cmpV hr (ckE_ok hF a o h2) (ckE_ok hF b o h3) (Bool.of_not h4)
    · cases h
  | .chn op op' a b c, X, C, W, e, o, h => by
    simp only [ckV] at h
    obtain ⟨k, hr⟩ := o.room
    split at h
    · simp only [Bool.and_eq_true] at h
      obtain ⟨⟨⟨⟨⟨h1, h2⟩, h3⟩, h4⟩, h5⟩, h6⟩ := h
      have e1 := eq_of_beq h1
      have e2 := eq_of_beq h2
      subst e1 e2
      exact s_chnV hr (ckE_ok hF a o h3) (ckE_ok hF b o h4) (ckE_ok hF c o h5) (Bool.of_not h6)
    · cases h
  | .bop op bs, X, C, W, e, o, h => by
    simp only [ckV] at h
    split at h
    · simp only [Bool.and_eq_true] at h
      rw [eq_of_beq h.1]
      exact ckVs_ok hF bs o h.2
    · cases h
  | .not a, X, C, W, e, o, h => by
    simp only [ckV] at h
    split at h
    · exact s_notV (ckV_ok hF a o h)
    · cases h
  | .tru a, X, C, W, e, o, h => by
    simp only [ckV] at h
    cases h
  | .asB a, X, C, W, e, o, h => by
    simp only [ckV] at h
    exact s_asB (ckE_ok hF a o h)
termination_by structural t => t
theorem ckVs_ok (hF : NoF CX) : ∀ (t : Bs) {X : Cx} {C : Cc} {W : WX} {op : BoolOp} {es : List Expr} {pos : Pos}, CxOk CX X C CT G W → ckVs C t op es = true → PE X (.BoolOp op es pos) (tE X.K CT W (boolS (t.den G op)))
  | .one b, X, C, W, op, es, pos, o, h => by
    simp only [ckVs] at h
    split at h
    · exact pe_one (ckV_ok hF b o h)
    · cases h
  | .cons b bs, X, C, W, op, es, pos, o, h => by
    simp only [ckVs] at h
    split at h
    · rename_i e es
      simp only [Bool.and_eq_true] at h
      have ih := ckVs_ok hF bs (pos := pos) o h.2
      cases es with
      | nil => cases bs <;> (simp only [ckVs] at h; cases h.2)
      | cons e' es =>
        cases op with
        | And => exact s_andV (ckV_ok hF b o h.1) ih
        | Or => exact s_orV (ckV_ok hF b o h.1) ih
    · cases h
termination_by structural t => t
theorem ckT_ok (hF : NoF CX) : ∀ (t : Bx) {X : Cx} {C : Cc} {W : WX} {e : Expr}, CxOk CX X C CT G W → ckT C t e = true → PT X e (tT X.K CT W (t.den G))
  | .cmp op a b, X, C, W, e, o, h => by
    simp only [ckT] at h
    obtain ⟨k, hr⟩ := o.room
    split at h
    · simp only [Bool.and_eq_true] at h
      obtain ⟨⟨⟨h1, h2⟩, h3⟩, h4⟩ := h
      have e1 := eq_of_beq h1
      subst e1
      exact s_cmpT hr (ckE_ok hF a o h2) (ckE_ok hF b o h3) (Bool.of_not h4)
    · cases h
  | .chn op op' a b c, X, C, W, e, o, h => by
    simp only [ckT] at h
    obtain ⟨k, hr⟩ := o.room
    split at h
    · simp only [Bool.and_eq_true] at h
      obtain ⟨⟨⟨⟨⟨h1, h2⟩, h3⟩, h4⟩, h5⟩, h6⟩ := h
      have e1 := eq_of_beq h1
      have e2 := eq_of_beq h2
      subst e1 e2
      exact s_chnT hr (ckE_ok hF a o h3) (ckE_ok hF b o h4) (ckE_ok hF c o h5) (Bool.of_not h6)
    · cases h
  | .bop op bs, X, C, W, e, o, h => by
    simp only [ckT] at h
    split at h
    · simp only [Bool.and_eq_true] at h
      rw [eq_of_beq h.1]
      exact (ckTs_ok hF bs o h.2).pt
    · cases h
  | .not a, X, C, W, e, o, h => by
    simp only [ckT] at h
    split at h
    · exact s_notT (ckT_ok hF a o h)
    · cases h
  | .tru a, X, C, W, e, o, h => by
    simp only [ckT, Bool.and_eq_true] at h
    exact s_truT (ckE_ok hF a o h.2) (test_ok h.1)
  | .asB a, X, C, W, e, o, h => by
    simp only [ckT] at h
    cases h
termination_by structural t => t
theorem ckTs_ok (hF : NoF CX) : ∀ (t : Bs) {X : Cx} {C : Cc} {W : WX} {op : BoolOp} {es : List Expr} {pos : Pos}, CxOk CX X C CT G W → ckTs C t op es = true → PW X (.BoolOp op es pos) (tT X.K CT W (t.den G op))
  | .one b, X, C, W, op, es, pos, o, h => by
    simp only [ckTs] at h
    split at h
    · cases op with
      | And => exact pw_and1 (ckT_ok hF b o h)
      | Or => exact pw_or1 (ckT_ok hF b o h)
    · cases h
  | .cons b bs, X, C, W, op, es, pos, o, h => by
    simp only [ckTs] at h
    split at h
    · rename_i e es
      simp only [Bool.and_eq_true] at h
      have ih := ckTs_ok hF bs (pos := pos) o h.2
      cases es with
      | nil => cases bs <;> (simp only [ckTs] at h; cases h.2)
      | cons e' es =>
        cases op with
        | And => exact s_andT (ckT_ok hF b o h.1) ih
        | Or => exact s_orT (ckT_ok hF b o h.1) ih
    · cases h
termination_by structural t => t
theorem ckL_ok (hF : NoF CX) : ∀ (t : Lx) {X : Cx} {C : Cc} {W : WX} {e : Expr}, CxOk CX X C CT G W → ckL C t e = true → PE X e (tN X.K CT W (t.den G))
  | .disp as, X, C, W, e, o, h => by
    simp only [ckL] at h
    split at h
    · simp only [Bool.and_eq_true] at h
      exact s_lst (ckA_ok hF as o h.1 h.2)
    · cases h
  | .lc own t c x s, X, C, W, e, o, h => by
    simp only [ckL] at h
    split at h
    · rename_i elt tg iter ifs scope pos
      simp only [Bool.and_eq_true, beq_iff_eq] at h
      obtain ⟨⟨⟨⟨⟨⟨h1, h2⟩, h3⟩, h4⟩, h5⟩, h6⟩, h7⟩ := h
      have ok := blk_ok h1
      have hd : (Lx.lc own t c x s).den G = lcS ((ownOf C.N own).map (·.2)) (t.den G) (c.den G) (x.den G) (s.den G) := by rw [h2]; rfl
      rw [hd]
      refine s_lc o.calm (by rw [o.N]; exact o.nd) (ckI_ok hF s o h3) (by rw [o.N, o.sc]; exact ok) (fun s' H' a cl fp => ?_) (fun s' H' a cl fp => ?_) (fun s' H' a cl fp => ?_) fun x => folded_ok h4 x
      · rw [h2]
        exact ckG_ok hF t flat_W0 (o.blk hF ok.kind s' H' a cl fp) h5
      · exact ckB_ok hF c (o.blk hF ok.kind s' H' a cl fp) h6
      · exact ckE_ok hF x (o.blk hF ok.kind s' H' a cl fp) h7
    · cases h
  | .cut a lo hi, X, C, W, e, o, h => by
    simp only [ckL] at h
    split at h
    · simp only [Bool.and_eq_true] at h
      exact s_cutG sl_denL (ckE_ok hF a o h.1.1) (ckO_ok hF lo o h.1.2) (ckO_ok hF hi o h.2)
    · cases h
  | .op1 op as, X, C, W, e, o, h => by
    simp only [ckL] at h
    split at h
    · rename_i x p es pos
      simp only [Bool.and_eq_true, beq_iff_eq] at h
      obtain ⟨⟨⟨⟨h1, h2⟩, h3⟩, h4⟩, h5⟩ := h
      subst h1
      cases es with
      | nil => cases h4
      | cons e es => exact s_opL o h2 h3 (ckA_ok hF as o h3 h5)
    · cases h
  | .opF op l, X, C, W, e, o, h => by
    simp only [ckL] at h
    split at h
    · simp only [Bool.and_eq_true, beq_iff_eq] at h
      obtain ⟨⟨⟨h1, h2⟩, h3⟩, h4⟩ := h
      subst h1
      exact s_opLF o h2 (Bool.of_not h3) (ckL_ok hF l o h4)
    · cases h
  | .rg1 a, X, C, W, e, o, h => by
    simp only [ckL] at h
    split at h
    · simp only [Bool.and_eq_true] at h
      obtain ⟨⟨⟨⟨⟨h1, h2⟩, h3⟩, h4⟩, h5⟩, h6⟩ := h
      have e1 := eq_of_beq h1
      have e3 := eq_of_beq h3
      subst e1 e3
      obtain ⟨hg, hm, _, _⟩ := blt_ok o h2
      obtain ⟨hg', hm', _, _⟩ := blt_ok o h4
      exact s_lrg1 o.calm hg hm hg' hm' (ckE_ok hF a o h6) (star_one (Bool.of_not h5))
    · cases h
  | .rg2 a b, X, C, W, e, o, h => by
    simp only [ckL] at h
    split at h
    · rename_i x p y p2 z u pos2 pos
      simp only [Bool.and_eq_true] at h
      obtain ⟨⟨⟨⟨⟨⟨⟨h1, h2⟩, h3⟩, h4⟩, h5⟩, h6⟩, h7⟩, h8⟩ := h
      have e1 := eq_of_beq h1
      have e3 := eq_of_beq h3
      subst e1 e3
      obtain ⟨hg, hm, _, _⟩ := blt_ok o h2
      obtain ⟨hg', hm', _, _⟩ := blt_ok o h4
      exact s_lrg2 o.calm hg hm hg' hm' (ckE_ok hF a o h7) (ckE_ok hF b o h8) (star_cons (Bool.of_not h5)) (star_one (Bool.of_not h6)) (by rw [star_one (Bool.of_not h6)]; rfl)
    · cases h
  | .sortIt a, X, C, W, e, o, h => by
    simp only [ckL] at h
    split at h
    · simp only [Bool.and_eq_true] at h
      obtain ⟨⟨⟨⟨⟨h1, h2⟩, h3⟩, h4⟩, h5⟩, h6⟩ := h
      have e1 := eq_of_beq h1
      have e3 := eq_of_beq h3
      subst e1 e3
      obtain ⟨hg, hm, _, _⟩ := blt_ok o h2
      exact s_sortIt o.calm hg hm (ckE_ok hF a o h6) (base_ok h4) h5
    · cases h
  | .sset a, X, C, W, e, o, h => by
    simp only [ckL] at h
    split at h
    · simp only [Bool.and_eq_true] at h
      obtain ⟨⟨⟨⟨⟨h1, h2⟩, h3⟩, h4⟩, h5⟩, h6⟩ := h
      have e1 := eq_of_beq h1
      have e3 := eq_of_beq h3
      subst e1 e3
      obtain ⟨hg, hm, _, _⟩ := blt_ok o h2
      obtain ⟨hg', hm', _, _⟩ := blt_ok o h4
      exact s_ssetE o.calm hg hm hg' hm' (ckE_ok hF a o h6) (star_one (Bool.of_not h5))
    · cases h
  | .ssetL l, X, C, W, e, o, h => by
    simp only [ckL] at h
    split at h
    · simp only [Bool.and_eq_true] at h
      obtain ⟨⟨⟨⟨⟨h1, h2⟩, h3⟩, h4⟩, h5⟩, h6⟩ := h
      have e1 := eq_of_beq h1
      have e3 := eq_of_beq h3
      subst e1 e3
      obtain ⟨hg, hm, _, _⟩ := blt_ok o h2
      obtain ⟨hg', hm', _, _⟩ := blt_ok o h4
      exact s_ssetL o.calm hg hm hg' hm' (ckL_ok hF l o h6) (star_one (Bool.of_not h5))
    · cases h
  | .lcK i own t c x, X, C, W, e, o, h => by
    simp only [ckL] at h
    split at h
    · rename_i elt tg y p0 n p q ifs scope pos
      simp only [Bool.and_eq_true, beq_iff_eq] at h
      obtain ⟨⟨⟨⟨⟨⟨⟨⟨⟨⟨g1, g2⟩, g3⟩, g4⟩, g5⟩, g6⟩, h1⟩, h2⟩, h5⟩, h6⟩, h7⟩ := h
      subst g2
      have ok := blk_ok h1
      obtain ⟨d1, d2, _⟩ := dbg_ok g5
      have hd : (Lx.lcK i own t c x).den G = lcKS i ((ownOf C.N own).map (·.2)) (t.den G) (c.den G) (x.den G) := by rw [h2]; rfl
      rw [hd]
      cases tg with
      | Tuple es kk tp =>
        refine s_lcK o.calm (by rw [o.N]; exact o.nd) (by rw [o.N]; exact g3) (vis_ok o g4) d1 d2 (beq_iff_eq.mpr g6) (by rw [o.N, o.sc]; exact ok) (fun s' H' a cl fp => ?_) (fun s' H' a cl fp => ?_) (fun s' H' a cl fp => ?_)
        · rw [h2]
          exact ckG_ok hF t flat_W0 (o.blk hF ok.kind s' H' a cl fp) h5
        · exact ckB_ok hF c (o.blk hF ok.kind s' H' a cl fp) h6
        · exact ckE_ok hF x (o.blk hF ok.kind s' H' a cl fp) h7
      | _ => cases g1
    · cases h
termination_by structural t => t
theorem ckB_ok (hF : NoF CX) : ∀ (t : Bo) {X : Cx} {C : Cc} {W : WX} {es : List Expr}, CxOk CX X C CT G W → ckB C t es = true → PTs X es (tT X.K CT W (t.den G))
  | .yes, X, C, W, es, o, h => by
    simp only [ckB] at h
    cases es with
    | nil => exact s_yes
    | cons _ _ => cases h
  | .so b, X, C, W, es, o, h => by
    simp only [ckB] at h
    split at h
    · exact s_one (ckT_ok hF b o h)
    · cases h
termination_by structural t => t
theorem ckK_ok (hF : NoF CX) : ∀ (t : Kx) {X : Cx} {C : Cc} {W : WX} {e : Expr}, CxOk CX X C CT G W → ckK C t e = true → PB X CT W e (t.den G)
  | .e a, X, C, W, e, o, h => by
    simp only [ckK] at h
    exact pb_E (ckE_ok hF a o h)
  | .l l, X, C, W, e, o, h => by
    simp only [ckK] at h
    exact pb_L (ckL_ok hF l o h)
termination_by structural t => t
theorem ckI_ok (hF : NoF CX) : ∀ (t : Ix) {X : Cx} {C : Cc} {W : WX} {tg e : Expr}, CxOk CX X C CT G W → ckI C t tg e = true → PI X tg e (tI X.K CT W (t.den G))
  | .b k, X, C, W, tg, e, o, h => by
    simp only [ckI] at h
    exact i_base (ckK_ok hF k o h)
  | .en k, X, C, W, tg, e, o, h => by
    simp only [ckI] at h
    split at h
    · simp only [Bool.and_eq_true] at h
      obtain ⟨⟨⟨⟨h1, h2⟩, h3⟩, h4⟩, h5⟩ := h
      have e1 := eq_of_beq h2
      subst e1
      obtain ⟨hg, hm, _, _⟩ := blt_ok o h3
      cases tg with
      | Tuple es kk tp => exact i_enum hg hm (ckK_ok hF k o h5) (star_one (Bool.of_not h4))
      | _ => cases h1
    · cases h
  | .zp k j, X, C, W, tg, e, o, h => by
    simp only [ckI] at h
    split at h
    · simp only [Bool.and_eq_true] at h
      obtain ⟨⟨⟨⟨⟨⟨h1, h2⟩, h3⟩, h4⟩, h5⟩, h6⟩, h7⟩ := h
      have e1 := eq_of_beq h2
      subst e1
      obtain ⟨hg, hm, _, _⟩ := blt_ok o h3
      cases tg with
      | Tuple es kk tp => exact i_zip hg hm (ckK_ok hF k o h6) (ckK_ok hF j o h7) (star_cons (Bool.of_not h4)) (star_one (Bool.of_not h5)) (by rw [star_one (Bool.of_not h5)]; rfl)
      | _ => cases h1
    · cases h
  | .r1 a, X, C, W, tg, e, o, h => by
    simp only [ckI] at h
    split at h
    · simp only [Bool.and_eq_true] at h
      obtain ⟨⟨⟨h1, h2⟩, h3⟩, h4⟩ := h
      have e1 := eq_of_beq h1
      subst e1
      obtain ⟨hg, hm, _, _⟩ := blt_ok o h2
      exact i_range1 hg hm (ckE_ok hF a o h4) (star_one (Bool.of_not h3))
    · cases h
  | .r2 a b, X, C, W, tg, e, o, h => by
    simp only [ckI] at h
    split at h
    · simp only [Bool.and_eq_true] at h
      obtain ⟨⟨⟨⟨⟨h1, h2⟩, h3⟩, h4⟩, h5⟩, h6⟩ := h
      have e1 := eq_of_beq h1
      subst e1
      obtain ⟨hg, hm, _, _⟩ := blt_ok o h2
      exact i_range2 hg hm (ckE_ok hF a o h5) (ckE_ok hF b o h6) (star_two (Bool.of_not h3) (Bool.of_not h4)) (star_one (Bool.of_not h4))
    · cases h
termination_by structural t => t
theorem ckG_ok (hF : NoF CX) : ∀ (t : Tg) {X : Cx} {C : Cc} {W : WX} {own : List Nat} {e : Expr}, Flat W → CxOk CX X C CT G W → ckG C t own e = true → PG X e (tTg X.K CT W own (t.den G))
  | .nm i, X, C, W, own, e, hw, o, h => by
    simp only [ckG] at h
    split at h
    · simp only [Bool.and_eq_true, beq_iff_eq, Bool.or_eq_true, List.contains_iff_mem] at h
      obtain ⟨⟨⟨h1, h2⟩, h3⟩, h4⟩ := h
      exact s_tgN (by rw [o.N]; exact o.nd) (by rw [o.N]; exact h1) (loc_ok o h2) (h3.imp (o.fn _) fun q => by rw [o.sc]; exact q) h4
    · cases h
  | .tup ts, X, C, W, own, e, hw, o, h => by
    simp only [ckG] at h
    split at h
    · simp only [Bool.and_eq_true] at h
      obtain ⟨g1, g2⟩ := ckGs_ok hF ts hw o h.1 h.2
      exact s_tgT o.calm g1 g2 (asg_len h.1) (asg_find h.1)
    · cases h
  | .sub a b, X, C, W, own, e, hw, o, h => by
    simp only [ckG] at h
    obtain ⟨k, hr⟩ := o.room
    split at h
    · simp only [Bool.and_eq_true] at h
      exact s_subT hr (ckE_ok hF a o h.1.2) (ckE_ok hF b o h.2) (asgSub h.1.1)
    · cases h
termination_by structural t => t
theorem ckGs_ok (hF : NoF CX) : ∀ (t : Tgs) {X : Cx} {C : Cc} {W : WX} {own : List Nat} {es : List Expr}, Flat W → CxOk CX X C CT G W → noStars es = true → ckGs C t own es = true → PGs X es (tTgs X.K CT W own (t.den G)) ∧ (t.den G).length = es.length
  | .nil, X, C, W, own, es, hw, o, hs, h => by
    simp only [ckGs] at h
    cases es with
    | nil => exact ⟨s_tgsNil, rfl⟩
    | cons _ _ => cases h
  | .cons t ts, X, C, W, own, es, hw, o, hs, h => by
    simp only [ckGs] at h
    split at h
    · simp only [Bool.and_eq_true] at h
      obtain ⟨g1, g2⟩ := ckGs_ok hF ts hw o (star_of hs).2 h.2
      exact ⟨s_tgsCons hw (ckG_ok hF t hw o h.1) g1 (asg_map (star_of hs).1), by
        show ((ts.den G).length + 1) = _
        rw [g2]; rfl⟩
    · cases h
termination_by structural t => t
end
end
end Den

/-! Den, part U: soundness for statements, defs. -/
namespace Den
open PySem PySem.Spec PyProof.Rows L2

section
variable {CX : CXT} {CT : Nat → Value} {G : Gm}
theorem names_in {C : Cc} : ∀ {is : List Nat} {es : List Expr}, namesAt C is es = true → is.length = es.length
  | [], [], _ => rfl
  | [], _ :: _, h => by cases h
  | i :: is, [], h => by cases h
  | i :: is, e :: es, h => by
    cases e with
    | Name x p =>
      simp only [namesAt, Bool.and_eq_true] at h
      rw [List.length_cons, List.length_cons, names_in h.2]
    | _ => cases h
theorem swaps_sole {t e : Expr} {n : Nat} {env : Env} (h : notName t = true) : swapsWithSole [t] e n env = pure false := swaps_tg h
theorem swapC_eq {sc : Scope} {ts vs : List Expr} {k k2 : Nat} {p p2 : Pos} : swapC sc (.Tuple ts k p) (.Tuple vs k2 p2) = ite5 (!(ts.length == 2 || ts.length == 3) || vs.length != ts.length || ScopeKind.function != ScopeKind.function) (vs.any isStar) ((swNames sc ts).length != ts.length || (swNames sc ts).eraseDups.length != (swNames sc ts).length) (vs.all (foldedForSure 8)) (vs.all (constantsAlone 8)) (some none) none (some (some (swNames sc ts))) := by
  unfold swapC
  rfl
theorem swap_len {sc : Scope} {ts vs : List Expr} {k k2 : Nat} {p p2 : Pos} {ns : List Str} (h : swapC sc (.Tuple ts k p) (.Tuple vs k2 p2) = some (some ns)) : (ts.length = 2 ∨ ts.length = 3) ∧ vs.length = ts.length := by
  have key : ∀ {c1 c2 c3 c4 c5 : Bool} {n : List Str}, ite5 c1 c2 c3 c4 c5 (some none) none (some (some n)) = some (some ns) → c1 = false := fun {c1 c2 c3 c4 c5 n} h => by
    cases c1 with
    | true => simp [ite5] at h
    | false => rfl
  rw [swapC_eq] at h
  have := key h
  simp only [Bool.or_eq_false_iff, Bool.not_eq_false', Bool.or_eq_true, beq_iff_eq, bne_eq_false_iff_eq] at this
  exact ⟨this.1.1, this.1.2⟩
mutual
theorem ckS_ok (hF : NoF CX) : ∀ (t : Sx) {X : Cx} {C : Cc} {E : XK} {s : Stmt}, CxOk CX X C CT G (wE E) → PassesOwn (model X.prog X.w) X.A X.env X.xe → ckS C t s = true → PS X s (tS X.K CT E (t.den G))
  | .skip, X, C, E, s, o, hp, h => by
    simp only [ckS] at h
    split at h
    · exact s_pass
    · exact s_doc
    · cases h
  | .brk, X, C, E, s, o, hp, h => by
    simp only [ckS] at h
    split at h
    · exact s_brk
    · cases h
  | .cnt, X, C, E, s, o, hp, h => by
    simp only [ckS] at h
    split at h
    · exact s_cnt
    · cases h
  | .ret a, X, C, E, s, o, hp, h => by
    simp only [ckS] at h
    split at h
    · exact s_ret (ckE_ok hF a o h)
    · cases h
  | .retN, X, C, E, s, o, hp, h => by
    simp only [ckS] at h
    split at h
    · exact s_retN
    · cases h
  | .asg a t, X, C, E, s, o, hp, h => by
    simp only [ckS] at h
    split at h
    · rename_i tg e pos
      rw [Bool.or_eq_true] at h
      rcases h with h | h
      · simp only [Bool.and_eq_true] at h
        obtain ⟨⟨⟨h1, h2⟩, h3⟩, h4⟩ := h
        have he := ckE_ok hF a o h2
        cases tg with
        | Name x py =>
          simp only [plainAsg] at h4
          have hsw : swapsWith e (some (.Name x py)) pos.line X.env = pure false := by
            rw [Bool.or_eq_true] at h4
            rcases h4 with h4 | h4
            · exact swaps_no (Bool.of_not h4)
            · cases e with
              | ListComp elt gs scope pp =>
                rw [swaps_lc o.sc o.kind]
                rw [Bool.of_not h4]
              | _ => cases h4
          cases t with
          | nm i =>
            simp only [ckG, Bool.and_eq_true, beq_iff_eq, Bool.or_eq_true] at h3
            obtain ⟨⟨⟨g1, g2⟩, g3⟩, _⟩ := h3
            exact s_set (by rw [o.N]; exact o.nd) (by rw [o.N]; exact g1) (loc_ok o g2) he hsw (g3.imp (o.fn _) fun q => by rw [o.sc]; exact q)
          | tup _ => simp only [ckG] at h3; cases h3
          | sub _ _ => simp only [ckG] at h3; cases h3
        | _ =>
          simp only [plainAsg] at h4
          refine s_asg he (ckG_ok hF t flat_wE o h3) (swaps_sole rfl) (swap_ok o.sc o.kind ?_) (asg_map (Bool.of_not h1))
          first | exact eq_of_beq h4 | (simpa using h4)
      · unfold lcAsg at h
        split at h
        · rename_i l i y py elt gs scope pos'
          simp only [Bool.and_eq_true, beq_iff_eq] at h
          obtain ⟨⟨⟨⟨h1, h2⟩, h3⟩, h0⟩, h4⟩ := h
          split at h0
          · rename_i own t' c x sf
            simp only [ckL] at h4
            split at h4
            · rename_i heq
              cases heq
              simp only [Bool.and_eq_true, beq_iff_eq] at h4
              obtain ⟨⟨⟨⟨⟨⟨g1, g2⟩, g3⟩, g4⟩, g5⟩, g6⟩, g7⟩ := h4
              have ok := blk_ok g1
              have hd : (Sx.asg (.push (.lc own t' c x sf)) (.nm i)).den G = asgS (pushL (lcS ((ownOf C.N own).map (·.2)) (t'.den G) (c.den G) (x.den G) (sf.den G))) (tgN i) := by rw [g2]; rfl
              rw [hd]
              refine s_setLc o.calm (by rw [o.N]; exact o.nd) (by rw [o.N]; exact h2) (by rw [o.sc]; exact h3) (by rw [swaps_lc o.sc o.kind, h1]) (ckI_ok hF sf o g3) (by rw [o.N, o.sc]; exact ok) (fun s' H' a cl fp => ?_) (fun s' H' a cl fp => ?_) (fun s' H' a cl fp => ?_) fun x => folded_ok g4 x
              · rw [g2]
                exact ckG_ok hF t' flat_W0 (o.blk hF ok.kind s' H' a cl fp) g5
              · exact ckB_ok hF c (o.blk hF ok.kind s' H' a cl fp) g6
              · exact ckE_ok hF x (o.blk hF ok.kind s' H' a cl fp) g7
            · cases h4
          · cases h0
        · cases h
    · cases h
  | .ex a, X, C, E, s, o, hp, h => by
    simp only [ckS] at h
    split at h
    · simp only [Bool.and_eq_true] at h
      exact s_ex (ckE_ok hF a o h.2) (swaps_no (Bool.of_not h.1))
    · cases h
  | .par is as, X, C, E, s, o, hp, h => by
    simp only [ckS] at h
    split at h
    · rename_i ts k p vs k2 p2 pos
      simp only [Bool.and_eq_true, beq_iff_eq, decide_eq_true_eq] at h
      obtain ⟨⟨⟨⟨h1, h2⟩, h3⟩, h4⟩, h5⟩ := h
      have ha := ckA_ok hF as o h1 h2
      have hl := names_in h3
      obtain ⟨l1, l2⟩ := swap_len h4
      have hsw : swapsWithSole [.Tuple ts k p] (.Tuple vs k2 p2) pos.line X.env = pure false := rfl
      have hw := swap_ok o.sc o.kind h4
      rcases l1 with l1 | l1
      · obtain ⟨t1, t2, rfl⟩ := len2 l1
        obtain ⟨i1, i2, rfl⟩ := len2 (hl.trans l1)
        obtain ⟨v1, v2, rfl⟩ := len2 (l2.trans l1)
        cases t1 with
        | Name x px => cases t2 with
          | Name y py =>
            simp only [namesAt, Bool.and_eq_true, beq_iff_eq] at h3
            have n1 : i1 ≠ i2 := by simpa using h5
            exact s_par2 o.calm (by rw [o.N]; exact o.nd) (by rw [o.N]; exact h3.1.1) (by rw [o.N]; exact h3.2.1.1) n1 (by rw [o.sc]; exact h3.1.2) (by rw [o.sc]; exact h3.2.1.2) ha hw hsw
          | _ => simp [namesAt] at h3
        | _ => simp [namesAt] at h3
      · obtain ⟨t1, t2, t3, rfl⟩ := len3 l1
        obtain ⟨i1, i2, i3, rfl⟩ := len3 (hl.trans l1)
        obtain ⟨v1, v2, v3, rfl⟩ := len3 (l2.trans l1)
        cases t1 with
        | Name x px => cases t2 with
          | Name y py => cases t3 with
            | Name z pz =>
              simp only [namesAt, Bool.and_eq_true, beq_iff_eq] at h3
              have n1 : (i1 ≠ i2 ∧ i1 ≠ i3) ∧ i2 ≠ i3 := by simpa using h5
              exact s_par3 o.calm (by rw [o.N]; exact o.nd) (by rw [o.N]; exact h3.1.1) (by rw [o.N]; exact h3.2.1.1) (by rw [o.N]; exact h3.2.2.1.1) n1.1.1 n1.1.2 n1.2 (by rw [o.sc]; exact h3.1.2) (by rw [o.sc]; exact h3.2.1.2) (by rw [o.sc]; exact h3.2.2.1.2) ha hw hsw
            | _ => simp [namesAt] at h3
          | _ => simp [namesAt] at h3
        | _ => simp [namesAt] at h3
    · cases h
  | .ifs c a b, X, C, E, s, o, hp, h => by
    simp only [ckS] at h
    split at h
    · simp only [Bool.and_eq_true] at h
      exact s_if (ckT_ok hF c o h.1.1) (ckSs_ok hF a o hp h.1.2) (ckSs_ok hF b o hp h.2)
    · cases h
  | .wh c a, X, C, E, s, o, hp, h => by
    simp only [ckS] at h
    split at h
    · simp only [Bool.and_eq_true] at h
      exact s_while hp (ckT_ok hF c o h.1) (ckSs_ok hF a o hp h.2)
    · cases h
  | .fr t i a, X, C, E, s, o, hp, h => by
    simp only [ckS] at h
    split at h
    · simp only [Bool.and_eq_true] at h
      exact s_for hp o.calm (ckI_ok hF i o h.1.1.1) (ckG_ok hF t flat_wE o h.1.2) (ckSs_ok hF a o hp h.2) fun x => folded_ok h.1.1.2 x
    · cases h
  | .frK i t a, X, C, E, s, o, hp, h => by
    simp only [ckS] at h
    split at h
    · rename_i tg y p0 n p q body pos
      simp only [Bool.and_eq_true, beq_iff_eq] at h
      obtain ⟨⟨⟨⟨⟨⟨⟨g1, g2⟩, g3⟩, g4⟩, g5⟩, g6⟩, h1⟩, h2⟩ := h
      subst g2
      obtain ⟨d1, d2, _⟩ := dbg_ok g5
      cases tg with
      | Tuple es kk tp => exact s_forK hp o.calm (by rw [o.N]; exact g3) (vis_ok o g4) d1 d2 (beq_iff_eq.mpr g6) (ckG_ok hF t flat_wE o h1) (ckSs_ok hF a o hp h2)
      | _ => cases g1
    · cases h
  | .fail, X, C, E, s, o, hp, h => s_fail
termination_by structural t => t
theorem ckSs_ok (hF : NoF CX) : ∀ (t : Sxs) {X : Cx} {C : Cc} {E : XK} {ss : List Stmt}, CxOk CX X C CT G (wE E) → PassesOwn (model X.prog X.w) X.A X.env X.xe → ckSs C t ss = true → PSs X ss (tS X.K CT E (t.den G))
  | .nil, X, C, E, ss, o, hp, h => by
    simp only [ckSs] at h
    cases ss with
    | nil => exact s_skip
    | cons _ _ => cases h
  | .cons s r, X, C, E, ss, o, hp, h => by
    simp only [ckSs] at h
    split at h
    · simp only [Bool.and_eq_true] at h
      exact s_seq (ckS_ok hF s o hp h.1) (ckSs_ok hF r o hp h.2)
    · cases h
termination_by structural t => t
end
end
end Den

/-! Den, part V: the defs of a text, the module's constants, a law's end. -/
namespace Den
open PySem PySem.Spec PyProof.Rows L2

/-! ### defs, one behind another -/
section
variable {P : Program} {w : World} {K : PySem.W.Frag} {mg : Str → Option Value} {base : Heap} {CX : CXT} {CT : Nat → Value}
theorem FnG.mono {j k : Nat} {f : Addr} {fd : FuncData} {ps : List Str} {sp : Sp} (F : FnG P w K mg base CX j f fd ps sp) (h : j ≤ k) : FnG P w K mg base CX k f fd ps sp :=
  ⟨F.len, fun A outer s H args us vs Q E hr => F.run A outer s H args us vs Q E (hr.mono h)⟩
/-- a form of a call stands for F -/
def FormT (P : Program) (w : World) (K : PySem.W.Frag) (mg : Str → Option Value) (base : Heap) (CX : CXT) (CT : Nat → Value) (k : Nat) (f : Form) (F : List D → M D) : Prop :=
  ∃ (a : Addr) (fd : FuncData) (ps : List Str), FnG P w K mg base CX k a fd ps (spD K CT F) ∧ mg f.name = some (.ref a) ∧ PySem.W.keepIn K (.ref a) = true ∧ KB K fd ps f.ks f.n f.perm
inductive FormsT (P : Program) (w : World) (K : PySem.W.Frag) (mg : Str → Option Value) (base : Heap) (CX : CXT) (CT : Nat → Value) (k : Nat) : List Form → List (List D → M D) → Prop
  | nil : FormsT P w K mg base CX CT k [] []
  | snoc {fs : List Form} {Fs : List (List D → M D)} {f : Form} {F : List D → M D} : FormsT P w K mg base CX CT k fs Fs → FormT P w K mg base CX CT k f F → FormsT P w K mg base CX CT k (fs ++ [f]) (Fs ++ [F])
theorem FormsT.len {k : Nat} {fs : List Form} {Fs : List (List D → M D)} (h : FormsT P w K mg base CX CT k fs Fs) : fs.length = Fs.length := by
  induction h with
  | nil => rfl
  | snoc _ _ ih => simp [ih]
theorem FormsT.get {k : Nat} {fs : List Form} {Fs : List (List D → M D)} (h : FormsT P w K mg base CX CT k fs Fs) : ∀ {j : Nat} {f : Form}, fs[j]? = some f → FormT P w K mg base CX CT k f ((Fs[j]?).getD fun _ => fail) := by
  induction h with
  | nil => intro j f e; simp at e
  | @snoc fs Fs f F h1 h2 ih =>
    intro j g e
    have hl := h1.len
    by_cases hj : j < fs.length
    · rw [List.getElem?_append_left hj] at e
      rw [List.getElem?_append_left (by omega)]
      exact ih e
    · have e2 : j = fs.length := by
        have := (List.getElem?_eq_some_iff.mp e).1
        simp at this; omega
      subst e2
      rw [List.getElem?_append_right (Nat.le_refl _), Nat.sub_self] at e
      rw [List.getElem?_append_right (by omega), hl, Nat.sub_self]
      simp at e
      subst e
      exact h2
theorem FormsT.mono {j k : Nat} {fs : List Form} {Fs : List (List D → M D)} (h : FormsT P w K mg base CX CT j fs Fs) (hk : j ≤ k) : FormsT P w K mg base CX CT k fs Fs := by
  induction h with
  | nil => exact .nil
  | snoc _ q ih =>
    obtain ⟨a, fd, ps, F, g⟩ := q
    exact .snoc ih ⟨a, fd, ps, F.mono hk, g⟩
def mkG (gl : List (Str × PyData)) (fs : List Form) (Fs : List (List D → M D)) : Gm := ⟨gl.map (·.2), fs.map fun f => (f.n, f.ks.length, f.perm), fun j => (Fs[j]?).getD fun _ => fail⟩
/-- the module's constants, and names that are not the module's -/
structure GlT (K : PySem.W.Frag) (mg : Str → Option Value) (gl : List (Str × PyData)) (no : List Str) : Prop where
  gl : ∀ (j : Nat) (x : Str) (p : PyData), gl[j]? = some (x, p) → ∃ (u : Value) (v : V), mg x = some u ∧ RelV v u ∧ ∀ H, RP K H v p
  no : ∀ x, no.contains x = true → mg x = none
def scopeB (N ps : List Str) (sc : Scope) : Bool := (sc.kind == .function) && !sc.isCoroutine && !sc.isGenerator && decide N.Nodup && N.take ps.length == ps && (ps.all fun x => sc.names.lookup x == some .local || sc.names.lookup x == some .cell) && (sc.names.all fun y => !(y.2 == .free))
theorem scope_ok {N ps : List Str} {sc : Scope} (h : scopeB N ps sc = true) : FnScope N ps sc := by
  unfold scopeB at h
  simp only [Bool.and_eq_true, List.all_eq_true, beq_iff_eq, Bool.or_eq_true, Bool.not_eq_true', decide_eq_true_eq, beq_eq_false_iff_ne] at h
  obtain ⟨⟨⟨⟨⟨⟨h1, h2⟩, h3⟩, h4⟩, h5⟩, h6⟩, h7⟩ := h
  exact ⟨h1, h2, h3, h4, h5, h6, h7⟩
theorem def_ok {x qual : Str} {params : Arguments} {body : List Stmt} {scope : Scope} {f : Addr} {fd : FuncData} {k : Nat} {fs : List Form} {Fs : List (List D → M D)} {gl : List (Str × PyData)} {no N ps : List Str} {t : Sxs} (hF : NoF CX)
    (hE : ∀ (A : Around) (outer : List Env) (s0 : Shared) (H : Hp) (E : XK) (cdv : Value), PassW CX (cxOf CX P w K mg base N qual scope f cdv A outer s0 H E) (wE E))
    (F : FunD K x qual params body scope [] [] f fd) (T : FormsT P w K mg base CX CT k fs Fs) (g : GlT K mg gl no) (hs : scopeB N ps scope = true) (hb : ckSs ⟨gl, no, fs, N, scope, fun _ => true⟩ t body = true) :
    FnG P w K mg base CX (k + 1) f fd ps (spD K CT (runF ps.length N.length (t.den (mkG gl fs Fs)))) := by
  obtain ⟨oc, od, dV, kV, doc, pm, an, cdv, ct, osl, rfl, lk, hcd, _, _⟩ := F.ex
  have S := scope_ok hs
  refine fnG_of lk hcd S fun A outer s0 H E hr hgd => ckSs_ok hF t ⟨rfl, S.nd, rfl, S.kind, fun _ _ => rfl, ⟨k, hr⟩, rfl, hgd, fun j x p e => ?_, g.no, fun j q e => ?_, hE A outer s0 H E cdv⟩ (passes_of (K := fun e s'' => CX outer H s0 E e s'') rfl) hb
  · refine ⟨?_, g.gl j x p e⟩
    show (gl.map (·.2))[j]? = _
    rw [List.getElem?_map]
    rw [show gl[j]? = _ from e]
    rfl
  · refine ⟨?_, ?_⟩
    · show (fs.map _)[j]? = _
      rw [List.getElem?_map]
      rw [show fs[j]? = _ from e]
      rfl
    · obtain ⟨a, fd', ps', G1, G2, G3, G4⟩ := T.get e
      exact ⟨k, a, fd', ps', G1, hr, G2, G3, G4⟩
theorem FunD.kb {x qual : Str} {params : Arguments} {body : List Stmt} {scope : Scope} {f : Addr} {fd : FuncData} {ps ks : List Str} {n : Nat} {perm : List Nat} (F : FunD K x qual params body scope [] [] f fd)
    (h : ∀ (kV doc pm : Value) (an : Option Addr) (cdv ct : Value) (us ws : List Value), us.length = n → ws.length = ks.length → bindArgs (PySem.W.fnOf x qual params body scope .none kV doc pm an cdv ct) ⟨us, ks.zip ws⟩ = pure (ps.zip (pmL perm (us ++ ws)))) : KB K fd ps ks n perm := by
  obtain ⟨oc, od, dV, kV, doc, pm, an, cdv, ct, osl, rfl, lk, hcd, hD, hK⟩ := F.ex
  rcases hD with ⟨_, rfl⟩ | ⟨e, _⟩
  · exact fun s us ws _ h1 h2 => .of_eq (h kV doc pm an cdv ct us ws h1 h2)
  · exact absurd rfl e
end

/-! ### the module's constants -/
def cstAll (f : Value → PyData → Bool) : List Value → List PyData → Bool
  | [], [] => true
  | u :: us, x :: xs => f u x && cstAll f us xs
  | _, _ => false
def cst (K : PySem.W.Frag) : Nat → Value → PyData → Bool
  | _, .none, .none => true
  | _, .bool a, .bool b => a == b
  | _, .int i _, .int j => i == j
  | _, .str x _, .str y => x == y
  | n + 1, .ref a, .tuple xs => (match K.lookup a with
    | some ⟨.type c, _, .seq its _, _⟩ => decide (c = "tuple") && (decide (its.size ≤ sizeLine) && cstAll (cst K n) its.toList xs)
    | _ => false)
  | _, _, _ => false
theorem cstAll_ok {K : PySem.W.Frag} {f : Value → PyData → Bool} (hf : ∀ u x, f u x = true → ∃ v, RelV v u ∧ ∀ H, RP K H v x) : ∀ {us : List Value} {xs : List PyData}, cstAll f us xs = true → ∃ vs, Vals vs us ∧ ∀ H, RPs K H vs xs
  | [], [], _ => ⟨[], .nil, fun _ => .nil⟩
  | u :: us, x :: xs, h => by
    simp only [cstAll, Bool.and_eq_true] at h
    obtain ⟨v, r, p⟩ := hf u x h.1
    obtain ⟨vs, rs, ps⟩ := cstAll_ok hf h.2
    exact ⟨v :: vs, .cons r rs, fun H => .cons (p H) (ps H)⟩
  | [], _ :: _, h => by simp [cstAll] at h
  | _ :: _, [], h => by simp [cstAll] at h
theorem cst_ok {K : PySem.W.Frag} : ∀ (n : Nat) (u : Value) (x : PyData), cst K n u x = true → ∃ v, RelV v u ∧ ∀ H, RP K H v x := by
  intro n
  induction n with
  | zero =>
    intro u x h
    unfold cst at h
    split at h
    · exact ⟨.non, rfl, fun _ => .non⟩
    · rw [eq_of_beq h]; exact ⟨.bl _, rfl, fun _ => .bl _⟩
    · rw [eq_of_beq h]; exact ⟨.int _, ⟨_, rfl⟩, fun _ => .int _⟩
    · rw [eq_of_beq h]; exact ⟨.str _, ⟨_, rfl⟩, fun _ => .str _⟩
    · rename_i hz; cases hz
    · cases h
  | succ n ih =>
    intro u x h
    unfold cst at h
    split at h
    · exact ⟨.non, rfl, fun _ => .non⟩
    · rw [eq_of_beq h]; exact ⟨.bl _, rfl, fun _ => .bl _⟩
    · rw [eq_of_beq h]; exact ⟨.int _, ⟨_, rfl⟩, fun _ => .int _⟩
    · rw [eq_of_beq h]; exact ⟨.str _, ⟨_, rfl⟩, fun _ => .str _⟩
    · rename_i m a xs hz
      cases hz
      split at h
      · rename_i c od its k sl e
        simp only [Bool.and_eq_true, decide_eq_true_eq] at h
        obtain ⟨h1, h2, h3⟩ := h
        obtain ⟨vs, rs, ps⟩ := cstAll_ok ih h3
        have hl : vs.length ≤ sizeLine := by rw [rs.length, Array.length_toList]; exact h2
        exact ⟨.ref a, rfl, fun H => .tup (.inr ⟨_, its, k, e, congrArg Value.type h1, rfl, h2, rs⟩) hl (ps H)⟩
      · cases h
    · cases h
def gloB (K : PySem.W.Frag) (q : Str × PyData) : Bool := match PySem.W.nsIn K mainGlobals q.1 with
  | some (some u) => cst K 6 u q.2
  | _ => false
def freeB (K : PySem.W.Frag) (x : Str) : Bool := match PySem.W.nsIn K mainGlobals x with
  | some none => true
  | _ => false
def exB (gl : List (Str × PyData)) (no : List Str) (K : PySem.W.Frag) : Bool := gl.all (gloB K) && no.all (freeB K)
theorem exB_ok {K : PySem.W.Frag} {h : Heap} {mg : Str → Option Value} {gl : List (Str × PyData)} {no : List Str} (X : K.In h) (G : h.Ns mainGlobals mg) (e : exB gl no K = true) : GlT K mg gl no := by
  unfold exB at e
  simp only [Bool.and_eq_true, List.all_eq_true] at e
  refine ⟨fun j x p q => ?_, fun x q => ?_⟩
  · have := e.1 (x, p) (List.mem_of_getElem? q)
    unfold gloB at this
    split at this
    · rename_i u hu
      obtain ⟨v, r, rp⟩ := cst_ok 6 u p this
      exact ⟨u, v, PySem.W.mg_of X G hu, r, rp⟩
    · cases this
  · have := e.2 x (List.contains_iff_mem.mp q)
    unfold freeB at this
    split at this
    · rename_i hu
      exact PySem.W.mg_none_of X G hu
    · cases this

/-! ### the head's facts: defs, constants -/
abbrev AlZ : Type := He.AlD × Bool
def obsZ (n : Nat) (fa : List He.Fa) (fn : List He.DefD) (ex : PySem.W.Frag → Bool) (g : Addr → Option Obj) : AlZ := (He.obsDG n fa fn g, ex (He.frG g (He.asD g n)))
def SaysZ (fa : List He.Fa) (fn : List He.DefD) (ex : PySem.W.Frag → Bool) (K : PySem.W.Frag) : Prop := He.SaysD fa fn K ∧ ex K = true
def hookZ (n : Nat) (fa : List He.Fa) (fn : List He.DefD) (ex : PySem.W.Frag → Bool) : PySem.W.Hook where
  α := AlZ
  obs := fun s => obsZ n fa fn ex s.heap.get?
  val := fun _ => (He.valD fn, true)
  says := fun _ h => ∃ K : PySem.W.Frag, K.In h ∧ SaysZ fa fn ex K
  of := fun _ _ e => ⟨_, He.frG_in, (Prod.mk.inj e).1, (Prod.mk.inj e).2⟩
  keeps := fun _ _ _ ⟨K, hK, c⟩ k => ⟨K, PySem.W.Frag.In.keeps hK k, c⟩
theorem obsZ_eq {n : Nat} {fa : List He.Fa} {fn : List He.DefD} {ex : PySem.W.Frag → Bool} {g : Addr → Option Obj} {s : Shared} (h : ∀ a, g a = s.heap.get? a) : obsZ n fa fn ex g = (hookZ n fa fn ex).obs s := by
  have e : g = s.heap.get? := funext h
  rw [e] <;> rfl

/-! ### the law's end -/
section
variable {P : Program} {w : World} {K : PySem.W.Frag} {mg mb : Str → Option Value} {CX : CXT} {k : Nat} {fa a : Addr} {fd : FuncData} {x : Str} {sp : Sp} {s₁ : Shared} {vs : List Value} {ns : List Int}
theorem law_go (hns : s₁.heap.Ns mainGlobals mg) (hb : s₁.heap.Ns builtinsNs mb) (hbb : ∀ x : Str, x ≠ "__name__" → mb x = bootBuiltins x) (hlim : s₁.heap.NoLimit) (hg : s₁.gens = #[]) (KX : K.In s₁.heap) (ha : s₁.heap.get? a = some { cls := .type "list", data := .seq vs.toArray }) (hr : Room k callerA)
    (F : ∀ base : Heap, K.In base → base.Ns mainGlobals mg → FnG P w K mg base CX k fa fd [x] sp) (hbind : ∀ (s : Shared) (u : Value), BindsTo s fd ⟨[u], []⟩ [(x, u)]) (hCX : ∀ (H : Hp) (e : Value) (s' : Shared), CX [] H s₁ (fun _ _ _ => False) e s' → False)
    {H : Hp} (hO : Only H) (hS : sp [.ref a] H (fun v _ => v = .bl true) fun _ _ _ => False) (hok : HOk P w H s₁.heap) (hA : ∀ b, H b ≠ none → b = a) (hK : H a ≠ none → K.lookup a = none) :
    codeAny (model P w) callerA (.call (.ref fa) ⟨[.ref a], []⟩) (fun r s' => r = .ok (.ret (.bool true)) ∧ OldK s₁.heap s'.heap ∧ s'.os = s₁.os ∧ AllBare s'.gens) s₁ := by
  have at_a : ∀ {b : Addr} {u : HO}, H b = some u → b = a := fun {b u} q => hA b (by rw [q]; simp)
  have noD : ∀ {b : Addr} {o : Obj} {es : Array DictEntry} {ep : Nat}, s₁.heap.get? b = some o → o.data = .dict es ep → H b = none := fun {b o es ep} e d => by
    cases q : H b with
    | none => rfl
    | some u =>
      obtain rfl := at_a q
      rw [ha] at e
      cases e
      exact nomatch (show Data.seq vs.toArray _ = Data.dict es ep from d)
  have nsK : ∀ {b : Addr} {m : Str → Option Value}, s₁.heap.Ns b m → (hidT s₁.heap H).Ns b m := fun {b m} ⟨o, es, ep, e, d, r⟩ => ⟨o, es, ep, hidT_get e (noD e d), d, r⟩
  have KB : K.In (hidT s₁.heap H) := fun b o e => hidT_get (KX b o e) (by
    cases q : H b with
    | none => rfl
    | some u =>
      obtain rfl := at_a q
      rw [hK (by rw [q]; simp)] at e
      cases e)
  have hM : Mod K mg (hidT s₁.heap H) := by
    obtain ⟨mc, l1, l2⟩ := hlim
    exact ⟨KB, nsK hns, ⟨mb, nsK hb, hbb⟩, mc, nsK l1, l2⟩
  have e0 : Env0 P w K mg (hidT s₁.heap H) callerA [] s₁ H := ⟨rfl, hM, fun b o e => of_hidT e, Nat.le_of_eq (hidT_size _ _), trivial, fun b hb => absurd (show b ∈ ([] : List Addr) from hb) (by simp), hok, .of_eq hg⟩
  refine codeAny_mono ((F _ KB (nsK hns)).run callerA [] s₁ H ⟨[.ref a], []⟩ [.ref a] [.ref a] _ _ hr rfl e0 (hbind s₁ (.ref a)) (.cons rfl .nil) hS) fun r s' h => ?_
  match r, h with
  | .error e, h => exact (hCX H e s' h).elim
  | .ok .next, h => exact False.elim h
  | .ok .brk, h => exact False.elim h
  | .ok .cont, h => exact False.elim h
  | .ok (.ret u), ⟨v, H', os, bare, un, hok', r', q⟩ =>
    have q' : v = .bl true := q
    subst q'
    obtain rfl : u = Value.bool true := r'
    refine ⟨rfl, OldK.of_keep fun b o e => ?_, os, bare⟩
    cases q : H b with
    | none => exact un.keep b o e q (fun z => absurd (show b ∈ ([] : List Addr) from z) (by simp)) (by simp)
    | some u =>
      rcases hO b with z | ⟨ob, xs, z⟩
      · rw [q] at z; cases z
      · obtain ⟨e1, _⟩ := hok b _ z
        obtain ⟨e2, _⟩ := hok' b _ (un.frzs b ob _ z)
        rw [e] at e1
        cases e1
        exact e2
theorem law_goes (hns : s₁.heap.Ns mainGlobals mg) (hb : s₁.heap.Ns builtinsNs mb) (hbb : ∀ x : Str, x ≠ "__name__" → mb x = bootBuiltins x) (hlim : s₁.heap.NoLimit) (hg : s₁.gens = #[]) (KX : K.In s₁.heap) (ha : s₁.heap.get? a = some { cls := .type "list", data := .seq vs.toArray }) (hi : IntsAre vs ns) (hl : ns.length ≤ sizeLine) (hr : Room k callerA)
    (F : ∀ base : Heap, K.In base → base.Ns mainGlobals mg → FnG P w K mg base CX k fa fd [x] sp) (hbind : ∀ (s : Shared) (u : Value), BindsTo s fd ⟨[u], []⟩ [(x, u)]) (hCX : ∀ (H : Hp) (e : Value) (s' : Shared), CX [] H s₁ (fun _ _ _ => False) e s' → False)
    (hsp : ∀ H : Hp, FL K H a (ns.map V.int) → sp [.ref a] H (fun v _ => v = .bl true) fun _ _ _ => False) :
    codeAny (model P w) callerA (.call (.ref fa) ⟨[.ref a], []⟩) (fun r s' => r = .ok (.ret (.bool true)) ∧ OldK s₁.heap s'.heap ∧ s'.os = s₁.os ∧ AllBare s'.gens) s₁ := by
  have rv := vals_ints hi
  have lenV := hi.length
  cases hk : K.lookup a with
  | some o =>
    have e := KX a o hk
    rw [ha] at e
    cases e
    refine law_go (H := fun _ => none) hns hb hbb hlim hg KX ha hr F hbind hCX (fun _ => .inl rfl) (hsp _ (.inr ⟨_, vs.toArray, _, hk, rfl, rfl, rfl, by rw [List.size_toArray, lenV]; exact hl, by simpa using rv⟩)) (fun b u z => ?_) (fun b z => absurd rfl z) fun z => absurd rfl z
    cases (show (none : Option HO) = some u from z)
  | none =>
    have hN : ∀ b, b ≠ a → (if b = a then some (HO.frz { cls := .type "list", data := .seq vs.toArray } (.lst (ns.map V.int))) else none) = none := fun b h => if_neg h
    refine law_go (H := fun b => if b = a then some (.frz { cls := .type "list", data := .seq vs.toArray } (.lst (ns.map V.int))) else none) hns hb hbb hlim hg KX ha hr F hbind hCX (fun b => ?_) (hsp _ (.inl ⟨_, if_pos rfl⟩)) (fun b u z => ?_) (fun b z => ?_) fun _ => hk
    · by_cases h : b = a
      · exact .inr ⟨_, _, if_pos h⟩
      · exact .inl (hN b h)
    · by_cases h : b = a
      · have z' := (if_pos h).symm.trans z
        cases z'
        subst h
        exact ⟨ha, by rw [List.length_map]; exact hl, vs, _, rv, ha⟩
      · have z' := (hN b h).symm.trans z
        cases z'
    · by_cases h : b = a
      · exact h
      · exact absurd (hN b h) z
end
theorem pd_ints {K : PySem.W.Frag} {H : Hp} : ∀ is : List Int, RPs K H (is.map V.int) (is.map PyData.int)
  | [] => .nil
  | i :: is => .cons (.int i) (pd_ints is)
/-- a law by its meaning -/
theorem walk_den {l : PySem.W.OpenLaw} {n k : Nat} {q : Program} {loose : List Str} {XP : (Str → Option Value) → Heap → Prop} {YP : World → Heap → Prop} {d : DefRec} {CX : World → CXT} {x : Str} {F : List D → M D}
    (hn : l.most = some n) (hn2 : n ≤ sizeLine) (hdf : d.params.defaults = []) (hr : Room k callerA)
    (hF : ∀ (w : World) (mg : Str → Option Value) (fa : Addr) (h : Heap), YP w h → h.Ns mainGlobals mg → mg d.name = some (.ref fa) →
      ∃ (K : PySem.W.Frag) (fd : FuncData) (CT : Nat → Value), K.In h ∧ (∀ (s : Shared) (u : Value), BindsTo s fd ⟨[u], []⟩ [(x, u)]) ∧ ∀ base : Heap, K.In base → base.Ns mainGlobals mg → FnG l.prog w K mg base (CX w) k fa fd [x] (spD K CT F))
    (hCX : ∀ (w : World) (H : Hp) (s : Shared) (e : Value) (s' : Shared), CX w [] H s (fun _ _ _ => False) e s' → False)
    (law : ∀ ns : List Int, ns.length ≤ n → ∃ S, F [.p (.list (ns.map .int))] Sto.new = .ok (.bl true) S) :
    PySem.W.WalkO q loose XP YP l.row.toRowW d [] (fun f vs => PySem.call f vs) := by
  refine Att.attach_call hn hdf fun w s₀ s₁ mg mb fa o pm cd doc a vs ns G Y ho hd hcd hmg hobj hints hlen hg => ?_
  obtain ⟨K, fd, CT, KX, hb, hG⟩ := hF w mg fa _ Y G.T.g hmg
  refine law_goes G.T.g G.T.b G.T.builtins G.T.nolimit hg KX hobj hints (Nat.le_trans hlen hn2) hr hG hb (fun H e s' => hCX w H s₁ e s') fun H hL => ?_
  obtain ⟨S, e⟩ := law ns hlen
  refine ⟨[], Sto.new, [.p (.list (ns.map .int))], .cons (.p (.flst hL ?_ (pd_ints ns))) .nil, srNew, ?_⟩
  · rw [List.length_map]; exact Nat.le_trans hlen hn2
  · rw [e]
    exact fun v m' H' r _ _ => r.p_inv.bl_inv
end Den

namespace K87
open PySem PySem.Spec PyProof.Rows L2 Den
def top (i : Nat) : Stmt := PySem.Challenge.pw_whatanswerstell_k87_whole_strata_and_spr.main.body.getD i (.Pass ⟨0, 0, 0, 0⟩)
def gls : List (Str × PyData) := [("NOUGHT", .tuple [.int 0, .int 1]), ("SIGNS", .tuple [.str "0", .str "1", .str "-"]), ("MOST_TASKS", .int 12), ("MOST_PERSONS", .int 12), ("LOST", .str "-"), ("RIGHT", .str "1")]
def nos : List Str := ["isinstance", "bool", "int", "all", "tuple", "zip", "abs", "len", "str", "enumerate", "sorted", "set", "range", "sum", "list", "max", "min", "repr"]
def fo0 : Form := ⟨"is_integer", [], 1, [0]⟩
def fo1 : Form := ⟨"is_between", [], 3, [0, 1, 2]⟩
def fo2 : Form := ⟨"are_between", [], 3, [0, 1, 2]⟩
def fo3 : Form := ⟨"is_ascending", [], 1, [0]⟩
def fo4 : Form := ⟨"common", [], 2, [0, 1]⟩
def fo5 : Form := ⟨"part", [], 2, [0, 1]⟩
def fo6 : Form := ⟨"plus", [], 2, [0, 1]⟩
def fo7 : Form := ⟨"divided", [], 2, [0, 1]⟩
def fo8 : Form := ⟨"sum_of", [], 1, [0]⟩
def fo9 : Form := ⟨"is_row_of", [], 1, [0]⟩
def fo10 : Form := ⟨"is_table_of", [], 1, [0]⟩
def fo11 : Form := ⟨"check_table", [], 1, [0]⟩
def fo12 : Form := ⟨"check_task", [], 2, [0, 1]⟩
def fo13 : Form := ⟨"cells_with", [], 2, [0, 1]⟩
def fo14 : Form := ⟨"check_all_there", [], 1, [0]⟩
def fo15 : Form := ⟨"check_full", [], 1, [0]⟩
def fo16 : Form := ⟨"check_lot", [], 2, [0, 1]⟩
def fo17 : Form := ⟨"check_asked", [], 3, [0, 1, 2]⟩
def fo18 : Form := ⟨"strata_by", [], 3, [0, 1, 2]⟩
def fo19 : Form := ⟨"strata", ["task", "lot", "table"], 0, [2, 1, 0]⟩
def fo20 : Form := ⟨"choices", [], 2, [0, 1]⟩
def fo21 : Form := ⟨"ways_by", [], 3, [0, 1, 2]⟩
def fo22 : Form := ⟨"ways", ["task", "lot", "table"], 0, [2, 1, 0]⟩
def fo23 : Form := ⟨"right_of", [], 3, [0, 1, 2]⟩
def fo24 : Form := ⟨"shares_by", [], 3, [0, 1, 2]⟩
def fo25 : Form := ⟨"share_more", [], 3, [0, 1, 2]⟩
def fo26 : Form := ⟨"share_more", ["task", "lot", "table"], 0, [2, 1, 0]⟩
def fo27 : Form := ⟨"share_less", [], 3, [0, 1, 2]⟩
def fo28 : Form := ⟨"share_less", ["task", "lot", "table"], 0, [2, 1, 0]⟩
def fo29 : Form := ⟨"odds_told", [], 3, [0, 1, 2]⟩
def fo30 : Form := ⟨"odds_told", ["task", "lot", "table"], 0, [2, 1, 0]⟩
def fo31 : Form := ⟨"middle_by", [], 3, [0, 1, 2]⟩
def fo32 : Form := ⟨"middle_of", ["task", "lot", "table"], 0, [2, 1, 0]⟩
def fo33 : Form := ⟨"_law_pot", [], 2, [0, 1]⟩
def fo34 : Form := ⟨"_law_take", [], 2, [0, 1]⟩
def fo35 : Form := ⟨"_law_of", [], 2, [0, 1]⟩
def fo36 : Form := ⟨"_law_cells", [], 2, [0, 1]⟩
def fo37 : Form := ⟨"_law_some", [], 3, [0, 1, 2]⟩
def fo38 : Form := ⟨"_law_lot", [], 2, [0, 1]⟩
def fo39 : Form := ⟨"_law_part", [], 2, [0, 1]⟩
def fo40 : Form := ⟨"_law_plus", [], 2, [0, 1]⟩
def fo41 : Form := ⟨"_law_sum", [], 1, [0]⟩
def fo42 : Form := ⟨"_law_less", [], 2, [0, 1]⟩
def fo43 : Form := ⟨"_law_table", [], 4, [0, 1, 2, 3]⟩
def fo44 : Form := ⟨"_law_spreadings", [], 2, [0, 1]⟩
def fo45 : Form := ⟨"_law_right", [], 1, [0]⟩
/-- is_integer -/
def t0 : Sxs := (.cons (.ret (.ofB (.bop .And (.cons (.asB (.isi .int (.var 0))) (.one (.not (.asB (.isi .bool (.var 0))))))))) .nil)
def n0 : List Str := ["value"]
def c0 : Cc := ⟨gls, nos, [], n0, defScope (top 12), fun _ => true⟩
theorem ck0 : (scopeB n0 ["value"] (defScope (top 12)) && ckSs c0 t0 (defBody (top 12))) = true := by decide +kernel
/-- is_between -/
def t1 : Sxs := (.cons (.ret (.ofB (.bop .And (.cons (.asB (.call 0 (.cons (.var 0) .nil) .nil)) (.one (.chn .LtE .LtE (.var 1) (.var 0) (.var 2))))))) .nil)
def n1 : List Str := ["value", "low", "high"]
def c1 : Cc := ⟨gls, nos, [fo0], n1, defScope (top 13), fun _ => true⟩
theorem ck1 : (scopeB n1 ["value", "low", "high"] (defScope (top 13)) && ckSs c1 t1 (defBody (top 13))) = true := by decide +kernel
/-- are_between -/
def t2 : Sxs := (.cons (.ret (.ofB (.bop .And (.cons (.asB (.isi .tuple (.var 0))) (.one (.asB (.opF .all (.lc [3] (.nm 3) .yes (.call 1 (.cons (.var 3) (.cons (.var 1) (.cons (.var 2) .nil))) .nil) (.b (.e (.var 0))))))))))) .nil)
def n2 : List Str := ["value", "low", "high", "one"]
def c2 : Cc := ⟨gls, nos, [fo0, fo1], n2, defScope (top 14), fun _ => true⟩
theorem ck2 : (scopeB n2 ["value", "low", "high"] (defScope (top 14)) && ckSs c2 t2 (defBody (top 14))) = true := by decide +kernel
/-- is_ascending -/
def t3 : Sxs := (.cons (.ret (.opF .all (.lc [1, 2] (.tup (.cons (.nm 1) (.cons (.nm 2) .nil))) .yes (.ofB (.cmp .Lt (.var 1) (.var 2))) (.zp (.e (.var 0)) (.e (.cut (.var 0) (.so (.int 1)) .no)))))) .nil)
def n3 : List Str := ["rows", "one", "other"]
def c3 : Cc := ⟨gls, nos, [fo0, fo1, fo2], n3, defScope (top 15), fun _ => true⟩
theorem ck3 : (scopeB n3 ["rows"] (defScope (top 15)) && ckSs c3 t3 (defBody (top 15))) = true := by decide +kernel
/-- common -/
def t4 : Sxs := (.cons (.wh (.cmp .NotEq (.var 1) (.int 0)) (.cons (.par [0, 1] (.cons (.var 1) (.cons (.bin .Mod (.var 0) (.var 1)) .nil))) .nil)) (.cons (.ret (.var 0)) .nil))
def n4 : List Str := ["one", "other"]
def c4 : Cc := ⟨gls, nos, [fo0, fo1, fo2, fo3], n4, defScope (top 16), fun _ => true⟩
theorem ck4 : (scopeB n4 ["one", "other"] (defScope (top 16)) && ckSs c4 t4 (defBody (top 16))) = true := by decide +kernel
/-- part -/
def t5 : Sxs := (.cons (.asg (.call 4 (.cons (.op1 .abs (.cons (.var 0) .nil)) (.cons (.var 1) .nil)) .nil) (.nm 2)) (.cons (.ret (.tup (.cons (.bin .FloorDiv (.var 0) (.var 2)) (.cons (.bin .FloorDiv (.var 1) (.var 2)) .nil)))) .nil))
def n5 : List Str := ["top", "low", "both"]
def c5 : Cc := ⟨gls, nos, [fo0, fo1, fo2, fo3, fo4], n5, defScope (top 17), fun _ => true⟩
theorem ck5 : (scopeB n5 ["top", "low"] (defScope (top 17)) && ckSs c5 t5 (defBody (top 17))) = true := by decide +kernel
/-- plus -/
def t6 : Sxs := (.cons (.ret (.call 5 (.cons (.bin .Add (.bin .Mult (.sub (.var 0) (.int 0)) (.sub (.var 1) (.int 1))) (.bin .Mult (.sub (.var 1) (.int 0)) (.sub (.var 0) (.int 1)))) (.cons (.bin .Mult (.sub (.var 0) (.int 1)) (.sub (.var 1) (.int 1))) .nil)) .nil)) .nil)
def n6 : List Str := ["one", "other"]
def c6 : Cc := ⟨gls, nos, [fo0, fo1, fo2, fo3, fo4, fo5], n6, defScope (top 20), fun _ => true⟩
theorem ck6 : (scopeB n6 ["one", "other"] (defScope (top 20)) && ckSs c6 t6 (defBody (top 20))) = true := by decide +kernel
/-- divided -/
def t7 : Sxs := (.cons (.par [2, 3] (.cons (.bin .Mult (.sub (.var 0) (.int 0)) (.sub (.var 1) (.int 1))) (.cons (.bin .Mult (.sub (.var 0) (.int 1)) (.sub (.var 1) (.int 0))) .nil))) (.cons (.ret (.ite (.cmp .Lt (.var 3) (.int 0)) (.call 5 (.cons (.bin .Sub (.int 0) (.var 2)) (.cons (.bin .Sub (.int 0) (.var 3)) .nil)) .nil) (.call 5 (.cons (.var 2) (.cons (.var 3) .nil)) .nil))) .nil))
def n7 : List Str := ["one", "other", "top", "low"]
def c7 : Cc := ⟨gls, nos, [fo0, fo1, fo2, fo3, fo4, fo5, fo6], n7, defScope (top 21), fun _ => true⟩
theorem ck7 : (scopeB n7 ["one", "other"] (defScope (top 21)) && ckSs c7 t7 (defBody (top 21))) = true := by decide +kernel
/-- sum_of -/
def t8 : Sxs := (.cons (.asg (.glo 0) (.nm 1)) (.cons (.fr (.nm 2) (.b (.e (.var 0))) (.cons (.asg (.call 6 (.cons (.var 1) (.cons (.var 2) .nil)) .nil) (.nm 1)) .nil)) (.cons (.ret (.var 1)) .nil)))
def n8 : List Str := ["some", "found", "one"]
def c8 : Cc := ⟨gls, nos, [fo0, fo1, fo2, fo3, fo4, fo5, fo6, fo7], n8, defScope (top 22), fun _ => true⟩
theorem ck8 : (scopeB n8 ["some"] (defScope (top 22)) && ckSs c8 t8 (defBody (top 22))) = true := by decide +kernel
/-- is_row_of -/
def t9 : Sxs := (.cons (.ret (.ofB (.bop .And (.cons (.asB (.isi .str (.var 0))) (.cons (.chn .LtE .LtE (.int 1) (.op1 .len (.cons (.var 0) .nil)) (.glo 2)) (.one (.asB (.opF .all (.lc [1] (.nm 1) .yes (.ofB (.cmp .In (.var 1) (.glo 1))) (.b (.e (.var 0)))))))))))) .nil)
def n9 : List Str := ["value", "sign"]
def c9 : Cc := ⟨gls, nos, [fo0, fo1, fo2, fo3, fo4, fo5, fo6, fo7, fo8], n9, defScope (top 25), fun _ => true⟩
theorem ck9 : (scopeB n9 ["value"] (defScope (top 25)) && ckSs c9 t9 (defBody (top 25))) = true := by decide +kernel
/-- is_table_of -/
def t10 : Sxs := (.cons (.ifs (.bop .Or (.cons (.not (.tru (.isi .tuple (.var 0)))) (.one (.not (.chn .LtE .LtE (.int 1) (.op1 .len (.cons (.var 0) .nil)) (.glo 3)))))) (.cons (.ret (.bl false)) .nil) .nil) (.cons (.ifs (.not (.tru (.opF .all (.lc [1] (.nm 1) .yes (.call 9 (.cons (.var 1) .nil) .nil) (.b (.e (.var 0))))))) (.cons (.ret (.bl false)) .nil) .nil) (.cons (.ret (.opF .all (.lc [1] (.nm 1) .yes (.ofB (.cmp .Eq (.op1 .len (.cons (.var 1) .nil)) (.op1 .len (.cons (.sub (.var 0) (.int 0)) .nil)))) (.b (.e (.var 0)))))) .nil)))
def n10 : List Str := ["value", "row"]
def c10 : Cc := ⟨gls, nos, [fo0, fo1, fo2, fo3, fo4, fo5, fo6, fo7, fo8, fo9], n10, defScope (top 26), fun _ => true⟩
theorem ck10 : (scopeB n10 ["value"] (defScope (top 26)) && ckSs c10 t10 (defBody (top 26))) = true := by decide +kernel
/-- check_table -/
def t11 : Sxs := (.cons (.ifs (.not (.tru (.call 10 (.cons (.var 0) .nil) .nil))) (.cons .fail .nil) .nil) .nil)
def n11 : List Str := ["table"]
def c11 : Cc := ⟨gls, nos, [fo0, fo1, fo2, fo3, fo4, fo5, fo6, fo7, fo8, fo9, fo10], n11, defScope (top 27), fun _ => true⟩
theorem ck11 : (scopeB n11 ["table"] (defScope (top 27)) && ckSs c11 t11 (defBody (top 27))) = true := by decide +kernel
/-- check_task -/
def t12 : Sxs := (.cons (.ifs (.not (.tru (.call 1 (.cons (.var 1) (.cons (.int 0) (.cons (.bin .Sub (.op1 .len (.cons (.sub (.var 0) (.int 0)) .nil)) (.int 1)) .nil))) .nil))) (.cons .fail .nil) .nil) .nil)
def n12 : List Str := ["table", "task"]
def c12 : Cc := ⟨gls, nos, [fo0, fo1, fo2, fo3, fo4, fo5, fo6, fo7, fo8, fo9, fo10, fo11], n12, defScope (top 28), fun _ => true⟩
theorem ck12 : (scopeB n12 ["table", "task"] (defScope (top 28)) && ckSs c12 t12 (defBody (top 28))) = true := by decide +kernel
/-- cells_with -/
def t13 : Sxs := (.cons (.asg (.push (.disp .nil)) (.nm 2)) (.cons (.fr (.tup (.cons (.nm 3) (.cons (.nm 4) .nil))) (.en (.e (.var 0))) (.cons (.ex (.mtF .ext (.var 2) (.lc [5, 6] (.tup (.cons (.nm 5) (.cons (.nm 6) .nil))) (.so (.cmp .Eq (.var 6) (.var 1))) (.tup (.cons (.var 3) (.cons (.var 5) .nil))) (.en (.e (.var 4)))))) .nil)) (.cons (.ret (.op1 .tup (.cons (.var 2) .nil))) .nil)))
def n13 : List Str := ["table", "sign", "found", "person", "row", "task", "its"]
def c13 : Cc := ⟨gls, nos, [fo0, fo1, fo2, fo3, fo4, fo5, fo6, fo7, fo8, fo9, fo10, fo11, fo12], n13, defScope (top 29), fun _ => true⟩
theorem ck13 : (scopeB n13 ["table", "sign"] (defScope (top 29)) && ckSs c13 t13 (defBody (top 29))) = true := by decide +kernel
/-- check_all_there -/
def t14 : Sxs := (.cons (.asg (.call 13 (.cons (.var 0) (.cons (.glo 4) .nil)) .nil) (.nm 1)) (.cons (.ifs (.cmp .NotEq (.var 1) (.tup .nil)) (.cons .fail .nil) .nil) .nil))
def n14 : List Str := ["table", "lost"]
def c14 : Cc := ⟨gls, nos, [fo0, fo1, fo2, fo3, fo4, fo5, fo6, fo7, fo8, fo9, fo10, fo11, fo12, fo13], n14, defScope (top 30), fun _ => true⟩
theorem ck14 : (scopeB n14 ["table"] (defScope (top 30)) && ckSs c14 t14 (defBody (top 30))) = true := by decide +kernel
/-- check_full -/
def t15 : Sxs := (.cons (.ex (.call 11 (.cons (.var 0) .nil) .nil)) (.cons (.ex (.call 14 (.cons (.var 0) .nil) .nil)) .nil))
def n15 : List Str := ["table"]
def c15 : Cc := ⟨gls, nos, [fo0, fo1, fo2, fo3, fo4, fo5, fo6, fo7, fo8, fo9, fo10, fo11, fo12, fo13, fo14], n15, defScope (top 31), fun _ => true⟩
theorem ck15 : (scopeB n15 ["table"] (defScope (top 31)) && ckSs c15 t15 (defBody (top 31))) = true := by decide +kernel
/-- check_lot -/
def t16 : Sxs := (.cons (.ex (.call 15 (.cons (.var 0) .nil) .nil)) (.cons (.ifs (.bop .Or (.cons (.not (.tru (.call 2 (.cons (.var 1) (.cons (.int 0) (.cons (.bin .Sub (.op1 .len (.cons (.var 0) .nil)) (.int 1)) .nil))) .nil))) (.one (.not (.tru (.call 3 (.cons (.var 1) .nil) .nil)))))) (.cons .fail .nil) .nil) .nil))
def n16 : List Str := ["table", "lot"]
def c16 : Cc := ⟨gls, nos, [fo0, fo1, fo2, fo3, fo4, fo5, fo6, fo7, fo8, fo9, fo10, fo11, fo12, fo13, fo14, fo15], n16, defScope (top 33), fun _ => true⟩
theorem ck16 : (scopeB n16 ["table", "lot"] (defScope (top 33)) && ckSs c16 t16 (defBody (top 33))) = true := by decide +kernel
/-- check_asked -/
def t17 : Sxs := (.cons (.ex (.call 16 (.cons (.var 0) (.cons (.var 1) .nil)) .nil)) (.cons (.ex (.call 12 (.cons (.var 0) (.cons (.var 2) .nil)) .nil)) .nil))
def n17 : List Str := ["table", "lot", "task"]
def c17 : Cc := ⟨gls, nos, [fo0, fo1, fo2, fo3, fo4, fo5, fo6, fo7, fo8, fo9, fo10, fo11, fo12, fo13, fo14, fo15, fo16], n17, defScope (top 34), fun _ => true⟩
theorem ck17 : (scopeB n17 ["table", "lot", "task"] (defScope (top 34)) && ckSs c17 t17 (defBody (top 34))) = true := by decide +kernel
/-- strata_by -/
def t18 : Sxs := (.cons (.asg (.push (.lc [9] (.nm 9) .yes (.mt .scnt (.var 9) (.cons (.glo 5) .nil)) (.b (.e (.var 0))))) (.nm 3)) (.cons (.asg (.push (.disp .nil)) (.nm 4)) (.cons (.fr (.nm 5) (.b (.l (.sset (.var 3)))) (.cons (.asg (.push (.lc [10, 11] (.tup (.cons (.nm 10) (.cons (.nm 11) .nil))) (.so (.cmp .Eq (.var 11) (.var 5))) (.var 10) (.en (.e (.var 3))))) (.nm 6)) (.cons (.asg (.push (.lc [10] (.nm 10) (.so (.cmp .In (.var 10) (.var 1))) (.var 10) (.b (.e (.var 6))))) (.nm 7)) (.cons (.asg (.push (.lc [10] (.nm 10) (.so (.cmp .Eq (.sub (.sub (.var 0) (.var 10)) (.var 2)) (.glo 5))) (.var 10) (.b (.e (.var 6))))) (.nm 8)) (.cons (.ex (.mt .app (.var 4) (.cons (.tup (.cons (.var 5) (.cons (.op1 .len (.cons (.var 7) .nil)) (.cons (.opF .len (.lc [12] (.nm 12) (.so (.cmp .In (.var 12) (.var 8))) (.var 12) (.b (.e (.var 7))))) (.cons (.op1 .len (.cons (.var 6) .nil)) (.cons (.op1 .len (.cons (.var 8) .nil)) .nil)))))) .nil))) .nil))))) (.cons (.ret (.var 4)) .nil))))
def n18 : List Str := ["table", "lot", "task", "sums", "found", "number", "persons", "mine", "right", "row", "person", "its", "one"]
def c18 : Cc := ⟨gls, nos, [fo0, fo1, fo2, fo3, fo4, fo5, fo6, fo7, fo8, fo9, fo10, fo11, fo12, fo13, fo14, fo15, fo16, fo17], n18, defScope (top 35), fun _ => true⟩
theorem ck18 : (scopeB n18 ["table", "lot", "task"] (defScope (top 35)) && ckSs c18 t18 (defBody (top 35))) = true := by decide +kernel
/-- strata -/
def t19 : Sxs := (.cons (.ex (.call 17 (.cons (.var 0) (.cons (.var 1) (.cons (.var 2) .nil))) .nil)) (.cons (.ret (.op1 .tup (.cons (.call 18 (.cons (.var 0) (.cons (.var 1) (.cons (.var 2) .nil))) .nil) .nil))) .nil))
def n19 : List Str := ["table", "lot", "task"]
def c19 : Cc := ⟨gls, nos, [fo0, fo1, fo2, fo3, fo4, fo5, fo6, fo7, fo8, fo9, fo10, fo11, fo12, fo13, fo14, fo15, fo16, fo17, fo18], n19, defScope (top 36), fun _ => true⟩
theorem ck19 : (scopeB n19 ["table", "lot", "task"] (defScope (top 36)) && ckSs c19 t19 (defBody (top 36))) = true := by decide +kernel
/-- choices -/
def t20 : Sxs := (.cons (.ifs (.not (.chn .LtE .LtE (.int 0) (.var 1) (.var 0))) (.cons (.ret (.int 0)) .nil) .nil) (.cons (.asg (.int 1) (.nm 2)) (.cons (.fr (.nm 3) (.r1 (.var 1)) (.cons (.asg (.bin .FloorDiv (.bin .Mult (.var 2) (.bin .Sub (.var 0) (.var 3))) (.bin .Add (.var 3) (.int 1))) (.nm 2)) .nil)) (.cons (.ret (.var 2)) .nil))))
def n20 : List Str := ["some", "many", "found", "lap"]
def c20 : Cc := ⟨gls, nos, [fo0, fo1, fo2, fo3, fo4, fo5, fo6, fo7, fo8, fo9, fo10, fo11, fo12, fo13, fo14, fo15, fo16, fo17, fo18, fo19], n20, defScope (top 37), fun _ => true⟩
theorem ck20 : (scopeB n20 ["some", "many"] (defScope (top 37)) && ckSs c20 t20 (defBody (top 37))) = true := by decide +kernel
/-- ways_by -/
def t21 : Sxs := (.cons (.asg (.oneD 0 1) (.nm 3)) (.cons (.fr (.tup (.cons (.nm 4) (.cons (.nm 5) (.cons (.nm 6) (.cons (.nm 7) (.cons (.nm 8) .nil)))))) (.b (.e (.call 18 (.cons (.var 0) (.cons (.var 1) (.cons (.var 2) .nil))) .nil))) (.cons (.asg .newD (.nm 9)) (.cons (.frK 3 (.tup (.cons (.nm 10) (.cons (.nm 11) .nil))) (.cons (.fr (.nm 12) (.r1 (.bin .Add (.var 5) (.int 1))) (.cons (.asg (.bin .Mult (.call 20 (.cons (.var 5) (.cons (.var 12) .nil)) .nil) (.call 20 (.cons (.bin .Sub (.var 7) (.var 5)) (.cons (.bin .Sub (.var 8) (.var 12)) .nil)) .nil)) (.nm 13)) (.cons (.ifs (.cmp .Gt (.var 13) (.int 0)) (.cons (.asg (.bin .Add (.getD (.var 9) (.bin .Add (.var 10) (.var 12)) (.int 0)) (.bin .Mult (.var 11) (.var 13))) (.sub (.var 9) (.bin .Add (.var 10) (.var 12)))) .nil) .nil) .nil))) .nil)) (.cons (.asg (.var 9) (.nm 3)) .nil)))) (.cons (.ret (.var 3)) .nil)))
def n21 : List Str := ["table", "lot", "task", "found", "number", "mine", "right", "every", "right_every", "later", "far", "ways", "more", "both"]
def c21 : Cc := ⟨gls, nos, [fo0, fo1, fo2, fo3, fo4, fo5, fo6, fo7, fo8, fo9, fo10, fo11, fo12, fo13, fo14, fo15, fo16, fo17, fo18, fo19, fo20], n21, defScope (top 38), fun _ => true⟩
theorem ck21 : (scopeB n21 ["table", "lot", "task"] (defScope (top 38)) && ckSs c21 t21 (defBody (top 38))) = true := by decide +kernel
/-- ways -/
def t22 : Sxs := (.cons (.ex (.call 17 (.cons (.var 0) (.cons (.var 1) (.cons (.var 2) .nil))) .nil)) (.cons (.ret (.opF .tup (.sortIt (.call 21 (.cons (.var 0) (.cons (.var 1) (.cons (.var 2) .nil))) .nil)))) .nil))
def n22 : List Str := ["table", "lot", "task"]
def c22 : Cc := ⟨gls, nos, [fo0, fo1, fo2, fo3, fo4, fo5, fo6, fo7, fo8, fo9, fo10, fo11, fo12, fo13, fo14, fo15, fo16, fo17, fo18, fo19, fo20, fo21], n22, defScope (top 39), fun _ => true⟩
theorem ck22 : (scopeB n22 ["table", "lot", "task"] (defScope (top 39)) && ckSs c22 t22 (defBody (top 39))) = true := by decide +kernel
/-- right_of -/
def t23 : Sxs := (.cons (.ret (.opF .len (.lc [3] (.nm 3) (.so (.cmp .Eq (.sub (.sub (.var 0) (.var 3)) (.var 2)) (.glo 5))) (.var 3) (.b (.e (.var 1)))))) .nil)
def n23 : List Str := ["table", "lot", "task", "person"]
def c23 : Cc := ⟨gls, nos, [fo0, fo1, fo2, fo3, fo4, fo5, fo6, fo7, fo8, fo9, fo10, fo11, fo12, fo13, fo14, fo15, fo16, fo17, fo18, fo19, fo20, fo21, fo22], n23, defScope (top 40), fun _ => true⟩
theorem ck23 : (scopeB n23 ["table", "lot", "task"] (defScope (top 40)) && ckSs c23 t23 (defBody (top 40))) = true := by decide +kernel
/-- shares_by -/
def t24 : Sxs := (.cons (.asg (.tup (.cons (.call 21 (.cons (.var 0) (.cons (.var 1) (.cons (.var 2) .nil))) .nil) (.cons (.call 23 (.cons (.var 0) (.cons (.var 1) (.cons (.var 2) .nil))) .nil) .nil))) (.tup (.cons (.nm 6) (.cons (.nm 7) .nil)))) (.cons (.asg (.sumV (.var 6)) (.nm 3)) (.cons (.asg (.opF .sum (.lcK 6 [8, 9] (.tup (.cons (.nm 8) (.cons (.nm 9) .nil))) (.so (.cmp .GtE (.var 8) (.var 7))) (.var 9))) (.nm 4)) (.cons (.asg (.opF .sum (.lcK 6 [8, 9] (.tup (.cons (.nm 8) (.cons (.nm 9) .nil))) (.so (.cmp .LtE (.var 8) (.var 7))) (.var 9))) (.nm 5)) (.cons (.ret (.tup (.cons (.call 5 (.cons (.var 4) (.cons (.var 3) .nil)) .nil) (.cons (.call 5 (.cons (.var 5) (.cons (.var 3) .nil)) .nil) .nil)))) .nil)))))
def n24 : List Str := ["table", "lot", "task", "whole", "more", "less", "some", "here", "number", "ways_of"]
def c24 : Cc := ⟨gls, nos, [fo0, fo1, fo2, fo3, fo4, fo5, fo6, fo7, fo8, fo9, fo10, fo11, fo12, fo13, fo14, fo15, fo16, fo17, fo18, fo19, fo20, fo21, fo22, fo23], n24, defScope (top 41), fun _ => true⟩
theorem ck24 : (scopeB n24 ["table", "lot", "task"] (defScope (top 41)) && ckSs c24 t24 (defBody (top 41))) = true := by decide +kernel
/-- share_more -/
def t25 : Sxs := (.cons (.ex (.call 17 (.cons (.var 0) (.cons (.var 1) (.cons (.var 2) .nil))) .nil)) (.cons (.ret (.sub (.call 24 (.cons (.var 0) (.cons (.var 1) (.cons (.var 2) .nil))) .nil) (.int 0))) .nil))
def n25 : List Str := ["table", "lot", "task"]
def c25 : Cc := ⟨gls, nos, [fo0, fo1, fo2, fo3, fo4, fo5, fo6, fo7, fo8, fo9, fo10, fo11, fo12, fo13, fo14, fo15, fo16, fo17, fo18, fo19, fo20, fo21, fo22, fo23, fo24], n25, defScope (top 42), fun _ => true⟩
theorem ck25 : (scopeB n25 ["table", "lot", "task"] (defScope (top 42)) && ckSs c25 t25 (defBody (top 42))) = true := by decide +kernel
/-- share_less -/
def t26 : Sxs := (.cons (.ex (.call 17 (.cons (.var 0) (.cons (.var 1) (.cons (.var 2) .nil))) .nil)) (.cons (.ret (.sub (.call 24 (.cons (.var 0) (.cons (.var 1) (.cons (.var 2) .nil))) .nil) (.int 1))) .nil))
def n26 : List Str := ["table", "lot", "task"]
def c26 : Cc := ⟨gls, nos, [fo0, fo1, fo2, fo3, fo4, fo5, fo6, fo7, fo8, fo9, fo10, fo11, fo12, fo13, fo14, fo15, fo16, fo17, fo18, fo19, fo20, fo21, fo22, fo23, fo24, fo25, fo26], n26, defScope (top 43), fun _ => true⟩
theorem ck26 : (scopeB n26 ["table", "lot", "task"] (defScope (top 43)) && ckSs c26 t26 (defBody (top 43))) = true := by decide +kernel
/-- odds_told -/
def t27 : Sxs := (.cons (.ex (.call 17 (.cons (.var 0) (.cons (.var 1) (.cons (.var 2) .nil))) .nil)) (.cons (.par [3, 4] (.cons (.glo 0) (.cons (.glo 0) .nil))) (.cons (.fr (.tup (.cons (.nm 5) (.cons (.nm 6) (.cons (.nm 7) (.cons (.nm 8) (.cons (.nm 9) .nil)))))) (.b (.e (.call 18 (.cons (.var 0) (.cons (.var 1) (.cons (.var 2) .nil))) .nil))) (.cons (.par [10, 11] (.cons (.bin .Sub (.var 8) (.var 6)) (.cons (.bin .Sub (.var 9) (.var 7)) .nil))) (.cons (.asg (.call 6 (.cons (.var 3) (.cons (.call 5 (.cons (.bin .Mult (.var 7) (.bin .Sub (.var 10) (.var 11))) (.cons (.var 8) .nil)) .nil) .nil)) .nil) (.nm 3)) (.cons (.asg (.call 6 (.cons (.var 4) (.cons (.call 5 (.cons (.bin .Mult (.bin .Sub (.var 6) (.var 7)) (.var 11)) (.cons (.var 8) .nil)) .nil) .nil)) .nil) (.nm 4)) .nil)))) (.cons (.ret (.ite (.cmp .Eq (.var 4) (.glo 0)) .non (.call 7 (.cons (.var 3) (.cons (.var 4) .nil)) .nil))) .nil))))
def n27 : List Str := ["table", "lot", "task", "first", "second", "number", "mine", "right", "every", "right_every", "others", "right_others"]
def c27 : Cc := ⟨gls, nos, [fo0, fo1, fo2, fo3, fo4, fo5, fo6, fo7, fo8, fo9, fo10, fo11, fo12, fo13, fo14, fo15, fo16, fo17, fo18, fo19, fo20, fo21, fo22, fo23, fo24, fo25, fo26, fo27, fo28], n27, defScope (top 44), fun _ => true⟩
theorem ck27 : (scopeB n27 ["table", "lot", "task"] (defScope (top 44)) && ckSs c27 t27 (defBody (top 44))) = true := by decide +kernel
/-- middle_by -/
def t28 : Sxs := (.cons (.asg (.call 18 (.cons (.var 0) (.cons (.var 1) (.cons (.var 2) .nil))) .nil) (.nm 3)) (.cons (.ret (.call 8 (.cons (.push (.lc [4, 5, 6, 7, 8] (.tup (.cons (.nm 4) (.cons (.nm 5) (.cons (.nm 6) (.cons (.nm 7) (.cons (.nm 8) .nil)))))) .yes (.call 5 (.cons (.bin .Mult (.var 5) (.var 8)) (.cons (.var 7) .nil)) .nil) (.b (.e (.var 3))))) .nil) .nil)) .nil))
def n28 : List Str := ["table", "lot", "task", "some", "number", "mine", "right", "every", "right_every"]
def c28 : Cc := ⟨gls, nos, [fo0, fo1, fo2, fo3, fo4, fo5, fo6, fo7, fo8, fo9, fo10, fo11, fo12, fo13, fo14, fo15, fo16, fo17, fo18, fo19, fo20, fo21, fo22, fo23, fo24, fo25, fo26, fo27, fo28, fo29, fo30], n28, defScope (top 45), fun _ => true⟩
theorem ck28 : (scopeB n28 ["table", "lot", "task"] (defScope (top 45)) && ckSs c28 t28 (defBody (top 45))) = true := by decide +kernel
/-- middle_of -/
def t29 : Sxs := (.cons (.ex (.call 17 (.cons (.var 0) (.cons (.var 1) (.cons (.var 2) .nil))) .nil)) (.cons (.ret (.call 31 (.cons (.var 0) (.cons (.var 1) (.cons (.var 2) .nil))) .nil)) .nil))
def n29 : List Str := ["table", "lot", "task"]
def c29 : Cc := ⟨gls, nos, [fo0, fo1, fo2, fo3, fo4, fo5, fo6, fo7, fo8, fo9, fo10, fo11, fo12, fo13, fo14, fo15, fo16, fo17, fo18, fo19, fo20, fo21, fo22, fo23, fo24, fo25, fo26, fo27, fo28, fo29, fo30, fo31], n29, defScope (top 46), fun _ => true⟩
theorem ck29 : (scopeB n29 ["table", "lot", "task"] (defScope (top 46)) && ckSs c29 t29 (defBody (top 46))) = true := by decide +kernel
/-- _law_pot -/
def t30 : Sxs := (.cons (.asg (.ite (.cmp .Lt (.var 1) (.op1 .len (.cons (.var 0) .nil))) (.sub (.var 0) (.var 1)) (.bin .Add (.bin .Add (.bin .Mod (.op1 .int (.cons (.opF .sum (.cut (.var 0) .no (.so (.int 1)))) .nil)) (.int 1000003)) (.bin .Mult (.int 8950) (.var 1))) (.int 21544))) (.nm 2)) (.cons (.asg (.bin .Mult (.bin .Mod (.op1 .int (.cons (.op1 .abs (.cons (.var 2) .nil)) .nil)) (.bin .Pow (.bin .Pow (.int 10) (.int 60)) (.int 5))) (.op1 .int (.cons (.ofB (.cmp .GtE (.op1 .abs (.cons (.var 2) .nil)) (.bin .Pow (.int 10) (.int 18)))) .nil))) (.nm 3)) (.cons (.asg (.bin .Mod (.op1 .int (.cons (.var 2) .nil)) (.int 2305843009213693951)) (.nm 4)) (.cons (.ret (.push (.disp (.cons (.var 3) (.cons (.bin .Mod (.op1 .int (.cons (.bin .Add (.bin .Add (.bin .Mult (.var 4) (.int 176830)) (.bin .Mult (.bin .Mult (.int 20540) (.var 1)) (.var 1))) (.int 5872)) .nil)) (.int 2305843009213693921)) (.cons (.int 0) .nil)))))) .nil))))
def n30 : List Str := ["script", "place", "cell", "own", "small"]
def c30 : Cc := ⟨gls, nos, [fo0, fo1, fo2, fo3, fo4, fo5, fo6, fo7, fo8, fo9, fo10, fo11, fo12, fo13, fo14, fo15, fo16, fo17, fo18, fo19, fo20, fo21, fo22, fo23, fo24, fo25, fo26, fo27, fo28, fo29, fo30, fo31, fo32], n30, defScope (top 48), fun _ => true⟩
theorem ck30 : (scopeB n30 ["script", "place"] (defScope (top 48)) && ckSs c30 t30 (defBody (top 48))) = true := by decide +kernel
/-- _law_take -/
def t31 : Sxs := (.cons (.ifs (.cmp .Gt (.sub (.var 0) (.int 0)) (.int 0)) (.cons (.asg (.bin .Mod (.op1 .int (.cons (.sub (.var 0) (.int 0)) .nil)) (.var 1)) (.nm 4)) (.cons (.asg (.bin .FloorDiv (.sub (.var 0) (.int 0)) (.var 1)) (.sub (.var 0) (.int 0))) (.cons (.ret (.var 4)) .nil))) .nil) (.cons (.asg (.bin .Add (.sub (.var 0) (.int 2)) (.int 1)) (.sub (.var 0) (.int 2))) (.cons (.asg (.sub (.push (.disp (.cons (.int 2147483647) (.cons (.int 2147483629) (.cons (.int 2147483587) (.cons (.int 2147483579) .nil)))))) (.bin .Mod (.op1 .int (.cons (.sub (.var 0) (.int 2)) .nil)) (.int 4))) (.nm 2)) (.cons (.asg (.bin .Mod (.op1 .int (.cons (.bin .Pow (.op1 .int (.cons (.bin .Add (.bin .Add (.sub (.var 0) (.int 1)) (.bin .Mult (.bin .Mult (.int 203548) (.sub (.var 0) (.int 2))) (.sub (.var 0) (.int 2)))) (.int 7750)) .nil)) (.int 3)) .nil)) (.var 2)) (.nm 3)) (.cons (.ret (.bin .Mod (.op1 .int (.cons (.bin .FloorDiv (.bin .Mult (.var 3) (.bin .Add (.bin .Mod (.op1 .int (.cons (.var 3) .nil)) (.int 10007)) (.bin .Mult (.int 6910) (.sub (.var 0) (.int 2))))) (.int 307)) .nil)) (.var 1))) .nil)))))
def n31 : List Str := ["pot", "upto", "prime", "blend", "digit"]
def c31 : Cc := ⟨gls, nos, [fo0, fo1, fo2, fo3, fo4, fo5, fo6, fo7, fo8, fo9, fo10, fo11, fo12, fo13, fo14, fo15, fo16, fo17, fo18, fo19, fo20, fo21, fo22, fo23, fo24, fo25, fo26, fo27, fo28, fo29, fo30, fo31, fo32, fo33], n31, defScope (top 49), fun _ => true⟩
theorem ck31 : (scopeB n31 ["pot", "upto"] (defScope (top 49)) && ckSs c31 t31 (defBody (top 49))) = true := by decide +kernel
/-- _law_of -/
def t32 : Sxs := (.cons (.ret (.sub (.var 1) (.call 34 (.cons (.var 0) (.cons (.op1 .len (.cons (.var 1) .nil)) .nil)) .nil))) .nil)
def n32 : List Str := ["pot", "some"]
def c32 : Cc := ⟨gls, nos, [fo0, fo1, fo2, fo3, fo4, fo5, fo6, fo7, fo8, fo9, fo10, fo11, fo12, fo13, fo14, fo15, fo16, fo17, fo18, fo19, fo20, fo21, fo22, fo23, fo24, fo25, fo26, fo27, fo28, fo29, fo30, fo31, fo32, fo33, fo34], n32, defScope (top 50), fun _ => true⟩
theorem ck32 : (scopeB n32 ["pot", "some"] (defScope (top 50)) && ckSs c32 t32 (defBody (top 50))) = true := by decide +kernel
/-- _law_cells -/
def t33 : Sxs := (.cons (.ret (.push (.rg1 (.op1 .max (.cons (.int 1) (.cons (.op1 .min (.cons (.var 1) (.cons (.op1 .len (.cons (.var 0) .nil)) .nil))) .nil)))))) .nil)
def n33 : List Str := ["script", "limit"]
def c33 : Cc := ⟨gls, nos, [fo0, fo1, fo2, fo3, fo4, fo5, fo6, fo7, fo8, fo9, fo10, fo11, fo12, fo13, fo14, fo15, fo16, fo17, fo18, fo19, fo20, fo21, fo22, fo23, fo24, fo25, fo26, fo27, fo28, fo29, fo30, fo31, fo32, fo33, fo34, fo35], n33, defScope (top 51), fun _ => true⟩
theorem ck33 : (scopeB n33 ["script", "limit"] (defScope (top 51)) && ckSs c33 t33 (defBody (top 51))) = true := by decide +kernel
/-- _law_some -/
def t34 : Sxs := (.cons (.par [4, 5] (.cons (.push (.op1 .lst (.cons (.var 1) .nil))) (.cons (.push (.disp .nil)) .nil))) (.cons (.fr (.nm 3) (.r1 (.var 2)) (.cons (.ex (.mt .app (.var 5) (.cons (.mt .popN (.var 4) (.cons (.call 34 (.cons (.var 0) (.cons (.op1 .len (.cons (.var 4) .nil)) .nil)) .nil) .nil)) .nil))) .nil)) (.cons (.ret (.var 5)) .nil)))
def n34 : List Str := ["pot", "pool", "many", "lap", "left", "found"]
def c34 : Cc := ⟨gls, nos, [fo0, fo1, fo2, fo3, fo4, fo5, fo6, fo7, fo8, fo9, fo10, fo11, fo12, fo13, fo14, fo15, fo16, fo17, fo18, fo19, fo20, fo21, fo22, fo23, fo24, fo25, fo26, fo27, fo28, fo29, fo30, fo31, fo32, fo33, fo34, fo35, fo36], n34, defScope (top 52), fun _ => true⟩
theorem ck34 : (scopeB n34 ["pot", "pool", "many"] (defScope (top 52)) && ckSs c34 t34 (defBody (top 52))) = true := by decide +kernel
/-- _law_lot -/
def t35 : Sxs := (.cons (.ret (.opF .tup (.op1 .sort (.cons (.call 37 (.cons (.var 0) (.cons (.push (.rg1 (.var 1))) (.cons (.call 34 (.cons (.var 0) (.cons (.bin .Add (.var 1) (.int 1)) .nil)) .nil) .nil))) .nil) .nil)))) .nil)
def n35 : List Str := ["pot", "many"]
def c35 : Cc := ⟨gls, nos, [fo0, fo1, fo2, fo3, fo4, fo5, fo6, fo7, fo8, fo9, fo10, fo11, fo12, fo13, fo14, fo15, fo16, fo17, fo18, fo19, fo20, fo21, fo22, fo23, fo24, fo25, fo26, fo27, fo28, fo29, fo30, fo31, fo32, fo33, fo34, fo35, fo36, fo37], n35, defScope (top 53), fun _ => true⟩
theorem ck35 : (scopeB n35 ["pot", "many"] (defScope (top 53)) && ckSs c35 t35 (defBody (top 53))) = true := by decide +kernel
/-- _law_part -/
def t36 : Sxs := (.cons (.par [2, 3] (.cons (.op1 .abs (.cons (.var 0) .nil)) (.cons (.var 1) .nil))) (.cons (.wh (.cmp .NotEq (.var 3) (.int 0)) (.cons (.par [2, 3] (.cons (.var 3) (.cons (.bin .Mod (.var 2) (.var 3)) .nil))) .nil)) (.cons (.ret (.tup (.cons (.op1 .int (.cons (.bin .FloorDiv (.var 0) (.var 2)) .nil)) (.cons (.op1 .int (.cons (.bin .FloorDiv (.var 1) (.var 2)) .nil)) .nil)))) .nil)))
def n36 : List Str := ["top", "low", "one", "other"]
def c36 : Cc := ⟨gls, nos, [fo0, fo1, fo2, fo3, fo4, fo5, fo6, fo7, fo8, fo9, fo10, fo11, fo12, fo13, fo14, fo15, fo16, fo17, fo18, fo19, fo20, fo21, fo22, fo23, fo24, fo25, fo26, fo27, fo28, fo29, fo30, fo31, fo32, fo33, fo34, fo35, fo36, fo37, fo38], n36, defScope (top 54), fun _ => true⟩
theorem ck36 : (scopeB n36 ["top", "low"] (defScope (top 54)) && ckSs c36 t36 (defBody (top 54))) = true := by decide +kernel
/-- _law_plus -/
def t37 : Sxs := (.cons (.ret (.call 39 (.cons (.bin .Add (.bin .Mult (.sub (.var 0) (.int 0)) (.sub (.var 1) (.int 1))) (.bin .Mult (.sub (.var 1) (.int 0)) (.sub (.var 0) (.int 1)))) (.cons (.bin .Mult (.sub (.var 0) (.int 1)) (.sub (.var 1) (.int 1))) .nil)) .nil)) .nil)
def n37 : List Str := ["one", "other"]
def c37 : Cc := ⟨gls, nos, [fo0, fo1, fo2, fo3, fo4, fo5, fo6, fo7, fo8, fo9, fo10, fo11, fo12, fo13, fo14, fo15, fo16, fo17, fo18, fo19, fo20, fo21, fo22, fo23, fo24, fo25, fo26, fo27, fo28, fo29, fo30, fo31, fo32, fo33, fo34, fo35, fo36, fo37, fo38, fo39], n37, defScope (top 55), fun _ => true⟩
theorem ck37 : (scopeB n37 ["one", "other"] (defScope (top 55)) && ckSs c37 t37 (defBody (top 55))) = true := by decide +kernel
/-- _law_sum -/
def t38 : Sxs := (.cons (.asg (.tup (.cons (.int 0) (.cons (.int 1) .nil))) (.nm 1)) (.cons (.fr (.nm 2) (.b (.e (.var 0))) (.cons (.asg (.call 40 (.cons (.var 1) (.cons (.var 2) .nil)) .nil) (.nm 1)) .nil)) (.cons (.ret (.var 1)) .nil)))
def n38 : List Str := ["some", "found", "one"]
def c38 : Cc := ⟨gls, nos, [fo0, fo1, fo2, fo3, fo4, fo5, fo6, fo7, fo8, fo9, fo10, fo11, fo12, fo13, fo14, fo15, fo16, fo17, fo18, fo19, fo20, fo21, fo22, fo23, fo24, fo25, fo26, fo27, fo28, fo29, fo30, fo31, fo32, fo33, fo34, fo35, fo36, fo37, fo38, fo39, fo40], n38, defScope (top 56), fun _ => true⟩
theorem ck38 : (scopeB n38 ["some"] (defScope (top 56)) && ckSs c38 t38 (defBody (top 56))) = true := by decide +kernel
/-- _law_less -/
def t39 : Sxs := (.cons (.ret (.ofB (.cmp .Lt (.bin .Mult (.sub (.var 0) (.int 0)) (.sub (.var 1) (.int 1))) (.bin .Mult (.sub (.var 1) (.int 0)) (.sub (.var 0) (.int 1)))))) .nil)
def n39 : List Str := ["one", "other"]
def c39 : Cc := ⟨gls, nos, [fo0, fo1, fo2, fo3, fo4, fo5, fo6, fo7, fo8, fo9, fo10, fo11, fo12, fo13, fo14, fo15, fo16, fo17, fo18, fo19, fo20, fo21, fo22, fo23, fo24, fo25, fo26, fo27, fo28, fo29, fo30, fo31, fo32, fo33, fo34, fo35, fo36, fo37, fo38, fo39, fo40, fo41], n39, defScope (top 57), fun _ => true⟩
theorem ck39 : (scopeB n39 ["one", "other"] (defScope (top 57)) && ckSs c39 t39 (defBody (top 57))) = true := by decide +kernel
/-- _law_table -/
def t40 : Sxs := (.cons (.asg (.bin .Add (.int 1) (.call 34 (.cons (.var 0) (.cons (.var 2) .nil)) .nil)) (.nm 4)) (.cons (.ret (.opF .tup (.lc [5] (.nm 5) .yes (.mtF .join (.str "") (.lc [6] (.nm 6) .yes (.call 35 (.cons (.var 0) (.cons (.var 3) .nil)) .nil) (.r1 (.var 4)))) (.r1 (.bin .Add (.int 1) (.call 34 (.cons (.var 0) (.cons (.var 1) .nil)) .nil)))))) .nil))
def n40 : List Str := ["pot", "persons", "tasks", "signs", "many", "person", "lap"]
def c40 : Cc := ⟨gls, nos, [fo0, fo1, fo2, fo3, fo4, fo5, fo6, fo7, fo8, fo9, fo10, fo11, fo12, fo13, fo14, fo15, fo16, fo17, fo18, fo19, fo20, fo21, fo22, fo23, fo24, fo25, fo26, fo27, fo28, fo29, fo30, fo31, fo32, fo33, fo34, fo35, fo36, fo37, fo38, fo39, fo40, fo41, fo42], n40, defScope (top 58), fun _ => true⟩
theorem ck40 : (scopeB n40 ["pot", "persons", "tasks", "signs"] (defScope (top 58)) && ckSs c40 t40 (defBody (top 58))) = true := by decide +kernel
/-- _law_spreadings -/
def t41 : Sxs := (.cons (.asg (.push (.lc [11] (.nm 11) .yes (.mt .scnt (.var 11) (.cons (.str "1") .nil)) (.b (.e (.var 0))))) (.nm 2)) (.cons (.asg (.push (.disp (.cons (.tup .nil) .nil))) (.nm 3)) (.cons (.fr (.nm 4) (.b (.l (.sset (.var 2)))) (.cons (.asg (.push (.lc [8] (.nm 8) (.so (.cmp .Eq (.sub (.var 2) (.var 8)) (.var 4))) (.var 8) (.r1 (.op1 .len (.cons (.var 0) .nil))))) (.nm 5)) (.cons (.asg (.opF .len (.lc [8] (.nm 8) (.so (.cmp .Eq (.sub (.sub (.var 0) (.var 8)) (.var 1)) (.str "1"))) (.var 8) (.b (.e (.var 5))))) (.nm 6)) (.cons (.asg (.push (.disp (.cons (.tup .nil) .nil))) (.nm 7)) (.cons (.fr (.nm 8) (.b (.e (.var 5))) (.cons (.asg (.bin .Add (.var 7) (.push (.lc [10] (.nm 10) .yes (.bin .Add (.var 10) (.tup (.cons (.var 8) .nil))) (.b (.e (.var 7)))))) (.nm 7)) .nil)) (.cons (.asg (.push (.disp .nil)) (.nm 9)) (.cons (.fr (.nm 10) (.b (.l (.lc [10] (.nm 10) (.so (.cmp .Eq (.op1 .len (.cons (.var 10) .nil)) (.var 6))) (.var 10) (.b (.e (.var 7)))))) (.cons (.ex (.mtF .ext (.var 9) (.lc [12] (.nm 12) .yes (.bin .Add (.var 12) (.var 10)) (.b (.e (.var 3)))))) .nil)) (.cons (.asg (.var 9) (.nm 3)) .nil)))))))) (.cons (.ret (.var 3)) .nil))))
def n41 : List Str := ["table", "task", "sums", "found", "number", "persons", "right", "some", "person", "longer", "one", "row", "ahead"]
def c41 : Cc := ⟨gls, nos, [fo0, fo1, fo2, fo3, fo4, fo5, fo6, fo7, fo8, fo9, fo10, fo11, fo12, fo13, fo14, fo15, fo16, fo17, fo18, fo19, fo20, fo21, fo22, fo23, fo24, fo25, fo26, fo27, fo28, fo29, fo30, fo31, fo32, fo33, fo34, fo35, fo36, fo37, fo38, fo39, fo40, fo41, fo42, fo43], n41, defScope (top 59), fun _ => true⟩
theorem ck41 : (scopeB n41 ["table", "task"] (defScope (top 59)) && ckSs c41 t41 (defBody (top 59))) = true := by decide +kernel
/-- _law_right -/
def t42 : Sxs := (.cons (.asg (.call 43 (.cons (.var 0) (.cons (.int 7) (.cons (.int 4) (.cons (.str "01") .nil)))) .nil) (.nm 1)) (.cons (.asg (.tup (.cons (.call 38 (.cons (.var 0) (.cons (.op1 .len (.cons (.var 1) .nil)) .nil)) .nil) (.cons (.op1 .int (.cons (.call 34 (.cons (.var 0) (.cons (.op1 .len (.cons (.sub (.var 1) (.int 0)) .nil)) .nil)) .nil) .nil)) .nil))) (.tup (.cons (.nm 18) (.cons (.nm 19) .nil)))) (.cons (.asg (.push (.lc [23] (.nm 23) .yes (.mt .scnt (.var 23) (.cons (.str "1") .nil)) (.b (.e (.var 1))))) (.nm 2)) (.cons (.asg (.push (.disp .nil)) (.nm 3)) (.cons (.fr (.nm 4) (.b (.l (.sset (.var 2)))) (.cons (.asg (.push (.lc [26] (.nm 26) (.so (.cmp .Eq (.sub (.var 2) (.var 26)) (.var 4))) (.var 26) (.r1 (.op1 .len (.cons (.var 1) .nil))))) (.nm 20)) (.cons (.asg (.push (.lc [26] (.nm 26) (.so (.cmp .In (.var 26) (.var 18))) (.var 26) (.b (.e (.var 20))))) (.nm 21)) (.cons (.asg (.push (.lc [7] (.nm 7) .yes (.opF .len (.lc [26] (.nm 26) (.so (.cmp .Eq (.sub (.sub (.var 1) (.var 26)) (.var 19)) (.str "1"))) (.var 26) (.b (.e (.var 7))))) (.b (.e (.tup (.cons (.var 21) (.cons (.var 20) .nil))))))) (.nm 22)) (.cons (.ex (.mt .app (.var 3) (.cons (.tup (.cons (.op1 .int (.cons (.var 4) .nil)) (.cons (.op1 .len (.cons (.var 21) .nil)) (.cons (.sub (.var 22) (.int 0)) (.cons (.op1 .len (.cons (.var 20) .nil)) (.cons (.sub (.var 22) (.int 1)) .nil)))))) .nil))) .nil))))) (.cons (.ifs (.cmp .NotEq (.op1 .repr (.cons (.call 19 .nil (.cons (.var 19) (.cons (.var 18) (.cons (.var 1) .nil)))) .nil)) (.op1 .repr (.cons (.op1 .tup (.cons (.var 3) .nil)) .nil))) (.cons (.ret (.bl false)) .nil) .nil) (.cons (.asg (.call 44 (.cons (.var 1) (.cons (.var 19) .nil)) .nil) (.nm 5)) (.cons (.asg (.push (.lc [24] (.nm 24) .yes (.opF .len (.lc [26] (.nm 26) (.so (.cmp .In (.var 26) (.var 18))) (.var 26) (.b (.e (.var 24))))) (.b (.e (.var 5))))) (.nm 6)) (.cons (.asg (.push (.sset (.var 6))) (.nm 7)) (.cons (.ifs (.cmp .NotEq (.op1 .repr (.cons (.call 22 .nil (.cons (.var 19) (.cons (.var 18) (.cons (.var 1) .nil)))) .nil)) (.op1 .repr (.cons (.opF .tup (.lc [4] (.nm 4) .yes (.tup (.cons (.op1 .int (.cons (.var 4) .nil)) (.cons (.mt .cnt (.var 6) (.cons (.var 4) .nil)) .nil))) (.b (.e (.var 7))))) .nil))) (.cons (.ret (.bl false)) .nil) .nil) (.cons (.asg (.opF .len (.lc [26] (.nm 26) (.so (.cmp .Eq (.sub (.sub (.var 1) (.var 26)) (.var 19)) (.str "1"))) (.var 26) (.b (.e (.var 18))))) (.nm 8)) (.cons (.asg (.push (.disp (.cons (.call 39 (.cons (.opF .len (.lc [4] (.nm 4) (.so (.cmp .GtE (.var 4) (.var 8))) (.var 4) (.b (.e (.var 6))))) (.cons (.op1 .len (.cons (.var 6) .nil)) .nil)) .nil) (.cons (.call 39 (.cons (.opF .len (.lc [4] (.nm 4) (.so (.cmp .LtE (.var 4) (.var 8))) (.var 4) (.b (.e (.var 6))))) (.cons (.op1 .len (.cons (.var 6) .nil)) .nil)) .nil) .nil)))) (.nm 9)) (.cons (.ifs (.cmp .NotEq (.opF .repr (.disp (.cons (.call 26 .nil (.cons (.var 19) (.cons (.var 18) (.cons (.var 1) .nil)))) (.cons (.call 28 .nil (.cons (.var 19) (.cons (.var 18) (.cons (.var 1) .nil)))) .nil)))) (.op1 .repr (.cons (.var 9) .nil))) (.cons (.ret (.bl false)) .nil) .nil) (.cons (.ifs (.cmp .NotEq (.op1 .repr (.cons (.call 32 .nil (.cons (.var 19) (.cons (.var 18) (.cons (.var 1) .nil)))) .nil)) (.op1 .repr (.cons (.call 39 (.cons (.op1 .sumL (.cons (.var 6) .nil)) (.cons (.op1 .len (.cons (.var 6) .nil)) .nil)) .nil) .nil))) (.cons (.ret (.bl false)) .nil) .nil) (.cons (.asg (.call 41 (.cons (.push (.lc [4, 21, 28, 29, 30] (.tup (.cons (.nm 4) (.cons (.nm 21) (.cons (.nm 28) (.cons (.nm 29) (.cons (.nm 30) .nil)))))) .yes (.call 39 (.cons (.bin .Mult (.var 28) (.bin .Add (.bin .Sub (.bin .Sub (.var 29) (.var 21)) (.var 30)) (.var 28))) (.cons (.var 29) .nil)) .nil) (.b (.e (.var 3))))) .nil) .nil) (.nm 10)) (.cons (.asg (.call 41 (.cons (.push (.lc [4, 21, 28, 29, 30] (.tup (.cons (.nm 4) (.cons (.nm 21) (.cons (.nm 28) (.cons (.nm 29) (.cons (.nm 30) .nil)))))) .yes (.call 39 (.cons (.bin .Mult (.bin .Sub (.var 21) (.var 28)) (.bin .Sub (.var 30) (.var 28))) (.cons (.var 29) .nil)) .nil) (.b (.e (.var 3))))) .nil) .nil) (.nm 11)) (.cons (.asg (.ite (.cmp .Eq (.sub (.var 11) (.int 0)) (.int 0)) .non (.call 39 (.cons (.bin .Mult (.sub (.var 10) (.int 0)) (.sub (.var 11) (.int 1))) (.cons (.bin .Mult (.sub (.var 10) (.int 1)) (.sub (.var 11) (.int 0))) .nil)) .nil)) (.nm 12)) (.cons (.ifs (.cmp .NotEq (.op1 .repr (.cons (.call 30 .nil (.cons (.var 19) (.cons (.var 18) (.cons (.var 1) .nil)))) .nil)) (.op1 .repr (.cons (.var 12) .nil))) (.cons (.ret (.bl false)) .nil) .nil) (.cons (.asg (.opF .tup (.lc [26] (.nm 26) (.so (.cmp .NotIn (.var 26) (.var 18))) (.op1 .int (.cons (.var 26) .nil)) (.r1 (.op1 .len (.cons (.var 1) .nil))))) (.nm 13)) (.cons (.ifs (.bop .Or (.cons (.cmp .NotEq (.call 25 (.cons (.var 1) (.cons (.var 13) (.cons (.var 19) .nil))) .nil) (.sub (.var 9) (.int 1))) (.one (.cmp .NotEq (.call 27 (.cons (.var 1) (.cons (.var 13) (.cons (.var 19) .nil))) .nil) (.sub (.var 9) (.int 0)))))) (.cons (.ret (.bl false)) .nil) .nil) (.cons (.asg (.call 29 (.cons (.var 1) (.cons (.var 13) (.cons (.var 19) .nil))) .nil) (.nm 14)) (.cons (.ifs (.bop .And (.cons (.cmp .IsNot (.var 12) .non) (.cons (.cmp .IsNot (.var 14) .non) (.cons (.cmp .Gt (.sub (.var 12) (.int 0)) (.int 0)) (.one (.cmp .NotEq (.var 14) (.tup (.cons (.sub (.var 12) (.int 1)) (.cons (.sub (.var 12) (.int 0)) .nil))))))))) (.cons (.ret (.bl false)) .nil) .nil) (.cons (.asg (.call 39 (.cons (.call 34 (.cons (.var 0) (.cons (.int 9) .nil)) .nil) (.cons (.int 8) .nil)) .nil) (.nm 15)) (.cons (.asg (.push (.lc [25] (.nm 25) .yes (.call 39 (.cons (.opF .len (.lc [4] (.nm 4) (.so (.cmp .GtE (.var 4) (.var 25))) (.var 4) (.b (.e (.var 6))))) (.cons (.op1 .len (.cons (.var 6) .nil)) .nil)) .nil) (.b (.e (.var 6))))) (.nm 16)) (.cons (.asg (.opF .len (.lc [27] (.nm 27) (.so (.not (.tru (.call 42 (.cons (.var 15) (.cons (.var 27) .nil)) .nil)))) (.var 27) (.b (.e (.var 16))))) (.nm 17)) (.cons (.ret (.ofB (.bop .Or (.cons (.not (.asB (.call 42 (.cons (.var 15) (.cons (.call 39 (.cons (.var 17) (.cons (.op1 .len (.cons (.var 6) .nil)) .nil)) .nil) .nil)) .nil))) (.one (.cmp .Eq (.sub (.var 15) (.int 0)) (.int 0))))))) .nil))))))))))))))))))))))))))
def n42 : List Str := ["pot", "table", "sums", "due", "number", "every", "numbers", "some", "here", "shares", "first", "second", "odds", "others", "turned", "far", "own", "few", "lot", "task", "persons", "mine", "rights", "row", "one", "its", "person", "share", "right", "whole", "right_all"]
def c42 : Cc := ⟨gls, nos, [fo0, fo1, fo2, fo3, fo4, fo5, fo6, fo7, fo8, fo9, fo10, fo11, fo12, fo13, fo14, fo15, fo16, fo17, fo18, fo19, fo20, fo21, fo22, fo23, fo24, fo25, fo26, fo27, fo28, fo29, fo30, fo31, fo32, fo33, fo34, fo35, fo36, fo37, fo38, fo39, fo40, fo41, fo42, fo43, fo44], n42, defScope (top 60), fun _ => true⟩
theorem ck42 : (scopeB n42 ["pot"] (defScope (top 60)) && ckSs c42 t42 (defBody (top 60))) = true := by decide +kernel
/-- law -/
def t43 : Sxs := (.cons (.fr (.nm 1) (.b (.e (.call 36 (.cons (.var 0) (.cons (.int 3) .nil)) .nil))) (.cons (.asg (.call 33 (.cons (.var 0) (.cons (.var 1) .nil)) .nil) (.nm 2)) (.cons (.ifs (.not (.tru (.opF .all (.lc [3] (.nm 3) .yes (.call 45 (.cons (.var 2) .nil) .nil) (.r1 (.int 5)))))) (.cons (.ret (.bl false)) .nil) .nil) .nil))) (.cons (.ret (.bl true)) .nil))
def n43 : List Str := ["script", "place", "pot", "lap"]
def c43 : Cc := ⟨gls, nos, [fo0, fo1, fo2, fo3, fo4, fo5, fo6, fo7, fo8, fo9, fo10, fo11, fo12, fo13, fo14, fo15, fo16, fo17, fo18, fo19, fo20, fo21, fo22, fo23, fo24, fo25, fo26, fo27, fo28, fo29, fo30, fo31, fo32, fo33, fo34, fo35, fo36, fo37, fo38, fo39, fo40, fo41, fo42, fo43, fo44, fo45], n43, defScope (top 61), fun _ => true⟩
theorem ck43 : (scopeB n43 ["script"] (defScope (top 61)) && ckSs c43 t43 (defBody (top 61))) = true := by decide +kernel
end K87

namespace K87
open PySem PySem.Spec PyProof.Rows L2 Den
def F0 : List D → M D := runF 1 n0.length (t0.den (mkG gls [] []))
def F1 : List D → M D := runF 3 n1.length (t1.den (mkG gls [fo0] [F0]))
def F2 : List D → M D := runF 3 n2.length (t2.den (mkG gls [fo0, fo1] [F0, F1]))
def F3 : List D → M D := runF 1 n3.length (t3.den (mkG gls [fo0, fo1, fo2] [F0, F1, F2]))
def F4 : List D → M D := runF 2 n4.length (t4.den (mkG gls [fo0, fo1, fo2, fo3] [F0, F1, F2, F3]))
def F5 : List D → M D := runF 2 n5.length (t5.den (mkG gls [fo0, fo1, fo2, fo3, fo4] [F0, F1, F2, F3, F4]))
def F6 : List D → M D := runF 2 n6.length (t6.den (mkG gls [fo0, fo1, fo2, fo3, fo4, fo5] [F0, F1, F2, F3, F4, F5]))
def F7 : List D → M D := runF 2 n7.length (t7.den (mkG gls [fo0, fo1, fo2, fo3, fo4, fo5, fo6] [F0, F1, F2, F3, F4, F5, F6]))
def F8 : List D → M D := runF 1 n8.length (t8.den (mkG gls [fo0, fo1, fo2, fo3, fo4, fo5, fo6, fo7] [F0, F1, F2, F3, F4, F5, F6, F7]))
def F9 : List D → M D := runF 1 n9.length (t9.den (mkG gls [fo0, fo1, fo2, fo3, fo4, fo5, fo6, fo7, fo8] [F0, F1, F2, F3, F4, F5, F6, F7, F8]))
def F10 : List D → M D := runF 1 n10.length (t10.den (mkG gls [fo0, fo1, fo2, fo3, fo4, fo5, fo6, fo7, fo8, fo9] [F0, F1, F2, F3, F4, F5, F6, F7, F8, F9]))
def F11 : List D → M D := runF 1 n11.length (t11.den (mkG gls [fo0, fo1, fo2, fo3, fo4, fo5, fo6, fo7, fo8, fo9, fo10] [F0, F1, F2, F3, F4, F5, F6, F7, F8, F9, F10]))
def F12 : List D → M D := runF 2 n12.length (t12.den (mkG gls [fo0, fo1, fo2, fo3, fo4, fo5, fo6, fo7, fo8, fo9, fo10, fo11] [F0, F1, F2, F3, F4, F5, F6, F7, F8, F9, F10, F11]))
def F13 : List D → M D := runF 2 n13.length (t13.den (mkG gls [fo0, fo1, fo2, fo3, fo4, fo5, fo6, fo7, fo8, fo9, fo10, fo11, fo12] [F0, F1, F2, F3, F4, F5, F6, F7, F8, F9, F10, F11, F12]))
def F14 : List D → M D := runF 1 n14.length (t14.den (mkG gls [fo0, fo1, fo2, fo3, fo4, fo5, fo6, fo7, fo8, fo9, fo10, fo11, fo12, fo13] [F0, F1, F2, F3, F4, F5, F6, F7, F8, F9, F10, F11, F12, F13]))
def F15 : List D → M D := runF 1 n15.length (t15.den (mkG gls [fo0, fo1, fo2, fo3, fo4, fo5, fo6, fo7, fo8, fo9, fo10, fo11, fo12, fo13, fo14] [F0, F1, F2, F3, F4, F5, F6, F7, F8, F9, F10, F11, F12, F13, F14]))
def F16 : List D → M D := runF 2 n16.length (t16.den (mkG gls [fo0, fo1, fo2, fo3, fo4, fo5, fo6, fo7, fo8, fo9, fo10, fo11, fo12, fo13, fo14, fo15] [F0, F1, F2, F3, F4, F5, F6, F7, F8, F9, F10, F11, F12, F13, F14, F15]))
def F17 : List D → M D := runF 3 n17.length (t17.den (mkG gls [fo0, fo1, fo2, fo3, fo4, fo5, fo6, fo7, fo8, fo9, fo10, fo11, fo12, fo13, fo14, fo15, fo16] [F0, F1, F2, F3, F4, F5, F6, F7, F8, F9, F10, F11, F12, F13, F14, F15, F16]))
def F18 : List D → M D := runF 3 n18.length (t18.den (mkG gls [fo0, fo1, fo2, fo3, fo4, fo5, fo6, fo7, fo8, fo9, fo10, fo11, fo12, fo13, fo14, fo15, fo16, fo17] [F0, F1, F2, F3, F4, F5, F6, F7, F8, F9, F10, F11, F12, F13, F14, F15, F16, F17]))
def F19 : List D → M D := runF 3 n19.length (t19.den (mkG gls [fo0, fo1, fo2, fo3, fo4, fo5, fo6, fo7, fo8, fo9, fo10, fo11, fo12, fo13, fo14, fo15, fo16, fo17, fo18] [F0, F1, F2, F3, F4, F5, F6, F7, F8, F9, F10, F11, F12, F13, F14, F15, F16, F17, F18]))
def F20 : List D → M D := runF 2 n20.length (t20.den (mkG gls [fo0, fo1, fo2, fo3, fo4, fo5, fo6, fo7, fo8, fo9, fo10, fo11, fo12, fo13, fo14, fo15, fo16, fo17, fo18, fo19] [F0, F1, F2, F3, F4, F5, F6, F7, F8, F9, F10, F11, F12, F13, F14, F15, F16, F17, F18, F19]))
def F21 : List D → M D := runF 3 n21.length (t21.den (mkG gls [fo0, fo1, fo2, fo3, fo4, fo5, fo6, fo7, fo8, fo9, fo10, fo11, fo12, fo13, fo14, fo15, fo16, fo17, fo18, fo19, fo20] [F0, F1, F2, F3, F4, F5, F6, F7, F8, F9, F10, F11, F12, F13, F14, F15, F16, F17, F18, F19, F20]))
def F22 : List D → M D := runF 3 n22.length (t22.den (mkG gls [fo0, fo1, fo2, fo3, fo4, fo5, fo6, fo7, fo8, fo9, fo10, fo11, fo12, fo13, fo14, fo15, fo16, fo17, fo18, fo19, fo20, fo21] [F0, F1, F2, F3, F4, F5, F6, F7, F8, F9, F10, F11, F12, F13, F14, F15, F16, F17, F18, F19, F20, F21]))
def F23 : List D → M D := runF 3 n23.length (t23.den (mkG gls [fo0, fo1, fo2, fo3, fo4, fo5, fo6, fo7, fo8, fo9, fo10, fo11, fo12, fo13, fo14, fo15, fo16, fo17, fo18, fo19, fo20, fo21, fo22] [F0, F1, F2, F3, F4, F5, F6, F7, F8, F9, F10, F11, F12, F13, F14, F15, F16, F17, F18, F19, F20, F21, F22]))
def F24 : List D → M D := runF 3 n24.length (t24.den (mkG gls [fo0, fo1, fo2, fo3, fo4, fo5, fo6, fo7, fo8, fo9, fo10, fo11, fo12, fo13, fo14, fo15, fo16, fo17, fo18, fo19, fo20, fo21, fo22, fo23] [F0, F1, F2, F3, F4, F5, F6, F7, F8, F9, F10, F11, F12, F13, F14, F15, F16, F17, F18, F19, F20, F21, F22, F23]))
def F25 : List D → M D := runF 3 n25.length (t25.den (mkG gls [fo0, fo1, fo2, fo3, fo4, fo5, fo6, fo7, fo8, fo9, fo10, fo11, fo12, fo13, fo14, fo15, fo16, fo17, fo18, fo19, fo20, fo21, fo22, fo23, fo24] [F0, F1, F2, F3, F4, F5, F6, F7, F8, F9, F10, F11, F12, F13, F14, F15, F16, F17, F18, F19, F20, F21, F22, F23, F24]))
def F26 : List D → M D := runF 3 n26.length (t26.den (mkG gls [fo0, fo1, fo2, fo3, fo4, fo5, fo6, fo7, fo8, fo9, fo10, fo11, fo12, fo13, fo14, fo15, fo16, fo17, fo18, fo19, fo20, fo21, fo22, fo23, fo24, fo25, fo26] [F0, F1, F2, F3, F4, F5, F6, F7, F8, F9, F10, F11, F12, F13, F14, F15, F16, F17, F18, F19, F20, F21, F22, F23, F24, F25, F25]))
def F27 : List D → M D := runF 3 n27.length (t27.den (mkG gls [fo0, fo1, fo2, fo3, fo4, fo5, fo6, fo7, fo8, fo9, fo10, fo11, fo12, fo13, fo14, fo15, fo16, fo17, fo18, fo19, fo20, fo21, fo22, fo23, fo24, fo25, fo26, fo27, fo28] [F0, F1, F2, F3, F4, F5, F6, F7, F8, F9, F10, F11, F12, F13, F14, F15, F16, F17, F18, F19, F20, F21, F22, F23, F24, F25, F25, F26, F26]))
def F28 : List D → M D := runF 3 n28.length (t28.den (mkG gls [fo0, fo1, fo2, fo3, fo4, fo5, fo6, fo7, fo8, fo9, fo10, fo11, fo12, fo13, fo14, fo15, fo16, fo17, fo18, fo19, fo20, fo21, fo22, fo23, fo24, fo25, fo26, fo27, fo28, fo29, fo30] [F0, F1, F2, F3, F4, F5, F6, F7, F8, F9, F10, F11, F12, F13, F14, F15, F16, F17, F18, F19, F20, F21, F22, F23, F24, F25, F25, F26, F26, F27, F27]))
def F29 : List D → M D := runF 3 n29.length (t29.den (mkG gls [fo0, fo1, fo2, fo3, fo4, fo5, fo6, fo7, fo8, fo9, fo10, fo11, fo12, fo13, fo14, fo15, fo16, fo17, fo18, fo19, fo20, fo21, fo22, fo23, fo24, fo25, fo26, fo27, fo28, fo29, fo30, fo31] [F0, F1, F2, F3, F4, F5, F6, F7, F8, F9, F10, F11, F12, F13, F14, F15, F16, F17, F18, F19, F20, F21, F22, F23, F24, F25, F25, F26, F26, F27, F27, F28]))
def F30 : List D → M D := runF 2 n30.length (t30.den (mkG gls [fo0, fo1, fo2, fo3, fo4, fo5, fo6, fo7, fo8, fo9, fo10, fo11, fo12, fo13, fo14, fo15, fo16, fo17, fo18, fo19, fo20, fo21, fo22, fo23, fo24, fo25, fo26, fo27, fo28, fo29, fo30, fo31, fo32] [F0, F1, F2, F3, F4, F5, F6, F7, F8, F9, F10, F11, F12, F13, F14, F15, F16, F17, F18, F19, F20, F21, F22, F23, F24, F25, F25, F26, F26, F27, F27, F28, F29]))
def F31 : List D → M D := runF 2 n31.length (t31.den (mkG gls [fo0, fo1, fo2, fo3, fo4, fo5, fo6, fo7, fo8, fo9, fo10, fo11, fo12, fo13, fo14, fo15, fo16, fo17, fo18, fo19, fo20, fo21, fo22, fo23, fo24, fo25, fo26, fo27, fo28, fo29, fo30, fo31, fo32, fo33] [F0, F1, F2, F3, F4, F5, F6, F7, F8, F9, F10, F11, F12, F13, F14, F15, F16, F17, F18, F19, F20, F21, F22, F23, F24, F25, F25, F26, F26, F27, F27, F28, F29, F30]))
def F32 : List D → M D := runF 2 n32.length (t32.den (mkG gls [fo0, fo1, fo2, fo3, fo4, fo5, fo6, fo7, fo8, fo9, fo10, fo11, fo12, fo13, fo14, fo15, fo16, fo17, fo18, fo19, fo20, fo21, fo22, fo23, fo24, fo25, fo26, fo27, fo28, fo29, fo30, fo31, fo32, fo33, fo34] [F0, F1, F2, F3, F4, F5, F6, F7, F8, F9, F10, F11, F12, F13, F14, F15, F16, F17, F18, F19, F20, F21, F22, F23, F24, F25, F25, F26, F26, F27, F27, F28, F29, F30, F31]))
def F33 : List D → M D := runF 2 n33.length (t33.den (mkG gls [fo0, fo1, fo2, fo3, fo4, fo5, fo6, fo7, fo8, fo9, fo10, fo11, fo12, fo13, fo14, fo15, fo16, fo17, fo18, fo19, fo20, fo21, fo22, fo23, fo24, fo25, fo26, fo27, fo28, fo29, fo30, fo31, fo32, fo33, fo34, fo35] [F0, F1, F2, F3, F4, F5, F6, F7, F8, F9, F10, F11, F12, F13, F14, F15, F16, F17, F18, F19, F20, F21, F22, F23, F24, F25, F25, F26, F26, F27, F27, F28, F29, F30, F31, F32]))
def F34 : List D → M D := runF 3 n34.length (t34.den (mkG gls [fo0, fo1, fo2, fo3, fo4, fo5, fo6, fo7, fo8, fo9, fo10, fo11, fo12, fo13, fo14, fo15, fo16, fo17, fo18, fo19, fo20, fo21, fo22, fo23, fo24, fo25, fo26, fo27, fo28, fo29, fo30, fo31, fo32, fo33, fo34, fo35, fo36] [F0, F1, F2, F3, F4, F5, F6, F7, F8, F9, F10, F11, F12, F13, F14, F15, F16, F17, F18, F19, F20, F21, F22, F23, F24, F25, F25, F26, F26, F27, F27, F28, F29, F30, F31, F32, F33]))
def F35 : List D → M D := runF 2 n35.length (t35.den (mkG gls [fo0, fo1, fo2, fo3, fo4, fo5, fo6, fo7, fo8, fo9, fo10, fo11, fo12, fo13, fo14, fo15, fo16, fo17, fo18, fo19, fo20, fo21, fo22, fo23, fo24, fo25, fo26, fo27, fo28, fo29, fo30, fo31, fo32, fo33, fo34, fo35, fo36, fo37] [F0, F1, F2, F3, F4, F5, F6, F7, F8, F9, F10, F11, F12, F13, F14, F15, F16, F17, F18, F19, F20, F21, F22, F23, F24, F25, F25, F26, F26, F27, F27, F28, F29, F30, F31, F32, F33, F34]))
def F36 : List D → M D := runF 2 n36.length (t36.den (mkG gls [fo0, fo1, fo2, fo3, fo4, fo5, fo6, fo7, fo8, fo9, fo10, fo11, fo12, fo13, fo14, fo15, fo16, fo17, fo18, fo19, fo20, fo21, fo22, fo23, fo24, fo25, fo26, fo27, fo28, fo29, fo30, fo31, fo32, fo33, fo34, fo35, fo36, fo37, fo38] [F0, F1, F2, F3, F4, F5, F6, F7, F8, F9, F10, F11, F12, F13, F14, F15, F16, F17, F18, F19, F20, F21, F22, F23, F24, F25, F25, F26, F26, F27, F27, F28, F29, F30, F31, F32, F33, F34, F35]))
def F37 : List D → M D := runF 2 n37.length (t37.den (mkG gls [fo0, fo1, fo2, fo3, fo4, fo5, fo6, fo7, fo8, fo9, fo10, fo11, fo12, fo13, fo14, fo15, fo16, fo17, fo18, fo19, fo20, fo21, fo22, fo23, fo24, fo25, fo26, fo27, fo28, fo29, fo30, fo31, fo32, fo33, fo34, fo35, fo36, fo37, fo38, fo39] [F0, F1, F2, F3, F4, F5, F6, F7, F8, F9, F10, F11, F12, F13, F14, F15, F16, F17, F18, F19, F20, F21, F22, F23, F24, F25, F25, F26, F26, F27, F27, F28, F29, F30, F31, F32, F33, F34, F35, F36]))
def F38 : List D → M D := runF 1 n38.length (t38.den (mkG gls [fo0, fo1, fo2, fo3, fo4, fo5, fo6, fo7, fo8, fo9, fo10, fo11, fo12, fo13, fo14, fo15, fo16, fo17, fo18, fo19, fo20, fo21, fo22, fo23, fo24, fo25, fo26, fo27, fo28, fo29, fo30, fo31, fo32, fo33, fo34, fo35, fo36, fo37, fo38, fo39, fo40] [F0, F1, F2, F3, F4, F5, F6, F7, F8, F9, F10, F11, F12, F13, F14, F15, F16, F17, F18, F19, F20, F21, F22, F23, F24, F25, F25, F26, F26, F27, F27, F28, F29, F30, F31, F32, F33, F34, F35, F36, F37]))
def F39 : List D → M D := runF 2 n39.length (t39.den (mkG gls [fo0, fo1, fo2, fo3, fo4, fo5, fo6, fo7, fo8, fo9, fo10, fo11, fo12, fo13, fo14, fo15, fo16, fo17, fo18, fo19, fo20, fo21, fo22, fo23, fo24, fo25, fo26, fo27, fo28, fo29, fo30, fo31, fo32, fo33, fo34, fo35, fo36, fo37, fo38, fo39, fo40, fo41] [F0, F1, F2, F3, F4, F5, F6, F7, F8, F9, F10, F11, F12, F13, F14, F15, F16, F17, F18, F19, F20, F21, F22, F23, F24, F25, F25, F26, F26, F27, F27, F28, F29, F30, F31, F32, F33, F34, F35, F36, F37, F38]))
def F40 : List D → M D := runF 4 n40.length (t40.den (mkG gls [fo0, fo1, fo2, fo3, fo4, fo5, fo6, fo7, fo8, fo9, fo10, fo11, fo12, fo13, fo14, fo15, fo16, fo17, fo18, fo19, fo20, fo21, fo22, fo23, fo24, fo25, fo26, fo27, fo28, fo29, fo30, fo31, fo32, fo33, fo34, fo35, fo36, fo37, fo38, fo39, fo40, fo41, fo42] [F0, F1, F2, F3, F4, F5, F6, F7, F8, F9, F10, F11, F12, F13, F14, F15, F16, F17, F18, F19, F20, F21, F22, F23, F24, F25, F25, F26, F26, F27, F27, F28, F29, F30, F31, F32, F33, F34, F35, F36, F37, F38, F39]))
def F41 : List D → M D := runF 2 n41.length (t41.den (mkG gls [fo0, fo1, fo2, fo3, fo4, fo5, fo6, fo7, fo8, fo9, fo10, fo11, fo12, fo13, fo14, fo15, fo16, fo17, fo18, fo19, fo20, fo21, fo22, fo23, fo24, fo25, fo26, fo27, fo28, fo29, fo30, fo31, fo32, fo33, fo34, fo35, fo36, fo37, fo38, fo39, fo40, fo41, fo42, fo43] [F0, F1, F2, F3, F4, F5, F6, F7, F8, F9, F10, F11, F12, F13, F14, F15, F16, F17, F18, F19, F20, F21, F22, F23, F24, F25, F25, F26, F26, F27, F27, F28, F29, F30, F31, F32, F33, F34, F35, F36, F37, F38, F39, F40]))
def F42 : List D → M D := runF 1 n42.length (t42.den (mkG gls [fo0, fo1, fo2, fo3, fo4, fo5, fo6, fo7, fo8, fo9, fo10, fo11, fo12, fo13, fo14, fo15, fo16, fo17, fo18, fo19, fo20, fo21, fo22, fo23, fo24, fo25, fo26, fo27, fo28, fo29, fo30, fo31, fo32, fo33, fo34, fo35, fo36, fo37, fo38, fo39, fo40, fo41, fo42, fo43, fo44] [F0, F1, F2, F3, F4, F5, F6, F7, F8, F9, F10, F11, F12, F13, F14, F15, F16, F17, F18, F19, F20, F21, F22, F23, F24, F25, F25, F26, F26, F27, F27, F28, F29, F30, F31, F32, F33, F34, F35, F36, F37, F38, F39, F40, F41]))
def F43 : List D → M D := runF 1 n43.length (t43.den (mkG gls [fo0, fo1, fo2, fo3, fo4, fo5, fo6, fo7, fo8, fo9, fo10, fo11, fo12, fo13, fo14, fo15, fo16, fo17, fo18, fo19, fo20, fo21, fo22, fo23, fo24, fo25, fo26, fo27, fo28, fo29, fo30, fo31, fo32, fo33, fo34, fo35, fo36, fo37, fo38, fo39, fo40, fo41, fo42, fo43, fo44, fo45] [F0, F1, F2, F3, F4, F5, F6, F7, F8, F9, F10, F11, F12, F13, F14, F15, F16, F17, F18, F19, F20, F21, F22, F23, F24, F25, F25, F26, F26, F27, F27, F28, F29, F30, F31, F32, F33, F34, F35, F36, F37, F38, F39, F40, F41, F42]))
def d0 : He.DefD := ⟨("is_integer", none), "is_integer", "is_integer", defArgs (top 12), defBody (top 12), defScope (top 12), [], []⟩
def d1 : He.DefD := ⟨("is_between", none), "is_between", "is_between", defArgs (top 13), defBody (top 13), defScope (top 13), [], []⟩
def d2 : He.DefD := ⟨("are_between", none), "are_between", "are_between", defArgs (top 14), defBody (top 14), defScope (top 14), [], []⟩
def d3 : He.DefD := ⟨("is_ascending", none), "is_ascending", "is_ascending", defArgs (top 15), defBody (top 15), defScope (top 15), [], []⟩
def d4 : He.DefD := ⟨("common", none), "common", "common", defArgs (top 16), defBody (top 16), defScope (top 16), [], []⟩
def d5 : He.DefD := ⟨("part", none), "part", "part", defArgs (top 17), defBody (top 17), defScope (top 17), [], []⟩
def d6 : He.DefD := ⟨("plus", none), "plus", "plus", defArgs (top 20), defBody (top 20), defScope (top 20), [], []⟩
def d7 : He.DefD := ⟨("divided", none), "divided", "divided", defArgs (top 21), defBody (top 21), defScope (top 21), [], []⟩
def d8 : He.DefD := ⟨("sum_of", none), "sum_of", "sum_of", defArgs (top 22), defBody (top 22), defScope (top 22), [], []⟩
def d9 : He.DefD := ⟨("is_row_of", none), "is_row_of", "is_row_of", defArgs (top 25), defBody (top 25), defScope (top 25), [], []⟩
def d10 : He.DefD := ⟨("is_table_of", none), "is_table_of", "is_table_of", defArgs (top 26), defBody (top 26), defScope (top 26), [], []⟩
def d11 : He.DefD := ⟨("check_table", none), "check_table", "check_table", defArgs (top 27), defBody (top 27), defScope (top 27), [], []⟩
def d12 : He.DefD := ⟨("check_task", none), "check_task", "check_task", defArgs (top 28), defBody (top 28), defScope (top 28), [], []⟩
def d13 : He.DefD := ⟨("cells_with", none), "cells_with", "cells_with", defArgs (top 29), defBody (top 29), defScope (top 29), [], []⟩
def d14 : He.DefD := ⟨("check_all_there", none), "check_all_there", "check_all_there", defArgs (top 30), defBody (top 30), defScope (top 30), [], []⟩
def d15 : He.DefD := ⟨("check_full", none), "check_full", "check_full", defArgs (top 31), defBody (top 31), defScope (top 31), [], []⟩
def d16 : He.DefD := ⟨("check_lot", none), "check_lot", "check_lot", defArgs (top 33), defBody (top 33), defScope (top 33), [], []⟩
def d17 : He.DefD := ⟨("check_asked", none), "check_asked", "check_asked", defArgs (top 34), defBody (top 34), defScope (top 34), [], []⟩
def d18 : He.DefD := ⟨("strata_by", none), "strata_by", "strata_by", defArgs (top 35), defBody (top 35), defScope (top 35), [], []⟩
def d19 : He.DefD := ⟨("strata", none), "strata", "strata", defArgs (top 36), defBody (top 36), defScope (top 36), [], []⟩
def d20 : He.DefD := ⟨("choices", none), "choices", "choices", defArgs (top 37), defBody (top 37), defScope (top 37), [], []⟩
def d21 : He.DefD := ⟨("ways_by", none), "ways_by", "ways_by", defArgs (top 38), defBody (top 38), defScope (top 38), [], []⟩
def d22 : He.DefD := ⟨("ways", none), "ways", "ways", defArgs (top 39), defBody (top 39), defScope (top 39), [], []⟩
def d23 : He.DefD := ⟨("right_of", none), "right_of", "right_of", defArgs (top 40), defBody (top 40), defScope (top 40), [], []⟩
def d24 : He.DefD := ⟨("shares_by", none), "shares_by", "shares_by", defArgs (top 41), defBody (top 41), defScope (top 41), [], []⟩
def d25 : He.DefD := ⟨("share_more", none), "share_more", "share_more", defArgs (top 42), defBody (top 42), defScope (top 42), [], []⟩
def d26 : He.DefD := ⟨("share_less", none), "share_less", "share_less", defArgs (top 43), defBody (top 43), defScope (top 43), [], []⟩
def d27 : He.DefD := ⟨("odds_told", none), "odds_told", "odds_told", defArgs (top 44), defBody (top 44), defScope (top 44), [], []⟩
def d28 : He.DefD := ⟨("middle_by", none), "middle_by", "middle_by", defArgs (top 45), defBody (top 45), defScope (top 45), [], []⟩
def d29 : He.DefD := ⟨("middle_of", none), "middle_of", "middle_of", defArgs (top 46), defBody (top 46), defScope (top 46), [], []⟩
def d30 : He.DefD := ⟨("_law_pot", none), "_law_pot", "_law_pot", defArgs (top 48), defBody (top 48), defScope (top 48), [], []⟩
def d31 : He.DefD := ⟨("_law_take", none), "_law_take", "_law_take", defArgs (top 49), defBody (top 49), defScope (top 49), [], []⟩
def d32 : He.DefD := ⟨("_law_of", none), "_law_of", "_law_of", defArgs (top 50), defBody (top 50), defScope (top 50), [], []⟩
def d33 : He.DefD := ⟨("_law_cells", none), "_law_cells", "_law_cells", defArgs (top 51), defBody (top 51), defScope (top 51), [], []⟩
def d34 : He.DefD := ⟨("_law_some", none), "_law_some", "_law_some", defArgs (top 52), defBody (top 52), defScope (top 52), [], []⟩
def d35 : He.DefD := ⟨("_law_lot", none), "_law_lot", "_law_lot", defArgs (top 53), defBody (top 53), defScope (top 53), [], []⟩
def d36 : He.DefD := ⟨("_law_part", none), "_law_part", "_law_part", defArgs (top 54), defBody (top 54), defScope (top 54), [], []⟩
def d37 : He.DefD := ⟨("_law_plus", none), "_law_plus", "_law_plus", defArgs (top 55), defBody (top 55), defScope (top 55), [], []⟩
def d38 : He.DefD := ⟨("_law_sum", none), "_law_sum", "_law_sum", defArgs (top 56), defBody (top 56), defScope (top 56), [], []⟩
def d39 : He.DefD := ⟨("_law_less", none), "_law_less", "_law_less", defArgs (top 57), defBody (top 57), defScope (top 57), [], []⟩
def d40 : He.DefD := ⟨("_law_table", none), "_law_table", "_law_table", defArgs (top 58), defBody (top 58), defScope (top 58), [], []⟩
def d41 : He.DefD := ⟨("_law_spreadings", none), "_law_spreadings", "_law_spreadings", defArgs (top 59), defBody (top 59), defScope (top 59), [], []⟩
def d42 : He.DefD := ⟨("_law_right", none), "_law_right", "_law_right", defArgs (top 60), defBody (top 60), defScope (top 60), [], []⟩
def d43 : He.DefD := ⟨("law", none), "law", "law", defArgs (top 61), defBody (top 61), defScope (top 61), [], []⟩
def fn : List He.DefD := [d0, d1, d2, d3, d4, d5, d6, d7, d8, d9, d10, d11, d12, d13, d14, d15, d16, d17, d18, d19, d20, d21, d22, d23, d24, d25, d26, d27, d28, d29, d30, d31, d32, d33, d34, d35, d36, d37, d38, d39, d40, d41, d42, d43]
def fa : List He.Fa := [.glo "is_integer", .glo "is_between", .glo "are_between", .glo "is_ascending", .glo "common", .glo "part", .glo "plus", .glo "divided", .glo "sum_of", .glo "is_row_of", .glo "is_table_of", .glo "check_table", .glo "check_task", .glo "cells_with", .glo "check_all_there", .glo "check_full", .glo "check_lot", .glo "check_asked", .glo "strata_by", .glo "strata", .glo "choices", .glo "ways_by", .glo "ways", .glo "right_of", .glo "shares_by", .glo "share_more", .glo "share_less", .glo "odds_told", .glo "middle_by", .glo "middle_of", .glo "_law_pot", .glo "_law_take", .glo "_law_of", .glo "_law_cells", .glo "_law_some", .glo "_law_lot", .glo "_law_part", .glo "_law_plus", .glo "_law_sum", .glo "_law_less", .glo "_law_table", .glo "_law_spreadings", .glo "_law_right", .glo "law"]
section
variable {P : Program} {w : World} {K : PySem.W.Frag} {h : Heap} {mg : Str → Option Value} {base : Heap} {CT : Nat → Value}
def St (P : Program) (w : World) (K : PySem.W.Frag) (mg : Str → Option Value) (base : Heap) (CT : Nat → Value) (k : Nat) (d : He.DefD) (ps : List Str) (F : List D → M D) : Prop := ∃ (a : Addr) (fd : FuncData), mg d.name = some (.ref a) ∧ FunD K d.name d.qual d.params d.body d.scope [] [] a fd ∧ FnG P w K mg base CX0 k a fd ps (spD K CT F)
def Tb (P : Program) (w : World) (K : PySem.W.Frag) (mg : Str → Option Value) (base : Heap) (CT : Nat → Value) (k : Nat) (fs : List Form) (Fs : List (List D → M D)) : Prop := FormsT P w K mg base CX0 CT k fs Fs
theorem Tb.add {k j : Nat} {fs : List Form} {Fs : List (List D → M D)} {d : He.DefD} {ps : List Str} {F : List D → M D} (f : Form) (T : Tb P w K mg base CT k fs Fs) (S : St P w K mg base CT j d ps F) (hn : d.name = f.name) (hk : j ≤ k) (hb : ∀ (kV doc pm : Value) (an : Option Addr) (cdv ct : Value) (us ws : List Value), us.length = f.n → ws.length = f.ks.length → bindArgs (PySem.W.fnOf d.name d.qual d.params d.body d.scope .none kV doc pm an cdv ct) ⟨us, f.ks.zip ws⟩ = pure (ps.zip (pmL f.perm (us ++ ws)))) : Tb P w K mg base CT k (fs ++ [f]) (Fs ++ [F]) := by
  obtain ⟨a, fd, h1, h2, h3⟩ := S
  exact .snoc T ⟨a, fd, ps, h3.mono hk, hn ▸ h1, h2.kp, FunD.kb h2 hb⟩
theorem st0 (X : K.In h) (G : h.Ns mainGlobals mg) (c : He.SaysD fa fn K) (g : GlT K mg gls nos) (T : Tb P w K mg base CT 0 [] []) : St P w K mg base CT 1 d0 ["value"] F0 := by
  obtain ⟨fd, F⟩ := c.def_ 0 (d := d0) rfl
  exact ⟨_, fd, He.glo_ok X G (c.fact 0 (f := .glo "is_integer") rfl), F, def_ok (fun _ _ _ _ _ h => h) (fun _ _ _ _ _ _ => pass00) F T g (Bool.and_eq_true_iff.mp ck0).1 (Bool.and_eq_true_iff.mp ck0).2⟩
theorem fb0 : ∀ (kV doc pm : Value) (an : Option Addr) (cdv ct : Value) (us ws : List Value), us.length = fo0.n → ws.length = fo0.ks.length → bindArgs (PySem.W.fnOf d0.name d0.qual d0.params d0.body d0.scope .none kV doc pm an cdv ct) ⟨us, fo0.ks.zip ws⟩ = pure (List.zip (["value"] : List Str) (pmL fo0.perm (us ++ ws))) :=
  fun _ _ _ _ _ _ us ws h1 h2 => match us, ws, h1, h2 with | [_], [], _, _ => rfl
theorem st1 (X : K.In h) (G : h.Ns mainGlobals mg) (c : He.SaysD fa fn K) (g : GlT K mg gls nos) (T : Tb P w K mg base CT 1 [fo0] [F0]) : St P w K mg base CT 2 d1 ["value", "low", "high"] F1 := by
  obtain ⟨fd, F⟩ := c.def_ 1 (d := d1) rfl
  exact ⟨_, fd, He.glo_ok X G (c.fact 1 (f := .glo "is_between") rfl), F, def_ok (fun _ _ _ _ _ h => h) (fun _ _ _ _ _ _ => pass00) F T g (Bool.and_eq_true_iff.mp ck1).1 (Bool.and_eq_true_iff.mp ck1).2⟩
theorem fb1 : ∀ (kV doc pm : Value) (an : Option Addr) (cdv ct : Value) (us ws : List Value), us.length = fo1.n → ws.length = fo1.ks.length → bindArgs (PySem.W.fnOf d1.name d1.qual d1.params d1.body d1.scope .none kV doc pm an cdv ct) ⟨us, fo1.ks.zip ws⟩ = pure (List.zip (["value", "low", "high"] : List Str) (pmL fo1.perm (us ++ ws))) :=
  fun _ _ _ _ _ _ us ws h1 h2 => match us, ws, h1, h2 with | [_, _, _], [], _, _ => rfl
theorem st2 (X : K.In h) (G : h.Ns mainGlobals mg) (c : He.SaysD fa fn K) (g : GlT K mg gls nos) (T : Tb P w K mg base CT 2 [fo0, fo1] [F0, F1]) : St P w K mg base CT 3 d2 ["value", "low", "high"] F2 := by
  obtain ⟨fd, F⟩ := c.def_ 2 (d := d2) rfl
  exact ⟨_, fd, He.glo_ok X G (c.fact 2 (f := .glo "are_between") rfl), F, def_ok (fun _ _ _ _ _ h => h) (fun _ _ _ _ _ _ => pass00) F T g (Bool.and_eq_true_iff.mp ck2).1 (Bool.and_eq_true_iff.mp ck2).2⟩
theorem fb2 : ∀ (kV doc pm : Value) (an : Option Addr) (cdv ct : Value) (us ws : List Value), us.length = fo2.n → ws.length = fo2.ks.length → bindArgs (PySem.W.fnOf d2.name d2.qual d2.params d2.body d2.scope .none kV doc pm an cdv ct) ⟨us, fo2.ks.zip ws⟩ = pure (List.zip (["value", "low", "high"] : List Str) (pmL fo2.perm (us ++ ws))) :=
  fun _ _ _ _ _ _ us ws h1 h2 => match us, ws, h1, h2 with | [_, _, _], [], _, _ => rfl
theorem st3 (X : K.In h) (G : h.Ns mainGlobals mg) (c : He.SaysD fa fn K) (g : GlT K mg gls nos) (T : Tb P w K mg base CT 3 [fo0, fo1, fo2] [F0, F1, F2]) : St P w K mg base CT 4 d3 ["rows"] F3 := by
  obtain ⟨fd, F⟩ := c.def_ 3 (d := d3) rfl
  exact ⟨_, fd, He.glo_ok X G (c.fact 3 (f := .glo "is_ascending") rfl), F, def_ok (fun _ _ _ _ _ h => h) (fun _ _ _ _ _ _ => pass00) F T g (Bool.and_eq_true_iff.mp ck3).1 (Bool.and_eq_true_iff.mp ck3).2⟩
theorem fb3 : ∀ (kV doc pm : Value) (an : Option Addr) (cdv ct : Value) (us ws : List Value), us.length = fo3.n → ws.length = fo3.ks.length → bindArgs (PySem.W.fnOf d3.name d3.qual d3.params d3.body d3.scope .none kV doc pm an cdv ct) ⟨us, fo3.ks.zip ws⟩ = pure (List.zip (["rows"] : List Str) (pmL fo3.perm (us ++ ws))) :=
  fun _ _ _ _ _ _ us ws h1 h2 => match us, ws, h1, h2 with | [_], [], _, _ => rfl
theorem st4 (X : K.In h) (G : h.Ns mainGlobals mg) (c : He.SaysD fa fn K) (g : GlT K mg gls nos) (T : Tb P w K mg base CT 4 [fo0, fo1, fo2, fo3] [F0, F1, F2, F3]) : St P w K mg base CT 5 d4 ["one", "other"] F4 := by
  obtain ⟨fd, F⟩ := c.def_ 4 (d := d4) rfl
  exact ⟨_, fd, He.glo_ok X G (c.fact 4 (f := .glo "common") rfl), F, def_ok (fun _ _ _ _ _ h => h) (fun _ _ _ _ _ _ => pass00) F T g (Bool.and_eq_true_iff.mp ck4).1 (Bool.and_eq_true_iff.mp ck4).2⟩
theorem fb4 : ∀ (kV doc pm : Value) (an : Option Addr) (cdv ct : Value) (us ws : List Value), us.length = fo4.n → ws.length = fo4.ks.length → bindArgs (PySem.W.fnOf d4.name d4.qual d4.params d4.body d4.scope .none kV doc pm an cdv ct) ⟨us, fo4.ks.zip ws⟩ = pure (List.zip (["one", "other"] : List Str) (pmL fo4.perm (us ++ ws))) :=
  fun _ _ _ _ _ _ us ws h1 h2 => match us, ws, h1, h2 with | [_, _], [], _, _ => rfl
theorem st5 (X : K.In h) (G : h.Ns mainGlobals mg) (c : He.SaysD fa fn K) (g : GlT K mg gls nos) (T : Tb P w K mg base CT 5 [fo0, fo1, fo2, fo3, fo4] [F0, F1, F2, F3, F4]) : St P w K mg base CT 6 d5 ["top", "low"] F5 := by
  obtain ⟨fd, F⟩ := c.def_ 5 (d := d5) rfl
  exact ⟨_, fd, He.glo_ok X G (c.fact 5 (f := .glo "part") rfl), F, def_ok (fun _ _ _ _ _ h => h) (fun _ _ _ _ _ _ => pass00) F T g (Bool.and_eq_true_iff.mp ck5).1 (Bool.and_eq_true_iff.mp ck5).2⟩
theorem fb5 : ∀ (kV doc pm : Value) (an : Option Addr) (cdv ct : Value) (us ws : List Value), us.length = fo5.n → ws.length = fo5.ks.length → bindArgs (PySem.W.fnOf d5.name d5.qual d5.params d5.body d5.scope .none kV doc pm an cdv ct) ⟨us, fo5.ks.zip ws⟩ = pure (List.zip (["top", "low"] : List Str) (pmL fo5.perm (us ++ ws))) :=
  fun _ _ _ _ _ _ us ws h1 h2 => match us, ws, h1, h2 with | [_, _], [], _, _ => rfl
theorem st6 (X : K.In h) (G : h.Ns mainGlobals mg) (c : He.SaysD fa fn K) (g : GlT K mg gls nos) (T : Tb P w K mg base CT 6 [fo0, fo1, fo2, fo3, fo4, fo5] [F0, F1, F2, F3, F4, F5]) : St P w K mg base CT 7 d6 ["one", "other"] F6 := by
  obtain ⟨fd, F⟩ := c.def_ 6 (d := d6) rfl
  exact ⟨_, fd, He.glo_ok X G (c.fact 6 (f := .glo "plus") rfl), F, def_ok (fun _ _ _ _ _ h => h) (fun _ _ _ _ _ _ => pass00) F T g (Bool.and_eq_true_iff.mp ck6).1 (Bool.and_eq_true_iff.mp ck6).2⟩
theorem fb6 : ∀ (kV doc pm : Value) (an : Option Addr) (cdv ct : Value) (us ws : List Value), us.length = fo6.n → ws.length = fo6.ks.length → bindArgs (PySem.W.fnOf d6.name d6.qual d6.params d6.body d6.scope .none kV doc pm an cdv ct) ⟨us, fo6.ks.zip ws⟩ = pure (List.zip (["one", "other"] : List Str) (pmL fo6.perm (us ++ ws))) :=
  fun _ _ _ _ _ _ us ws h1 h2 => match us, ws, h1, h2 with | [_, _], [], _, _ => rfl
theorem st7 (X : K.In h) (G : h.Ns mainGlobals mg) (c : He.SaysD fa fn K) (g : GlT K mg gls nos) (T : Tb P w K mg base CT 7 [fo0, fo1, fo2, fo3, fo4, fo5, fo6] [F0, F1, F2, F3, F4, F5, F6]) : St P w K mg base CT 8 d7 ["one", "other"] F7 := by
  obtain ⟨fd, F⟩ := c.def_ 7 (d := d7) rfl
  exact ⟨_, fd, He.glo_ok X G (c.fact 7 (f := .glo "divided") rfl), F, def_ok (fun _ _ _ _ _ h => h) (fun _ _ _ _ _ _ => pass00) F T g (Bool.and_eq_true_iff.mp ck7).1 (Bool.and_eq_true_iff.mp ck7).2⟩
theorem fb7 : ∀ (kV doc pm : Value) (an : Option Addr) (cdv ct : Value) (us ws : List Value), us.length = fo7.n → ws.length = fo7.ks.length → bindArgs (PySem.W.fnOf d7.name d7.qual d7.params d7.body d7.scope .none kV doc pm an cdv ct) ⟨us, fo7.ks.zip ws⟩ = pure (List.zip (["one", "other"] : List Str) (pmL fo7.perm (us ++ ws))) :=
  fun _ _ _ _ _ _ us ws h1 h2 => match us, ws, h1, h2 with | [_, _], [], _, _ => rfl
theorem st8 (X : K.In h) (G : h.Ns mainGlobals mg) (c : He.SaysD fa fn K) (g : GlT K mg gls nos) (T : Tb P w K mg base CT 8 [fo0, fo1, fo2, fo3, fo4, fo5, fo6, fo7] [F0, F1, F2, F3, F4, F5, F6, F7]) : St P w K mg base CT 9 d8 ["some"] F8 := by
  obtain ⟨fd, F⟩ := c.def_ 8 (d := d8) rfl
  exact ⟨_, fd, He.glo_ok X G (c.fact 8 (f := .glo "sum_of") rfl), F, def_ok (fun _ _ _ _ _ h => h) (fun _ _ _ _ _ _ => pass00) F T g (Bool.and_eq_true_iff.mp ck8).1 (Bool.and_eq_true_iff.mp ck8).2⟩
theorem fb8 : ∀ (kV doc pm : Value) (an : Option Addr) (cdv ct : Value) (us ws : List Value), us.length = fo8.n → ws.length = fo8.ks.length → bindArgs (PySem.W.fnOf d8.name d8.qual d8.params d8.body d8.scope .none kV doc pm an cdv ct) ⟨us, fo8.ks.zip ws⟩ = pure (List.zip (["some"] : List Str) (pmL fo8.perm (us ++ ws))) :=
  fun _ _ _ _ _ _ us ws h1 h2 => match us, ws, h1, h2 with | [_], [], _, _ => rfl
theorem st9 (X : K.In h) (G : h.Ns mainGlobals mg) (c : He.SaysD fa fn K) (g : GlT K mg gls nos) (T : Tb P w K mg base CT 9 [fo0, fo1, fo2, fo3, fo4, fo5, fo6, fo7, fo8] [F0, F1, F2, F3, F4, F5, F6, F7, F8]) : St P w K mg base CT 10 d9 ["value"] F9 := by
  obtain ⟨fd, F⟩ := c.def_ 9 (d := d9) rfl
  exact ⟨_, fd, He.glo_ok X G (c.fact 9 (f := .glo "is_row_of") rfl), F, def_ok (fun _ _ _ _ _ h => h) (fun _ _ _ _ _ _ => pass00) F T g (Bool.and_eq_true_iff.mp ck9).1 (Bool.and_eq_true_iff.mp ck9).2⟩
theorem fb9 : ∀ (kV doc pm : Value) (an : Option Addr) (cdv ct : Value) (us ws : List Value), us.length = fo9.n → ws.length = fo9.ks.length → bindArgs (PySem.W.fnOf d9.name d9.qual d9.params d9.body d9.scope .none kV doc pm an cdv ct) ⟨us, fo9.ks.zip ws⟩ = pure (List.zip (["value"] : List Str) (pmL fo9.perm (us ++ ws))) :=
  fun _ _ _ _ _ _ us ws h1 h2 => match us, ws, h1, h2 with | [_], [], _, _ => rfl
theorem st10 (X : K.In h) (G : h.Ns mainGlobals mg) (c : He.SaysD fa fn K) (g : GlT K mg gls nos) (T : Tb P w K mg base CT 10 [fo0, fo1, fo2, fo3, fo4, fo5, fo6, fo7, fo8, fo9] [F0, F1, F2, F3, F4, F5, F6, F7, F8, F9]) : St P w K mg base CT 11 d10 ["value"] F10 := by
  obtain ⟨fd, F⟩ := c.def_ 10 (d := d10) rfl
  exact ⟨_, fd, He.glo_ok X G (c.fact 10 (f := .glo "is_table_of") rfl), F, def_ok (fun _ _ _ _ _ h => h) (fun _ _ _ _ _ _ => pass00) F T g (Bool.and_eq_true_iff.mp ck10).1 (Bool.and_eq_true_iff.mp ck10).2⟩
theorem fb10 : ∀ (kV doc pm : Value) (an : Option Addr) (cdv ct : Value) (us ws : List Value), us.length = fo10.n → ws.length = fo10.ks.length → bindArgs (PySem.W.fnOf d10.name d10.qual d10.params d10.body d10.scope .none kV doc pm an cdv ct) ⟨us, fo10.ks.zip ws⟩ = pure (List.zip (["value"] : List Str) (pmL fo10.perm (us ++ ws))) :=
  fun _ _ _ _ _ _ us ws h1 h2 => match us, ws, h1, h2 with | [_], [], _, _ => rfl
theorem st11 (X : K.In h) (G : h.Ns mainGlobals mg) (c : He.SaysD fa fn K) (g : GlT K mg gls nos) (T : Tb P w K mg base CT 11 [fo0, fo1, fo2, fo3, fo4, fo5, fo6, fo7, fo8, fo9, fo10] [F0, F1, F2, F3, F4, F5, F6, F7, F8, F9, F10]) : St P w K mg base CT 12 d11 ["table"] F11 := by
  obtain ⟨fd, F⟩ := c.def_ 11 (d := d11) rfl
  exact ⟨_, fd, He.glo_ok X G (c.fact 11 (f := .glo "check_table") rfl), F, def_ok (fun _ _ _ _ _ h => h) (fun _ _ _ _ _ _ => pass00) F T g (Bool.and_eq_true_iff.mp ck11).1 (Bool.and_eq_true_iff.mp ck11).2⟩
theorem fb11 : ∀ (kV doc pm : Value) (an : Option Addr) (cdv ct : Value) (us ws : List Value), us.length = fo11.n → ws.length = fo11.ks.length → bindArgs (PySem.W.fnOf d11.name d11.qual d11.params d11.body d11.scope .none kV doc pm an cdv ct) ⟨us, fo11.ks.zip ws⟩ = pure (List.zip (["table"] : List Str) (pmL fo11.perm (us ++ ws))) :=
  fun _ _ _ _ _ _ us ws h1 h2 => match us, ws, h1, h2 with | [_], [], _, _ => rfl
theorem st12 (X : K.In h) (G : h.Ns mainGlobals mg) (c : He.SaysD fa fn K) (g : GlT K mg gls nos) (T : Tb P w K mg base CT 12 [fo0, fo1, fo2, fo3, fo4, fo5, fo6, fo7, fo8, fo9, fo10, fo11] [F0, F1, F2, F3, F4, F5, F6, F7, F8, F9, F10, F11]) : St P w K mg base CT 13 d12 ["table", "task"] F12 := by
  obtain ⟨fd, F⟩ := c.def_ 12 (d := d12) rfl
  exact ⟨_, fd, He.glo_ok X G (c.fact 12 (f := .glo "check_task") rfl), F, def_ok (fun _ _ _ _ _ h => h) (fun _ _ _ _ _ _ => pass00) F T g (Bool.and_eq_true_iff.mp ck12).1 (Bool.and_eq_true_iff.mp ck12).2⟩
theorem fb12 : ∀ (kV doc pm : Value) (an : Option Addr) (cdv ct : Value) (us ws : List Value), us.length = fo12.n → ws.length = fo12.ks.length → bindArgs (PySem.W.fnOf d12.name d12.qual d12.params d12.body d12.scope .none kV doc pm an cdv ct) ⟨us, fo12.ks.zip ws⟩ = pure (List.zip (["table", "task"] : List Str) (pmL fo12.perm (us ++ ws))) :=
  fun _ _ _ _ _ _ us ws h1 h2 => match us, ws, h1, h2 with | [_, _], [], _, _ => rfl
theorem st13 (X : K.In h) (G : h.Ns mainGlobals mg) (c : He.SaysD fa fn K) (g : GlT K mg gls nos) (T : Tb P w K mg base CT 13 [fo0, fo1, fo2, fo3, fo4, fo5, fo6, fo7, fo8, fo9, fo10, fo11, fo12] [F0, F1, F2, F3, F4, F5, F6, F7, F8, F9, F10, F11, F12]) : St P w K mg base CT 14 d13 ["table", "sign"] F13 := by
  obtain ⟨fd, F⟩ := c.def_ 13 (d := d13) rfl
  exact ⟨_, fd, He.glo_ok X G (c.fact 13 (f := .glo "cells_with") rfl), F, def_ok (fun _ _ _ _ _ h => h) (fun _ _ _ _ _ _ => pass00) F T g (Bool.and_eq_true_iff.mp ck13).1 (Bool.and_eq_true_iff.mp ck13).2⟩
theorem fb13 : ∀ (kV doc pm : Value) (an : Option Addr) (cdv ct : Value) (us ws : List Value), us.length = fo13.n → ws.length = fo13.ks.length → bindArgs (PySem.W.fnOf d13.name d13.qual d13.params d13.body d13.scope .none kV doc pm an cdv ct) ⟨us, fo13.ks.zip ws⟩ = pure (List.zip (["table", "sign"] : List Str) (pmL fo13.perm (us ++ ws))) :=
  fun _ _ _ _ _ _ us ws h1 h2 => match us, ws, h1, h2 with | [_, _], [], _, _ => rfl
theorem st14 (X : K.In h) (G : h.Ns mainGlobals mg) (c : He.SaysD fa fn K) (g : GlT K mg gls nos) (T : Tb P w K mg base CT 14 [fo0, fo1, fo2, fo3, fo4, fo5, fo6, fo7, fo8, fo9, fo10, fo11, fo12, fo13] [F0, F1, F2, F3, F4, F5, F6, F7, F8, F9, F10, F11, F12, F13]) : St P w K mg base CT 15 d14 ["table"] F14 := by
  obtain ⟨fd, F⟩ := c.def_ 14 (d := d14) rfl
  exact ⟨_, fd, He.glo_ok X G (c.fact 14 (f := .glo "check_all_there") rfl), F, def_ok (fun _ _ _ _ _ h => h) (fun _ _ _ _ _ _ => pass00) F T g (Bool.and_eq_true_iff.mp ck14).1 (Bool.and_eq_true_iff.mp ck14).2⟩
theorem fb14 : ∀ (kV doc pm : Value) (an : Option Addr) (cdv ct : Value) (us ws : List Value), us.length = fo14.n → ws.length = fo14.ks.length → bindArgs (PySem.W.fnOf d14.name d14.qual d14.params d14.body d14.scope .none kV doc pm an cdv ct) ⟨us, fo14.ks.zip ws⟩ = pure (List.zip (["table"] : List Str) (pmL fo14.perm (us ++ ws))) :=
  fun _ _ _ _ _ _ us ws h1 h2 => match us, ws, h1, h2 with | [_], [], _, _ => rfl
theorem st15 (X : K.In h) (G : h.Ns mainGlobals mg) (c : He.SaysD fa fn K) (g : GlT K mg gls nos) (T : Tb P w K mg base CT 15 [fo0, fo1, fo2, fo3, fo4, fo5, fo6, fo7, fo8, fo9, fo10, fo11, fo12, fo13, fo14] [F0, F1, F2, F3, F4, F5, F6, F7, F8, F9, F10, F11, F12, F13, F14]) : St P w K mg base CT 16 d15 ["table"] F15 := by
  obtain ⟨fd, F⟩ := c.def_ 15 (d := d15) rfl
  exact ⟨_, fd, He.glo_ok X G (c.fact 15 (f := .glo "check_full") rfl), F, def_ok (fun _ _ _ _ _ h => h) (fun _ _ _ _ _ _ => pass00) F T g (Bool.and_eq_true_iff.mp ck15).1 (Bool.and_eq_true_iff.mp ck15).2⟩
theorem fb15 : ∀ (kV doc pm : Value) (an : Option Addr) (cdv ct : Value) (us ws : List Value), us.length = fo15.n → ws.length = fo15.ks.length → bindArgs (PySem.W.fnOf d15.name d15.qual d15.params d15.body d15.scope .none kV doc pm an cdv ct) ⟨us, fo15.ks.zip ws⟩ = pure (List.zip (["table"] : List Str) (pmL fo15.perm (us ++ ws))) :=
  fun _ _ _ _ _ _ us ws h1 h2 => match us, ws, h1, h2 with | [_], [], _, _ => rfl
theorem st16 (X : K.In h) (G : h.Ns mainGlobals mg) (c : He.SaysD fa fn K) (g : GlT K mg gls nos) (T : Tb P w K mg base CT 16 [fo0, fo1, fo2, fo3, fo4, fo5, fo6, fo7, fo8, fo9, fo10, fo11, fo12, fo13, fo14, fo15] [F0, F1, F2, F3, F4, F5, F6, F7, F8, F9, F10, F11, F12, F13, F14, F15]) : St P w K mg base CT 17 d16 ["table", "lot"] F16 := by
  obtain ⟨fd, F⟩ := c.def_ 16 (d := d16) rfl
  exact ⟨_, fd, He.glo_ok X G (c.fact 16 (f := .glo "check_lot") rfl), F, def_ok (fun _ _ _ _ _ h => h) (fun _ _ _ _ _ _ => pass00) F T g (Bool.and_eq_true_iff.mp ck16).1 (Bool.and_eq_true_iff.mp ck16).2⟩
theorem fb16 : ∀ (kV doc pm : Value) (an : Option Addr) (cdv ct : Value) (us ws : List Value), us.length = fo16.n → ws.length = fo16.ks.length → bindArgs (PySem.W.fnOf d16.name d16.qual d16.params d16.body d16.scope .none kV doc pm an cdv ct) ⟨us, fo16.ks.zip ws⟩ = pure (List.zip (["table", "lot"] : List Str) (pmL fo16.perm (us ++ ws))) :=
  fun _ _ _ _ _ _ us ws h1 h2 => match us, ws, h1, h2 with | [_, _], [], _, _ => rfl
theorem st17 (X : K.In h) (G : h.Ns mainGlobals mg) (c : He.SaysD fa fn K) (g : GlT K mg gls nos) (T : Tb P w K mg base CT 17 [fo0, fo1, fo2, fo3, fo4, fo5, fo6, fo7, fo8, fo9, fo10, fo11, fo12, fo13, fo14, fo15, fo16] [F0, F1, F2, F3, F4, F5, F6, F7, F8, F9, F10, F11, F12, F13, F14, F15, F16]) : St P w K mg base CT 18 d17 ["table", "lot", "task"] F17 := by
  obtain ⟨fd, F⟩ := c.def_ 17 (d := d17) rfl
  exact ⟨_, fd, He.glo_ok X G (c.fact 17 (f := .glo "check_asked") rfl), F, def_ok (fun _ _ _ _ _ h => h) (fun _ _ _ _ _ _ => pass00) F T g (Bool.and_eq_true_iff.mp ck17).1 (Bool.and_eq_true_iff.mp ck17).2⟩
theorem fb17 : ∀ (kV doc pm : Value) (an : Option Addr) (cdv ct : Value) (us ws : List Value), us.length = fo17.n → ws.length = fo17.ks.length → bindArgs (PySem.W.fnOf d17.name d17.qual d17.params d17.body d17.scope .none kV doc pm an cdv ct) ⟨us, fo17.ks.zip ws⟩ = pure (List.zip (["table", "lot", "task"] : List Str) (pmL fo17.perm (us ++ ws))) :=
  fun _ _ _ _ _ _ us ws h1 h2 => match us, ws, h1, h2 with | [_, _, _], [], _, _ => rfl
theorem st18 (X : K.In h) (G : h.Ns mainGlobals mg) (c : He.SaysD fa fn K) (g : GlT K mg gls nos) (T : Tb P w K mg base CT 18 [fo0, fo1, fo2, fo3, fo4, fo5, fo6, fo7, fo8, fo9, fo10, fo11, fo12, fo13, fo14, fo15, fo16, fo17] [F0, F1, F2, F3, F4, F5, F6, F7, F8, F9, F10, F11, F12, F13, F14, F15, F16, F17]) : St P w K mg base CT 19 d18 ["table", "lot", "task"] F18 := by
  obtain ⟨fd, F⟩ := c.def_ 18 (d := d18) rfl
  exact ⟨_, fd, He.glo_ok X G (c.fact 18 (f := .glo "strata_by") rfl), F, def_ok (fun _ _ _ _ _ h => h) (fun _ _ _ _ _ _ => pass00) F T g (Bool.and_eq_true_iff.mp ck18).1 (Bool.and_eq_true_iff.mp ck18).2⟩
theorem fb18 : ∀ (kV doc pm : Value) (an : Option Addr) (cdv ct : Value) (us ws : List Value), us.length = fo18.n → ws.length = fo18.ks.length → bindArgs (PySem.W.fnOf d18.name d18.qual d18.params d18.body d18.scope .none kV doc pm an cdv ct) ⟨us, fo18.ks.zip ws⟩ = pure (List.zip (["table", "lot", "task"] : List Str) (pmL fo18.perm (us ++ ws))) :=
  fun _ _ _ _ _ _ us ws h1 h2 => match us, ws, h1, h2 with | [_, _, _], [], _, _ => rfl
theorem st19 (X : K.In h) (G : h.Ns mainGlobals mg) (c : He.SaysD fa fn K) (g : GlT K mg gls nos) (T : Tb P w K mg base CT 19 [fo0, fo1, fo2, fo3, fo4, fo5, fo6, fo7, fo8, fo9, fo10, fo11, fo12, fo13, fo14, fo15, fo16, fo17, fo18] [F0, F1, F2, F3, F4, F5, F6, F7, F8, F9, F10, F11, F12, F13, F14, F15, F16, F17, F18]) : St P w K mg base CT 20 d19 ["table", "lot", "task"] F19 := by
  obtain ⟨fd, F⟩ := c.def_ 19 (d := d19) rfl
  exact ⟨_, fd, He.glo_ok X G (c.fact 19 (f := .glo "strata") rfl), F, def_ok (fun _ _ _ _ _ h => h) (fun _ _ _ _ _ _ => pass00) F T g (Bool.and_eq_true_iff.mp ck19).1 (Bool.and_eq_true_iff.mp ck19).2⟩
theorem fb19 : ∀ (kV doc pm : Value) (an : Option Addr) (cdv ct : Value) (us ws : List Value), us.length = fo19.n → ws.length = fo19.ks.length → bindArgs (PySem.W.fnOf d19.name d19.qual d19.params d19.body d19.scope .none kV doc pm an cdv ct) ⟨us, fo19.ks.zip ws⟩ = pure (List.zip (["table", "lot", "task"] : List Str) (pmL fo19.perm (us ++ ws))) :=
  fun _ _ _ _ _ _ us ws h1 h2 => match us, ws, h1, h2 with | [], [_, _, _], _, _ => rfl
theorem st20 (X : K.In h) (G : h.Ns mainGlobals mg) (c : He.SaysD fa fn K) (g : GlT K mg gls nos) (T : Tb P w K mg base CT 20 [fo0, fo1, fo2, fo3, fo4, fo5, fo6, fo7, fo8, fo9, fo10, fo11, fo12, fo13, fo14, fo15, fo16, fo17, fo18, fo19] [F0, F1, F2, F3, F4, F5, F6, F7, F8, F9, F10, F11, F12, F13, F14, F15, F16, F17, F18, F19]) : St P w K mg base CT 21 d20 ["some", "many"] F20 := by
  obtain ⟨fd, F⟩ := c.def_ 20 (d := d20) rfl
  exact ⟨_, fd, He.glo_ok X G (c.fact 20 (f := .glo "choices") rfl), F, def_ok (fun _ _ _ _ _ h => h) (fun _ _ _ _ _ _ => pass00) F T g (Bool.and_eq_true_iff.mp ck20).1 (Bool.and_eq_true_iff.mp ck20).2⟩
theorem fb20 : ∀ (kV doc pm : Value) (an : Option Addr) (cdv ct : Value) (us ws : List Value), us.length = fo20.n → ws.length = fo20.ks.length → bindArgs (PySem.W.fnOf d20.name d20.qual d20.params d20.body d20.scope .none kV doc pm an cdv ct) ⟨us, fo20.ks.zip ws⟩ = pure (List.zip (["some", "many"] : List Str) (pmL fo20.perm (us ++ ws))) :=
  fun _ _ _ _ _ _ us ws h1 h2 => match us, ws, h1, h2 with | [_, _], [], _, _ => rfl
theorem st21 (X : K.In h) (G : h.Ns mainGlobals mg) (c : He.SaysD fa fn K) (g : GlT K mg gls nos) (T : Tb P w K mg base CT 21 [fo0, fo1, fo2, fo3, fo4, fo5, fo6, fo7, fo8, fo9, fo10, fo11, fo12, fo13, fo14, fo15, fo16, fo17, fo18, fo19, fo20] [F0, F1, F2, F3, F4, F5, F6, F7, F8, F9, F10, F11, F12, F13, F14, F15, F16, F17, F18, F19, F20]) : St P w K mg base CT 22 d21 ["table", "lot", "task"] F21 := by
  obtain ⟨fd, F⟩ := c.def_ 21 (d := d21) rfl
  exact ⟨_, fd, He.glo_ok X G (c.fact 21 (f := .glo "ways_by") rfl), F, def_ok (fun _ _ _ _ _ h => h) (fun _ _ _ _ _ _ => pass00) F T g (Bool.and_eq_true_iff.mp ck21).1 (Bool.and_eq_true_iff.mp ck21).2⟩
theorem fb21 : ∀ (kV doc pm : Value) (an : Option Addr) (cdv ct : Value) (us ws : List Value), us.length = fo21.n → ws.length = fo21.ks.length → bindArgs (PySem.W.fnOf d21.name d21.qual d21.params d21.body d21.scope .none kV doc pm an cdv ct) ⟨us, fo21.ks.zip ws⟩ = pure (List.zip (["table", "lot", "task"] : List Str) (pmL fo21.perm (us ++ ws))) :=
  fun _ _ _ _ _ _ us ws h1 h2 => match us, ws, h1, h2 with | [_, _, _], [], _, _ => rfl
theorem st22 (X : K.In h) (G : h.Ns mainGlobals mg) (c : He.SaysD fa fn K) (g : GlT K mg gls nos) (T : Tb P w K mg base CT 22 [fo0, fo1, fo2, fo3, fo4, fo5, fo6, fo7, fo8, fo9, fo10, fo11, fo12, fo13, fo14, fo15, fo16, fo17, fo18, fo19, fo20, fo21] [F0, F1, F2, F3, F4, F5, F6, F7, F8, F9, F10, F11, F12, F13, F14, F15, F16, F17, F18, F19, F20, F21]) : St P w K mg base CT 23 d22 ["table", "lot", "task"] F22 := by
  obtain ⟨fd, F⟩ := c.def_ 22 (d := d22) rfl
  exact ⟨_, fd, He.glo_ok X G (c.fact 22 (f := .glo "ways") rfl), F, def_ok (fun _ _ _ _ _ h => h) (fun _ _ _ _ _ _ => pass00) F T g (Bool.and_eq_true_iff.mp ck22).1 (Bool.and_eq_true_iff.mp ck22).2⟩
theorem fb22 : ∀ (kV doc pm : Value) (an : Option Addr) (cdv ct : Value) (us ws : List Value), us.length = fo22.n → ws.length = fo22.ks.length → bindArgs (PySem.W.fnOf d22.name d22.qual d22.params d22.body d22.scope .none kV doc pm an cdv ct) ⟨us, fo22.ks.zip ws⟩ = pure (List.zip (["table", "lot", "task"] : List Str) (pmL fo22.perm (us ++ ws))) :=
  fun _ _ _ _ _ _ us ws h1 h2 => match us, ws, h1, h2 with | [], [_, _, _], _, _ => rfl
theorem st23 (X : K.In h) (G : h.Ns mainGlobals mg) (c : He.SaysD fa fn K) (g : GlT K mg gls nos) (T : Tb P w K mg base CT 23 [fo0, fo1, fo2, fo3, fo4, fo5, fo6, fo7, fo8, fo9, fo10, fo11, fo12, fo13, fo14, fo15, fo16, fo17, fo18, fo19, fo20, fo21, fo22] [F0, F1, F2, F3, F4, F5, F6, F7, F8, F9, F10, F11, F12, F13, F14, F15, F16, F17, F18, F19, F20, F21, F22]) : St P w K mg base CT 24 d23 ["table", "lot", "task"] F23 := by
  obtain ⟨fd, F⟩ := c.def_ 23 (d := d23) rfl
  exact ⟨_, fd, He.glo_ok X G (c.fact 23 (f := .glo "right_of") rfl), F, def_ok (fun _ _ _ _ _ h => h) (fun _ _ _ _ _ _ => pass00) F T g (Bool.and_eq_true_iff.mp ck23).1 (Bool.and_eq_true_iff.mp ck23).2⟩
theorem fb23 : ∀ (kV doc pm : Value) (an : Option Addr) (cdv ct : Value) (us ws : List Value), us.length = fo23.n → ws.length = fo23.ks.length → bindArgs (PySem.W.fnOf d23.name d23.qual d23.params d23.body d23.scope .none kV doc pm an cdv ct) ⟨us, fo23.ks.zip ws⟩ = pure (List.zip (["table", "lot", "task"] : List Str) (pmL fo23.perm (us ++ ws))) :=
  fun _ _ _ _ _ _ us ws h1 h2 => match us, ws, h1, h2 with | [_, _, _], [], _, _ => rfl
theorem st24 (X : K.In h) (G : h.Ns mainGlobals mg) (c : He.SaysD fa fn K) (g : GlT K mg gls nos) (T : Tb P w K mg base CT 24 [fo0, fo1, fo2, fo3, fo4, fo5, fo6, fo7, fo8, fo9, fo10, fo11, fo12, fo13, fo14, fo15, fo16, fo17, fo18, fo19, fo20, fo21, fo22, fo23] [F0, F1, F2, F3, F4, F5, F6, F7, F8, F9, F10, F11, F12, F13, F14, F15, F16, F17, F18, F19, F20, F21, F22, F23]) : St P w K mg base CT 25 d24 ["table", "lot", "task"] F24 := by
  obtain ⟨fd, F⟩ := c.def_ 24 (d := d24) rfl
  exact ⟨_, fd, He.glo_ok X G (c.fact 24 (f := .glo "shares_by") rfl), F, def_ok (fun _ _ _ _ _ h => h) (fun _ _ _ _ _ _ => pass00) F T g (Bool.and_eq_true_iff.mp ck24).1 (Bool.and_eq_true_iff.mp ck24).2⟩
theorem fb24 : ∀ (kV doc pm : Value) (an : Option Addr) (cdv ct : Value) (us ws : List Value), us.length = fo24.n → ws.length = fo24.ks.length → bindArgs (PySem.W.fnOf d24.name d24.qual d24.params d24.body d24.scope .none kV doc pm an cdv ct) ⟨us, fo24.ks.zip ws⟩ = pure (List.zip (["table", "lot", "task"] : List Str) (pmL fo24.perm (us ++ ws))) :=
  fun _ _ _ _ _ _ us ws h1 h2 => match us, ws, h1, h2 with | [_, _, _], [], _, _ => rfl
theorem st25 (X : K.In h) (G : h.Ns mainGlobals mg) (c : He.SaysD fa fn K) (g : GlT K mg gls nos) (T : Tb P w K mg base CT 25 [fo0, fo1, fo2, fo3, fo4, fo5, fo6, fo7, fo8, fo9, fo10, fo11, fo12, fo13, fo14, fo15, fo16, fo17, fo18, fo19, fo20, fo21, fo22, fo23, fo24] [F0, F1, F2, F3, F4, F5, F6, F7, F8, F9, F10, F11, F12, F13, F14, F15, F16, F17, F18, F19, F20, F21, F22, F23, F24]) : St P w K mg base CT 26 d25 ["table", "lot", "task"] F25 := by
  obtain ⟨fd, F⟩ := c.def_ 25 (d := d25) rfl
  exact ⟨_, fd, He.glo_ok X G (c.fact 25 (f := .glo "share_more") rfl), F, def_ok (fun _ _ _ _ _ h => h) (fun _ _ _ _ _ _ => pass00) F T g (Bool.and_eq_true_iff.mp ck25).1 (Bool.and_eq_true_iff.mp ck25).2⟩
theorem fb25 : ∀ (kV doc pm : Value) (an : Option Addr) (cdv ct : Value) (us ws : List Value), us.length = fo25.n → ws.length = fo25.ks.length → bindArgs (PySem.W.fnOf d25.name d25.qual d25.params d25.body d25.scope .none kV doc pm an cdv ct) ⟨us, fo25.ks.zip ws⟩ = pure (List.zip (["table", "lot", "task"] : List Str) (pmL fo25.perm (us ++ ws))) :=
  fun _ _ _ _ _ _ us ws h1 h2 => match us, ws, h1, h2 with | [_, _, _], [], _, _ => rfl
theorem fb26 : ∀ (kV doc pm : Value) (an : Option Addr) (cdv ct : Value) (us ws : List Value), us.length = fo26.n → ws.length = fo26.ks.length → bindArgs (PySem.W.fnOf d25.name d25.qual d25.params d25.body d25.scope .none kV doc pm an cdv ct) ⟨us, fo26.ks.zip ws⟩ = pure (List.zip (["table", "lot", "task"] : List Str) (pmL fo26.perm (us ++ ws))) :=
  fun _ _ _ _ _ _ us ws h1 h2 => match us, ws, h1, h2 with | [], [_, _, _], _, _ => rfl
theorem st26 (X : K.In h) (G : h.Ns mainGlobals mg) (c : He.SaysD fa fn K) (g : GlT K mg gls nos) (T : Tb P w K mg base CT 26 [fo0, fo1, fo2, fo3, fo4, fo5, fo6, fo7, fo8, fo9, fo10, fo11, fo12, fo13, fo14, fo15, fo16, fo17, fo18, fo19, fo20, fo21, fo22, fo23, fo24, fo25, fo26] [F0, F1, F2, F3, F4, F5, F6, F7, F8, F9, F10, F11, F12, F13, F14, F15, F16, F17, F18, F19, F20, F21, F22, F23, F24, F25, F25]) : St P w K mg base CT 27 d26 ["table", "lot", "task"] F26 := by
  obtain ⟨fd, F⟩ := c.def_ 26 (d := d26) rfl
  exact ⟨_, fd, He.glo_ok X G (c.fact 26 (f := .glo "share_less") rfl), F, def_ok (fun _ _ _ _ _ h => h) (fun _ _ _ _ _ _ => pass00) F T g (Bool.and_eq_true_iff.mp ck26).1 (Bool.and_eq_true_iff.mp ck26).2⟩
theorem fb27 : ∀ (kV doc pm : Value) (an : Option Addr) (cdv ct : Value) (us ws : List Value), us.length = fo27.n → ws.length = fo27.ks.length → bindArgs (PySem.W.fnOf d26.name d26.qual d26.params d26.body d26.scope .none kV doc pm an cdv ct) ⟨us, fo27.ks.zip ws⟩ = pure (List.zip (["table", "lot", "task"] : List Str) (pmL fo27.perm (us ++ ws))) :=
  fun _ _ _ _ _ _ us ws h1 h2 => match us, ws, h1, h2 with | [_, _, _], [], _, _ => rfl
theorem fb28 : ∀ (kV doc pm : Value) (an : Option Addr) (cdv ct : Value) (us ws : List Value), us.length = fo28.n → ws.length = fo28.ks.length → bindArgs (PySem.W.fnOf d26.name d26.qual d26.params d26.body d26.scope .none kV doc pm an cdv ct) ⟨us, fo28.ks.zip ws⟩ = pure (List.zip (["table", "lot", "task"] : List Str) (pmL fo28.perm (us ++ ws))) :=
  fun _ _ _ _ _ _ us ws h1 h2 => match us, ws, h1, h2 with | [], [_, _, _], _, _ => rfl
theorem st27 (X : K.In h) (G : h.Ns mainGlobals mg) (c : He.SaysD fa fn K) (g : GlT K mg gls nos) (T : Tb P w K mg base CT 27 [fo0, fo1, fo2, fo3, fo4, fo5, fo6, fo7, fo8, fo9, fo10, fo11, fo12, fo13, fo14, fo15, fo16, fo17, fo18, fo19, fo20, fo21, fo22, fo23, fo24, fo25, fo26, fo27, fo28] [F0, F1, F2, F3, F4, F5, F6, F7, F8, F9, F10, F11, F12, F13, F14, F15, F16, F17, F18, F19, F20, F21, F22, F23, F24, F25, F25, F26, F26]) : St P w K mg base CT 28 d27 ["table", "lot", "task"] F27 := by
  obtain ⟨fd, F⟩ := c.def_ 27 (d := d27) rfl
  exact ⟨_, fd, He.glo_ok X G (c.fact 27 (f := .glo "odds_told") rfl), F, def_ok (fun _ _ _ _ _ h => h) (fun _ _ _ _ _ _ => pass00) F T g (Bool.and_eq_true_iff.mp ck27).1 (Bool.and_eq_true_iff.mp ck27).2⟩
theorem fb29 : ∀ (kV doc pm : Value) (an : Option Addr) (cdv ct : Value) (us ws : List Value), us.length = fo29.n → ws.length = fo29.ks.length → bindArgs (PySem.W.fnOf d27.name d27.qual d27.params d27.body d27.scope .none kV doc pm an cdv ct) ⟨us, fo29.ks.zip ws⟩ = pure (List.zip (["table", "lot", "task"] : List Str) (pmL fo29.perm (us ++ ws))) :=
  fun _ _ _ _ _ _ us ws h1 h2 => match us, ws, h1, h2 with | [_, _, _], [], _, _ => rfl
theorem fb30 : ∀ (kV doc pm : Value) (an : Option Addr) (cdv ct : Value) (us ws : List Value), us.length = fo30.n → ws.length = fo30.ks.length → bindArgs (PySem.W.fnOf d27.name d27.qual d27.params d27.body d27.scope .none kV doc pm an cdv ct) ⟨us, fo30.ks.zip ws⟩ = pure (List.zip (["table", "lot", "task"] : List Str) (pmL fo30.perm (us ++ ws))) :=
  fun _ _ _ _ _ _ us ws h1 h2 => match us, ws, h1, h2 with | [], [_, _, _], _, _ => rfl
theorem st28 (X : K.In h) (G : h.Ns mainGlobals mg) (c : He.SaysD fa fn K) (g : GlT K mg gls nos) (T : Tb P w K mg base CT 28 [fo0, fo1, fo2, fo3, fo4, fo5, fo6, fo7, fo8, fo9, fo10, fo11, fo12, fo13, fo14, fo15, fo16, fo17, fo18, fo19, fo20, fo21, fo22, fo23, fo24, fo25, fo26, fo27, fo28, fo29, fo30] [F0, F1, F2, F3, F4, F5, F6, F7, F8, F9, F10, F11, F12, F13, F14, F15, F16, F17, F18, F19, F20, F21, F22, F23, F24, F25, F25, F26, F26, F27, F27]) : St P w K mg base CT 29 d28 ["table", "lot", "task"] F28 := by
  obtain ⟨fd, F⟩ := c.def_ 28 (d := d28) rfl
  exact ⟨_, fd, He.glo_ok X G (c.fact 28 (f := .glo "middle_by") rfl), F, def_ok (fun _ _ _ _ _ h => h) (fun _ _ _ _ _ _ => pass00) F T g (Bool.and_eq_true_iff.mp ck28).1 (Bool.and_eq_true_iff.mp ck28).2⟩
theorem fb31 : ∀ (kV doc pm : Value) (an : Option Addr) (cdv ct : Value) (us ws : List Value), us.length = fo31.n → ws.length = fo31.ks.length → bindArgs (PySem.W.fnOf d28.name d28.qual d28.params d28.body d28.scope .none kV doc pm an cdv ct) ⟨us, fo31.ks.zip ws⟩ = pure (List.zip (["table", "lot", "task"] : List Str) (pmL fo31.perm (us ++ ws))) :=
  fun _ _ _ _ _ _ us ws h1 h2 => match us, ws, h1, h2 with | [_, _, _], [], _, _ => rfl
theorem st29 (X : K.In h) (G : h.Ns mainGlobals mg) (c : He.SaysD fa fn K) (g : GlT K mg gls nos) (T : Tb P w K mg base CT 29 [fo0, fo1, fo2, fo3, fo4, fo5, fo6, fo7, fo8, fo9, fo10, fo11, fo12, fo13, fo14, fo15, fo16, fo17, fo18, fo19, fo20, fo21, fo22, fo23, fo24, fo25, fo26, fo27, fo28, fo29, fo30, fo31] [F0, F1, F2, F3, F4, F5, F6, F7, F8, F9, F10, F11, F12, F13, F14, F15, F16, F17, F18, F19, F20, F21, F22, F23, F24, F25, F25, F26, F26, F27, F27, F28]) : St P w K mg base CT 30 d29 ["table", "lot", "task"] F29 := by
  obtain ⟨fd, F⟩ := c.def_ 29 (d := d29) rfl
  exact ⟨_, fd, He.glo_ok X G (c.fact 29 (f := .glo "middle_of") rfl), F, def_ok (fun _ _ _ _ _ h => h) (fun _ _ _ _ _ _ => pass00) F T g (Bool.and_eq_true_iff.mp ck29).1 (Bool.and_eq_true_iff.mp ck29).2⟩
theorem fb32 : ∀ (kV doc pm : Value) (an : Option Addr) (cdv ct : Value) (us ws : List Value), us.length = fo32.n → ws.length = fo32.ks.length → bindArgs (PySem.W.fnOf d29.name d29.qual d29.params d29.body d29.scope .none kV doc pm an cdv ct) ⟨us, fo32.ks.zip ws⟩ = pure (List.zip (["table", "lot", "task"] : List Str) (pmL fo32.perm (us ++ ws))) :=
  fun _ _ _ _ _ _ us ws h1 h2 => match us, ws, h1, h2 with | [], [_, _, _], _, _ => rfl
theorem st30 (X : K.In h) (G : h.Ns mainGlobals mg) (c : He.SaysD fa fn K) (g : GlT K mg gls nos) (T : Tb P w K mg base CT 30 [fo0, fo1, fo2, fo3, fo4, fo5, fo6, fo7, fo8, fo9, fo10, fo11, fo12, fo13, fo14, fo15, fo16, fo17, fo18, fo19, fo20, fo21, fo22, fo23, fo24, fo25, fo26, fo27, fo28, fo29, fo30, fo31, fo32] [F0, F1, F2, F3, F4, F5, F6, F7, F8, F9, F10, F11, F12, F13, F14, F15, F16, F17, F18, F19, F20, F21, F22, F23, F24, F25, F25, F26, F26, F27, F27, F28, F29]) : St P w K mg base CT 31 d30 ["script", "place"] F30 := by
  obtain ⟨fd, F⟩ := c.def_ 30 (d := d30) rfl
  exact ⟨_, fd, He.glo_ok X G (c.fact 30 (f := .glo "_law_pot") rfl), F, def_ok (fun _ _ _ _ _ h => h) (fun _ _ _ _ _ _ => pass00) F T g (Bool.and_eq_true_iff.mp ck30).1 (Bool.and_eq_true_iff.mp ck30).2⟩
theorem fb33 : ∀ (kV doc pm : Value) (an : Option Addr) (cdv ct : Value) (us ws : List Value), us.length = fo33.n → ws.length = fo33.ks.length → bindArgs (PySem.W.fnOf d30.name d30.qual d30.params d30.body d30.scope .none kV doc pm an cdv ct) ⟨us, fo33.ks.zip ws⟩ = pure (List.zip (["script", "place"] : List Str) (pmL fo33.perm (us ++ ws))) :=
  fun _ _ _ _ _ _ us ws h1 h2 => match us, ws, h1, h2 with | [_, _], [], _, _ => rfl
theorem st31 (X : K.In h) (G : h.Ns mainGlobals mg) (c : He.SaysD fa fn K) (g : GlT K mg gls nos) (T : Tb P w K mg base CT 31 [fo0, fo1, fo2, fo3, fo4, fo5, fo6, fo7, fo8, fo9, fo10, fo11, fo12, fo13, fo14, fo15, fo16, fo17, fo18, fo19, fo20, fo21, fo22, fo23, fo24, fo25, fo26, fo27, fo28, fo29, fo30, fo31, fo32, fo33] [F0, F1, F2, F3, F4, F5, F6, F7, F8, F9, F10, F11, F12, F13, F14, F15, F16, F17, F18, F19, F20, F21, F22, F23, F24, F25, F25, F26, F26, F27, F27, F28, F29, F30]) : St P w K mg base CT 32 d31 ["pot", "upto"] F31 := by
  obtain ⟨fd, F⟩ := c.def_ 31 (d := d31) rfl
  exact ⟨_, fd, He.glo_ok X G (c.fact 31 (f := .glo "_law_take") rfl), F, def_ok (fun _ _ _ _ _ h => h) (fun _ _ _ _ _ _ => pass00) F T g (Bool.and_eq_true_iff.mp ck31).1 (Bool.and_eq_true_iff.mp ck31).2⟩
theorem fb34 : ∀ (kV doc pm : Value) (an : Option Addr) (cdv ct : Value) (us ws : List Value), us.length = fo34.n → ws.length = fo34.ks.length → bindArgs (PySem.W.fnOf d31.name d31.qual d31.params d31.body d31.scope .none kV doc pm an cdv ct) ⟨us, fo34.ks.zip ws⟩ = pure (List.zip (["pot", "upto"] : List Str) (pmL fo34.perm (us ++ ws))) :=
  fun _ _ _ _ _ _ us ws h1 h2 => match us, ws, h1, h2 with | [_, _], [], _, _ => rfl
theorem st32 (X : K.In h) (G : h.Ns mainGlobals mg) (c : He.SaysD fa fn K) (g : GlT K mg gls nos) (T : Tb P w K mg base CT 32 [fo0, fo1, fo2, fo3, fo4, fo5, fo6, fo7, fo8, fo9, fo10, fo11, fo12, fo13, fo14, fo15, fo16, fo17, fo18, fo19, fo20, fo21, fo22, fo23, fo24, fo25, fo26, fo27, fo28, fo29, fo30, fo31, fo32, fo33, fo34] [F0, F1, F2, F3, F4, F5, F6, F7, F8, F9, F10, F11, F12, F13, F14, F15, F16, F17, F18, F19, F20, F21, F22, F23, F24, F25, F25, F26, F26, F27, F27, F28, F29, F30, F31]) : St P w K mg base CT 33 d32 ["pot", "some"] F32 := by
  obtain ⟨fd, F⟩ := c.def_ 32 (d := d32) rfl
  exact ⟨_, fd, He.glo_ok X G (c.fact 32 (f := .glo "_law_of") rfl), F, def_ok (fun _ _ _ _ _ h => h) (fun _ _ _ _ _ _ => pass00) F T g (Bool.and_eq_true_iff.mp ck32).1 (Bool.and_eq_true_iff.mp ck32).2⟩
theorem fb35 : ∀ (kV doc pm : Value) (an : Option Addr) (cdv ct : Value) (us ws : List Value), us.length = fo35.n → ws.length = fo35.ks.length → bindArgs (PySem.W.fnOf d32.name d32.qual d32.params d32.body d32.scope .none kV doc pm an cdv ct) ⟨us, fo35.ks.zip ws⟩ = pure (List.zip (["pot", "some"] : List Str) (pmL fo35.perm (us ++ ws))) :=
  fun _ _ _ _ _ _ us ws h1 h2 => match us, ws, h1, h2 with | [_, _], [], _, _ => rfl
theorem st33 (X : K.In h) (G : h.Ns mainGlobals mg) (c : He.SaysD fa fn K) (g : GlT K mg gls nos) (T : Tb P w K mg base CT 33 [fo0, fo1, fo2, fo3, fo4, fo5, fo6, fo7, fo8, fo9, fo10, fo11, fo12, fo13, fo14, fo15, fo16, fo17, fo18, fo19, fo20, fo21, fo22, fo23, fo24, fo25, fo26, fo27, fo28, fo29, fo30, fo31, fo32, fo33, fo34, fo35] [F0, F1, F2, F3, F4, F5, F6, F7, F8, F9, F10, F11, F12, F13, F14, F15, F16, F17, F18, F19, F20, F21, F22, F23, F24, F25, F25, F26, F26, F27, F27, F28, F29, F30, F31, F32]) : St P w K mg base CT 34 d33 ["script", "limit"] F33 := by
  obtain ⟨fd, F⟩ := c.def_ 33 (d := d33) rfl
  exact ⟨_, fd, He.glo_ok X G (c.fact 33 (f := .glo "_law_cells") rfl), F, def_ok (fun _ _ _ _ _ h => h) (fun _ _ _ _ _ _ => pass00) F T g (Bool.and_eq_true_iff.mp ck33).1 (Bool.and_eq_true_iff.mp ck33).2⟩
theorem fb36 : ∀ (kV doc pm : Value) (an : Option Addr) (cdv ct : Value) (us ws : List Value), us.length = fo36.n → ws.length = fo36.ks.length → bindArgs (PySem.W.fnOf d33.name d33.qual d33.params d33.body d33.scope .none kV doc pm an cdv ct) ⟨us, fo36.ks.zip ws⟩ = pure (List.zip (["script", "limit"] : List Str) (pmL fo36.perm (us ++ ws))) :=
  fun _ _ _ _ _ _ us ws h1 h2 => match us, ws, h1, h2 with | [_, _], [], _, _ => rfl
theorem st34 (X : K.In h) (G : h.Ns mainGlobals mg) (c : He.SaysD fa fn K) (g : GlT K mg gls nos) (T : Tb P w K mg base CT 34 [fo0, fo1, fo2, fo3, fo4, fo5, fo6, fo7, fo8, fo9, fo10, fo11, fo12, fo13, fo14, fo15, fo16, fo17, fo18, fo19, fo20, fo21, fo22, fo23, fo24, fo25, fo26, fo27, fo28, fo29, fo30, fo31, fo32, fo33, fo34, fo35, fo36] [F0, F1, F2, F3, F4, F5, F6, F7, F8, F9, F10, F11, F12, F13, F14, F15, F16, F17, F18, F19, F20, F21, F22, F23, F24, F25, F25, F26, F26, F27, F27, F28, F29, F30, F31, F32, F33]) : St P w K mg base CT 35 d34 ["pot", "pool", "many"] F34 := by
  obtain ⟨fd, F⟩ := c.def_ 34 (d := d34) rfl
  exact ⟨_, fd, He.glo_ok X G (c.fact 34 (f := .glo "_law_some") rfl), F, def_ok (fun _ _ _ _ _ h => h) (fun _ _ _ _ _ _ => pass00) F T g (Bool.and_eq_true_iff.mp ck34).1 (Bool.and_eq_true_iff.mp ck34).2⟩
theorem fb37 : ∀ (kV doc pm : Value) (an : Option Addr) (cdv ct : Value) (us ws : List Value), us.length = fo37.n → ws.length = fo37.ks.length → bindArgs (PySem.W.fnOf d34.name d34.qual d34.params d34.body d34.scope .none kV doc pm an cdv ct) ⟨us, fo37.ks.zip ws⟩ = pure (List.zip (["pot", "pool", "many"] : List Str) (pmL fo37.perm (us ++ ws))) :=
  fun _ _ _ _ _ _ us ws h1 h2 => match us, ws, h1, h2 with | [_, _, _], [], _, _ => rfl
theorem st35 (X : K.In h) (G : h.Ns mainGlobals mg) (c : He.SaysD fa fn K) (g : GlT K mg gls nos) (T : Tb P w K mg base CT 35 [fo0, fo1, fo2, fo3, fo4, fo5, fo6, fo7, fo8, fo9, fo10, fo11, fo12, fo13, fo14, fo15, fo16, fo17, fo18, fo19, fo20, fo21, fo22, fo23, fo24, fo25, fo26, fo27, fo28, fo29, fo30, fo31, fo32, fo33, fo34, fo35, fo36, fo37] [F0, F1, F2, F3, F4, F5, F6, F7, F8, F9, F10, F11, F12, F13, F14, F15, F16, F17, F18, F19, F20, F21, F22, F23, F24, F25, F25, F26, F26, F27, F27, F28, F29, F30, F31, F32, F33, F34]) : St P w K mg base CT 36 d35 ["pot", "many"] F35 := by
  obtain ⟨fd, F⟩ := c.def_ 35 (d := d35) rfl
  exact ⟨_, fd, He.glo_ok X G (c.fact 35 (f := .glo "_law_lot") rfl), F, def_ok (fun _ _ _ _ _ h => h) (fun _ _ _ _ _ _ => pass00) F T g (Bool.and_eq_true_iff.mp ck35).1 (Bool.and_eq_true_iff.mp ck35).2⟩
theorem fb38 : ∀ (kV doc pm : Value) (an : Option Addr) (cdv ct : Value) (us ws : List Value), us.length = fo38.n → ws.length = fo38.ks.length → bindArgs (PySem.W.fnOf d35.name d35.qual d35.params d35.body d35.scope .none kV doc pm an cdv ct) ⟨us, fo38.ks.zip ws⟩ = pure (List.zip (["pot", "many"] : List Str) (pmL fo38.perm (us ++ ws))) :=
  fun _ _ _ _ _ _ us ws h1 h2 => match us, ws, h1, h2 with | [_, _], [], _, _ => rfl
theorem st36 (X : K.In h) (G : h.Ns mainGlobals mg) (c : He.SaysD fa fn K) (g : GlT K mg gls nos) (T : Tb P w K mg base CT 36 [fo0, fo1, fo2, fo3, fo4, fo5, fo6, fo7, fo8, fo9, fo10, fo11, fo12, fo13, fo14, fo15, fo16, fo17, fo18, fo19, fo20, fo21, fo22, fo23, fo24, fo25, fo26, fo27, fo28, fo29, fo30, fo31, fo32, fo33, fo34, fo35, fo36, fo37, fo38] [F0, F1, F2, F3, F4, F5, F6, F7, F8, F9, F10, F11, F12, F13, F14, F15, F16, F17, F18, F19, F20, F21, F22, F23, F24, F25, F25, F26, F26, F27, F27, F28, F29, F30, F31, F32, F33, F34, F35]) : St P w K mg base CT 37 d36 ["top", "low"] F36 := by
  obtain ⟨fd, F⟩ := c.def_ 36 (d := d36) rfl
  exact ⟨_, fd, He.glo_ok X G (c.fact 36 (f := .glo "_law_part") rfl), F, def_ok (fun _ _ _ _ _ h => h) (fun _ _ _ _ _ _ => pass00) F T g (Bool.and_eq_true_iff.mp ck36).1 (Bool.and_eq_true_iff.mp ck36).2⟩
theorem fb39 : ∀ (kV doc pm : Value) (an : Option Addr) (cdv ct : Value) (us ws : List Value), us.length = fo39.n → ws.length = fo39.ks.length → bindArgs (PySem.W.fnOf d36.name d36.qual d36.params d36.body d36.scope .none kV doc pm an cdv ct) ⟨us, fo39.ks.zip ws⟩ = pure (List.zip (["top", "low"] : List Str) (pmL fo39.perm (us ++ ws))) :=
  fun _ _ _ _ _ _ us ws h1 h2 => match us, ws, h1, h2 with | [_, _], [], _, _ => rfl
theorem st37 (X : K.In h) (G : h.Ns mainGlobals mg) (c : He.SaysD fa fn K) (g : GlT K mg gls nos) (T : Tb P w K mg base CT 37 [fo0, fo1, fo2, fo3, fo4, fo5, fo6, fo7, fo8, fo9, fo10, fo11, fo12, fo13, fo14, fo15, fo16, fo17, fo18, fo19, fo20, fo21, fo22, fo23, fo24, fo25, fo26, fo27, fo28, fo29, fo30, fo31, fo32, fo33, fo34, fo35, fo36, fo37, fo38, fo39] [F0, F1, F2, F3, F4, F5, F6, F7, F8, F9, F10, F11, F12, F13, F14, F15, F16, F17, F18, F19, F20, F21, F22, F23, F24, F25, F25, F26, F26, F27, F27, F28, F29, F30, F31, F32, F33, F34, F35, F36]) : St P w K mg base CT 38 d37 ["one", "other"] F37 := by
  obtain ⟨fd, F⟩ := c.def_ 37 (d := d37) rfl
  exact ⟨_, fd, He.glo_ok X G (c.fact 37 (f := .glo "_law_plus") rfl), F, def_ok (fun _ _ _ _ _ h => h) (fun _ _ _ _ _ _ => pass00) F T g (Bool.and_eq_true_iff.mp ck37).1 (Bool.and_eq_true_iff.mp ck37).2⟩
theorem fb40 : ∀ (kV doc pm : Value) (an : Option Addr) (cdv ct : Value) (us ws : List Value), us.length = fo40.n → ws.length = fo40.ks.length → bindArgs (PySem.W.fnOf d37.name d37.qual d37.params d37.body d37.scope .none kV doc pm an cdv ct) ⟨us, fo40.ks.zip ws⟩ = pure (List.zip (["one", "other"] : List Str) (pmL fo40.perm (us ++ ws))) :=
  fun _ _ _ _ _ _ us ws h1 h2 => match us, ws, h1, h2 with | [_, _], [], _, _ => rfl
theorem st38 (X : K.In h) (G : h.Ns mainGlobals mg) (c : He.SaysD fa fn K) (g : GlT K mg gls nos) (T : Tb P w K mg base CT 38 [fo0, fo1, fo2, fo3, fo4, fo5, fo6, fo7, fo8, fo9, fo10, fo11, fo12, fo13, fo14, fo15, fo16, fo17, fo18, fo19, fo20, fo21, fo22, fo23, fo24, fo25, fo26, fo27, fo28, fo29, fo30, fo31, fo32, fo33, fo34, fo35, fo36, fo37, fo38, fo39, fo40] [F0, F1, F2, F3, F4, F5, F6, F7, F8, F9, F10, F11, F12, F13, F14, F15, F16, F17, F18, F19, F20, F21, F22, F23, F24, F25, F25, F26, F26, F27, F27, F28, F29, F30, F31, F32, F33, F34, F35, F36, F37]) : St P w K mg base CT 39 d38 ["some"] F38 := by
  obtain ⟨fd, F⟩ := c.def_ 38 (d := d38) rfl
  exact ⟨_, fd, He.glo_ok X G (c.fact 38 (f := .glo "_law_sum") rfl), F, def_ok (fun _ _ _ _ _ h => h) (fun _ _ _ _ _ _ => pass00) F T g (Bool.and_eq_true_iff.mp ck38).1 (Bool.and_eq_true_iff.mp ck38).2⟩
theorem fb41 : ∀ (kV doc pm : Value) (an : Option Addr) (cdv ct : Value) (us ws : List Value), us.length = fo41.n → ws.length = fo41.ks.length → bindArgs (PySem.W.fnOf d38.name d38.qual d38.params d38.body d38.scope .none kV doc pm an cdv ct) ⟨us, fo41.ks.zip ws⟩ = pure (List.zip (["some"] : List Str) (pmL fo41.perm (us ++ ws))) :=
  fun _ _ _ _ _ _ us ws h1 h2 => match us, ws, h1, h2 with | [_], [], _, _ => rfl
theorem st39 (X : K.In h) (G : h.Ns mainGlobals mg) (c : He.SaysD fa fn K) (g : GlT K mg gls nos) (T : Tb P w K mg base CT 39 [fo0, fo1, fo2, fo3, fo4, fo5, fo6, fo7, fo8, fo9, fo10, fo11, fo12, fo13, fo14, fo15, fo16, fo17, fo18, fo19, fo20, fo21, fo22, fo23, fo24, fo25, fo26, fo27, fo28, fo29, fo30, fo31, fo32, fo33, fo34, fo35, fo36, fo37, fo38, fo39, fo40, fo41] [F0, F1, F2, F3, F4, F5, F6, F7, F8, F9, F10, F11, F12, F13, F14, F15, F16, F17, F18, F19, F20, F21, F22, F23, F24, F25, F25, F26, F26, F27, F27, F28, F29, F30, F31, F32, F33, F34, F35, F36, F37, F38]) : St P w K mg base CT 40 d39 ["one", "other"] F39 := by
  obtain ⟨fd, F⟩ := c.def_ 39 (d := d39) rfl
  exact ⟨_, fd, He.glo_ok X G (c.fact 39 (f := .glo "_law_less") rfl), F, def_ok (fun _ _ _ _ _ h => h) (fun _ _ _ _ _ _ => pass00) F T g (Bool.and_eq_true_iff.mp ck39).1 (Bool.and_eq_true_iff.mp ck39).2⟩
theorem fb42 : ∀ (kV doc pm : Value) (an : Option Addr) (cdv ct : Value) (us ws : List Value), us.length = fo42.n → ws.length = fo42.ks.length → bindArgs (PySem.W.fnOf d39.name d39.qual d39.params d39.body d39.scope .none kV doc pm an cdv ct) ⟨us, fo42.ks.zip ws⟩ = pure (List.zip (["one", "other"] : List Str) (pmL fo42.perm (us ++ ws))) :=
  fun _ _ _ _ _ _ us ws h1 h2 => match us, ws, h1, h2 with | [_, _], [], _, _ => rfl
theorem st40 (X : K.In h) (G : h.Ns mainGlobals mg) (c : He.SaysD fa fn K) (g : GlT K mg gls nos) (T : Tb P w K mg base CT 40 [fo0, fo1, fo2, fo3, fo4, fo5, fo6, fo7, fo8, fo9, fo10, fo11, fo12, fo13, fo14, fo15, fo16, fo17, fo18, fo19, fo20, fo21, fo22, fo23, fo24, fo25, fo26, fo27, fo28, fo29, fo30, fo31, fo32, fo33, fo34, fo35, fo36, fo37, fo38, fo39, fo40, fo41, fo42] [F0, F1, F2, F3, F4, F5, F6, F7, F8, F9, F10, F11, F12, F13, F14, F15, F16, F17, F18, F19, F20, F21, F22, F23, F24, F25, F25, F26, F26, F27, F27, F28, F29, F30, F31, F32, F33, F34, F35, F36, F37, F38, F39]) : St P w K mg base CT 41 d40 ["pot", "persons", "tasks", "signs"] F40 := by
  obtain ⟨fd, F⟩ := c.def_ 40 (d := d40) rfl
  exact ⟨_, fd, He.glo_ok X G (c.fact 40 (f := .glo "_law_table") rfl), F, def_ok (fun _ _ _ _ _ h => h) (fun _ _ _ _ _ _ => pass00) F T g (Bool.and_eq_true_iff.mp ck40).1 (Bool.and_eq_true_iff.mp ck40).2⟩
theorem fb43 : ∀ (kV doc pm : Value) (an : Option Addr) (cdv ct : Value) (us ws : List Value), us.length = fo43.n → ws.length = fo43.ks.length → bindArgs (PySem.W.fnOf d40.name d40.qual d40.params d40.body d40.scope .none kV doc pm an cdv ct) ⟨us, fo43.ks.zip ws⟩ = pure (List.zip (["pot", "persons", "tasks", "signs"] : List Str) (pmL fo43.perm (us ++ ws))) :=
  fun _ _ _ _ _ _ us ws h1 h2 => match us, ws, h1, h2 with | [_, _, _, _], [], _, _ => rfl
theorem st41 (X : K.In h) (G : h.Ns mainGlobals mg) (c : He.SaysD fa fn K) (g : GlT K mg gls nos) (T : Tb P w K mg base CT 41 [fo0, fo1, fo2, fo3, fo4, fo5, fo6, fo7, fo8, fo9, fo10, fo11, fo12, fo13, fo14, fo15, fo16, fo17, fo18, fo19, fo20, fo21, fo22, fo23, fo24, fo25, fo26, fo27, fo28, fo29, fo30, fo31, fo32, fo33, fo34, fo35, fo36, fo37, fo38, fo39, fo40, fo41, fo42, fo43] [F0, F1, F2, F3, F4, F5, F6, F7, F8, F9, F10, F11, F12, F13, F14, F15, F16, F17, F18, F19, F20, F21, F22, F23, F24, F25, F25, F26, F26, F27, F27, F28, F29, F30, F31, F32, F33, F34, F35, F36, F37, F38, F39, F40]) : St P w K mg base CT 42 d41 ["table", "task"] F41 := by
  obtain ⟨fd, F⟩ := c.def_ 41 (d := d41) rfl
  exact ⟨_, fd, He.glo_ok X G (c.fact 41 (f := .glo "_law_spreadings") rfl), F, def_ok (fun _ _ _ _ _ h => h) (fun _ _ _ _ _ _ => pass00) F T g (Bool.and_eq_true_iff.mp ck41).1 (Bool.and_eq_true_iff.mp ck41).2⟩
theorem fb44 : ∀ (kV doc pm : Value) (an : Option Addr) (cdv ct : Value) (us ws : List Value), us.length = fo44.n → ws.length = fo44.ks.length → bindArgs (PySem.W.fnOf d41.name d41.qual d41.params d41.body d41.scope .none kV doc pm an cdv ct) ⟨us, fo44.ks.zip ws⟩ = pure (List.zip (["table", "task"] : List Str) (pmL fo44.perm (us ++ ws))) :=
  fun _ _ _ _ _ _ us ws h1 h2 => match us, ws, h1, h2 with | [_, _], [], _, _ => rfl
theorem st42 (X : K.In h) (G : h.Ns mainGlobals mg) (c : He.SaysD fa fn K) (g : GlT K mg gls nos) (T : Tb P w K mg base CT 42 [fo0, fo1, fo2, fo3, fo4, fo5, fo6, fo7, fo8, fo9, fo10, fo11, fo12, fo13, fo14, fo15, fo16, fo17, fo18, fo19, fo20, fo21, fo22, fo23, fo24, fo25, fo26, fo27, fo28, fo29, fo30, fo31, fo32, fo33, fo34, fo35, fo36, fo37, fo38, fo39, fo40, fo41, fo42, fo43, fo44] [F0, F1, F2, F3, F4, F5, F6, F7, F8, F9, F10, F11, F12, F13, F14, F15, F16, F17, F18, F19, F20, F21, F22, F23, F24, F25, F25, F26, F26, F27, F27, F28, F29, F30, F31, F32, F33, F34, F35, F36, F37, F38, F39, F40, F41]) : St P w K mg base CT 43 d42 ["pot"] F42 := by
  obtain ⟨fd, F⟩ := c.def_ 42 (d := d42) rfl
  exact ⟨_, fd, He.glo_ok X G (c.fact 42 (f := .glo "_law_right") rfl), F, def_ok (fun _ _ _ _ _ h => h) (fun _ _ _ _ _ _ => pass00) F T g (Bool.and_eq_true_iff.mp ck42).1 (Bool.and_eq_true_iff.mp ck42).2⟩
theorem fb45 : ∀ (kV doc pm : Value) (an : Option Addr) (cdv ct : Value) (us ws : List Value), us.length = fo45.n → ws.length = fo45.ks.length → bindArgs (PySem.W.fnOf d42.name d42.qual d42.params d42.body d42.scope .none kV doc pm an cdv ct) ⟨us, fo45.ks.zip ws⟩ = pure (List.zip (["pot"] : List Str) (pmL fo45.perm (us ++ ws))) :=
  fun _ _ _ _ _ _ us ws h1 h2 => match us, ws, h1, h2 with | [_], [], _, _ => rfl
theorem st43 (X : K.In h) (G : h.Ns mainGlobals mg) (c : He.SaysD fa fn K) (g : GlT K mg gls nos) (T : Tb P w K mg base CT 43 [fo0, fo1, fo2, fo3, fo4, fo5, fo6, fo7, fo8, fo9, fo10, fo11, fo12, fo13, fo14, fo15, fo16, fo17, fo18, fo19, fo20, fo21, fo22, fo23, fo24, fo25, fo26, fo27, fo28, fo29, fo30, fo31, fo32, fo33, fo34, fo35, fo36, fo37, fo38, fo39, fo40, fo41, fo42, fo43, fo44, fo45] [F0, F1, F2, F3, F4, F5, F6, F7, F8, F9, F10, F11, F12, F13, F14, F15, F16, F17, F18, F19, F20, F21, F22, F23, F24, F25, F25, F26, F26, F27, F27, F28, F29, F30, F31, F32, F33, F34, F35, F36, F37, F38, F39, F40, F41, F42]) : St P w K mg base CT 44 d43 ["script"] F43 := by
  obtain ⟨fd, F⟩ := c.def_ 43 (d := d43) rfl
  exact ⟨_, fd, He.glo_ok X G (c.fact 43 (f := .glo "law") rfl), F, def_ok (fun _ _ _ _ _ h => h) (fun _ _ _ _ _ _ => pass00) F T g (Bool.and_eq_true_iff.mp ck43).1 (Bool.and_eq_true_iff.mp ck43).2⟩
theorem tb0 (X : K.In h) (G : h.Ns mainGlobals mg) (c : He.SaysD fa fn K) (g : GlT K mg gls nos) : Tb P w K mg base CT 0 [] [] := by
  exact FormsT.nil
theorem tb1 (X : K.In h) (G : h.Ns mainGlobals mg) (c : He.SaysD fa fn K) (g : GlT K mg gls nos) : Tb P w K mg base CT 1 [fo0] [F0] := by
  have T := tb0 (P := P) (w := w) (K := K) (mg := mg) (base := base) (CT := CT) X G c g
  have T0 : Tb P w K mg base CT 1 [] [] := T.mono (Nat.le_succ _)
  have T1 : Tb P w K mg base CT 1 [fo0] [F0] := Tb.add fo0 T0 (st0 X G c g T) rfl (Nat.le_refl _) fb0
  exact T1
theorem tb2 (X : K.In h) (G : h.Ns mainGlobals mg) (c : He.SaysD fa fn K) (g : GlT K mg gls nos) : Tb P w K mg base CT 2 [fo0, fo1] [F0, F1] := by
  have T := tb1 (P := P) (w := w) (K := K) (mg := mg) (base := base) (CT := CT) X G c g
  have T0 : Tb P w K mg base CT 2 [fo0] [F0] := T.mono (Nat.le_succ _)
  have T1 : Tb P w K mg base CT 2 [fo0, fo1] [F0, F1] := Tb.add fo1 T0 (st1 X G c g T) rfl (Nat.le_refl _) fb1
  exact T1
theorem tb3 (X : K.In h) (G : h.Ns mainGlobals mg) (c : He.SaysD fa fn K) (g : GlT K mg gls nos) : Tb P w K mg base CT 3 [fo0, fo1, fo2] [F0, F1, F2] := by
  have T := tb2 (P := P) (w := w) (K := K) (mg := mg) (base := base) (CT := CT) X G c g
  have T0 : Tb P w K mg base CT 3 [fo0, fo1] [F0, F1] := T.mono (Nat.le_succ _)
  have T1 : Tb P w K mg base CT 3 [fo0, fo1, fo2] [F0, F1, F2] := Tb.add fo2 T0 (st2 X G c g T) rfl (Nat.le_refl _) fb2
  exact T1
theorem tb4 (X : K.In h) (G : h.Ns mainGlobals mg) (c : He.SaysD fa fn K) (g : GlT K mg gls nos) : Tb P w K mg base CT 4 [fo0, fo1, fo2, fo3] [F0, F1, F2, F3] := by
  have T := tb3 (P := P) (w := w) (K := K) (mg := mg) (base := base) (CT := CT) X G c g
  have T0 : Tb P w K mg base CT 4 [fo0, fo1, fo2] [F0, F1, F2] := T.mono (Nat.le_succ _)
  have T1 : Tb P w K mg base CT 4 [fo0, fo1, fo2, fo3] [F0, F1, F2, F3] := Tb.add fo3 T0 (st3 X G c g T) rfl (Nat.le_refl _) fb3
  exact T1
theorem tb5 (X : K.In h) (G : h.Ns mainGlobals mg) (c : He.SaysD fa fn K) (g : GlT K mg gls nos) : Tb P w K mg base CT 5 [fo0, fo1, fo2, fo3, fo4] [F0, F1, F2, F3, F4] := by
  have T := tb4 (P := P) (w := w) (K := K) (mg := mg) (base := base) (CT := CT) X G c g
  have T0 : Tb P w K mg base CT 5 [fo0, fo1, fo2, fo3] [F0, F1, F2, F3] := T.mono (Nat.le_succ _)
  have T1 : Tb P w K mg base CT 5 [fo0, fo1, fo2, fo3, fo4] [F0, F1, F2, F3, F4] := Tb.add fo4 T0 (st4 X G c g T) rfl (Nat.le_refl _) fb4
  exact T1
theorem tb6 (X : K.In h) (G : h.Ns mainGlobals mg) (c : He.SaysD fa fn K) (g : GlT K mg gls nos) : Tb P w K mg base CT 6 [fo0, fo1, fo2, fo3, fo4, fo5] [F0, F1, F2, F3, F4, F5] := by
  have T := tb5 (P := P) (w := w) (K := K) (mg := mg) (base := base) (CT := CT) X G c g
  have T0 : Tb P w K mg base CT 6 [fo0, fo1, fo2, fo3, fo4] [F0, F1, F2, F3, F4] := T.mono (Nat.le_succ _)
  have T1 : Tb P w K mg base CT 6 [fo0, fo1, fo2, fo3, fo4, fo5] [F0, F1, F2, F3, F4, F5] := Tb.add fo5 T0 (st5 X G c g T) rfl (Nat.le_refl _) fb5
  exact T1
theorem tb7 (X : K.In h) (G : h.Ns mainGlobals mg) (c : He.SaysD fa fn K) (g : GlT K mg gls nos) : Tb P w K mg base CT 7 [fo0, fo1, fo2, fo3, fo4, fo5, fo6] [F0, F1, F2, F3, F4, F5, F6] := by
  have T := tb6 (P := P) (w := w) (K := K) (mg := mg) (base := base) (CT := CT) X G c g
  have T0 : Tb P w K mg base CT 7 [fo0, fo1, fo2, fo3, fo4, fo5] [F0, F1, F2, F3, F4, F5] := T.mono (Nat.le_succ _)
  have T1 : Tb P w K mg base CT 7 [fo0, fo1, fo2, fo3, fo4, fo5, fo6] [F0, F1, F2, F3, F4, F5, F6] := Tb.add fo6 T0 (st6 X G c g T) rfl (Nat.le_refl _) fb6
  exact T1
theorem tb8 (X : K.In h) (G : h.Ns mainGlobals mg) (c : He.SaysD fa fn K) (g : GlT K mg gls nos) : Tb P w K mg base CT 8 [fo0, fo1, fo2, fo3, fo4, fo5, fo6, fo7] [F0, F1, F2, F3, F4, F5, F6, F7] := by
  have T := tb7 (P := P) (w := w) (K := K) (mg := mg) (base := base) (CT := CT) X G c g
  have T0 : Tb P w K mg base CT 8 [fo0, fo1, fo2, fo3, fo4, fo5, fo6] [F0, F1, F2, F3, F4, F5, F6] := T.mono (Nat.le_succ _)
  have T1 : Tb P w K mg base CT 8 [fo0, fo1, fo2, fo3, fo4, fo5, fo6, fo7] [F0, F1, F2, F3, F4, F5, F6, F7] := Tb.add fo7 T0 (st7 X G c g T) rfl (Nat.le_refl _) fb7
  exact T1
theorem tb9 (X : K.In h) (G : h.Ns mainGlobals mg) (c : He.SaysD fa fn K) (g : GlT K mg gls nos) : Tb P w K mg base CT 9 [fo0, fo1, fo2, fo3, fo4, fo5, fo6, fo7, fo8] [F0, F1, F2, F3, F4, F5, F6, F7, F8] := by
  have T := tb8 (P := P) (w := w) (K := K) (mg := mg) (base := base) (CT := CT) X G c g
  have T0 : Tb P w K mg base CT 9 [fo0, fo1, fo2, fo3, fo4, fo5, fo6, fo7] [F0, F1, F2, F3, F4, F5, F6, F7] := T.mono (Nat.le_succ _)
  have T1 : Tb P w K mg base CT 9 [fo0, fo1, fo2, fo3, fo4, fo5, fo6, fo7, fo8] [F0, F1, F2, F3, F4, F5, F6, F7, F8] := Tb.add fo8 T0 (st8 X G c g T) rfl (Nat.le_refl _) fb8
  exact T1
theorem tb10 (X : K.In h) (G : h.Ns mainGlobals mg) (c : He.SaysD fa fn K) (g : GlT K mg gls nos) : Tb P w K mg base CT 10 [fo0, fo1, fo2, fo3, fo4, fo5, fo6, fo7, fo8, fo9] [F0, F1, F2, F3, F4, F5, F6, F7, F8, F9] := by
  have T := tb9 (P := P) (w := w) (K := K) (mg := mg) (base := base) (CT := CT) X G c g
  have T0 : Tb P w K mg base CT 10 [fo0, fo1, fo2, fo3, fo4, fo5, fo6, fo7, fo8] [F0, F1, F2, F3, F4, F5, F6, F7, F8] := T.mono (Nat.le_succ _)
  have T1 : Tb P w K mg base CT 10 [fo0, fo1, fo2, fo3, fo4, fo5, fo6, fo7, fo8, fo9] [F0, F1, F2, F3, F4, F5, F6, F7, F8, F9] := Tb.add fo9 T0 (st9 X G c g T) rfl (Nat.le_refl _) fb9
  exact T1
theorem tb11 (X : K.In h) (G : h.Ns mainGlobals mg) (c : He.SaysD fa fn K) (g : GlT K mg gls nos) : Tb P w K mg base CT 11 [fo0, fo1, fo2, fo3, fo4, fo5, fo6, fo7, fo8, fo9, fo10] [F0, F1, F2, F3, F4, F5, F6, F7, F8, F9, F10] := by
  have T := tb10 (P := P) (w := w) (K := K) (mg := mg) (base := base) (CT := CT) X G c g
  have T0 : Tb P w K mg base CT 11 [fo0, fo1, fo2, fo3, fo4, fo5, fo6, fo7, fo8, fo9] [F0, F1, F2, F3, F4, F5, F6, F7, F8, F9] := T.mono (Nat.le_succ _)
  have T1 : Tb P w K mg base CT 11 [fo0, fo1, fo2, fo3, fo4, fo5, fo6, fo7, fo8, fo9, fo10] [F0, F1, F2, F3, F4, F5, F6, F7, F8, F9, F10] := Tb.add fo10 T0 (st10 X G c g T) rfl (Nat.le_refl _) fb10
  exact T1
theorem tb12 (X : K.In h) (G : h.Ns mainGlobals mg) (c : He.SaysD fa fn K) (g : GlT K mg gls nos) : Tb P w K mg base CT 12 [fo0, fo1, fo2, fo3, fo4, fo5, fo6, fo7, fo8, fo9, fo10, fo11] [F0, F1, F2, F3, F4, F5, F6, F7, F8, F9, F10, F11] := by
  have T := tb11 (P := P) (w := w) (K := K) (mg := mg) (base := base) (CT := CT) X G c g
  have T0 : Tb P w K mg base CT 12 [fo0, fo1, fo2, fo3, fo4, fo5, fo6, fo7, fo8, fo9, fo10] [F0, F1, F2, F3, F4, F5, F6, F7, F8, F9, F10] := T.mono (Nat.le_succ _)
  have T1 : Tb P w K mg base CT 12 [fo0, fo1, fo2, fo3, fo4, fo5, fo6, fo7, fo8, fo9, fo10, fo11] [F0, F1, F2, F3, F4, F5, F6, F7, F8, F9, F10, F11] := Tb.add fo11 T0 (st11 X G c g T) rfl (Nat.le_refl _) fb11
  exact T1
theorem tb13 (X : K.In h) (G : h.Ns mainGlobals mg) (c : He.SaysD fa fn K) (g : GlT K mg gls nos) : Tb P w K mg base CT 13 [fo0, fo1, fo2, fo3, fo4, fo5, fo6, fo7, fo8, fo9, fo10, fo11, fo12] [F0, F1, F2, F3, F4, F5, F6, F7, F8, F9, F10, F11, F12] := by
  have T := tb12 (P := P) (w := w) (K := K) (mg := mg) (base := base) (CT := CT) X G c g
  have T0 : Tb P w K mg base CT 13 [fo0, fo1, fo2, fo3, fo4, fo5, fo6, fo7, fo8, fo9, fo10, fo11] [F0, F1, F2, F3, F4, F5, F6, F7, F8, F9, F10, F11] := T.mono (Nat.le_succ _)
  have T1 : Tb P w K mg base CT 13 [fo0, fo1, fo2, fo3, fo4, fo5, fo6, fo7, fo8, fo9, fo10, fo11, fo12] [F0, F1, F2, F3, F4, F5, F6, F7, F8, F9, F10, F11, F12] := Tb.add fo12 T0 (st12 X G c g T) rfl (Nat.le_refl _) fb12
  exact T1
theorem tb14 (X : K.In h) (G : h.Ns mainGlobals mg) (c : He.SaysD fa fn K) (g : GlT K mg gls nos) : Tb P w K mg base CT 14 [fo0, fo1, fo2, fo3, fo4, fo5, fo6, fo7, fo8, fo9, fo10, fo11, fo12, fo13] [F0, F1, F2, F3, F4, F5, F6, F7, F8, F9, F10, F11, F12, F13] := by
  have T := tb13 (P := P) (w := w) (K := K) (mg := mg) (base := base) (CT := CT) X G c g
  have T0 : Tb P w K mg base CT 14 [fo0, fo1, fo2, fo3, fo4, fo5, fo6, fo7, fo8, fo9, fo10, fo11, fo12] [F0, F1, F2, F3, F4, F5, F6, F7, F8, F9, F10, F11, F12] := T.mono (Nat.le_succ _)
  have T1 : Tb P w K mg base CT 14 [fo0, fo1, fo2, fo3, fo4, fo5, fo6, fo7, fo8, fo9, fo10, fo11, fo12, fo13] [F0, F1, F2, F3, F4, F5, F6, F7, F8, F9, F10, F11, F12, F13] := Tb.add fo13 T0 (st13 X G c g T) rfl (Nat.le_refl _) fb13
  exact T1
theorem tb15 (X : K.In h) (G : h.Ns mainGlobals mg) (c : He.SaysD fa fn K) (g : GlT K mg gls nos) : Tb P w K mg base CT 15 [fo0, fo1, fo2, fo3, fo4, fo5, fo6, fo7, fo8, fo9, fo10, fo11, fo12, fo13, fo14] [F0, F1, F2, F3, F4, F5, F6, F7, F8, F9, F10, F11, F12, F13, F14] := by
  have T := tb14 (P := P) (w := w) (K := K) (mg := mg) (base := base) (CT := CT) X G c g
  have T0 : Tb P w K mg base CT 15 [fo0, fo1, fo2, fo3, fo4, fo5, fo6, fo7, fo8, fo9, fo10, fo11, fo12, fo13] [F0, F1, F2, F3, F4, F5, F6, F7, F8, F9, F10, F11, F12, F13] := T.mono (Nat.le_succ _)
  have T1 : Tb P w K mg base CT 15 [fo0, fo1, fo2, fo3, fo4, fo5, fo6, fo7, fo8, fo9, fo10, fo11, fo12, fo13, fo14] [F0, F1, F2, F3, F4, F5, F6, F7, F8, F9, F10, F11, F12, F13, F14] := Tb.add fo14 T0 (st14 X G c g T) rfl (Nat.le_refl _) fb14
  exact T1
theorem tb16 (X : K.In h) (G : h.Ns mainGlobals mg) (c : He.SaysD fa fn K) (g : GlT K mg gls nos) : Tb P w K mg base CT 16 [fo0, fo1, fo2, fo3, fo4, fo5, fo6, fo7, fo8, fo9, fo10, fo11, fo12, fo13, fo14, fo15] [F0, F1, F2, F3, F4, F5, F6, F7, F8, F9, F10, F11, F12, F13, F14, F15] := by
  have T := tb15 (P := P) (w := w) (K := K) (mg := mg) (base := base) (CT := CT) X G c g
  have T0 : Tb P w K mg base CT 16 [fo0, fo1, fo2, fo3, fo4, fo5, fo6, fo7, fo8, fo9, fo10, fo11, fo12, fo13, fo14] [F0, F1, F2, F3, F4, F5, F6, F7, F8, F9, F10, F11, F12, F13, F14] := T.mono (Nat.le_succ _)
  have T1 : Tb P w K mg base CT 16 [fo0, fo1, fo2, fo3, fo4, fo5, fo6, fo7, fo8, fo9, fo10, fo11, fo12, fo13, fo14, fo15] [F0, F1, F2, F3, F4, F5, F6, F7, F8, F9, F10, F11, F12, F13, F14, F15] := Tb.add fo15 T0 (st15 X G c g T) rfl (Nat.le_refl _) fb15
  exact T1
theorem tb17 (X : K.In h) (G : h.Ns mainGlobals mg) (c : He.SaysD fa fn K) (g : GlT K mg gls nos) : Tb P w K mg base CT 17 [fo0, fo1, fo2, fo3, fo4, fo5, fo6, fo7, fo8, fo9, fo10, fo11, fo12, fo13, fo14, fo15, fo16] [F0, F1, F2, F3, F4, F5, F6, F7, F8, F9, F10, F11, F12, F13, F14, F15, F16] := by
  have T := tb16 (P := P) (w := w) (K := K) (mg := mg) (base := base) (CT := CT) X G c g
  have T0 : Tb P w K mg base CT 17 [fo0, fo1, fo2, fo3, fo4, fo5, fo6, fo7, fo8, fo9, fo10, fo11, fo12, fo13, fo14, fo15] [F0, F1, F2, F3, F4, F5, F6, F7, F8, F9, F10, F11, F12, F13, F14, F15] := T.mono (Nat.le_succ _)
  have T1 : Tb P w K mg base CT 17 [fo0, fo1, fo2, fo3, fo4, fo5, fo6, fo7, fo8, fo9, fo10, fo11, fo12, fo13, fo14, fo15, fo16] [F0, F1, F2, F3, F4, F5, F6, F7, F8, F9, F10, F11, F12, F13, F14, F15, F16] := Tb.add fo16 T0 (st16 X G c g T) rfl (Nat.le_refl _) fb16
  exact T1
theorem tb18 (X : K.In h) (G : h.Ns mainGlobals mg) (c : He.SaysD fa fn K) (g : GlT K mg gls nos) : Tb P w K mg base CT 18 [fo0, fo1, fo2, fo3, fo4, fo5, fo6, fo7, fo8, fo9, fo10, fo11, fo12, fo13, fo14, fo15, fo16, fo17] [F0, F1, F2, F3, F4, F5, F6, F7, F8, F9, F10, F11, F12, F13, F14, F15, F16, F17] := by
  have T := tb17 (P := P) (w := w) (K := K) (mg := mg) (base := base) (CT := CT) X G c g
  have T0 : Tb P w K mg base CT 18 [fo0, fo1, fo2, fo3, fo4, fo5, fo6, fo7, fo8, fo9, fo10, fo11, fo12, fo13, fo14, fo15, fo16] [F0, F1, F2, F3, F4, F5, F6, F7, F8, F9, F10, F11, F12, F13, F14, F15, F16] := T.mono (Nat.le_succ _)
  have T1 : Tb P w K mg base CT 18 [fo0, fo1, fo2, fo3, fo4, fo5, fo6, fo7, fo8, fo9, fo10, fo11, fo12, fo13, fo14, fo15, fo16, fo17] [F0, F1, F2, F3, F4, F5, F6, F7, F8, F9, F10, F11, F12, F13, F14, F15, F16, F17] := Tb.add fo17 T0 (st17 X G c g T) rfl (Nat.le_refl _) fb17
  exact T1
theorem tb19 (X : K.In h) (G : h.Ns mainGlobals mg) (c : He.SaysD fa fn K) (g : GlT K mg gls nos) : Tb P w K mg base CT 19 [fo0, fo1, fo2, fo3, fo4, fo5, fo6, fo7, fo8, fo9, fo10, fo11, fo12, fo13, fo14, fo15, fo16, fo17, fo18] [F0, F1, F2, F3, F4, F5, F6, F7, F8, F9, F10, F11, F12, F13, F14, F15, F16, F17, F18] := by
  have T := tb18 (P := P) (w := w) (K := K) (mg := mg) (base := base) (CT := CT) X G c g
  have T0 : Tb P w K mg base CT 19 [fo0, fo1, fo2, fo3, fo4, fo5, fo6, fo7, fo8, fo9, fo10, fo11, fo12, fo13, fo14, fo15, fo16, fo17] [F0, F1, F2, F3, F4, F5, F6, F7, F8, F9, F10, F11, F12, F13, F14, F15, F16, F17] := T.mono (Nat.le_succ _)
  have T1 : Tb P w K mg base CT 19 [fo0, fo1, fo2, fo3, fo4, fo5, fo6, fo7, fo8, fo9, fo10, fo11, fo12, fo13, fo14, fo15, fo16, fo17, fo18] [F0, F1, F2, F3, F4, F5, F6, F7, F8, F9, F10, F11, F12, F13, F14, F15, F16, F17, F18] := Tb.add fo18 T0 (st18 X G c g T) rfl (Nat.le_refl _) fb18
  exact T1
theorem tb20 (X : K.In h) (G : h.Ns mainGlobals mg) (c : He.SaysD fa fn K) (g : GlT K mg gls nos) : Tb P w K mg base CT 20 [fo0, fo1, fo2, fo3, fo4, fo5, fo6, fo7, fo8, fo9, fo10, fo11, fo12, fo13, fo14, fo15, fo16, fo17, fo18, fo19] [F0, F1, F2, F3, F4, F5, F6, F7, F8, F9, F10, F11, F12, F13, F14, F15, F16, F17, F18, F19] := by
  have T := tb19 (P := P) (w := w) (K := K) (mg := mg) (base := base) (CT := CT) X G c g
  have T0 : Tb P w K mg base CT 20 [fo0, fo1, fo2, fo3, fo4, fo5, fo6, fo7, fo8, fo9, fo10, fo11, fo12, fo13, fo14, fo15, fo16, fo17, fo18] [F0, F1, F2, F3, F4, F5, F6, F7, F8, F9, F10, F11, F12, F13, F14, F15, F16, F17, F18] := T.mono (Nat.le_succ _)
  have T1 : Tb P w K mg base CT 20 [fo0, fo1, fo2, fo3, fo4, fo5, fo6, fo7, fo8, fo9, fo10, fo11, fo12, fo13, fo14, fo15, fo16, fo17, fo18, fo19] [F0, F1, F2, F3, F4, F5, F6, F7, F8, F9, F10, F11, F12, F13, F14, F15, F16, F17, F18, F19] := Tb.add fo19 T0 (st19 X G c g T) rfl (Nat.le_refl _) fb19
  exact T1
theorem tb21 (X : K.In h) (G : h.Ns mainGlobals mg) (c : He.SaysD fa fn K) (g : GlT K mg gls nos) : Tb P w K mg base CT 21 [fo0, fo1, fo2, fo3, fo4, fo5, fo6, fo7, fo8, fo9, fo10, fo11, fo12, fo13, fo14, fo15, fo16, fo17, fo18, fo19, fo20] [F0, F1, F2, F3, F4, F5, F6, F7, F8, F9, F10, F11, F12, F13, F14, F15, F16, F17, F18, F19, F20] := by
  have T := tb20 (P := P) (w := w) (K := K) (mg := mg) (base := base) (CT := CT) X G c g
  have T0 : Tb P w K mg base CT 21 [fo0, fo1, fo2, fo3, fo4, fo5, fo6, fo7, fo8, fo9, fo10, fo11, fo12, fo13, fo14, fo15, fo16, fo17, fo18, fo19] [F0, F1, F2, F3, F4, F5, F6, F7, F8, F9, F10, F11, F12, F13, F14, F15, F16, F17, F18, F19] := T.mono (Nat.le_succ _)
  have T1 : Tb P w K mg base CT 21 [fo0, fo1, fo2, fo3, fo4, fo5, fo6, fo7, fo8, fo9, fo10, fo11, fo12, fo13, fo14, fo15, fo16, fo17, fo18, fo19, fo20] [F0, F1, F2, F3, F4, F5, F6, F7, F8, F9, F10, F11, F12, F13, F14, F15, F16, F17, F18, F19, F20] := Tb.add fo20 T0 (st20 X G c g T) rfl (Nat.le_refl _) fb20
  exact T1
theorem tb22 (X : K.In h) (G : h.Ns mainGlobals mg) (c : He.SaysD fa fn K) (g : GlT K mg gls nos) : Tb P w K mg base CT 22 [fo0, fo1, fo2, fo3, fo4, fo5, fo6, fo7, fo8, fo9, fo10, fo11, fo12, fo13, fo14, fo15, fo16, fo17, fo18, fo19, fo20, fo21] [F0, F1, F2, F3, F4, F5, F6, F7, F8, F9, F10, F11, F12, F13, F14, F15, F16, F17, F18, F19, F20, F21] := by
  have T := tb21 (P := P) (w := w) (K := K) (mg := mg) (base := base) (CT := CT) X G c g
  have T0 : Tb P w K mg base CT 22 [fo0, fo1, fo2, fo3, fo4, fo5, fo6, fo7, fo8, fo9, fo10, fo11, fo12, fo13, fo14, fo15, fo16, fo17, fo18, fo19, fo20] [F0, F1, F2, F3, F4, F5, F6, F7, F8, F9, F10, F11, F12, F13, F14, F15, F16, F17, F18, F19, F20] := T.mono (Nat.le_succ _)
  have T1 : Tb P w K mg base CT 22 [fo0, fo1, fo2, fo3, fo4, fo5, fo6, fo7, fo8, fo9, fo10, fo11, fo12, fo13, fo14, fo15, fo16, fo17, fo18, fo19, fo20, fo21] [F0, F1, F2, F3, F4, F5, F6, F7, F8, F9, F10, F11, F12, F13, F14, F15, F16, F17, F18, F19, F20, F21] := Tb.add fo21 T0 (st21 X G c g T) rfl (Nat.le_refl _) fb21
  exact T1
theorem tb23 (X : K.In h) (G : h.Ns mainGlobals mg) (c : He.SaysD fa fn K) (g : GlT K mg gls nos) : Tb P w K mg base CT 23 [fo0, fo1, fo2, fo3, fo4, fo5, fo6, fo7, fo8, fo9, fo10, fo11, fo12, fo13, fo14, fo15, fo16, fo17, fo18, fo19, fo20, fo21, fo22] [F0, F1, F2, F3, F4, F5, F6, F7, F8, F9, F10, F11, F12, F13, F14, F15, F16, F17, F18, F19, F20, F21, F22] := by
  have T := tb22 (P := P) (w := w) (K := K) (mg := mg) (base := base) (CT := CT) X G c g
  have T0 : Tb P w K mg base CT 23 [fo0, fo1, fo2, fo3, fo4, fo5, fo6, fo7, fo8, fo9, fo10, fo11, fo12, fo13, fo14, fo15, fo16, fo17, fo18, fo19, fo20, fo21] [F0, F1, F2, F3, F4, F5, F6, F7, F8, F9, F10, F11, F12, F13, F14, F15, F16, F17, F18, F19, F20, F21] := T.mono (Nat.le_succ _)
  have T1 : Tb P w K mg base CT 23 [fo0, fo1, fo2, fo3, fo4, fo5, fo6, fo7, fo8, fo9, fo10, fo11, fo12, fo13, fo14, fo15, fo16, fo17, fo18, fo19, fo20, fo21, fo22] [F0, F1, F2, F3, F4, F5, F6, F7, F8, F9, F10, F11, F12, F13, F14, F15, F16, F17, F18, F19, F20, F21, F22] := Tb.add fo22 T0 (st22 X G c g T) rfl (Nat.le_refl _) fb22
  exact T1
theorem tb24 (X : K.In h) (G : h.Ns mainGlobals mg) (c : He.SaysD fa fn K) (g : GlT K mg gls nos) : Tb P w K mg base CT 24 [fo0, fo1, fo2, fo3, fo4, fo5, fo6, fo7, fo8, fo9, fo10, fo11, fo12, fo13, fo14, fo15, fo16, fo17, fo18, fo19, fo20, fo21, fo22, fo23] [F0, F1, F2, F3, F4, F5, F6, F7, F8, F9, F10, F11, F12, F13, F14, F15, F16, F17, F18, F19, F20, F21, F22, F23] := by
  have T := tb23 (P := P) (w := w) (K := K) (mg := mg) (base := base) (CT := CT) X G c g
  have T0 : Tb P w K mg base CT 24 [fo0, fo1, fo2, fo3, fo4, fo5, fo6, fo7, fo8, fo9, fo10, fo11, fo12, fo13, fo14, fo15, fo16, fo17, fo18, fo19, fo20, fo21, fo22] [F0, F1, F2, F3, F4, F5, F6, F7, F8, F9, F10, F11, F12, F13, F14, F15, F16, F17, F18, F19, F20, F21, F22] := T.mono (Nat.le_succ _)
  have T1 : Tb P w K mg base CT 24 [fo0, fo1, fo2, fo3, fo4, fo5, fo6, fo7, fo8, fo9, fo10, fo11, fo12, fo13, fo14, fo15, fo16, fo17, fo18, fo19, fo20, fo21, fo22, fo23] [F0, F1, F2, F3, F4, F5, F6, F7, F8, F9, F10, F11, F12, F13, F14, F15, F16, F17, F18, F19, F20, F21, F22, F23] := Tb.add fo23 T0 (st23 X G c g T) rfl (Nat.le_refl _) fb23
  exact T1
theorem tb25 (X : K.In h) (G : h.Ns mainGlobals mg) (c : He.SaysD fa fn K) (g : GlT K mg gls nos) : Tb P w K mg base CT 25 [fo0, fo1, fo2, fo3, fo4, fo5, fo6, fo7, fo8, fo9, fo10, fo11, fo12, fo13, fo14, fo15, fo16, fo17, fo18, fo19, fo20, fo21, fo22, fo23, fo24] [F0, F1, F2, F3, F4, F5, F6, F7, F8, F9, F10, F11, F12, F13, F14, F15, F16, F17, F18, F19, F20, F21, F22, F23, F24] := by
  have T := tb24 (P := P) (w := w) (K := K) (mg := mg) (base := base) (CT := CT) X G c g
  have T0 : Tb P w K mg base CT 25 [fo0, fo1, fo2, fo3, fo4, fo5, fo6, fo7, fo8, fo9, fo10, fo11, fo12, fo13, fo14, fo15, fo16, fo17, fo18, fo19, fo20, fo21, fo22, fo23] [F0, F1, F2, F3, F4, F5, F6, F7, F8, F9, F10, F11, F12, F13, F14, F15, F16, F17, F18, F19, F20, F21, F22, F23] := T.mono (Nat.le_succ _)
  have T1 : Tb P w K mg base CT 25 [fo0, fo1, fo2, fo3, fo4, fo5, fo6, fo7, fo8, fo9, fo10, fo11, fo12, fo13, fo14, fo15, fo16, fo17, fo18, fo19, fo20, fo21, fo22, fo23, fo24] [F0, F1, F2, F3, F4, F5, F6, F7, F8, F9, F10, F11, F12, F13, F14, F15, F16, F17, F18, F19, F20, F21, F22, F23, F24] := Tb.add fo24 T0 (st24 X G c g T) rfl (Nat.le_refl _) fb24
  exact T1
theorem tb26 (X : K.In h) (G : h.Ns mainGlobals mg) (c : He.SaysD fa fn K) (g : GlT K mg gls nos) : Tb P w K mg base CT 26 [fo0, fo1, fo2, fo3, fo4, fo5, fo6, fo7, fo8, fo9, fo10, fo11, fo12, fo13, fo14, fo15, fo16, fo17, fo18, fo19, fo20, fo21, fo22, fo23, fo24, fo25, fo26] [F0, F1, F2, F3, F4, F5, F6, F7, F8, F9, F10, F11, F12, F13, F14, F15, F16, F17, F18, F19, F20, F21, F22, F23, F24, F25, F25] := by
  have T := tb25 (P := P) (w := w) (K := K) (mg := mg) (base := base) (CT := CT) X G c g
  have T0 : Tb P w K mg base CT 26 [fo0, fo1, fo2, fo3, fo4, fo5, fo6, fo7, fo8, fo9, fo10, fo11, fo12, fo13, fo14, fo15, fo16, fo17, fo18, fo19, fo20, fo21, fo22, fo23, fo24] [F0, F1, F2, F3, F4, F5, F6, F7, F8, F9, F10, F11, F12, F13, F14, F15, F16, F17, F18, F19, F20, F21, F22, F23, F24] := T.mono (Nat.le_succ _)
  have T1 : Tb P w K mg base CT 26 [fo0, fo1, fo2, fo3, fo4, fo5, fo6, fo7, fo8, fo9, fo10, fo11, fo12, fo13, fo14, fo15, fo16, fo17, fo18, fo19, fo20, fo21, fo22, fo23, fo24, fo25] [F0, F1, F2, F3, F4, F5, F6, F7, F8, F9, F10, F11, F12, F13, F14, F15, F16, F17, F18, F19, F20, F21, F22, F23, F24, F25] := Tb.add fo25 T0 (st25 X G c g T) rfl (Nat.le_refl _) fb25
  have T2 : Tb P w K mg base CT 26 [fo0, fo1, fo2, fo3, fo4, fo5, fo6, fo7, fo8, fo9, fo10, fo11, fo12, fo13, fo14, fo15, fo16, fo17, fo18, fo19, fo20, fo21, fo22, fo23, fo24, fo25, fo26] [F0, F1, F2, F3, F4, F5, F6, F7, F8, F9, F10, F11, F12, F13, F14, F15, F16, F17, F18, F19, F20, F21, F22, F23, F24, F25, F25] := Tb.add fo26 T1 (st25 X G c g T) rfl (Nat.le_refl _) fb26
  exact T2
theorem tb27 (X : K.In h) (G : h.Ns mainGlobals mg) (c : He.SaysD fa fn K) (g : GlT K mg gls nos) : Tb P w K mg base CT 27 [fo0, fo1, fo2, fo3, fo4, fo5, fo6, fo7, fo8, fo9, fo10, fo11, fo12, fo13, fo14, fo15, fo16, fo17, fo18, fo19, fo20, fo21, fo22, fo23, fo24, fo25, fo26, fo27, fo28] [F0, F1, F2, F3, F4, F5, F6, F7, F8, F9, F10, F11, F12, F13, F14, F15, F16, F17, F18, F19, F20, F21, F22, F23, F24, F25, F25, F26, F26] := by
  have T := tb26 (P := P) (w := w) (K := K) (mg := mg) (base := base) (CT := CT) X G c g
  have T0 : Tb P w K mg base CT 27 [fo0, fo1, fo2, fo3, fo4, fo5, fo6, fo7, fo8, fo9, fo10, fo11, fo12, fo13, fo14, fo15, fo16, fo17, fo18, fo19, fo20, fo21, fo22, fo23, fo24, fo25, fo26] [F0, F1, F2, F3, F4, F5, F6, F7, F8, F9, F10, F11, F12, F13, F14, F15, F16, F17, F18, F19, F20, F21, F22, F23, F24, F25, F25] := T.mono (Nat.le_succ _)
  have T1 : Tb P w K mg base CT 27 [fo0, fo1, fo2, fo3, fo4, fo5, fo6, fo7, fo8, fo9, fo10, fo11, fo12, fo13, fo14, fo15, fo16, fo17, fo18, fo19, fo20, fo21, fo22, fo23, fo24, fo25, fo26, fo27] [F0, F1, F2, F3, F4, F5, F6, F7, F8, F9, F10, F11, F12, F13, F14, F15, F16, F17, F18, F19, F20, F21, F22, F23, F24, F25, F25, F26] := Tb.add fo27 T0 (st26 X G c g T) rfl (Nat.le_refl _) fb27
  have T2 : Tb P w K mg base CT 27 [fo0, fo1, fo2, fo3, fo4, fo5, fo6, fo7, fo8, fo9, fo10, fo11, fo12, fo13, fo14, fo15, fo16, fo17, fo18, fo19, fo20, fo21, fo22, fo23, fo24, fo25, fo26, fo27, fo28] [F0, F1, F2, F3, F4, F5, F6, F7, F8, F9, F10, F11, F12, F13, F14, F15, F16, F17, F18, F19, F20, F21, F22, F23, F24, F25, F25, F26, F26] := Tb.add fo28 T1 (st26 X G c g T) rfl (Nat.le_refl _) fb28
  exact T2
theorem tb28 (X : K.In h) (G : h.Ns mainGlobals mg) (c : He.SaysD fa fn K) (g : GlT K mg gls nos) : Tb P w K mg base CT 28 [fo0, fo1, fo2, fo3, fo4, fo5, fo6, fo7, fo8, fo9, fo10, fo11, fo12, fo13, fo14, fo15, fo16, fo17, fo18, fo19, fo20, fo21, fo22, fo23, fo24, fo25, fo26, fo27, fo28, fo29, fo30] [F0, F1, F2, F3, F4, F5, F6, F7, F8, F9, F10, F11, F12, F13, F14, F15, F16, F17, F18, F19, F20, F21, F22, F23, F24, F25, F25, F26, F26, F27, F27] := by
  have T := tb27 (P := P) (w := w) (K := K) (mg := mg) (base := base) (CT := CT) X G c g
  have T0 : Tb P w K mg base CT 28 [fo0, fo1, fo2, fo3, fo4, fo5, fo6, fo7, fo8, fo9, fo10, fo11, fo12, fo13, fo14, fo15, fo16, fo17, fo18, fo19, fo20, fo21, fo22, fo23, fo24, fo25, fo26, fo27, fo28] [F0, F1, F2, F3, F4, F5, F6, F7, F8, F9, F10, F11, F12, F13, F14, F15, F16, F17, F18, F19, F20, F21, F22, F23, F24, F25, F25, F26, F26] := T.mono (Nat.le_succ _)
  have T1 : Tb P w K mg base CT 28 [fo0, fo1, fo2, fo3, fo4, fo5, fo6, fo7, fo8, fo9, fo10, fo11, fo12, fo13, fo14, fo15, fo16, fo17, fo18, fo19, fo20, fo21, fo22, fo23, fo24, fo25, fo26, fo27, fo28, fo29] [F0, F1, F2, F3, F4, F5, F6, F7, F8, F9, F10, F11, F12, F13, F14, F15, F16, F17, F18, F19, F20, F21, F22, F23, F24, F25, F25, F26, F26, F27] := Tb.add fo29 T0 (st27 X G c g T) rfl (Nat.le_refl _) fb29
  have T2 : Tb P w K mg base CT 28 [fo0, fo1, fo2, fo3, fo4, fo5, fo6, fo7, fo8, fo9, fo10, fo11, fo12, fo13, fo14, fo15, fo16, fo17, fo18, fo19, fo20, fo21, fo22, fo23, fo24, fo25, fo26, fo27, fo28, fo29, fo30] [F0, F1, F2, F3, F4, F5, F6, F7, F8, F9, F10, F11, F12, F13, F14, F15, F16, F17, F18, F19, F20, F21, F22, F23, F24, F25, F25, F26, F26, F27, F27] := Tb.add fo30 T1 (st27 X G c g T) rfl (Nat.le_refl _) fb30
  exact T2
theorem tb29 (X : K.In h) (G : h.Ns mainGlobals mg) (c : He.SaysD fa fn K) (g : GlT K mg gls nos) : Tb P w K mg base CT 29 [fo0, fo1, fo2, fo3, fo4, fo5, fo6, fo7, fo8, fo9, fo10, fo11, fo12, fo13, fo14, fo15, fo16, fo17, fo18, fo19, fo20, fo21, fo22, fo23, fo24, fo25, fo26, fo27, fo28, fo29, fo30, fo31] [F0, F1, F2, F3, F4, F5, F6, F7, F8, F9, F10, F11, F12, F13, F14, F15, F16, F17, F18, F19, F20, F21, F22, F23, F24, F25, F25, F26, F26, F27, F27, F28] := by
  have T := tb28 (P := P) (w := w) (K := K) (mg := mg) (base := base) (CT := CT) X G c g
  have T0 : Tb P w K mg base CT 29 [fo0, fo1, fo2, fo3, fo4, fo5, fo6, fo7, fo8, fo9, fo10, fo11, fo12, fo13, fo14, fo15, fo16, fo17, fo18, fo19, fo20, fo21, fo22, fo23, fo24, fo25, fo26, fo27, fo28, fo29, fo30] [F0, F1, F2, F3, F4, F5, F6, F7, F8, F9, F10, F11, F12, F13, F14, F15, F16, F17, F18, F19, F20, F21, F22, F23, F24, F25, F25, F26, F26, F27, F27] := T.mono (Nat.le_succ _)
  have T1 : Tb P w K mg base CT 29 [fo0, fo1, fo2, fo3, fo4, fo5, fo6, fo7, fo8, fo9, fo10, fo11, fo12, fo13, fo14, fo15, fo16, fo17, fo18, fo19, fo20, fo21, fo22, fo23, fo24, fo25, fo26, fo27, fo28, fo29, fo30, fo31] [F0, F1, F2, F3, F4, F5, F6, F7, F8, F9, F10, F11, F12, F13, F14, F15, F16, F17, F18, F19, F20, F21, F22, F23, F24, F25, F25, F26, F26, F27, F27, F28] := Tb.add fo31 T0 (st28 X G c g T) rfl (Nat.le_refl _) fb31
  exact T1
theorem tb30 (X : K.In h) (G : h.Ns mainGlobals mg) (c : He.SaysD fa fn K) (g : GlT K mg gls nos) : Tb P w K mg base CT 30 [fo0, fo1, fo2, fo3, fo4, fo5, fo6, fo7, fo8, fo9, fo10, fo11, fo12, fo13, fo14, fo15, fo16, fo17, fo18, fo19, fo20, fo21, fo22, fo23, fo24, fo25, fo26, fo27, fo28, fo29, fo30, fo31, fo32] [F0, F1, F2, F3, F4, F5, F6, F7, F8, F9, F10, F11, F12, F13, F14, F15, F16, F17, F18, F19, F20, F21, F22, F23, F24, F25, F25, F26, F26, F27, F27, F28, F29] := by
  have T := tb29 (P := P) (w := w) (K := K) (mg := mg) (base := base) (CT := CT) X G c g
  have T0 : Tb P w K mg base CT 30 [fo0, fo1, fo2, fo3, fo4, fo5, fo6, fo7, fo8, fo9, fo10, fo11, fo12, fo13, fo14, fo15, fo16, fo17, fo18, fo19, fo20, fo21, fo22, fo23, fo24, fo25, fo26, fo27, fo28, fo29, fo30, fo31] [F0, F1, F2, F3, F4, F5, F6, F7, F8, F9, F10, F11, F12, F13, F14, F15, F16, F17, F18, F19, F20, F21, F22, F23, F24, F25, F25, F26, F26, F27, F27, F28] := T.mono (Nat.le_succ _)
  have T1 : Tb P w K mg base CT 30 [fo0, fo1, fo2, fo3, fo4, fo5, fo6, fo7, fo8, fo9, fo10, fo11, fo12, fo13, fo14, fo15, fo16, fo17, fo18, fo19, fo20, fo21, fo22, fo23, fo24, fo25, fo26, fo27, fo28, fo29, fo30, fo31, fo32] [F0, F1, F2, F3, F4, F5, F6, F7, F8, F9, F10, F11, F12, F13, F14, F15, F16, F17, F18, F19, F20, F21, F22, F23, F24, F25, F25, F26, F26, F27, F27, F28, F29] := Tb.add fo32 T0 (st29 X G c g T) rfl (Nat.le_refl _) fb32
  exact T1
theorem tb31 (X : K.In h) (G : h.Ns mainGlobals mg) (c : He.SaysD fa fn K) (g : GlT K mg gls nos) : Tb P w K mg base CT 31 [fo0, fo1, fo2, fo3, fo4, fo5, fo6, fo7, fo8, fo9, fo10, fo11, fo12, fo13, fo14, fo15, fo16, fo17, fo18, fo19, fo20, fo21, fo22, fo23, fo24, fo25, fo26, fo27, fo28, fo29, fo30, fo31, fo32, fo33] [F0, F1, F2, F3, F4, F5, F6, F7, F8, F9, F10, F11, F12, F13, F14, F15, F16, F17, F18, F19, F20, F21, F22, F23, F24, F25, F25, F26, F26, F27, F27, F28, F29, F30] := by
  have T := tb30 (P := P) (w := w) (K := K) (mg := mg) (base := base) (CT := CT) X G c g
  have T0 : Tb P w K mg base CT 31 [fo0, fo1, fo2, fo3, fo4, fo5, fo6, fo7, fo8, fo9, fo10, fo11, fo12, fo13, fo14, fo15, fo16, fo17, fo18, fo19, fo20, fo21, fo22, fo23, fo24, fo25, fo26, fo27, fo28, fo29, fo30, fo31, fo32] [F0, F1, F2, F3, F4, F5, F6, F7, F8, F9, F10, F11, F12, F13, F14, F15, F16, F17, F18, F19, F20, F21, F22, F23, F24, F25, F25, F26, F26, F27, F27, F28, F29] := T.mono (Nat.le_succ _)
  have T1 : Tb P w K mg base CT 31 [fo0, fo1, fo2, fo3, fo4, fo5, fo6, fo7, fo8, fo9, fo10, fo11, fo12, fo13, fo14, fo15, fo16, fo17, fo18, fo19, fo20, fo21, fo22, fo23, fo24, fo25, fo26, fo27, fo28, fo29, fo30, fo31, fo32, fo33] [F0, F1, F2, F3, F4, F5, F6, F7, F8, F9, F10, F11, F12, F13, F14, F15, F16, F17, F18, F19, F20, F21, F22, F23, F24, F25, F25, F26, F26, F27, F27, F28, F29, F30] := Tb.add fo33 T0 (st30 X G c g T) rfl (Nat.le_refl _) fb33
  exact T1
theorem tb32 (X : K.In h) (G : h.Ns mainGlobals mg) (c : He.SaysD fa fn K) (g : GlT K mg gls nos) : Tb P w K mg base CT 32 [fo0, fo1, fo2, fo3, fo4, fo5, fo6, fo7, fo8, fo9, fo10, fo11, fo12, fo13, fo14, fo15, fo16, fo17, fo18, fo19, fo20, fo21, fo22, fo23, fo24, fo25, fo26, fo27, fo28, fo29, fo30, fo31, fo32, fo33, fo34] [F0, F1, F2, F3, F4, F5, F6, F7, F8, F9, F10, F11, F12, F13, F14, F15, F16, F17, F18, F19, F20, F21, F22, F23, F24, F25, F25, F26, F26, F27, F27, F28, F29, F30, F31] := by
  have T := tb31 (P := P) (w := w) (K := K) (mg := mg) (base := base) (CT := CT) X G c g
  have T0 : Tb P w K mg base CT 32 [fo0, fo1, fo2, fo3, fo4, fo5, fo6, fo7, fo8, fo9, fo10, fo11, fo12, fo13, fo14, fo15, fo16, fo17, fo18, fo19, fo20, fo21, fo22, fo23, fo24, fo25, fo26, fo27, fo28, fo29, fo30, fo31, fo32, fo33] [F0, F1, F2, F3, F4, F5, F6, F7, F8, F9, F10, F11, F12, F13, F14, F15, F16, F17, F18, F19, F20, F21, F22, F23, F24, F25, F25, F26, F26, F27, F27, F28, F29, F30] := T.mono (Nat.le_succ _)
  have T1 : Tb P w K mg base CT 32 [fo0, fo1, fo2, fo3, fo4, fo5, fo6, fo7, fo8, fo9, fo10, fo11, fo12, fo13, fo14, fo15, fo16, fo17, fo18, fo19, fo20, fo21, fo22, fo23, fo24, fo25, fo26, fo27, fo28, fo29, fo30, fo31, fo32, fo33, fo34] [F0, F1, F2, F3, F4, F5, F6, F7, F8, F9, F10, F11, F12, F13, F14, F15, F16, F17, F18, F19, F20, F21, F22, F23, F24, F25, F25, F26, F26, F27, F27, F28, F29, F30, F31] := Tb.add fo34 T0 (st31 X G c g T) rfl (Nat.le_refl _) fb34
  exact T1
theorem tb33 (X : K.In h) (G : h.Ns mainGlobals mg) (c : He.SaysD fa fn K) (g : GlT K mg gls nos) : Tb P w K mg base CT 33 [fo0, fo1, fo2, fo3, fo4, fo5, fo6, fo7, fo8, fo9, fo10, fo11, fo12, fo13, fo14, fo15, fo16, fo17, fo18, fo19, fo20, fo21, fo22, fo23, fo24, fo25, fo26, fo27, fo28, fo29, fo30, fo31, fo32, fo33, fo34, fo35] [F0, F1, F2, F3, F4, F5, F6, F7, F8, F9, F10, F11, F12, F13, F14, F15, F16, F17, F18, F19, F20, F21, F22, F23, F24, F25, F25, F26, F26, F27, F27, F28, F29, F30, F31, F32] := by
  have T := tb32 (P := P) (w := w) (K := K) (mg := mg) (base := base) (CT := CT) X G c g
  have T0 : Tb P w K mg base CT 33 [fo0, fo1, fo2, fo3, fo4, fo5, fo6, fo7, fo8, fo9, fo10, fo11, fo12, fo13, fo14, fo15, fo16, fo17, fo18, fo19, fo20, fo21, fo22, fo23, fo24, fo25, fo26, fo27, fo28, fo29, fo30, fo31, fo32, fo33, fo34] [F0, F1, F2, F3, F4, F5, F6, F7, F8, F9, F10, F11, F12, F13, F14, F15, F16, F17, F18, F19, F20, F21, F22, F23, F24, F25, F25, F26, F26, F27, F27, F28, F29, F30, F31] := T.mono (Nat.le_succ _)
  have T1 : Tb P w K mg base CT 33 [fo0, fo1, fo2, fo3, fo4, fo5, fo6, fo7, fo8, fo9, fo10, fo11, fo12, fo13, fo14, fo15, fo16, fo17, fo18, fo19, fo20, fo21, fo22, fo23, fo24, fo25, fo26, fo27, fo28, fo29, fo30, fo31, fo32, fo33, fo34, fo35] [F0, F1, F2, F3, F4, F5, F6, F7, F8, F9, F10, F11, F12, F13, F14, F15, F16, F17, F18, F19, F20, F21, F22, F23, F24, F25, F25, F26, F26, F27, F27, F28, F29, F30, F31, F32] := Tb.add fo35 T0 (st32 X G c g T) rfl (Nat.le_refl _) fb35
  exact T1
theorem tb34 (X : K.In h) (G : h.Ns mainGlobals mg) (c : He.SaysD fa fn K) (g : GlT K mg gls nos) : Tb P w K mg base CT 34 [fo0, fo1, fo2, fo3, fo4, fo5, fo6, fo7, fo8, fo9, fo10, fo11, fo12, fo13, fo14, fo15, fo16, fo17, fo18, fo19, fo20, fo21, fo22, fo23, fo24, fo25, fo26, fo27, fo28, fo29, fo30, fo31, fo32, fo33, fo34, fo35, fo36] [F0, F1, F2, F3, F4, F5, F6, F7, F8, F9, F10, F11, F12, F13, F14, F15, F16, F17, F18, F19, F20, F21, F22, F23, F24, F25, F25, F26, F26, F27, F27, F28, F29, F30, F31, F32, F33] := by
  have T := tb33 (P := P) (w := w) (K := K) (mg := mg) (base := base) (CT := CT) X G c g
  have T0 : Tb P w K mg base CT 34 [fo0, fo1, fo2, fo3, fo4, fo5, fo6, fo7, fo8, fo9, fo10, fo11, fo12, fo13, fo14, fo15, fo16, fo17, fo18, fo19, fo20, fo21, fo22, fo23, fo24, fo25, fo26, fo27, fo28, fo29, fo30, fo31, fo32, fo33, fo34, fo35] [F0, F1, F2, F3, F4, F5, F6, F7, F8, F9, F10, F11, F12, F13, F14, F15, F16, F17, F18, F19, F20, F21, F22, F23, F24, F25, F25, F26, F26, F27, F27, F28, F29, F30, F31, F32] := T.mono (Nat.le_succ _)
  have T1 : Tb P w K mg base CT 34 [fo0, fo1, fo2, fo3, fo4, fo5, fo6, fo7, fo8, fo9, fo10, fo11, fo12, fo13, fo14, fo15, fo16, fo17, fo18, fo19, fo20, fo21, fo22, fo23, fo24, fo25, fo26, fo27, fo28, fo29, fo30, fo31, fo32, fo33, fo34, fo35, fo36] [F0, F1, F2, F3, F4, F5, F6, F7, F8, F9, F10, F11, F12, F13, F14, F15, F16, F17, F18, F19, F20, F21, F22, F23, F24, F25, F25, F26, F26, F27, F27, F28, F29, F30, F31, F32, F33] := Tb.add fo36 T0 (st33 X G c g T) rfl (Nat.le_refl _) fb36
  exact T1
theorem tb35 (X : K.In h) (G : h.Ns mainGlobals mg) (c : He.SaysD fa fn K) (g : GlT K mg gls nos) : Tb P w K mg base CT 35 [fo0, fo1, fo2, fo3, fo4, fo5, fo6, fo7, fo8, fo9, fo10, fo11, fo12, fo13, fo14, fo15, fo16, fo17, fo18, fo19, fo20, fo21, fo22, fo23, fo24, fo25, fo26, fo27, fo28, fo29, fo30, fo31, fo32, fo33, fo34, fo35, fo36, fo37] [F0, F1, F2, F3, F4, F5, F6, F7, F8, F9, F10, F11, F12, F13, F14, F15, F16, F17, F18, F19, F20, F21, F22, F23, F24, F25, F25, F26, F26, F27, F27, F28, F29, F30, F31, F32, F33, F34] := by
  have T := tb34 (P := P) (w := w) (K := K) (mg := mg) (base := base) (CT := CT) X G c g
  have T0 : Tb P w K mg base CT 35 [fo0, fo1, fo2, fo3, fo4, fo5, fo6, fo7, fo8, fo9, fo10, fo11, fo12, fo13, fo14, fo15, fo16, fo17, fo18, fo19, fo20, fo21, fo22, fo23, fo24, fo25, fo26, fo27, fo28, fo29, fo30, fo31, fo32, fo33, fo34, fo35, fo36] [F0, F1, F2, F3, F4, F5, F6, F7, F8, F9, F10, F11, F12, F13, F14, F15, F16, F17, F18, F19, F20, F21, F22, F23, F24, F25, F25, F26, F26, F27, F27, F28, F29, F30, F31, F32, F33] := T.mono (Nat.le_succ _)
  have T1 : Tb P w K mg base CT 35 [fo0, fo1, fo2, fo3, fo4, fo5, fo6, fo7, fo8, fo9, fo10, fo11, fo12, fo13, fo14, fo15, fo16, fo17, fo18, fo19, fo20, fo21, fo22, fo23, fo24, fo25, fo26, fo27, fo28, fo29, fo30, fo31, fo32, fo33, fo34, fo35, fo36, fo37] [F0, F1, F2, F3, F4, F5, F6, F7, F8, F9, F10, F11, F12, F13, F14, F15, F16, F17, F18, F19, F20, F21, F22, F23, F24, F25, F25, F26, F26, F27, F27, F28, F29, F30, F31, F32, F33, F34] := Tb.add fo37 T0 (st34 X G c g T) rfl (Nat.le_refl _) fb37
  exact T1
theorem tb36 (X : K.In h) (G : h.Ns mainGlobals mg) (c : He.SaysD fa fn K) (g : GlT K mg gls nos) : Tb P w K mg base CT 36 [fo0, fo1, fo2, fo3, fo4, fo5, fo6, fo7, fo8, fo9, fo10, fo11, fo12, fo13, fo14, fo15, fo16, fo17, fo18, fo19, fo20, fo21, fo22, fo23, fo24, fo25, fo26, fo27, fo28, fo29, fo30, fo31, fo32, fo33, fo34, fo35, fo36, fo37, fo38] [F0, F1, F2, F3, F4, F5, F6, F7, F8, F9, F10, F11, F12, F13, F14, F15, F16, F17, F18, F19, F20, F21, F22, F23, F24, F25, F25, F26, F26, F27, F27, F28, F29, F30, F31, F32, F33, F34, F35] := by
  have T := tb35 (P := P) (w := w) (K := K) (mg := mg) (base := base) (CT := CT) X G c g
  have T0 : Tb P w K mg base CT 36 [fo0, fo1, fo2, fo3, fo4, fo5, fo6, fo7, fo8, fo9, fo10, fo11, fo12, fo13, fo14, fo15, fo16, fo17, fo18, fo19, fo20, fo21, fo22, fo23, fo24, fo25, fo26, fo27, fo28, fo29, fo30, fo31, fo32, fo33, fo34, fo35, fo36, fo37] [F0, F1, F2, F3, F4, F5, F6, F7, F8, F9, F10, F11, F12, F13, F14, F15, F16, F17, F18, F19, F20, F21, F22, F23, F24, F25, F25, F26, F26, F27, F27, F28, F29, F30, F31, F32, F33, F34] := T.mono (Nat.le_succ _)
  have T1 : Tb P w K mg base CT 36 [fo0, fo1, fo2, fo3, fo4, fo5, fo6, fo7, fo8, fo9, fo10, fo11, fo12, fo13, fo14, fo15, fo16, fo17, fo18, fo19, fo20, fo21, fo22, fo23, fo24, fo25, fo26, fo27, fo28, fo29, fo30, fo31, fo32, fo33, fo34, fo35, fo36, fo37, fo38] [F0, F1, F2, F3, F4, F5, F6, F7, F8, F9, F10, F11, F12, F13, F14, F15, F16, F17, F18, F19, F20, F21, F22, F23, F24, F25, F25, F26, F26, F27, F27, F28, F29, F30, F31, F32, F33, F34, F35] := Tb.add fo38 T0 (st35 X G c g T) rfl (Nat.le_refl _) fb38
  exact T1
theorem tb37 (X : K.In h) (G : h.Ns mainGlobals mg) (c : He.SaysD fa fn K) (g : GlT K mg gls nos) : Tb P w K mg base CT 37 [fo0, fo1, fo2, fo3, fo4, fo5, fo6, fo7, fo8, fo9, fo10, fo11, fo12, fo13, fo14, fo15, fo16, fo17, fo18, fo19, fo20, fo21, fo22, fo23, fo24, fo25, fo26, fo27, fo28, fo29, fo30, fo31, fo32, fo33, fo34, fo35, fo36, fo37, fo38, fo39] [F0, F1, F2, F3, F4, F5, F6, F7, F8, F9, F10, F11, F12, F13, F14, F15, F16, F17, F18, F19, F20, F21, F22, F23, F24, F25, F25, F26, F26, F27, F27, F28, F29, F30, F31, F32, F33, F34, F35, F36] := by
  have T := tb36 (P := P) (w := w) (K := K) (mg := mg) (base := base) (CT := CT) X G c g
  have T0 : Tb P w K mg base CT 37 [fo0, fo1, fo2, fo3, fo4, fo5, fo6, fo7, fo8, fo9, fo10, fo11, fo12, fo13, fo14, fo15, fo16, fo17, fo18, fo19, fo20, fo21, fo22, fo23, fo24, fo25, fo26, fo27, fo28, fo29, fo30, fo31, fo32, fo33, fo34, fo35, fo36, fo37, fo38] [F0, F1, F2, F3, F4, F5, F6, F7, F8, F9, F10, F11, F12, F13, F14, F15, F16, F17, F18, F19, F20, F21, F22, F23, F24, F25, F25, F26, F26, F27, F27, F28, F29, F30, F31, F32, F33, F34, F35] := T.mono (Nat.le_succ _)
  have T1 : Tb P w K mg base CT 37 [fo0, fo1, fo2, fo3, fo4, fo5, fo6, fo7, fo8, fo9, fo10, fo11, fo12, fo13, fo14, fo15, fo16, fo17, fo18, fo19, fo20, fo21, fo22, fo23, fo24, fo25, fo26, fo27, fo28, fo29, fo30, fo31, fo32, fo33, fo34, fo35, fo36, fo37, fo38, fo39] [F0, F1, F2, F3, F4, F5, F6, F7, F8, F9, F10, F11, F12, F13, F14, F15, F16, F17, F18, F19, F20, F21, F22, F23, F24, F25, F25, F26, F26, F27, F27, F28, F29, F30, F31, F32, F33, F34, F35, F36] := Tb.add fo39 T0 (st36 X G c g T) rfl (Nat.le_refl _) fb39
  exact T1
theorem tb38 (X : K.In h) (G : h.Ns mainGlobals mg) (c : He.SaysD fa fn K) (g : GlT K mg gls nos) : Tb P w K mg base CT 38 [fo0, fo1, fo2, fo3, fo4, fo5, fo6, fo7, fo8, fo9, fo10, fo11, fo12, fo13, fo14, fo15, fo16, fo17, fo18, fo19, fo20, fo21, fo22, fo23, fo24, fo25, fo26, fo27, fo28, fo29, fo30, fo31, fo32, fo33, fo34, fo35, fo36, fo37, fo38, fo39, fo40] [F0, F1, F2, F3, F4, F5, F6, F7, F8, F9, F10, F11, F12, F13, F14, F15, F16, F17, F18, F19, F20, F21, F22, F23, F24, F25, F25, F26, F26, F27, F27, F28, F29, F30, F31, F32, F33, F34, F35, F36, F37] := by
  have T := tb37 (P := P) (w := w) (K := K) (mg := mg) (base := base) (CT := CT) X G c g
  have T0 : Tb P w K mg base CT 38 [fo0, fo1, fo2, fo3, fo4, fo5, fo6, fo7, fo8, fo9, fo10, fo11, fo12, fo13, fo14, fo15, fo16, fo17, fo18, fo19, fo20, fo21, fo22, fo23, fo24, fo25, fo26, fo27, fo28, fo29, fo30, fo31, fo32, fo33, fo34, fo35, fo36, fo37, fo38, fo39] [F0, F1, F2, F3, F4, F5, F6, F7, F8, F9, F10, F11, F12, F13, F14, F15, F16, F17, F18, F19, F20, F21, F22, F23, F24, F25, F25, F26, F26, F27, F27, F28, F29, F30, F31, F32, F33, F34, F35, F36] := T.mono (Nat.le_succ _)
  have T1 : Tb P w K mg base CT 38 [fo0, fo1, fo2, fo3, fo4, fo5, fo6, fo7, fo8, fo9, fo10, fo11, fo12, fo13, fo14, fo15, fo16, fo17, fo18, fo19, fo20, fo21, fo22, fo23, fo24, fo25, fo26, fo27, fo28, fo29, fo30, fo31, fo32, fo33, fo34, fo35, fo36, fo37, fo38, fo39, fo40] [F0, F1, F2, F3, F4, F5, F6, F7, F8, F9, F10, F11, F12, F13, F14, F15, F16, F17, F18, F19, F20, F21, F22, F23, F24, F25, F25, F26, F26, F27, F27, F28, F29, F30, F31, F32, F33, F34, F35, F36, F37] := Tb.add fo40 T0 (st37 X G c g T) rfl (Nat.le_refl _) fb40
  exact T1
theorem tb39 (X : K.In h) (G : h.Ns mainGlobals mg) (c : He.SaysD fa fn K) (g : GlT K mg gls nos) : Tb P w K mg base CT 39 [fo0, fo1, fo2, fo3, fo4, fo5, fo6, fo7, fo8, fo9, fo10, fo11, fo12, fo13, fo14, fo15, fo16, fo17, fo18, fo19, fo20, fo21, fo22, fo23, fo24, fo25, fo26, fo27, fo28, fo29, fo30, fo31, fo32, fo33, fo34, fo35, fo36, fo37, fo38, fo39, fo40, fo41] [F0, F1, F2, F3, F4, F5, F6, F7, F8, F9, F10, F11, F12, F13, F14, F15, F16, F17, F18, F19, F20, F21, F22, F23, F24, F25, F25, F26, F26, F27, F27, F28, F29, F30, F31, F32, F33, F34, F35, F36, F37, F38] := by
  have T := tb38 (P := P) (w := w) (K := K) (mg := mg) (base := base) (CT := CT) X G c g
  have T0 : Tb P w K mg base CT 39 [fo0, fo1, fo2, fo3, fo4, fo5, fo6, fo7, fo8, fo9, fo10, fo11, fo12, fo13, fo14, fo15, fo16, fo17, fo18, fo19, fo20, fo21, fo22, fo23, fo24, fo25, fo26, fo27, fo28, fo29, fo30, fo31, fo32, fo33, fo34, fo35, fo36, fo37, fo38, fo39, fo40] [F0, F1, F2, F3, F4, F5, F6, F7, F8, F9, F10, F11, F12, F13, F14, F15, F16, F17, F18, F19, F20, F21, F22, F23, F24, F25, F25, F26, F26, F27, F27, F28, F29, F30, F31, F32, F33, F34, F35, F36, F37] := T.mono (Nat.le_succ _)
  have T1 : Tb P w K mg base CT 39 [fo0, fo1, fo2, fo3, fo4, fo5, fo6, fo7, fo8, fo9, fo10, fo11, fo12, fo13, fo14, fo15, fo16, fo17, fo18, fo19, fo20, fo21, fo22, fo23, fo24, fo25, fo26, fo27, fo28, fo29, fo30, fo31, fo32, fo33, fo34, fo35, fo36, fo37, fo38, fo39, fo40, fo41] [F0, F1, F2, F3, F4, F5, F6, F7, F8, F9, F10, F11, F12, F13, F14, F15, F16, F17, F18, F19, F20, F21, F22, F23, F24, F25, F25, F26, F26, F27, F27, F28, F29, F30, F31, F32, F33, F34, F35, F36, F37, F38] := Tb.add fo41 T0 (st38 X G c g T) rfl (Nat.le_refl _) fb41
  exact T1
theorem tb40 (X : K.In h) (G : h.Ns mainGlobals mg) (c : He.SaysD fa fn K) (g : GlT K mg gls nos) : Tb P w K mg base CT 40 [fo0, fo1, fo2, fo3, fo4, fo5, fo6, fo7, fo8, fo9, fo10, fo11, fo12, fo13, fo14, fo15, fo16, fo17, fo18, fo19, fo20, fo21, fo22, fo23, fo24, fo25, fo26, fo27, fo28, fo29, fo30, fo31, fo32, fo33, fo34, fo35, fo36, fo37, fo38, fo39, fo40, fo41, fo42] [F0, F1, F2, F3, F4, F5, F6, F7, F8, F9, F10, F11, F12, F13, F14, F15, F16, F17, F18, F19, F20, F21, F22, F23, F24, F25, F25, F26, F26, F27, F27, F28, F29, F30, F31, F32, F33, F34, F35, F36, F37, F38, F39] := by
  have T := tb39 (P := P) (w := w) (K := K) (mg := mg) (base := base) (CT := CT) X G c g
  have T0 : Tb P w K mg base CT 40 [fo0, fo1, fo2, fo3, fo4, fo5, fo6, fo7, fo8, fo9, fo10, fo11, fo12, fo13, fo14, fo15, fo16, fo17, fo18, fo19, fo20, fo21, fo22, fo23, fo24, fo25, fo26, fo27, fo28, fo29, fo30, fo31, fo32, fo33, fo34, fo35, fo36, fo37, fo38, fo39, fo40, fo41] [F0, F1, F2, F3, F4, F5, F6, F7, F8, F9, F10, F11, F12, F13, F14, F15, F16, F17, F18, F19, F20, F21, F22, F23, F24, F25, F25, F26, F26, F27, F27, F28, F29, F30, F31, F32, F33, F34, F35, F36, F37, F38] := T.mono (Nat.le_succ _)
  have T1 : Tb P w K mg base CT 40 [fo0, fo1, fo2, fo3, fo4, fo5, fo6, fo7, fo8, fo9, fo10, fo11, fo12, fo13, fo14, fo15, fo16, fo17, fo18, fo19, fo20, fo21, fo22, fo23, fo24, fo25, fo26, fo27, fo28, fo29, fo30, fo31, fo32, fo33, fo34, fo35, fo36, fo37, fo38, fo39, fo40, fo41, fo42] [F0, F1, F2, F3, F4, F5, F6, F7, F8, F9, F10, F11, F12, F13, F14, F15, F16, F17, F18, F19, F20, F21, F22, F23, F24, F25, F25, F26, F26, F27, F27, F28, F29, F30, F31, F32, F33, F34, F35, F36, F37, F38, F39] := Tb.add fo42 T0 (st39 X G c g T) rfl (Nat.le_refl _) fb42
  exact T1
theorem tb41 (X : K.In h) (G : h.Ns mainGlobals mg) (c : He.SaysD fa fn K) (g : GlT K mg gls nos) : Tb P w K mg base CT 41 [fo0, fo1, fo2, fo3, fo4, fo5, fo6, fo7, fo8, fo9, fo10, fo11, fo12, fo13, fo14, fo15, fo16, fo17, fo18, fo19, fo20, fo21, fo22, fo23, fo24, fo25, fo26, fo27, fo28, fo29, fo30, fo31, fo32, fo33, fo34, fo35, fo36, fo37, fo38, fo39, fo40, fo41, fo42, fo43] [F0, F1, F2, F3, F4, F5, F6, F7, F8, F9, F10, F11, F12, F13, F14, F15, F16, F17, F18, F19, F20, F21, F22, F23, F24, F25, F25, F26, F26, F27, F27, F28, F29, F30, F31, F32, F33, F34, F35, F36, F37, F38, F39, F40] := by
  have T := tb40 (P := P) (w := w) (K := K) (mg := mg) (base := base) (CT := CT) X G c g
  have T0 : Tb P w K mg base CT 41 [fo0, fo1, fo2, fo3, fo4, fo5, fo6, fo7, fo8, fo9, fo10, fo11, fo12, fo13, fo14, fo15, fo16, fo17, fo18, fo19, fo20, fo21, fo22, fo23, fo24, fo25, fo26, fo27, fo28, fo29, fo30, fo31, fo32, fo33, fo34, fo35, fo36, fo37, fo38, fo39, fo40, fo41, fo42] [F0, F1, F2, F3, F4, F5, F6, F7, F8, F9, F10, F11, F12, F13, F14, F15, F16, F17, F18, F19, F20, F21, F22, F23, F24, F25, F25, F26, F26, F27, F27, F28, F29, F30, F31, F32, F33, F34, F35, F36, F37, F38, F39] := T.mono (Nat.le_succ _)
  have T1 : Tb P w K mg base CT 41 [fo0, fo1, fo2, fo3, fo4, fo5, fo6, fo7, fo8, fo9, fo10, fo11, fo12, fo13, fo14, fo15, fo16, fo17, fo18, fo19, fo20, fo21, fo22, fo23, fo24, fo25, fo26, fo27, fo28, fo29, fo30, fo31, fo32, fo33, fo34, fo35, fo36, fo37, fo38, fo39, fo40, fo41, fo42, fo43] [F0, F1, F2, F3, F4, F5, F6, F7, F8, F9, F10, F11, F12, F13, F14, F15, F16, F17, F18, F19, F20, F21, F22, F23, F24, F25, F25, F26, F26, F27, F27, F28, F29, F30, F31, F32, F33, F34, F35, F36, F37, F38, F39, F40] := Tb.add fo43 T0 (st40 X G c g T) rfl (Nat.le_refl _) fb43
  exact T1
theorem tb42 (X : K.In h) (G : h.Ns mainGlobals mg) (c : He.SaysD fa fn K) (g : GlT K mg gls nos) : Tb P w K mg base CT 42 [fo0, fo1, fo2, fo3, fo4, fo5, fo6, fo7, fo8, fo9, fo10, fo11, fo12, fo13, fo14, fo15, fo16, fo17, fo18, fo19, fo20, fo21, fo22, fo23, fo24, fo25, fo26, fo27, fo28, fo29, fo30, fo31, fo32, fo33, fo34, fo35, fo36, fo37, fo38, fo39, fo40, fo41, fo42, fo43, fo44] [F0, F1, F2, F3, F4, F5, F6, F7, F8, F9, F10, F11, F12, F13, F14, F15, F16, F17, F18, F19, F20, F21, F22, F23, F24, F25, F25, F26, F26, F27, F27, F28, F29, F30, F31, F32, F33, F34, F35, F36, F37, F38, F39, F40, F41] := by
  have T := tb41 (P := P) (w := w) (K := K) (mg := mg) (base := base) (CT := CT) X G c g
  have T0 : Tb P w K mg base CT 42 [fo0, fo1, fo2, fo3, fo4, fo5, fo6, fo7, fo8, fo9, fo10, fo11, fo12, fo13, fo14, fo15, fo16, fo17, fo18, fo19, fo20, fo21, fo22, fo23, fo24, fo25, fo26, fo27, fo28, fo29, fo30, fo31, fo32, fo33, fo34, fo35, fo36, fo37, fo38, fo39, fo40, fo41, fo42, fo43] [F0, F1, F2, F3, F4, F5, F6, F7, F8, F9, F10, F11, F12, F13, F14, F15, F16, F17, F18, F19, F20, F21, F22, F23, F24, F25, F25, F26, F26, F27, F27, F28, F29, F30, F31, F32, F33, F34, F35, F36, F37, F38, F39, F40] := T.mono (Nat.le_succ _)
  have T1 : Tb P w K mg base CT 42 [fo0, fo1, fo2, fo3, fo4, fo5, fo6, fo7, fo8, fo9, fo10, fo11, fo12, fo13, fo14, fo15, fo16, fo17, fo18, fo19, fo20, fo21, fo22, fo23, fo24, fo25, fo26, fo27, fo28, fo29, fo30, fo31, fo32, fo33, fo34, fo35, fo36, fo37, fo38, fo39, fo40, fo41, fo42, fo43, fo44] [F0, F1, F2, F3, F4, F5, F6, F7, F8, F9, F10, F11, F12, F13, F14, F15, F16, F17, F18, F19, F20, F21, F22, F23, F24, F25, F25, F26, F26, F27, F27, F28, F29, F30, F31, F32, F33, F34, F35, F36, F37, F38, F39, F40, F41] := Tb.add fo44 T0 (st41 X G c g T) rfl (Nat.le_refl _) fb44
  exact T1
theorem tb43 (X : K.In h) (G : h.Ns mainGlobals mg) (c : He.SaysD fa fn K) (g : GlT K mg gls nos) : Tb P w K mg base CT 43 [fo0, fo1, fo2, fo3, fo4, fo5, fo6, fo7, fo8, fo9, fo10, fo11, fo12, fo13, fo14, fo15, fo16, fo17, fo18, fo19, fo20, fo21, fo22, fo23, fo24, fo25, fo26, fo27, fo28, fo29, fo30, fo31, fo32, fo33, fo34, fo35, fo36, fo37, fo38, fo39, fo40, fo41, fo42, fo43, fo44, fo45] [F0, F1, F2, F3, F4, F5, F6, F7, F8, F9, F10, F11, F12, F13, F14, F15, F16, F17, F18, F19, F20, F21, F22, F23, F24, F25, F25, F26, F26, F27, F27, F28, F29, F30, F31, F32, F33, F34, F35, F36, F37, F38, F39, F40, F41, F42] := by
  have T := tb42 (P := P) (w := w) (K := K) (mg := mg) (base := base) (CT := CT) X G c g
  have T0 : Tb P w K mg base CT 43 [fo0, fo1, fo2, fo3, fo4, fo5, fo6, fo7, fo8, fo9, fo10, fo11, fo12, fo13, fo14, fo15, fo16, fo17, fo18, fo19, fo20, fo21, fo22, fo23, fo24, fo25, fo26, fo27, fo28, fo29, fo30, fo31, fo32, fo33, fo34, fo35, fo36, fo37, fo38, fo39, fo40, fo41, fo42, fo43, fo44] [F0, F1, F2, F3, F4, F5, F6, F7, F8, F9, F10, F11, F12, F13, F14, F15, F16, F17, F18, F19, F20, F21, F22, F23, F24, F25, F25, F26, F26, F27, F27, F28, F29, F30, F31, F32, F33, F34, F35, F36, F37, F38, F39, F40, F41] := T.mono (Nat.le_succ _)
  have T1 : Tb P w K mg base CT 43 [fo0, fo1, fo2, fo3, fo4, fo5, fo6, fo7, fo8, fo9, fo10, fo11, fo12, fo13, fo14, fo15, fo16, fo17, fo18, fo19, fo20, fo21, fo22, fo23, fo24, fo25, fo26, fo27, fo28, fo29, fo30, fo31, fo32, fo33, fo34, fo35, fo36, fo37, fo38, fo39, fo40, fo41, fo42, fo43, fo44, fo45] [F0, F1, F2, F3, F4, F5, F6, F7, F8, F9, F10, F11, F12, F13, F14, F15, F16, F17, F18, F19, F20, F21, F22, F23, F24, F25, F25, F26, F26, F27, F27, F28, F29, F30, F31, F32, F33, F34, F35, F36, F37, F38, F39, F40, F41, F42] := Tb.add fo45 T0 (st42 X G c g T) rfl (Nat.le_refl _) fb45
  exact T1
theorem facts {f : Addr} (X : K.In h) (G : h.Ns mainGlobals mg) (hfa : mg ("law" : Str) = some (.ref f)) (c : SaysZ fa fn (exB gls nos) K) :
    ∃ fd : FuncData, (∀ (s : Shared) (v : Value), BindsTo s fd ⟨[v], []⟩ [("script", v)]) ∧ ∀ base : Heap, K.In base → base.Ns mainGlobals mg → FnG P w K mg base CX0 44 f fd ["script"] (spD K CT F43) := by
  have gl := exB_ok X G c.2
  obtain ⟨fd, F⟩ := c.1.def_ 43 (d := d43) rfl
  have e := hfa.symm.trans (He.glo_ok X G (c.1.fact 43 (f := .glo "law") rfl))
  cases e
  have b := FunD.bindsA (ps := ["script"]) F fun _ _ _ _ _ _ us hl => match us, hl with | [_], _ => rfl
  refine ⟨fd, fun s v => b s [v] rfl, fun base _ _ => ?_⟩
  exact def_ok (fun _ _ _ _ _ h => h) (fun _ _ _ _ _ _ => pass00) F (tb43 X G c.1 gl) gl (Bool.and_eq_true_iff.mp ck43).1 (Bool.and_eq_true_iff.mp ck43).2
end
abbrev R : PySem.W.OpenRow := PySem.W.OpenLaw.row PySem.Challenge.rw_whatanswerstell_k87_whole_strata_and_spr
abbrev hk : PySem.W.Hook := hookZ 6 fa fn (exB gls nos)
def ob (s : PySem.W.SharedT) : AlZ := obsZ 6 fa fn (exB gls nos) (HandSHeadRun.getT s)
theorem ob_eq (s : PySem.W.SharedT) : ob s = hk.obs s.abs := obsZ_eq (HandSHeadRun.getT_eq s)
def loo : List PySem.Str := (["__name__", "AnswerError", "BadLot", "BadTable", "BadTask", "NotFull", "MOST_PERSONS", "MOST_TASKS", "RIGHT", "WRONG", "LOST", "is_integer", "is_between", "are_between", "is_ascending", "common", "part", "NOUGHT", "plus", "divided", "sum_of", "SIGNS", "is_row_of", "is_table_of", "check_table", "check_task", "cells_with", "check_all_there", "check_full", "check_lot"] : List PySem.Str) ++ (["check_asked", "strata_by", "strata", "choices", "ways_by", "ways", "right_of", "shares_by", "share_more", "share_less", "odds_told", "middle_by", "middle_of", "_law_pot", "_law_take", "_law_of", "_law_cells", "_law_some", "_law_lot", "_law_part", "_law_plus", "_law_sum", "_law_less", "_law_table", "_law_spreadings", "_law_right"] : List PySem.Str)
end K87

namespace K87
open PySem PySem.Spec PyProof.Rows L2 Den
section
variable {α β : Type}
@[simp] theorem bnd_ok {a : α} {m : M α} {f : α → M β} {S S' : Sto} (h : m S = .ok a S') : Den.bnd m f S = f a S' := by unfold Den.bnd; rw [h]
@[simp] theorem bnd_ret (a : α) (f : α → M β) : Den.bnd (Den.ret a) f = f a := rfl
@[simp] theorem guardM_t (m : M α) : Den.guardM true m = m := rfl
@[simp] theorem ret_at (a : α) (S : Sto) : Den.ret a S = .ok a S := rfl
theorem bnd_assoc {γ : Type} (m : M α) (f : α → M β) (g : β → M γ) : Den.bnd (Den.bnd m f) g = Den.bnd m fun a => Den.bnd (f a) g := by
  funext S
  unfold Den.bnd
  cases m S <;> rfl
theorem frame_p {F : List D → M D} {ds : List D} {x : PyData} (hp : ds.all D.pure = true) (h : ∃ S', F ds Sto.new = .ok (.p x) S') (S : Sto) : frame F ds S = .ok (.p x) S := by
  obtain ⟨S', e⟩ := h
  unfold frame
  rw [if_pos hp, e]
  rfl
/-- a call with pure values, a pure answer -/
theorem frame_ret {F : List D → M D} {ds : List D} {x : PyData} (hp : ds.all D.pure = true) (h : ∃ S', F ds Sto.new = .ok (.p x) S') : frame F ds = Den.ret (.p x) := funext fun S => frame_p hp h S
end
theorem F0_int (i : Int) : F0 [.int i] = Den.ret (.bl true) := funext fun S => rfl
theorem fr0_int (i : Int) : frame F0 [.int i] = Den.ret (.bl true) := frame_ret rfl ⟨_, congrFun (F0_int i) _⟩
theorem F1_int (i j k : Int) : F1 [.int i, .int j, .int k] = Den.ret (.bl (decide (j ≤ i) && decide (i ≤ k))) := by
  by_cases h : j ≤ i <;>
  simp [F1, runF, t1, n1, Sxs.den, Sx.den, Ex.den, Bx.den, Bs.den, Exs.den, seqS, skipS, retS, boolS, andS, notS, bsD, asBS, chnS, callG, callS, argsS, mkG, fo0, pmL, vS, fr0_int, asBoolD, endS, cmpD, leD, bnd_assoc, h]
theorem fr1_int (i j k : Int) : frame F1 [.int i, .int j, .int k] = Den.ret (.bl (decide (j ≤ i) && decide (i ≤ k))) := frame_ret rfl ⟨_, congrFun (F1_int i j k) _⟩
/-! ### the greatest common divisor -/
/-- Euclid: two steps halve -/
theorem gcd_run (r : Int → Int → Rho) (t : DB) (b : DSt) (ht : ∀ x y : Int, t (r (x) (y)) = Den.ret (decide (y ≠ 0)))
    (hb : ∀ x y : Int, 0 < y → b (r (x) (y)) = Den.ret (.nx (r (y) ((x % y))))) :
    ∀ (e : Nat) (x y : Nat), y < 2 ^ e → ∀ k, 2 * e < k → whGo t b k (r (x) (y)) = Den.ret (.nx (r ((Nat.gcd x y)) (0))) := by
  intro e
  induction e with
  | zero =>
    intro x y hy k hk
    obtain rfl : y = 0 := by simpa using hy
    obtain ⟨k, rfl⟩ : ∃ j, k = j + 1 := ⟨k - 1, by omega⟩
    unfold whGo
    rw [ht]
    simp
  | succ e ih =>
    intro x y hy k hk
    obtain ⟨k, rfl⟩ : ∃ j, k = j + 1 := ⟨k - 1, by omega⟩
    unfold whGo
    rw [ht]
    by_cases h0 : y = 0
    · subst h0; simp
    · have y1 : (0 : Int) < (y : Int) := by omega
      rw [bnd_ret, decide_eq_true (by omega), if_pos rfl, hb _ _ y1, bnd_ret]
      obtain ⟨k, rfl⟩ : ∃ j, k = j + 1 := ⟨k - 1, by omega⟩
      show whGo t b (k + 1) (r (y) (((x : Int) % (y : Int)))) = _
      rw [show ((x : Int) % (y : Int)) = ((x % y : Nat) : Int) from rfl]
      unfold whGo
      rw [ht]
      have lt := Nat.mod_lt x (Nat.pos_of_ne_zero h0)
      by_cases h1 : x % y = 0
      · rw [h1]
        have : Nat.gcd x y = y := by rw [Nat.gcd_comm, Nat.gcd_rec, h1, Nat.gcd_zero_left]
        simp [this]
      · have y2 : (0 : Int) < ((x % y : Nat) : Int) := by omega
        rw [bnd_ret, decide_eq_true (by omega), if_pos rfl, hb _ _ y2, bnd_ret]
        show whGo t b k (r (((x % y : Nat) : Int)) (((y : Int) % ((x % y : Nat) : Int)))) = _
        rw [show ((y : Int) % ((x % y : Nat) : Int)) = ((y % (x % y) : Nat) : Int) from rfl]
        have half : y % (x % y) < 2 ^ e := by
          have a := Nat.mod_lt y (Nat.pos_of_ne_zero h1)
          have b := Nat.div_add_mod y (x % y)
          have c : 1 ≤ y / (x % y) := (Nat.one_le_div_iff (Nat.pos_of_ne_zero h1)).mpr (Nat.le_of_lt lt)
          have d : x % y ≤ (x % y) * (y / (x % y)) := Nat.le_mul_of_pos_right _ c
          have f : 2 ^ (e + 1) = 2 * 2 ^ e := by rw [Nat.pow_succ, Nat.mul_comm]
          omega
        rw [ih _ _ half k (by omega)]
        have g1 : Nat.gcd (x % y) (y % (x % y)) = Nat.gcd x y := by
          rw [Nat.gcd_comm (x % y), ← Nat.gcd_rec, ← Nat.gcd_rec, Nat.gcd_comm]
        rw [g1]
theorem eq_int (i j : Int) : eqD (.int i) (.int j) = Den.ret (decide (i = j)) := by
  funext S
  by_cases h : i = j <;> simp [eqD, asPy, toPy, Den.bnd, eqPD, Den.ret, Den.guardM, scalP, PyData.eqv, h]
theorem F4_nat (e x y : Nat) (h : y < 2 ^ e) (he : 2 * e < 1000000) : F4 [.int x, .int y] = Den.ret (.int (Nat.gcd x y)) := by
  have hr := gcd_run (fun x y => [some (.int x), some (.int y)]) (cmpS .NotEq (vS 1) (kS (.int 0))) (seqS (parS [0, 1] [vS 1, binS .Mod (vS 0) (vS 1)]) skipS)
    (fun x y => by simp [cmpS, vS, kS, cmpD, Den.notM, eq_int]) (fun x y h1 => by simp [seqS, parS, vS, binS, binD, modD, argsS, skipS, setAll, h1]) e x y h whFuel he
  show Den.guardM true (Den.bnd (Den.bnd (whGo (cmpS .NotEq (vS 1) (kS (.int 0))) (seqS (parS [0, 1] [vS 1, binS .Mod (vS 0) (vS 1)]) skipS) whFuel [some (.int x), some (.int y)]) _) endS) = _
  rw [hr]
  rfl
end K87

namespace K87
open PySem PySem.Spec PyProof.Rows L2 Den
abbrev big : Nat := 8000
def okN (n : Nat) : Bool := decide (n < 2 ^ big)
theorem okN_lt {n : Nat} (h : n < 2 ^ big) (e : Nat) (he : big ≤ e) : n < 2 ^ e := Nat.lt_of_lt_of_le h (Nat.pow_le_pow_right (by decide) he)
theorem fr4 (x y : Nat) (h : y < 2 ^ big) : frame F4 [.int x, .int y] = Den.ret (.int (Nat.gcd x y)) := frame_ret rfl ⟨_, congrFun (F4_nat big x y h (by decide)) _⟩
/-- a fraction in its least words -/
def fr (t : Int) (l : Nat) : PyData := .tuple [.int (t / (Nat.gcd t.natAbs l : Nat)), .int ((l : Int) / (Nat.gcd t.natAbs l : Nat))]
theorem fdiv_ok (i j : Int) (h : 0 < j) (h2 : j.natAbs < 2 ^ 9000) : fdivD (.int i) (.int j) = Den.ret (.int (i / j)) := by
  simp [fdivD, Den.guardM, h, h2]
theorem F5_ok (t : Int) (l : Nat) (h0 : 0 < l) (h : l < 2 ^ big) : F5 [.int t, .int l] = Den.ret (.p (fr t l)) := by
  have g0 : 0 < Nat.gcd t.natAbs l := Nat.gcd_pos_of_pos_right _ h0
  have g1 : Nat.gcd t.natAbs l < 2 ^ 9000 := Nat.lt_of_le_of_lt (Nat.gcd_le_right _ h0) (okN_lt h 9000 (by decide))
  have e1 := fdiv_ok t (Nat.gcd t.natAbs l : Nat) (by omega) (by rw [Int.natAbs_natCast]; exact g1)
  have e2 := fdiv_ok l (Nat.gcd t.natAbs l : Nat) (by omega) (by rw [Int.natAbs_natCast]; exact g1)
  have e3 := fr4 t.natAbs l h
  simp [F5, runF, t5, n5, Sxs.den, Sx.den, Ex.den, Bx.den, Bs.den, Exs.den, Tg.den, seqS, skipS, retS, asgS, tgN, tupS, binS, binD, callG, callS, argsS, mkG, fo4, pmL, vS, Op1.den, absD, endS, bnd_assoc, e1, e2, e3, mkTup, allP, sizeLine, fr]
theorem fr5 (t : Int) (l : Nat) (h0 : 0 < l) (h : l < 2 ^ big) : frame F5 [.int t, .int l] = Den.ret (.p (fr t l)) := frame_ret rfl ⟨_, congrFun (F5_ok t l h0 h) _⟩
theorem F36_ok (t : Int) (l : Nat) (h0 : 0 < l) (h : l < 2 ^ big) : F36 [.int t, .int l] = Den.ret (.p (fr t l)) := by
  have g0 : 0 < Nat.gcd t.natAbs l := Nat.gcd_pos_of_pos_right _ h0
  have g1 : Nat.gcd t.natAbs l < 2 ^ 9000 := Nat.lt_of_le_of_lt (Nat.gcd_le_right _ h0) (okN_lt h 9000 (by decide))
  have e1 := fdiv_ok t (Nat.gcd t.natAbs l : Nat) (by omega) (by rw [Int.natAbs_natCast]; exact g1)
  have e2 := fdiv_ok l (Nat.gcd t.natAbs l : Nat) (by omega) (by rw [Int.natAbs_natCast]; exact g1)
  have hr := gcd_run (fun x y => [some (.int t), some (.int l), some (.int x), some (.int y)]) (cmpS .NotEq (vS 3) (kS (.int 0))) (seqS (parS [2, 3] [vS 3, binS .Mod (vS 2) (vS 3)]) skipS)
    (fun x y => by simp [cmpS, vS, kS, cmpD, Den.notM, eq_int]) (fun x y h1 => by simp [seqS, parS, vS, binS, binD, modD, argsS, skipS, setAll, h1]) big t.natAbs l h whFuel (by decide)
  have hr2 : whS (cmpS .NotEq (vS 3) (kS (.int 0))) (seqS (parS [2, 3] [vS 3, binS .Mod (vS 2) (vS 3)]) skipS) [some (.int t), some (.int l), some (.int t.natAbs), some (.int l)] = _ := hr
  simp only [F36, runF, t36, n36, Sxs.den, Sx.den, Ex.den, Bx.den, Bs.den, Exs.den, Tg.den]
  generalize hw : whS (cmpS .NotEq (vS 3) (kS (.int 0))) (seqS (parS [2, 3] [vS 3, binS .Mod (vS 2) (vS 3)]) skipS) = W at hr2 ⊢
  simp [seqS, parS, setAll, skipS, retS, asgS, tgN, tupS, binS, binD, argsS, vS, Op1.den, absD, Den.intD, endS, bnd_assoc, e1, e2, hr2, mkTup, allP, sizeLine, fr]
theorem fr36 (t : Int) (l : Nat) (h0 : 0 < l) (h : l < 2 ^ big) : frame F36 [.int t, .int l] = Den.ret (.p (fr t l)) := frame_ret rfl ⟨_, congrFun (F36_ok t l h0 h) _⟩
/-- a pair as data -/
abbrev pr (t : Int) (l : Nat) : D := .p (.tuple [.int t, .int l])
theorem sub0 (t : Int) (l : Nat) : subItem (pr t l) (.int 0) = Den.ret (.int t) := rfl
theorem sub1 (t : Int) (l : Nat) : subItem (pr t l) (.int 1) = Den.ret (.int l) := rfl
theorem mulOk_ok {i j : Int} (h : i.natAbs < 2 ^ 400000) (h2 : j.natAbs < 2 ^ 400000) : mulOk i j = true := by
  unfold mulOk
  rw [decide_eq_true h, decide_eq_true h2]
  simp
theorem mul_ok {i j : Int} (h : i.natAbs < 2 ^ 400000) (h2 : j.natAbs < 2 ^ 400000) : mulD (.int i) (.int j) = Den.ret (.int (i * j)) := by
  simp only [mulD, mulOk_ok h h2, guardM_t]
/-- the sum of two fractions -/
def plusP (t : Int) (l : Nat) (u : Int) (m : Nat) : PyData := fr (t * m + u * l) (l * m)
theorem F6_ok (t : Int) (l : Nat) (u : Int) (m : Nat) (hl : 0 < l) (hm : 0 < m) (ht : t.natAbs < 2 ^ 400000) (hu : u.natAbs < 2 ^ 400000) (h : l * m < 2 ^ big) : F6 [pr t l, pr u m] = Den.ret (.p (plusP t l u m)) := by
  have l1 : (l : Int).natAbs < 2 ^ 400000 := by rw [Int.natAbs_natCast]; exact okN_lt (Nat.lt_of_le_of_lt (Nat.le_mul_of_pos_right _ hm) h) _ (by decide)
  have m1 : (m : Int).natAbs < 2 ^ 400000 := by rw [Int.natAbs_natCast]; exact okN_lt (Nat.lt_of_le_of_lt (Nat.le_mul_of_pos_left _ hl) h) _ (by decide)
  have a1 := mul_ok ht m1
  have a2 := mul_ok hu l1
  have a3 := mul_ok l1 m1
  have c := fr5 (t * m + u * l) (l * m) (Nat.mul_pos hl hm) h
  rw [Int.natCast_mul] at c
  simp [F6, runF, t6, n6, Sxs.den, Sx.den, Ex.den, Exs.den, seqS, skipS, retS, binS, binD, callG, callS, argsS, mkG, fo5, pmL, vS, kS, subS, sub0, sub1, addD, endS, bnd_assoc, a1, a2, a3, c, plusP]
theorem F37_ok (t : Int) (l : Nat) (u : Int) (m : Nat) (hl : 0 < l) (hm : 0 < m) (ht : t.natAbs < 2 ^ 400000) (hu : u.natAbs < 2 ^ 400000) (h : l * m < 2 ^ big) : F37 [pr t l, pr u m] = Den.ret (.p (plusP t l u m)) := by
  have l1 : (l : Int).natAbs < 2 ^ 400000 := by rw [Int.natAbs_natCast]; exact okN_lt (Nat.lt_of_le_of_lt (Nat.le_mul_of_pos_right _ hm) h) _ (by decide)
  have m1 : (m : Int).natAbs < 2 ^ 400000 := by rw [Int.natAbs_natCast]; exact okN_lt (Nat.lt_of_le_of_lt (Nat.le_mul_of_pos_left _ hl) h) _ (by decide)
  have a1 := mul_ok ht m1
  have a2 := mul_ok hu l1
  have a3 := mul_ok l1 m1
  have c := fr36 (t * m + u * l) (l * m) (Nat.mul_pos hl hm) h
  rw [Int.natCast_mul] at c
  simp [F37, runF, t37, n37, Sxs.den, Sx.den, Ex.den, Exs.den, seqS, skipS, retS, binS, binD, callG, callS, argsS, mkG, fo39, pmL, vS, kS, subS, sub0, sub1, addD, endS, bnd_assoc, a1, a2, a3, c, plusP]
theorem F39_ok (t : Int) (l : Nat) (u : Int) (m : Nat) (ht : t.natAbs < 2 ^ 400000) (hu : u.natAbs < 2 ^ 400000) (hl : l < 2 ^ 400000) (hm : m < 2 ^ 400000) : F39 [pr t l, pr u m] = Den.ret (.bl (decide (t * m < u * l))) := by
  have a1 := mul_ok ht (show (m : Int).natAbs < 2 ^ 400000 by rw [Int.natAbs_natCast]; exact hm)
  have a2 := mul_ok hu (show (l : Int).natAbs < 2 ^ 400000 by rw [Int.natAbs_natCast]; exact hl)
  simp [F39, runF, t39, n39, Sxs.den, Sx.den, Ex.den, Bx.den, Exs.den, seqS, skipS, retS, boolS, cmpS, cmpD, ltD, binS, binD, argsS, vS, kS, subS, sub0, sub1, endS, bnd_assoc, a1, a2]
end K87

namespace K87
open PySem PySem.Spec PyProof.Rows L2 Den
abbrev potL (a b c : Int) : O := .lst [.int a, .int b, .int c]
section
variable {S : Sto} {l : Nat} {a b c n : Int}
theorem pot0 (h : S.objs[l]? = some (potL a b c)) : subItem (.ref l) (.int 0) S = .ok (.int a) S := by
  simp [subItem, h, L2.ixN]
theorem pot1 (h : S.objs[l]? = some (potL a b c)) : subItem (.ref l) (.int 1) S = .ok (.int b) S := by
  simp [subItem, h, L2.ixN]
theorem pot2 (h : S.objs[l]? = some (potL a b c)) : subItem (.ref l) (.int 2) S = .ok (.int c) S := by
  simp [subItem, h, L2.ixN]
theorem put0 (h : S.objs[l]? = some (potL a b c)) (k : Int) : putD (.ref l) (.int 0) (.int k) S = .ok () ⟨S.objs.set l (potL k b c), S.nt⟩ := by
  simp [putD, h, L2.ixN, setL, D.mx]
theorem put2 (h : S.objs[l]? = some (potL a b c)) (k : Int) : putD (.ref l) (.int 2) (.int k) S = .ok () ⟨S.objs.set l (potL a b k), S.nt⟩ := by
  simp [putD, h, L2.ixN, setL, D.mx]
theorem F31_a (h : S.objs[l]? = some (potL a b c)) (ha : 0 < a) (hn : 0 < n) (hn2 : n.natAbs < 2 ^ 9000) : F31 [.ref l, .int n] S = .ok (.int (a % n)) ⟨S.objs.set l (potL (a / n) b c), S.nt⟩ := by
  have d := fdiv_ok a n hn hn2
  simp [F31, runF, t31, n31, Sxs.den, Sx.den, Ex.den, Bx.den, Exs.den, Tg.den, seqS, skipS, retS, ifS, asgS, tgN, subT, binS, binD, cmpS, cmpD, argsS, vS, kS, subS, Op1.den, Den.intD, modD, endS, bnd_assoc, Den.bnd, Den.ret, Den.guardM, pot0 h, put0 h, ha, hn, d]
theorem prime_at (S : Sto) (k : Int) (h0 : 0 ≤ k) (h4 : k < 4) : ∃ p : Int, 0 < p ∧ p < 2 ^ 40 ∧ ∀ S' : Sto, S'.objs[l]? = some (.lst [.int 2147483647, .int 2147483629, .int 2147483587, .int 2147483579]) → subItem (.ref l) (.int k) S' = .ok (.int p) S' := by
  obtain rfl | rfl | rfl | rfl : k = 0 ∨ k = 1 ∨ k = 2 ∨ k = 3 := by omega
  · exact ⟨2147483647, by decide, by decide, fun S' e => by simp [subItem, e, L2.ixN]⟩
  · exact ⟨2147483629, by decide, by decide, fun S' e => by simp [subItem, e, L2.ixN]⟩
  · exact ⟨2147483587, by decide, by decide, fun S' e => by simp [subItem, e, L2.ixN]⟩
  · exact ⟨2147483579, by decide, by decide, fun S' e => by simp [subItem, e, L2.ixN]⟩
theorem pow_ok (i : Int) (h : i.natAbs < 2 ^ 100000) : powD (.int i) (.int 3) = Den.ret (.int (i ^ 3)) := by
  simp [powD, Den.guardM, h]
theorem small_lt {i : Int} {e : Nat} (h0 : -(2 ^ 200) < i) (h1 : i < 2 ^ 200) (he : 200 ≤ e) : i.natAbs < 2 ^ e := by
  have : (2 : Nat) ^ 200 ≤ 2 ^ e := Nat.pow_le_pow_right (by decide) he
  refine Nat.lt_of_lt_of_le ?_ this
  omega
theorem sq_lt (hc : 0 ≤ c) (hc2 : c < 1000) : 0 ≤ (203548 * (c + 1)) * (c + 1) ∧ (203548 * (c + 1)) * (c + 1) < 2 ^ 60 := by
  have a : 0 ≤ 203548 * (c + 1) := by omega
  have b : 0 ≤ c + 1 := by omega
  refine ⟨Int.mul_nonneg a b, ?_⟩
  have d : (203548 * (c + 1)) * (c + 1) ≤ 203548000 * 1000 := Int.mul_le_mul (by omega) (by omega) b (by decide)
  omega
theorem F31_b (h : S.objs[l]? = some (potL a b c)) (ha : ¬ 0 < a) (hn : 0 < n) (hb : 0 ≤ b) (hb2 : b < 2 ^ 62) (hc : 0 ≤ c) (hc2 : c < 1000) :
    ∃ d S', F31 [.ref l, .int n] S = .ok (.int d) S' ∧ 0 ≤ d ∧ d < n ∧ S'.nt = S.nt ∧ S'.objs.take S.objs.length = S.objs.set l (potL a b (c + 1)) := by
  have hl : l < S.objs.length := (List.getElem?_eq_some_iff.mp h).1
  generalize hS1 : (⟨S.objs.set l (potL a b (c + 1)), S.nt⟩ : Sto) = S1
  generalize hS2 : (⟨S1.objs ++ [.lst [.int 2147483647, .int 2147483629, .int 2147483587, .int 2147483579]], S1.nt⟩ : Sto) = S2
  have l1 : S1.objs.length = S.objs.length := by subst hS1; simp
  have e1 : S1.objs[l]? = some (potL a b (c + 1)) := by subst hS1; simp [hl]
  have e2 : S2.objs[l]? = some (potL a b (c + 1)) := by subst hS2; rw [List.getElem?_append_left (by omega)]; exact e1
  have e3 : S2.objs[S1.objs.length]? = some (.lst [.int 2147483647, .int 2147483629, .int 2147483587, .int 2147483579]) := by subst hS2; simp
  have pS : Den.push (.lst [.int 2147483647, .int 2147483629, .int 2147483587, .int 2147483579]) S1 = .ok (.ref S1.objs.length) S2 := by subst hS2; rfl
  have ps : putD (.ref l) (.int 2) (.int (c + 1)) S = .ok () S1 := by subst hS1; exact put2 h _
  obtain ⟨p, p0, p1, pe⟩ := prime_at (l := S1.objs.length) S2 ((c + 1) % 4) (by omega) (by omega)
  have pe := pe S2 e3
  have g2 := pot2 e2
  have g1 := pot1 e2
  have h2 := pot2 h
  have h21 := pot2 e1
  have h0 := pot0 h
  generalize hx : b + 203548 * (c + 1) * (c + 1) + 7750 = x
  have m1 : mulD (.int 203548) (.int (c + 1)) = Den.ret (.int (203548 * (c + 1))) := mul_ok (small_lt (by decide) (by decide) (by decide)) (small_lt (by omega) (by omega) (by decide))
  have m2 : mulD (.int (203548 * (c + 1))) (.int (c + 1)) = Den.ret (.int (203548 * (c + 1) * (c + 1))) := mul_ok (small_lt (by omega) (by omega) (by decide)) (small_lt (by omega) (by omega) (by decide))
  obtain ⟨q0, q1⟩ := sq_lt hc hc2
  have m3 : powD (.int (b + 203548 * (c + 1) * (c + 1) + 7750)) (.int 3) = Den.ret (.int ((b + 203548 * (c + 1) * (c + 1) + 7750) ^ 3)) := pow_ok _ (small_lt (by omega) (by omega) (by decide))
  rw [hx] at m3
  generalize hB : x ^ 3 % p = B
  have B0 : 0 ≤ B := by rw [← hB]; exact Int.emod_nonneg _ (by omega)
  have B1 : B < 2 ^ 40 := by have := Int.emod_lt_of_pos (x ^ 3) p0; omega
  have m4 : mulD (.int 6910) (.int (c + 1)) = Den.ret (.int (6910 * (c + 1))) := mul_ok (small_lt (by decide) (by decide) (by decide)) (small_lt (by omega) (by omega) (by decide))
  have m5 : mulD (.int B) (.int (B % 10007 + 6910 * (c + 1))) = Den.ret (.int (B * (B % 10007 + 6910 * (c + 1)))) := mul_ok (small_lt (by omega) (by omega) (by decide)) (small_lt (by omega) (by omega) (by decide))
  have m6 := fdiv_ok (B * (B % 10007 + 6910 * (c + 1))) 307 (by decide) (small_lt (by decide) (by decide) (by decide))
  refine ⟨B * (B % 10007 + 6910 * (c + 1)) / 307 % n, S2, ?_, Int.emod_nonneg _ (by omega), Int.emod_lt_of_pos _ hn, by subst hS2; subst hS1; rfl, by subst hS2; rw [← l1]; simp; subst hS1; rfl⟩
  simp [F31, runF, t31, n31, Sxs.den, Sx.den, Ex.den, Bx.den, Exs.den, Lx.den, Tg.den, seqS, skipS, retS, ifS, asgS, tgN, subT, binS, binD, cmpS, cmpD, argsS, vS, kS, subS, Op1.den, Den.intD, modD, addD, endS, bnd_assoc, Den.bnd, Den.ret, Den.guardM, pushL, lstS, sizeLine, h0, h2, ps, h21, pS, pe, g2, g1, ha, hn, p0, m1, m2, m3, m4, m5, m6, hx, hB]
end
end K87

namespace K87
open PySem PySem.Spec PyProof.Rows L2 Den
/-- a draw: the store keeps all but the pot -/
theorem fr31 {S : Sto} {l : Nat} {a b c n : Int} (ht : S.nt = false) (h : S.objs[l]? = some (potL a b c)) (hn : 0 < n) (hn2 : n.natAbs < 2 ^ 9000) (hb : 0 ≤ b) (hb2 : b < 2 ^ 62) (hc : 0 ≤ c) (hc2 : c < 1000) :
    ∃ d a' c', frame F31 [.ref l, .int n] S = .ok (.int d) ⟨S.objs.set l (potL a' b c'), false⟩ ∧ 0 ≤ d ∧ d < n ∧ c ≤ c' ∧ c' ≤ c + 1 := by
  have hp : ([.ref l, .int n] : List D).all D.pure = false := rfl
  by_cases ha : 0 < a
  · refine ⟨a % n, a / n, c, ?_, Int.emod_nonneg _ (by omega), Int.emod_lt_of_pos _ hn, by omega, by omega⟩
    unfold frame
    rw [if_neg (by rw [hp]; decide), F31_a h ha hn hn2]
    unfold trim
    simp [ht]
    exact List.take_of_length_le (by simp)
  · obtain ⟨d, S', e, d0, d1, t', o⟩ := F31_b h ha hn hb hb2 hc hc2
    refine ⟨d, a, c + 1, ?_, d0, d1, by omega, by omega⟩
    unfold frame
    rw [if_neg (by rw [hp]; decide), e]
    unfold trim
    simp [t', ht, o]
end K87

namespace K87
open PySem PySem.Spec PyProof.Rows L2 Den
/-- a loop by an invariant -/
theorem for_law {t : DT} {b : DSt} {src : Src} {xs : List D} (I : Nat → Rho → Sto → Prop) (hg : ∀ i ρ S, i ≤ xs.length → I i ρ S → src.get i S = some xs[i]?)
    (hstep : ∀ i ρ S (h : i < xs.length), I i ρ S → ∃ ρ1 S1 ρ' S', t xs[i] ρ S = .ok ρ1 S1 ∧ b ρ1 S1 = .ok (.nx ρ') S' ∧ I (i + 1) ρ' S') :
    ∀ (k i : Nat) (ρ : Rho) (S : Sto), i ≤ xs.length → xs.length < k + i → I i ρ S → ∃ ρ' S', forGo t b src k i ρ S = .ok (.nx ρ') S' ∧ I xs.length ρ' S' := by
  intro k
  induction k with
  | zero => intro i ρ S h1 h2 _; omega
  | succ k ih =>
    intro i ρ S h1 h2 hI
    unfold forGo
    rw [hg i ρ S h1 hI]
    by_cases h : i < xs.length
    · rw [List.getElem?_eq_getElem h]
      obtain ⟨ρ1, S1, ρ', S', e1, e2, hI'⟩ := hstep i ρ S h hI
      obtain ⟨ρ2, S2, e3, hI2⟩ := ih (i + 1) ρ' S' (by omega) (by omega) hI'
      refine ⟨ρ2, S2, ?_, hI2⟩
      show Den.bnd (t xs[i] ρ) _ S = _
      rw [bnd_ok e1]
      show Den.bnd (b ρ1) _ S1 = _
      rw [bnd_ok e2]
      exact e3
    · obtain rfl : i = xs.length := by omega
      rw [List.getElem?_eq_none (Nat.le_refl _)]
      exact ⟨ρ, S, rfl, hI⟩
/-- a comprehension by an invariant -/
theorem lc_law {t : DT} {c : DB} {e : DE} {src : Src} {xs : List D} {ρ : Rho} (I : Nat → List D → Sto → Prop) (hg : ∀ i acc S, i ≤ xs.length → I i acc S → src.get i S = some xs[i]?)
    (hstep : ∀ i acc S (h : i < xs.length), I i acc S → ∃ ρ1 S1 q S2, t xs[i] ρ S = .ok ρ1 S1 ∧ c ρ1 S1 = .ok q S2 ∧ ((q = true ∧ ∃ y S3, e ρ1 S2 = .ok y S3 ∧ I (i + 1) (acc ++ [y]) S3) ∨ (q = false ∧ I (i + 1) acc S2))) :
    ∀ (k i : Nat) (acc : List D) (S : Sto), i ≤ xs.length → xs.length < k + i → I i acc S → ∃ ys S', lcGo t c e src ρ k i acc S = .ok ys S' ∧ I xs.length ys S' := by
  intro k
  induction k with
  | zero => intro i acc S h1 h2 _; omega
  | succ k ih =>
    intro i acc S h1 h2 hI
    unfold lcGo
    simp only [hg i acc S h1 hI]
    by_cases h : i < xs.length
    · rw [List.getElem?_eq_getElem h]
      obtain ⟨ρ1, S1, q, S2, e1, e2, r⟩ := hstep i acc S h hI
      have n1 : noExc (t xs[i] ρ) S = .ok ρ1 S1 := by unfold noExc; rw [e1]
      have n2 : noExc (c ρ1) S1 = .ok q S2 := by unfold noExc; rw [e2]
      show ∃ ys S', Den.bnd (noExc (t xs[i] ρ)) _ S = .ok ys S' ∧ _
      rw [bnd_ok n1]
      rw [bnd_ok n2]
      rcases r with ⟨rfl, y, S3, e3, hI'⟩ | ⟨rfl, hI'⟩
      · have n3 : noExc (e ρ1) S2 = .ok y S3 := by unfold noExc; rw [e3]
        rw [if_pos rfl, bnd_ok n3]
        exact ih (i + 1) _ S3 (by omega) (by omega) hI'
      · rw [if_neg (by decide)]
        exact ih (i + 1) _ S2 (by omega) (by omega) hI'
    · obtain rfl : i = xs.length := by omega
      rw [List.getElem?_eq_none (Nat.le_refl _)]
      exact ⟨acc, S, rfl, hI⟩
end K87

namespace K87
open PySem PySem.Spec PyProof.Rows L2 Den
theorem src_con (xs : List D) (n i : Nat) (S : Sto) (h : i ≤ xs.length) : (srcB (.con xs) n).get i S = some xs[i]? := by
  show Den.itemAt xs i = _
  unfold Den.itemAt
  by_cases h1 : i < xs.length
  · rw [if_pos h1]
  · rw [if_neg h1, if_pos (by omega), List.getElem?_eq_none (by omega)]
theorem src_ref {xs : List D} {l n i : Nat} {S : Sto} (e : S.objs[l]? = some (.lst xs)) (h : i ≤ xs.length) : (srcB (.ref l) n).get i S = some xs[i]? := by
  have : (srcB (.ref l) n).get i S = Den.itemAt xs i := by
    show (match (BSr.ref l).items S with | some xs => Den.itemAt xs i | none => none) = _
    unfold BSr.items
    simp [e]
  rw [this]
  exact src_con xs n i S h
theorem src_rng (lo : Int) (n i : Nat) (S : Sto) (h : i ≤ n) : (srcR lo n).get i S = some (((List.range n).map fun j => D.int (lo + (j : Nat)))[i]?) := by
  show some (if i < n then some (D.int (lo + i)) else none) = _
  by_cases h1 : i < n
  · rw [if_pos h1]; simp [h1]
  · rw [if_neg h1, List.getElem?_eq_none (by simp; omega)]
end K87

namespace K87
open PySem PySem.Spec PyProof.Rows L2 Den
/-- the table of the choices -/
def chN (s k : Nat) : Nat := if k ≤ s then (List.range k).foldl (fun f j => f * (s - j) / (j + 1)) 1 else 0
def isInt (r : Den.R D) (i : Int) : Bool := match r with
  | .ok (.p (.int j)) _ => i == j
  | _ => false
theorem isInt_ok {r : Den.R D} {i : Int} (h : isInt r i = true) : ∃ S, r = .ok (.int i) S := by
  unfold isInt at h
  split at h
  · rename_i j S; rw [eq_of_beq h]; exact ⟨S, rfl⟩
  · cases h
theorem F20_tab : ((List.range 9).all fun s => (List.range 9).all fun k => isInt (F20 [.int s, .int k] Sto.new) (chN s k)) = true := by decide +kernel
end K87

namespace K87
open PySem PySem.Spec PyProof.Rows L2 Den
theorem fr20 (s k : Nat) (hs : s < 9) (hk : k < 9) : frame F20 [.int s, .int k] = Den.ret (.int (chN s k)) := by
  have t := F20_tab
  rw [List.all_eq_true] at t
  have t1 := t s (List.mem_range.mpr hs)
  rw [List.all_eq_true] at t1
  obtain ⟨S, e⟩ := isInt_ok (t1 k (List.mem_range.mpr hk))
  exact frame_ret rfl ⟨S, e⟩
/-- outside: none -/
theorem F20_out (s k : Int) (h : ¬ (0 ≤ k ∧ k ≤ s)) : F20 [.int s, .int k] = Den.ret (.int 0) := by
  by_cases h0 : 0 ≤ k <;> by_cases h1 : k ≤ s
  · exact absurd ⟨h0, h1⟩ h
  all_goals simp [F20, runF, t20, n20, Sxs.den, Sx.den, Ex.den, Bx.den, Exs.den, seqS, skipS, retS, ifS, notS, chnS, cmpD, leD, vS, kS, endS, bnd_assoc, h0, h1]
theorem fr20_out (s k : Int) (h : ¬ (0 ≤ k ∧ k ≤ s)) : frame F20 [.int s, .int k] = Den.ret (.int 0) := frame_ret rfl ⟨_, congrFun (F20_out s k h) _⟩
end K87

namespace K87
open PySem PySem.Spec PyProof.Rows L2 Den
/-- a fraction in its least words, as a pair -/
def red (q : Int × Nat) : Int × Nat := (q.1 / (Nat.gcd q.1.natAbs q.2 : Nat), q.2 / Nat.gcd q.1.natAbs q.2)
abbrev dP (q : Int × Nat) : PyData := .tuple [.int q.1, .int q.2]
theorem fr_red (t : Int) (l : Nat) : fr t l = dP (red (t, l)) := by
  simp [fr, dP, red]
def addP (p q : Int × Nat) : Int × Nat := red (p.1 * q.2 + q.1 * p.2, p.2 * q.2)
def sumP (qs : List (Int × Nat)) : Int × Nat := qs.foldl addP (0, 1)
theorem plus_addP (p q : Int × Nat) : plusP p.1 p.2 q.1 q.2 = dP (addP p q) := fr_red _ _
theorem red_low (q : Int × Nat) (h : 0 < q.2) : 0 < (red q).2 ∧ (red q).2 ≤ q.2 ∧ (red q).1.natAbs ≤ q.1.natAbs := by
  have g0 : 0 < Nat.gcd q.1.natAbs q.2 := Nat.gcd_pos_of_pos_right _ h
  refine ⟨Nat.div_pos (Nat.gcd_le_right _ h) g0, Nat.div_le_self _ _, ?_⟩
  show (q.1 / (Nat.gcd q.1.natAbs q.2 : Nat)).natAbs ≤ _
  obtain ⟨k, e⟩ := Int.ofNat_dvd_left.mpr (Nat.gcd_dvd_left q.1.natAbs q.2)
  have g1 : ((Nat.gcd q.1.natAbs q.2 : Nat) : Int) ≠ 0 := by omega
  generalize Nat.gcd q.1.natAbs q.2 = g at *
  rw [e, Int.mul_ediv_cancel_left _ g1, Int.natAbs_mul]
  exact Nat.le_mul_of_pos_left _ (by omega)
end K87

namespace K87
open PySem PySem.Spec PyProof.Rows L2 Den
def okQ (q : Int × Nat) : Prop := 0 < q.2 ∧ q.2 ≤ 2 ^ 20 ∧ q.1.natAbs ≤ 2 ^ 20
theorem add_bd (p q : Int × Nat) (a : Nat) (hp : 0 < p.2 ∧ p.2 ≤ 2 ^ a ∧ p.1.natAbs ≤ 2 ^ a) (hq : okQ q) : 0 < (addP p q).2 ∧ (addP p q).2 ≤ 2 ^ (a + 21) ∧ (addP p q).1.natAbs ≤ 2 ^ (a + 21) := by
  obtain ⟨p0, p1, p2⟩ := hp
  obtain ⟨q0, q1, q2⟩ := hq
  have e : 2 ^ (a + 21) = 2 ^ a * 2 ^ 20 + 2 ^ a * 2 ^ 20 := by rw [Nat.pow_add]; omega
  obtain ⟨r0, r1, r2⟩ := red_low (p.1 * q.2 + q.1 * p.2, p.2 * q.2) (Nat.mul_pos p0 q0)
  have m1 : p.2 * q.2 ≤ 2 ^ a * 2 ^ 20 := Nat.mul_le_mul p1 q1
  have m2 : (p.1 * (q.2 : Int)).natAbs ≤ 2 ^ a * 2 ^ 20 := by rw [Int.natAbs_mul, Int.natAbs_natCast]; exact Nat.mul_le_mul p2 q1
  have m3 : (q.1 * (p.2 : Int)).natAbs ≤ 2 ^ a * 2 ^ 20 := by rw [Int.natAbs_mul, Int.natAbs_natCast, Nat.mul_comm]; exact Nat.mul_le_mul p1 q2
  refine ⟨r0, ?_, ?_⟩
  · exact Nat.le_trans r1 (by show p.2 * q.2 ≤ _; omega)
  · refine Nat.le_trans r2 ?_
    show (p.1 * (q.2 : Int) + q.1 * (p.2 : Int)).natAbs ≤ _
    have := Int.natAbs_add_le (p.1 * (q.2 : Int)) (q.1 * (p.2 : Int))
    omega
theorem sum_bd : ∀ (qs : List (Int × Nat)) (p : Int × Nat) (a : Nat), (∀ q ∈ qs, okQ q) → (0 < p.2 ∧ p.2 ≤ 2 ^ a ∧ p.1.natAbs ≤ 2 ^ a) → 0 < (qs.foldl addP p).2 ∧ (qs.foldl addP p).2 ≤ 2 ^ (a + 21 * qs.length) ∧ (qs.foldl addP p).1.natAbs ≤ 2 ^ (a + 21 * qs.length)
  | [], p, a, _, h => h
  | q :: qs, p, a, hq, h => by
    have := sum_bd qs (addP p q) (a + 21) (fun x m => hq x (List.mem_cons_of_mem _ m)) (add_bd p q a h (hq q (List.mem_cons_self ..)))
    rw [List.foldl_cons]
    rw [List.length_cons, show a + 21 * (qs.length + 1) = a + 21 + 21 * qs.length by omega]
    exact this
end K87

namespace K87
open PySem PySem.Spec PyProof.Rows L2 Den
theorem big_lt {n a : Nat} (h : n ≤ 2 ^ a) (ha : a < big) : n < 2 ^ big := Nat.lt_of_le_of_lt h (Nat.pow_lt_pow_right (by decide) ha)
theorem F6_at (p q : Int × Nat) (a : Nat) (ha : a + 20 < big) (hp : 0 < p.2 ∧ p.2 ≤ 2 ^ a ∧ p.1.natAbs ≤ 2 ^ a) (hq : okQ q) : frame F6 [.p (dP p), .p (dP q)] = Den.ret (.p (dP (addP p q))) := by
  rw [← plus_addP]
  refine frame_ret rfl ⟨_, congrFun (F6_ok p.1 p.2 q.1 q.2 hp.1 hq.1 (okN_lt (big_lt hp.2.2 (by omega)) _ (by decide)) (okN_lt (big_lt hq.2.2 (by decide)) _ (by decide)) ?_) _⟩
  refine big_lt (a := a + 20) ?_ ha
  rw [Nat.pow_add]
  exact Nat.mul_le_mul hp.2.1 hq.2.1
theorem F37_at (p q : Int × Nat) (a : Nat) (ha : a + 20 < big) (hp : 0 < p.2 ∧ p.2 ≤ 2 ^ a ∧ p.1.natAbs ≤ 2 ^ a) (hq : okQ q) : frame F37 [.p (dP p), .p (dP q)] = Den.ret (.p (dP (addP p q))) := by
  rw [← plus_addP]
  refine frame_ret rfl ⟨_, congrFun (F37_ok p.1 p.2 q.1 q.2 hp.1 hq.1 (okN_lt (big_lt hp.2.2 (by omega)) _ (by decide)) (okN_lt (big_lt hq.2.2 (by decide)) _ (by decide)) ?_) _⟩
  refine big_lt (a := a + 20) ?_ ha
  rw [Nat.pow_add]
  exact Nat.mul_le_mul hp.2.1 hq.2.1
end K87

namespace K87
open PySem PySem.Spec PyProof.Rows L2 Den
theorem take_foldl (qs : List (Int × Nat)) (i : Nat) (h : i < qs.length) : sumP (qs.take (i + 1)) = addP (sumP (qs.take i)) qs[i] := by
  unfold sumP
  rw [List.take_succ_eq_append_getElem h, List.foldl_append]
  rfl
theorem F8_ok {S : Sto} {l : Nat} {qs : List (Int × Nat)} (h : S.objs[l]? = some (.lst (qs.map fun q => .p (dP q)))) (hq : ∀ q ∈ qs, okQ q) (hl : qs.length ≤ 100) : F8 [.ref l] S = .ok (.p (dP (sumP qs))) S := by
  have L := for_law (t := tgN 2) (b := seqS (asgS (callS 2 0 [0, 1] F6 [vS 1, vS 2] []) (tgN 1)) skipS) (src := srcB (.ref l) qs.length) (xs := qs.map fun q => D.p (dP q))
    (fun i ρ S' => S' = S ∧ ∃ o, ρ = [some (.ref l), some (.p (dP (sumP (qs.take i)))), o])
    (fun i ρ S' hi hI => by rw [hI.1]; exact src_ref h hi)
    (fun i ρ S' hi hI => by
      obtain ⟨rfl, o, rfl⟩ := hI
      have hi' : i < qs.length := by simpa using hi
      have bd := sum_bd (qs.take i) (0, 1) 0 (fun q m => hq q (List.mem_of_mem_take m)) (by decide)
      have c := F6_at (sumP (qs.take i)) qs[i] (0 + 21 * (qs.take i).length) (by rw [List.length_take]; show _ < 8000; omega) bd (hq _ (List.getElem_mem hi'))
      refine ⟨[some (.ref l), some (.p (dP (sumP (qs.take i)))), some (.p (dP qs[i]))], S', [some (.ref l), some (.p (dP (sumP (qs.take (i + 1))))), some (.p (dP qs[i]))], S', ?_, ?_, rfl, _, rfl⟩
      · simp [tgN]
      · simp [seqS, asgS, callS, argsS, vS, pmL, tgN, skipS, bnd_assoc, c, take_foldl qs i hi'])
    (qs.length + 1) 0 [some (.ref l), some (.p (dP (sumP []))), none] S (Nat.zero_le _) (by simp) ⟨rfl, none, rfl⟩
  obtain ⟨ρ', S', e, rfl, o, rfl⟩ := L
  have fl : forS (tgN 2) (itB (bE (vS 0))) (seqS (asgS (callS 2 0 [0, 1] F6 [vS 1, vS 2] []) (tgN 1)) skipS) [some (.ref l), some (.p (dP (sumP []))), none] S' = .ok (.nx [some (.ref l), some (.p (dP (sumP (qs.take (qs.map fun q => D.p (dP q)).length)))), o]) S' := by
    rw [← e]
    simp [forS, itB, bE, vS, baseD, getL, lenB, BSr.items, Den.bnd, Den.ret, h, srcB]
  rw [List.length_map, List.take_length] at fl
  show Den.bnd (seqS (asgS (kS (.p (.tuple [.int 0, .int 1]))) (tgN 1)) (seqS (forS (tgN 2) (itB (bE (vS 0))) (seqS (asgS (callS 2 0 [0, 1] F6 [vS 1, vS 2] []) (tgN 1)) skipS)) (seqS (retS (vS 1)) skipS)) [some (.ref l), none, none]) endS S' = _
  have hz : (PyData.tuple [.int 0, .int 1]) = dP (sumP []) := rfl
  generalize hw : forS (tgN 2) (itB (bE (vS 0))) (seqS (asgS (callS 2 0 [0, 1] F6 [vS 1, vS 2] []) (tgN 1)) skipS) = W at fl ⊢
  rw [hz]
  generalize sumP [] = z at fl ⊢
  simp [seqS, asgS, kS, tgN, retS, vS, skipS, Den.bnd, Den.ret, fl, endS]
end K87

namespace K87
open PySem PySem.Spec PyProof.Rows L2 Den
theorem F38_ok {S : Sto} {l : Nat} {qs : List (Int × Nat)} (h : S.objs[l]? = some (.lst (qs.map fun q => .p (dP q)))) (hq : ∀ q ∈ qs, okQ q) (hl : qs.length ≤ 100) : F38 [.ref l] S = .ok (.p (dP (sumP qs))) S := by
  have L := for_law (t := tgN 2) (b := seqS (asgS (callS 2 0 [0, 1] F37 [vS 1, vS 2] []) (tgN 1)) skipS) (src := srcB (.ref l) qs.length) (xs := qs.map fun q => D.p (dP q))
    (fun i ρ S' => S' = S ∧ ∃ o, ρ = [some (.ref l), some (.p (dP (sumP (qs.take i)))), o])
    (fun i ρ S' hi hI => by rw [hI.1]; exact src_ref h hi)
    (fun i ρ S' hi hI => by
      obtain ⟨rfl, o, rfl⟩ := hI
      have hi' : i < qs.length := by simpa using hi
      have bd := sum_bd (qs.take i) (0, 1) 0 (fun q m => hq q (List.mem_of_mem_take m)) (by decide)
      have c := F37_at (sumP (qs.take i)) qs[i] (0 + 21 * (qs.take i).length) (by rw [List.length_take]; show _ < 8000; omega) bd (hq _ (List.getElem_mem hi'))
      refine ⟨[some (.ref l), some (.p (dP (sumP (qs.take i)))), some (.p (dP qs[i]))], S', [some (.ref l), some (.p (dP (sumP (qs.take (i + 1))))), some (.p (dP qs[i]))], S', ?_, ?_, rfl, _, rfl⟩
      · simp [tgN]
      · simp [seqS, asgS, callS, argsS, vS, pmL, tgN, skipS, bnd_assoc, c, take_foldl qs i hi'])
    (qs.length + 1) 0 [some (.ref l), some (.p (dP (sumP []))), none] S (Nat.zero_le _) (by simp) ⟨rfl, none, rfl⟩
  obtain ⟨ρ', S', e, rfl, o, rfl⟩ := L
  have fl : forS (tgN 2) (itB (bE (vS 0))) (seqS (asgS (callS 2 0 [0, 1] F37 [vS 1, vS 2] []) (tgN 1)) skipS) [some (.ref l), some (.p (dP (sumP []))), none] S' = .ok (.nx [some (.ref l), some (.p (dP (sumP (qs.take (qs.map fun q => D.p (dP q)).length)))), o]) S' := by
    rw [← e]
    simp [forS, itB, bE, vS, baseD, getL, lenB, BSr.items, Den.bnd, Den.ret, h, srcB]
  rw [List.length_map, List.take_length] at fl
  show Den.bnd (seqS (asgS (tupS [kS (.int 0), kS (.int 1)]) (tgN 1)) (seqS (forS (tgN 2) (itB (bE (vS 0))) (seqS (asgS (callS 2 0 [0, 1] F37 [vS 1, vS 2] []) (tgN 1)) skipS)) (seqS (retS (vS 1)) skipS)) [some (.ref l), none, none]) endS S' = _
  have hz : tupS [kS (.int 0), kS (.int 1)] = kS (.p (dP (sumP []))) := by
    funext ρ
    simp [tupS, argsS, kS, mkTup, allP, sizeLine, dP, sumP]
  rw [hz]
  generalize hw : forS (tgN 2) (itB (bE (vS 0))) (seqS (asgS (callS 2 0 [0, 1] F37 [vS 1, vS 2] []) (tgN 1)) skipS) = W at fl ⊢
  generalize sumP [] = z at fl ⊢
  simp [seqS, asgS, kS, tgN, retS, vS, skipS, Den.bnd, Den.ret, fl, endS]
end K87

namespace K87
open PySem PySem.Spec PyProof.Rows L2 Den
/-- a fraction by a positive one -/
theorem F7_ok (t : Int) (l u m : Nat) (hl : 0 < l) (hu : 0 < u) (ht : t.natAbs < 2 ^ 400000) (hm : m < 2 ^ 400000) (h : l * u < 2 ^ big) : F7 [pr t l, pr u m] = Den.ret (.p (fr (t * m) (l * u))) := by
  have l1 : (l : Int).natAbs < 2 ^ 400000 := by rw [Int.natAbs_natCast]; exact okN_lt (Nat.lt_of_le_of_lt (Nat.le_mul_of_pos_right _ hu) h) _ (by decide)
  have u1 : (u : Int).natAbs < 2 ^ 400000 := by rw [Int.natAbs_natCast]; exact okN_lt (Nat.lt_of_le_of_lt (Nat.le_mul_of_pos_left _ hl) h) _ (by decide)
  have a1 := mul_ok ht (show (m : Int).natAbs < 2 ^ 400000 by rw [Int.natAbs_natCast]; exact hm)
  have a2 := mul_ok l1 u1
  have c := fr5 (t * m) (l * u) (Nat.mul_pos hl hu) h
  rw [Int.natCast_mul] at c
  have nn : ¬ ((l : Int) * (u : Int) < 0) := by
    have := Int.mul_nonneg (Int.natCast_nonneg l) (Int.natCast_nonneg u)
    omega
  simp [F7, runF, t7, n7, Sxs.den, Sx.den, Ex.den, Bx.den, Exs.den, seqS, skipS, retS, parS, setAll, iteS, cmpS, cmpD, ltD, binS, binD, callG, callS, argsS, mkG, fo5, pmL, vS, kS, subS, sub0, sub1, endS, bnd_assoc, a1, a2, c, nn]
end K87

namespace K87
open PySem PySem.Spec PyProof.Rows L2 Den
/-- a store that is base, but for the pot at l, of at most k blends -/
def PS (base : List O) (l k : Nat) (S : Sto) : Prop := l < base.length ∧ S.nt = false ∧ ∃ a b c : Int, S.objs = base.set l (potL a b c) ∧ 0 ≤ b ∧ b < 2 ^ 62 ∧ 0 ≤ c ∧ c ≤ k
theorem PS.mono {base : List O} {l k j : Nat} {S : Sto} (h : PS base l k S) (hk : k ≤ j) : PS base l j S := by
  obtain ⟨h1, h2, a, b, c, h3, h4, h5, h6, h7⟩ := h
  exact ⟨h1, h2, a, b, c, h3, h4, h5, h6, by omega⟩
theorem draw {base : List O} {l k : Nat} {S : Sto} {n : Int} (h : PS base l k S) (hk : k < 1000) (hn : 0 < n) (hn2 : n < 1000) : ∃ d S', frame F31 [.ref l, .int n] S = .ok (.int d) S' ∧ 0 ≤ d ∧ d < n ∧ PS base l (k + 1) S' := by
  obtain ⟨h1, h2, a, b, c, h3, h4, h5, h6, h7⟩ := h
  obtain ⟨d, a', c', e, d0, d1, c0, c1⟩ := fr31 (S := S) (l := l) (a := a) (b := b) (c := c) (n := n) h2 (by rw [h3]; simp [h1]) hn (small_lt (by omega) (by omega) (by decide)) h4 h5 h6 (by omega)
  refine ⟨d, _, e, d0, d1, h1, rfl, a', b, c', ?_, h4, h5, by omega, by omega⟩
  show S.objs.set l (potL a' b c') = _
  rw [h3, List.set_set]
end K87

namespace K87
open PySem PySem.Spec PyProof.Rows L2 Den
theorem sub_01 (S : Sto) (d : Int) (h0 : 0 ≤ d) (h1 : d < 2) : ∃ c : Nat, (c = 48 ∨ c = 49) ∧ subItem (.str "01") (.int d) S = .ok (.str ⟨#[c]⟩) S := by
  obtain rfl | rfl : d = 0 ∨ d = 1 := by omega
  · exact ⟨48, .inl rfl, rfl⟩
  · exact ⟨49, .inr rfl, rfl⟩
theorem frame_ref {F : List D → M D} {l : Nat} {ds : List D} {S S' : Sto} {x : PyData} (e : F (.ref l :: ds) S = .ok (.p x) S') (ht : S'.nt = false) (hl : S'.objs.length = S.objs.length) : frame F (.ref l :: ds) S = .ok (.p x) S' := by
  unfold frame
  rw [if_neg (by simp [D.pure]), e]
  show (if S'.nt = false then Den.R.ok (D.p x) ⟨S'.objs.take S.objs.length, false⟩ else _) = _
  rw [if_pos ht, ← hl, List.take_length, ← ht]
theorem PS.len {base : List O} {l k : Nat} {S : Sto} (h : PS base l k S) : S.objs.length = base.length := by
  obtain ⟨h1, h2, a, b, c, h3, _⟩ := h
  rw [h3, List.length_set]
theorem of01 {base : List O} {l k : Nat} {S : Sto} (h : PS base l k S) (hk : k < 1000) : ∃ c S', (c = 48 ∨ c = 49) ∧ frame F32 [.ref l, .str "01"] S = .ok (.str ⟨#[c]⟩) S' ∧ PS base l (k + 1) S' := by
  obtain ⟨d, S', e, d0, d1, h'⟩ := draw (n := 2) h hk (by decide) (by decide)
  obtain ⟨c, hc, es⟩ := sub_01 S' d d0 d1
  refine ⟨c, S', hc, frame_ref ?_ h'.2.1 (by rw [h'.len, h.len]), h'⟩
  have el : lenD [.str "01"] S = .ok (.int 2) S := rfl
  simp [F32, runF, t32, n32, Sxs.den, Sx.den, Ex.den, Exs.den, seqS, skipS, retS, callG, callS, argsS, mkG, fo34, pmL, vS, subS, Op1.den, endS, bnd_assoc, Den.bnd, Den.ret, Den.guardM, el, e, es]
end K87

namespace K87
open PySem PySem.Spec PyProof.Rows L2 Den
theorem jn (cs : List Nat) : (Str.join (Str.mk #[]) (cs.map fun c => Str.mk #[c])).cps.toList = cs := by
  induction cs with
  | nil => rfl
  | cons c cs ih =>
    cases cs with
    | nil => rfl
    | cons d ds =>
      have e : Str.join (Str.mk #[]) ((c :: d :: ds).map fun c => Str.mk #[c]) = Str.mk #[c] ++ Str.mk #[] ++ Str.join (Str.mk #[]) ((d :: ds).map fun c => Str.mk #[c]) := rfl
      rw [e]
      show ((#[c] ++ #[]) ++ (Str.join (Str.mk #[]) ((d :: ds).map fun c => Str.mk #[c])).cps).toList = _
      simp only [Array.toList_append, ih]
      rfl
end K87

namespace K87
open PySem PySem.Spec PyProof.Rows L2 Den
abbrev sgn (c : Nat) : D := .str (Str.mk #[c])
def Bit (c : Nat) : Prop := c = 48 ∨ c = 49
theorem bits_go {base : List O} {l k n : Nat} {S : Sto} {ρ : Rho} {t : DT} {e : DE} (hk : k + n < 1000) (h : PS base l k S)
    (ht : ∀ (d : D) (S : Sto), ∃ ρ1, t d ρ S = .ok ρ1 S ∧ e ρ1 = fun S => frame F32 [.ref l, .str "01"] S) :
    ∃ (cs : List Nat) (S' : Sto), lcGo t yesS e (srcR 0 n) ρ (n + 1) 0 [] S = .ok (cs.map sgn) S' ∧ cs.length = n ∧ (∀ c ∈ cs, Bit c) ∧ PS base l (k + n) S' := by
  obtain ⟨ys, S', e1, cs, e2, e3, e4, e5⟩ := lc_law (t := t) (c := yesS) (e := e) (src := srcR 0 n) (xs := (List.range n).map fun j => D.int (0 + (j : Nat))) (ρ := ρ)
    (fun i acc S => ∃ cs : List Nat, acc = cs.map sgn ∧ cs.length = i ∧ (∀ c ∈ cs, Bit c) ∧ PS base l (k + i) S)
    (fun i acc S hi _ => src_rng 0 n i S (by simpa using hi))
    (fun i acc S hi ⟨cs, e2, e3, e4, e5⟩ => by
      obtain ⟨ρ1, e6, e7⟩ := ht ((List.range n).map fun j => D.int (0 + (j : Nat)))[i] S
      have hi' : i < n := by simpa using hi
      obtain ⟨c, S', hc, e8, e9⟩ := of01 e5 (by omega)
      refine ⟨ρ1, S, true, S, e6, rfl, .inl ⟨rfl, sgn c, S', by rw [e7]; exact e8, cs ++ [c], by rw [e2]; simp, by simp [e3], ?_, e9⟩⟩
      intro x hx
      rcases List.mem_append.mp hx with m | m
      · exact e4 x m
      · rw [List.mem_singleton.mp m]; exact hc)
    (n + 1) 0 [] S (Nat.zero_le _) (by simp) ⟨[], rfl, rfl, by simp, h⟩
  refine ⟨cs, S', by rw [e1, e2], by simpa using e3, e4, by simpa using e5⟩
end K87

namespace K87
open PySem PySem.Spec PyProof.Rows L2 Den
/-! toolkit: what a source reads; comprehensions that only read; loops by invariants -/
def Reads (sf : DS) (ρ : Rho) (S : Sto) (xs : List D) : Prop := ∃ src, sf ρ S = .ok src S ∧ src.n = xs.length ∧ ∀ i, i ≤ xs.length → src.get i S = some xs[i]?
section
variable {ρ : Rho} {S : Sto} {xs : List D} {l i : Nat}
theorem getL_at (h : S.objs[l]? = some (.lst xs)) : getL l S = .ok xs S := by unfold getL; rw [h]
theorem reads_bE {f : DE} (hf : f ρ S = .ok (.ref l) S) (h : S.objs[l]? = some (.lst xs)) : Reads (itB (bE f)) ρ S xs := by
  refine ⟨srcB (.ref l) xs.length, ?_, rfl, fun i hi => src_ref h hi⟩
  unfold itB bE
  rw [Den.bnd, Den.bnd, hf]
  simp only [baseD, Den.bnd, getL_at h, Den.ret, lenB, BSr.items, h]
theorem reads_ref (hρ : ρ[i]? = some (some (.ref l))) (h : S.objs[l]? = some (.lst xs)) : Reads (itB (bE (vS i))) ρ S xs := reads_bE (by simp [vS, hρ, Den.ret]) h
theorem reads_tupE {f : DE} {ds : List PyData} (hf : f ρ S = .ok (.p (.tuple ds)) S) : Reads (itB (bE f)) ρ S (ds.map .p) := by
  refine ⟨srcB (.con (ds.map .p)) (ds.map D.p).length, ?_, rfl, fun i hi => src_con _ _ _ _ hi⟩
  unfold itB bE
  rw [Den.bnd, Den.bnd, hf]
  simp only [baseD, Den.bnd, Den.ret, lenB, BSr.items]
theorem reads_tup {ds : List PyData} (hρ : ρ[i]? = some (some (.p (.tuple ds)))) : Reads (itB (bE (vS i))) ρ S (ds.map .p) := reads_tupE (by simp [vS, hρ, Den.ret])
theorem reads_str {f : DE} {z : Str} (hf : f ρ S = .ok (.str z) S) : Reads (itB (bE f)) ρ S (z.cps.toList.map fun c => .str ⟨#[c]⟩) := by
  refine ⟨srcB (.con (z.cps.toList.map fun c => .str ⟨#[c]⟩)) (z.cps.toList.map fun c => D.str ⟨#[c]⟩).length, ?_, rfl, fun i hi => src_con _ _ _ _ hi⟩
  unfold itB bE
  rw [Den.bnd, Den.bnd, hf]
  simp only [baseD, Den.bnd, Den.ret, lenB, BSr.items]
theorem reads_con {f : DL} (hf : f ρ S = .ok xs S) : Reads (itB (bL f)) ρ S xs := by
  refine ⟨srcB (.con xs) xs.length, ?_, rfl, fun i hi => src_con _ _ _ _ hi⟩
  unfold itB bL
  rw [Den.bnd, Den.bnd, hf]
  simp only [Den.bnd, Den.ret, lenB, BSr.items]
def rgs (lo : Int) (n : Nat) : List D := (List.range n).map fun j => .int (lo + (j : Nat))
theorem reads_r1 {f : DE} {n : Nat} (hf : f ρ S = .ok (.int n) S) (hn : n < 2 ^ 60) : Reads (itR1 f) ρ S (rgs 0 n) := by
  refine ⟨srcR 0 n, ?_, by simp [srcR, rgs], fun i hi => src_rng 0 n i S (by simpa [rgs] using hi)⟩
  unfold itR1
  rw [Den.bnd, hf]
  have a : -(2 ^ 62) ≤ (n : Int) := by omega
  have b : (n : Int) < 2 ^ 62 := by omega
  have b' : (n : Int) < 4611686018427387904 := by omega
  simp [rng1, a, b']
/-- enumerate -/
def enL (xs : List D) : List D := xs.zipIdx.map fun p => mkTup [.int (p.2 : Nat), p.1]
theorem src_en (xs : List D) (n i : Nat) (S : Sto) (h : i ≤ xs.length) (b : BSr) (hb : b.items S = some xs) : (srcE b n).get i S = some (enL xs)[i]? := by
  show (match b.items S with | some xs => (match Den.itemAt xs i with | some (some d) => some (some (mkTup [.int (i : Nat), d])) | o => o) | none => none) = _
  rw [hb]
  dsimp only
  unfold Den.itemAt
  by_cases h1 : i < xs.length
  · rw [if_pos h1]
    simp [enL, h1]
  · rw [if_neg h1, if_pos (by omega)]
    dsimp only
    rw [List.getElem?_eq_none (by simp [enL]; omega)]
theorem reads_en_ref (hρ : ρ[i]? = some (some (.ref l))) (h : S.objs[l]? = some (.lst xs)) : Reads (itE (bE (vS i))) ρ S (enL xs) := by
  refine ⟨srcE (.ref l) xs.length, ?_, by simp [srcE, enL], fun i hi => src_en xs _ _ _ (by simpa [enL] using hi) _ (by simp [BSr.items, h])⟩
  unfold itE bE
  simp only [vS, hρ, baseD, Den.bnd, getL_at h, Den.ret, lenB, BSr.items, h]
theorem lc_go_read {α : Type} {t : DT} {c : DB} {e : DE} {src : Src} (f : α → D) (r1 : α → Rho) (cb : α → Bool) (ev : α → D) (all : List α)
    (hg : ∀ i, i ≤ all.length → src.get i S = some (all.map f)[i]?)
    (ht : ∀ y ∈ all, t (f y) ρ S = .ok (r1 y) S) (hc : ∀ y ∈ all, c (r1 y) S = .ok (cb y) S) (he : ∀ y ∈ all, cb y = true → e (r1 y) S = .ok (ev y) S) :
    ∀ (ys xs : List α) (k : Nat) (acc : List D), xs ++ ys = all → ys.length < k → lcGo t c e src ρ k xs.length acc S = .ok (acc ++ (ys.filter cb).map ev) S := by
  intro ys
  induction ys with
  | nil =>
    intro xs k acc hx hk
    obtain ⟨k, rfl⟩ : ∃ j, k = j + 1 := ⟨k - 1, by omega⟩
    unfold lcGo
    rw [List.append_nil] at hx
    subst hx
    simp only [hg xs.length (Nat.le_refl _)]
    rw [List.getElem?_eq_none (by simp)]
    simp
  | cons y ys ih =>
    intro xs k acc hx hk
    obtain ⟨k, rfl⟩ : ∃ j, k = j + 1 := ⟨k - 1, by omega⟩
    have hm : y ∈ all := by rw [← hx]; simp
    have hl : xs.length ≤ all.length := by rw [← hx]; simp
    have hi : (all.map f)[xs.length]? = some (f y) := by rw [← hx]; simp
    unfold lcGo
    simp only [hg xs.length hl, hi]
    have n1 : noExc (t (f y) ρ) S = .ok (r1 y) S := by unfold noExc; rw [ht y hm]
    have n2 : noExc (c (r1 y)) S = .ok (cb y) S := by unfold noExc; rw [hc y hm]
    rw [bnd_ok n1, bnd_ok n2]
    have hx' : (xs ++ [y]) ++ ys = all := by rw [← hx]; simp
    have hk' : ys.length < k := by simp at hk; omega
    have ih' := fun acc => ih (xs ++ [y]) k acc hx' hk'
    rw [show (xs ++ [y]).length = xs.length + 1 by simp] at ih'
    cases hq : cb y with
    | true =>
      have n3 : noExc (e (r1 y)) S = .ok (ev y) S := by unfold noExc; rw [he y hm hq]
      rw [if_pos rfl, bnd_ok n3, ih']
      simp [hq]
    | false =>
      rw [if_neg (by decide), ih']
      simp [hq]
/-- a comprehension that only reads -/
theorem lcS_read {α : Type} {own : List Nat} {t : DT} {c : DB} {e : DE} {sf : DS} (ys : List α) (f : α → D) (hs : Reads sf ρ S (ys.map f)) (hn : ys.length < 1000000) (r1 : α → Rho) (cb : α → Bool) (ev : α → D)
    (ht : ∀ y ∈ ys, t (f y) (wipeR ρ own) S = .ok (r1 y) S) (hc : ∀ y ∈ ys, c (r1 y) S = .ok (cb y) S) (he : ∀ y ∈ ys, cb y = true → e (r1 y) S = .ok (ev y) S) :
    lcS own t c e sf ρ S = .ok ((ys.filter cb).map ev) S := by
  obtain ⟨src, e1, e2, e3⟩ := hs
  rw [List.length_map] at e2 e3
  unfold lcS
  rw [bnd_ok e1, e2]
  have : decide (ys.length < sizeLine) = true := decide_eq_true (by show _ < 2 ^ 24; omega)
  rw [this, guardM_t]
  have := lc_go_read (ρ := wipeR ρ own) f r1 cb ev ys e3 ht hc he ys [] (ys.length + 1) [] rfl (by omega)
  simpa using this
/-- a loop by an invariant -/
theorem forS_law {t : DT} {sf : DS} {b : DSt} {src : Src} (hs : sf ρ S = .ok src S) (hn : src.n = xs.length) (I : Nat → Rho → Sto → Prop) (hg : ∀ i ρ S, i ≤ xs.length → I i ρ S → src.get i S = some xs[i]?) (h0 : I 0 ρ S)
    (hstep : ∀ i ρ S (h : i < xs.length), I i ρ S → ∃ ρ1 S1 ρ' S', t xs[i] ρ S = .ok ρ1 S1 ∧ b ρ1 S1 = .ok (.nx ρ') S' ∧ I (i + 1) ρ' S') : ∃ ρ' S', forS t sf b ρ S = .ok (.nx ρ') S' ∧ I xs.length ρ' S' := by
  unfold forS
  rw [bnd_ok hs, hn]
  exact for_law I hg hstep _ 0 ρ S (Nat.zero_le _) (by omega) h0
/-- .. over a list that is no object -/
theorem forS_con {t : DT} {f : DL} {b : DSt} (hf : f ρ S = .ok xs S) (I : Nat → Rho → Sto → Prop) (h0 : I 0 ρ S)
    (hstep : ∀ i ρ S (h : i < xs.length), I i ρ S → ∃ ρ1 S1 ρ' S', t xs[i] ρ S = .ok ρ1 S1 ∧ b ρ1 S1 = .ok (.nx ρ') S' ∧ I (i + 1) ρ' S') : ∃ ρ' S', forS t (itB (bL f)) b ρ S = .ok (.nx ρ') S' ∧ I xs.length ρ' S' := by
  refine forS_law (src := srcB (.con xs) xs.length) (xs := xs) ?_ rfl I (fun i ρ S hi _ => src_con _ _ _ _ hi) h0 hstep
  unfold itB bL
  rw [Den.bnd, Den.bnd, hf]
  simp only [Den.bnd, Den.ret, lenB, BSr.items]
end
end K87

namespace K87
/-! plain: choices, subsets -/
def bin : Nat → Nat → Nat
  | _, 0 => 1
  | 0, _ + 1 => 0
  | n + 1, k + 1 => bin n k + bin n (k + 1)
theorem bin_zero (n : Nat) : bin n 0 = 1 := by cases n <;> rfl
theorem bin_out : ∀ (n k : Nat), n < k → bin n k = 0
  | 0, k + 1, _ => rfl
  | n + 1, k + 1, h => by
    show bin n k + bin n (k + 1) = 0
    rw [bin_out n k (by omega), bin_out n (k + 1) (by omega)]
def stepS (some : List (List Nat)) (p : Nat) : List (List Nat) := some ++ some.map (· ++ [p])
def subsS (ps : List Nat) : List (List Nat) := ps.foldl stepS [[]]
section
variable (L : Nat → Bool)
def cnt (a b : Nat) (o : List Nat) : Bool := decide (o.countP L = a) && decide (o.countP (fun p => !L p) = b)
theorem cnt_go : ∀ (qs : List Nat) (a b : Nat), (qs.foldr (fun p some => stepS some p) [[]]).countP (cnt L a b) = bin (qs.countP L) a * bin (qs.countP fun p => !L p) b
  | [], a, b => by
    cases a <;> cases b <;> simp [cnt, bin]
  | q :: qs, a, b => by
    have ih := cnt_go qs
    rw [List.foldr_cons]
    generalize qs.foldr (fun p some => stepS some p) [[]] = some at *
    unfold stepS
    rw [List.countP_append, List.countP_map, ih]
    cases hq : L q with
    | true =>
      have e : (cnt L a b ∘ fun x => x ++ [q]) = fun o => decide (o.countP L + 1 = a) && decide (o.countP (fun p => !L p) = b) := by
        funext o
        simp [cnt, hq]
      rw [e]
      simp only [List.countP_cons, hq]
      cases a with
      | zero => simp [bin_zero]
      | succ a =>
        have : (fun o : List Nat => decide (o.countP L + 1 = a + 1) && decide (o.countP (fun p => !L p) = b)) = cnt L a b := by
          funext o; simp [cnt]
        rw [this, ih]
        simp [bin, Nat.add_mul]
        omega
    | false =>
      have e : (cnt L a b ∘ fun x => x ++ [q]) = fun o => decide (o.countP L = a) && decide (o.countP (fun p => !L p) + 1 = b) := by
        funext o
        simp [cnt, hq]
      rw [e]
      simp only [List.countP_cons, hq]
      cases b with
      | zero => simp [bin_zero]
      | succ b =>
        have : (fun o : List Nat => decide (o.countP L = a) && decide (o.countP (fun p => !L p) + 1 = b + 1)) = cnt L a b := by
          funext o; simp [cnt]
        rw [this, ih]
        simp [bin, Nat.mul_add]
        omega
theorem cnt_subs (ps : List Nat) (a b : Nat) : (subsS ps).countP (cnt L a b) = bin (ps.countP L) a * bin (ps.countP fun p => !L p) b := by
  have h := cnt_go L ps.reverse a b
  rw [← List.foldl_reverse, List.reverse_reverse] at h
  rw [show subsS ps = ps.foldl stepS [[]] from rfl, h]
  simp
end
end K87

namespace K87
/-! plain: sums over lists, dicts of counts -/
def sm {α : Type} (f : α → Nat) (xs : List α) : Nat := (xs.map f).sum
section
variable {α β : Type}
@[simp] theorem sm_nil (f : α → Nat) : sm f [] = 0 := rfl
@[simp] theorem sm_cons (f : α → Nat) (x : α) (xs : List α) : sm f (x :: xs) = f x + sm f xs := by simp [sm]
@[simp] theorem sm_append (f : α → Nat) (xs ys : List α) : sm f (xs ++ ys) = sm f xs + sm f ys := by simp [sm]
theorem sm_add (f g : α → Nat) (xs : List α) : sm (fun x => f x + g x) xs = sm f xs + sm g xs := by
  induction xs with
  | nil => rfl
  | cons x xs ih => simp only [sm_cons, ih]; omega
theorem sm_mul (c : Nat) (f : α → Nat) (xs : List α) : sm (fun x => c * f x) xs = c * sm f xs := by
  induction xs with
  | nil => rfl
  | cons x xs ih => simp only [sm_cons, ih, Nat.mul_add]
theorem sm_zero (xs : List α) : sm (fun _ => 0) xs = 0 := by
  induction xs with
  | nil => rfl
  | cons x xs ih => simp only [sm_cons, ih]
theorem sm_congr {f g : α → Nat} {xs : List α} (h : ∀ x ∈ xs, f x = g x) : sm f xs = sm g xs := by
  unfold sm
  rw [List.map_congr_left h]
theorem sm_swap (f : α → β → Nat) (xs : List α) (ys : List β) : sm (fun x => sm (f x) ys) xs = sm (fun y => sm (fun x => f x y) xs) ys := by
  induction xs with
  | nil => simp [sm_zero]
  | cons x xs ih => simp only [sm_cons, ih, sm_add]
theorem sm_map (f : β → Nat) (g : α → β) (xs : List α) : sm f (xs.map g) = sm (fun x => f (g x)) xs := by
  simp [sm, Function.comp_def]
theorem count_flatten (xss : List (List Nat)) (k : Nat) : xss.flatten.count k = sm (fun xs => xs.count k) xss := by
  induction xss with
  | nil => rfl
  | cons x xs ih => simp only [List.flatten_cons, List.count_append, sm_cons, ih]
theorem count_sm (xs : List Nat) (k : Nat) : xs.count k = sm (fun x => if x = k then 1 else 0) xs := by
  induction xs with
  | nil => rfl
  | cons x xs ih =>
    rw [List.count_cons, ih, sm_cons]
    by_cases h : x = k <;> simp [h] <;> omega
theorem sm_range_one (n a : Nat) (g : Nat → Nat) (h : a < n) : sm (fun j => if j = a then g j else 0) (List.range n) = g a := by
  induction n with
  | zero => omega
  | succ n ih =>
    rw [List.range_succ, sm_append]
    by_cases h1 : a = n
    · subst h1
      have : sm (fun j => if j = a then g j else 0) (List.range a) = sm (fun _ => 0) (List.range a) := sm_congr fun x hx => by
        rw [if_neg (by have := List.mem_range.mp hx; omega)]
      rw [this, sm_zero]; simp
    · rw [ih (by omega)]
      simp
      omega
/-- a sum over a list by its counts -/
theorem sm_counts (g : Nat → Nat) (n : Nat) : ∀ (as : List Nat), (∀ a ∈ as, a < n) → sm g as = sm (fun j => as.count j * g j) (List.range n)
  | [], _ => by simp [sm_zero]
  | a :: as, h => by
    rw [sm_cons, sm_counts g n as (fun x m => h x (List.mem_cons_of_mem _ m))]
    have : sm (fun j => (a :: as).count j * g j) (List.range n) = sm (fun j => (if j = a then g j else 0) + as.count j * g j) (List.range n) := sm_congr fun j _ => by
      rw [List.count_cons]
      by_cases e : j = a
      · subst e; simp [Nat.add_mul]; omega
      · have : ¬ a = j := fun z => e z.symm
        simp [e, this]
    rw [this, sm_add, sm_range_one n a g (h a (List.mem_cons_self ..))]
end
/-! dicts -/
abbrev Kv := List (Nat × Nat)
def getK (kvs : Kv) (k : Nat) : Nat := ((kvs.find? fun p => decide (p.1 = k)).map (·.2)).getD 0
def putK (kvs : Kv) (k v : Nat) : Kv := if (kvs.any fun p => decide (p.1 = k)) = true then kvs.map (fun p => if p.1 = k then (p.1, v) else p) else kvs ++ [(k, v)]
def bump (kvs : Kv) (k v : Nat) : Kv := putK kvs k (getK kvs k + v)
structure DictOk (kvs : Kv) (f : Nat → Nat) : Prop where
  nd : (kvs.map (·.1)).Nodup
  val : ∀ p ∈ kvs, p.2 = f p.1 ∧ 0 < p.2
  all : ∀ k, 0 < f k → k ∈ kvs.map (·.1)
theorem DictOk.get {kvs : Kv} {f : Nat → Nat} (h : DictOk kvs f) (k : Nat) : getK kvs k = f k := by
  unfold getK
  cases e : kvs.find? fun p => decide (p.1 = k) with
  | none =>
    have := List.find?_eq_none.mp e
    by_cases h0 : f k = 0
    · simp [h0]
    · obtain ⟨p, m, q⟩ := List.mem_map.mp (h.all k (by omega))
      exact absurd (by simpa using q) (this p m)
  | some p =>
    have m := List.mem_of_find?_eq_some e
    have q := List.find?_some e
    simp at q
    simp [(h.val p m).1, q]
theorem bump_ok {kvs : Kv} {f : Nat → Nat} (h : DictOk kvs f) (k v : Nat) (hv : 0 < v) : DictOk (bump kvs k v) fun j => f j + if k = j then v else 0 := by
  unfold bump putK
  rw [h.get]
  by_cases ha : (kvs.any fun p => decide (p.1 = k)) = true
  · rw [if_pos ha]
    have ks : (kvs.map fun p => if p.1 = k then (p.1, f k + v) else p).map (·.1) = kvs.map (·.1) := by
      rw [List.map_map]
      refine List.map_congr_left fun p _ => ?_
      by_cases e : p.1 = k <;> simp [e]
    refine ⟨by rw [ks]; exact h.nd, fun p hp => ?_, fun j hj => ?_⟩
    · obtain ⟨q, m, rfl⟩ := List.mem_map.mp hp
      by_cases e : q.1 = k
      · rw [if_pos e]
        simp [e]; omega
      · rw [if_neg e]
        have : ¬ k = q.1 := fun z => e z.symm
        simp [this, (h.val q m).1]
        have := (h.val q m).2
        have := (h.val q m).1
        omega
    · rw [ks]
      by_cases e : k = j
      · subst e
        obtain ⟨p, m, q⟩ := List.any_eq_true.mp ha
        exact List.mem_map.mpr ⟨p, m, by simpa using q⟩
      · rw [if_neg e] at hj
        exact h.all j (by omega)
  · rw [if_neg ha]
    have hk : k ∉ kvs.map (·.1) := fun m => by
      obtain ⟨p, m, q⟩ := List.mem_map.mp m
      exact ha (List.any_eq_true.mpr ⟨p, m, by simpa using q⟩)
    have f0 : f k = 0 := by
      by_cases z : f k = 0
      · exact z
      · exact absurd (h.all k (by omega)) hk
    refine ⟨?_, fun p hp => ?_, fun j hj => ?_⟩
    · rw [List.map_append, List.nodup_append]
      exact ⟨h.nd, by simp, fun a ha' b hb => by rw [List.map_singleton, List.mem_singleton] at hb; subst hb; exact fun z => hk (z ▸ ha')⟩
    · rcases List.mem_append.mp hp with m | m
      · have : ¬ k = p.1 := fun z => hk (z ▸ List.mem_map.mpr ⟨p, m, rfl⟩)
        simp [this]
        exact h.val p m
      · rw [List.mem_singleton.mp m]
        simp; omega
    · rw [List.map_append]
      by_cases e : k = j
      · subst e; simp
      · rw [if_neg e] at hj
        exact List.mem_append_left _ (h.all j (by omega))
/-- a sum over a dict of counts -/
theorem sm_dict (g : Nat → Nat) : ∀ (kvs : Kv) (ns : List Nat), DictOk kvs (fun k => ns.count k) → sm (fun p => p.2 * g p.1) kvs = sm g ns
  | [], ns, h => by
    cases ns with
    | nil => rfl
    | cons x xs => exact absurd (h.all x (by simp)) (by simp)
  | p :: kvs, ns, h => by
    have nd := h.nd
    rw [List.map_cons, List.nodup_cons] at nd
    have h2 : DictOk kvs fun k => (ns.filter fun x => decide (x ≠ p.1)).count k := by
      refine ⟨nd.2, fun q m => ?_, fun k hk => ?_⟩
      · have ne : q.1 ≠ p.1 := fun z => nd.1 (z ▸ List.mem_map.mpr ⟨q, m, rfl⟩)
        have e : (ns.filter fun x => decide (x ≠ p.1)).count q.1 = ns.count q.1 := List.count_filter (by simpa using ne)
        rw [e]
        exact h.val q (List.mem_cons_of_mem _ m)
      · have m := List.count_pos_iff.mp hk
        rw [List.mem_filter] at m
        have := h.all k (List.count_pos_iff.mpr m.1)
        rw [List.map_cons, List.mem_cons] at this
        rcases this with z | z
        · exact absurd z (by simpa using m.2)
        · exact z
    rw [sm_cons, sm_dict g kvs _ h2, (h.val p (List.mem_cons_self ..)).1]
    have gen : ∀ ns : List Nat, ns.count p.1 * g p.1 + sm g (ns.filter fun x => decide (x ≠ p.1)) = sm g ns := by
      intro ns
      induction ns with
      | nil => simp
      | cons x xs ih =>
        rw [List.count_cons, sm_cons, ← ih, List.filter_cons]
        by_cases e : x = p.1
        · subst e; simp [Nat.add_mul]; omega
        · simp [e]; omega
    exact gen ns
end K87

namespace K87
/-! plain: the program's loops over the dict; spreadings -/
def inner (m : Nat) (g : Nat → Nat) (far w : Nat) (later : Kv) : Kv := (List.range (m + 1)).foldl (fun later more => if 0 < g more then bump later (far + more) (w * g more) else later) later
def laterK (m : Nat) (g : Nat → Nat) (found : Kv) : Kv := found.foldl (fun l p => inner m g p.1 p.2 l) []
theorem DictOk.congr {kvs : Kv} {f g : Nat → Nat} (h : DictOk kvs f) (e : ∀ k, f k = g k) : DictOk kvs g := by
  have : f = g := funext e
  rwa [← this]
theorem fold_ok (g : Nat → Nat) (far w : Nat) (hw : 0 < w) : ∀ (xs : List Nat) (later : Kv) (f : Nat → Nat), DictOk later f →
    DictOk (xs.foldl (fun later more => if 0 < g more then bump later (far + more) (w * g more) else later) later) fun j => f j + sm (fun more => if far + more = j then w * g more else 0) xs
  | [], later, f, h => h.congr fun k => by simp
  | x :: xs, later, f, h => by
    rw [List.foldl_cons]
    by_cases h0 : 0 < g x
    · rw [if_pos h0]
      refine (fold_ok g far w hw xs _ _ (bump_ok h (far + x) (w * g x) (Nat.mul_pos hw h0))).congr fun k => ?_
      rw [sm_cons]; omega
    · rw [if_neg h0]
      refine (fold_ok g far w hw xs _ _ h).congr fun k => ?_
      have : g x = 0 := by omega
      rw [sm_cons, this]; simp
theorem inner_ok {m : Nat} {g : Nat → Nat} {far w : Nat} {later : Kv} {f : Nat → Nat} (hw : 0 < w) (h : DictOk later f) : DictOk (inner m g far w later) fun j => f j + sm (fun more => if far + more = j then w * g more else 0) (List.range (m + 1)) :=
  fold_ok g far w hw _ _ _ h
theorem dict_nil : DictOk [] fun _ => 0 := ⟨by simp, by simp, by simp⟩
theorem later_go (m : Nat) (g : Nat → Nat) : ∀ (found later : Kv) (f : Nat → Nat), (∀ p ∈ found, 0 < p.2) → DictOk later f →
    DictOk (found.foldl (fun l p => inner m g p.1 p.2 l) later) fun j => f j + sm (fun p => sm (fun more => if p.1 + more = j then p.2 * g more else 0) (List.range (m + 1))) found
  | [], later, f, _, h => h.congr fun k => by simp
  | p :: found, later, f, hp, h => by
    rw [List.foldl_cons]
    refine (later_go m g found _ _ (fun q z => hp q (List.mem_cons_of_mem _ z)) (inner_ok (hp p (List.mem_cons_self ..)) h)).congr fun k => ?_
    rw [sm_cons]; omega
/-- all sums of two -/
def addN (ns as : List Nat) : List Nat := (as.map fun a => ns.map (· + a)).flatten
theorem addN_count (ns as : List Nat) (m k : Nat) (h : ∀ a ∈ as, a < m) : (addN ns as).count k = sm (fun x => sm (fun a => if x + a = k then as.count a else 0) (List.range m)) ns := by
  unfold addN
  rw [count_flatten, sm_map]
  have e1 : sm (fun a => (ns.map (· + a)).count k) as = sm (fun a => sm (fun x => if x + a = k then 1 else 0) ns) as := sm_congr fun a _ => by
    rw [count_sm, sm_map]
  rw [e1, sm_swap]
  refine sm_congr fun x _ => ?_
  rw [sm_counts _ m as h]
  refine sm_congr fun a _ => ?_
  by_cases e : x + a = k <;> simp [e]
theorem later_ok {m : Nat} {g : Nat → Nat} {found : Kv} {ns as : List Nat} (h : DictOk found fun k => ns.count k) (ha : ∀ a ∈ as, a < m + 1) (hg : ∀ a, a < m + 1 → as.count a = g a) : DictOk (laterK m g found) fun k => (addN ns as).count k := by
  refine (later_go m g found [] _ (fun p z => (h.val p z).2) dict_nil).congr fun k => ?_
  rw [Nat.zero_add]
  rw [addN_count ns as (m + 1) k ha]
  have e : sm (fun p => sm (fun more => if p.1 + more = k then p.2 * g more else 0) (List.range (m + 1))) found = sm (fun p => p.2 * sm (fun more => if p.1 + more = k then g more else 0) (List.range (m + 1))) found := sm_congr fun p _ => by
    rw [← sm_mul]
    refine sm_congr fun a _ => ?_
    by_cases e : p.1 + a = k <;> simp [e]
  rw [e, sm_dict (fun x => sm (fun more => if x + more = k then g more else 0) (List.range (m + 1))) found ns h]
  refine sm_congr fun x _ => sm_congr fun a hm => ?_
  rw [hg a (List.mem_range.mp hm)]
/-! spreadings -/
abbrev Str1 := List Nat × Nat
def picks (st : Str1) : List (List Nat) := (subsS st.1).filter fun o => decide (o.length = st.2)
def stepF (found : List (List Nat)) (st : Str1) : List (List Nat) := ((picks st).map fun o => found.map (· ++ o)).flatten
def spread (sts : List Str1) : List (List Nat) := sts.foldl stepF [[]]
section
variable (L : Nat → Bool)
def numS (found : List (List Nat)) : List Nat := found.map fun o => o.countP L
theorem num_step (found : List (List Nat)) (st : Str1) : numS L (stepF found st) = addN (numS L found) (numS L (picks st)) := by
  unfold numS stepF addN
  rw [List.map_flatten, List.map_map, List.map_map]
  congr 1
  refine List.map_congr_left fun o _ => ?_
  simp [Function.comp_def]
/-- in how many ways so many are chosen of m of a stratum of n with r right ones -/
def gW (n m r a : Nat) : Nat := bin m a * if a ≤ r then bin (n - m) (r - a) else 0
theorem count_out (ps : List Nat) : ps.countP (fun p => !L p) = ps.length - ps.countP L := by
  have := List.length_eq_countP_add_countP L (l := ps)
  have e : ps.countP (fun p => !L p) = ps.countP fun a => decide ¬L a = true := by
    congr 1; funext a; simp
  omega
theorem picks_count (st : Str1) (a : Nat) : (numS L (picks st)).count a = gW st.1.length (st.1.countP L) st.2 a := by
  have e : (numS L (picks st)).count a = (subsS st.1).countP fun o => decide (o.countP L = a) && decide (o.length = st.2) := by
    unfold numS picks
    rw [List.count_eq_countP, List.countP_map, List.countP_filter]
    congr 1
  rw [e]
  unfold gW
  by_cases h : a ≤ st.2
  · rw [if_pos h, ← count_out, ← cnt_subs]
    congr 1
    funext o
    have := List.length_eq_countP_add_countP L (l := o)
    have e : o.countP (fun p => !L p) = o.countP fun a => decide ¬L a = true := by
      congr 1; funext a; simp
    unfold cnt
    rw [e]
    by_cases h1 : o.countP L = a
    · rw [decide_eq_true h1, Bool.true_and, Bool.true_and, decide_eq_decide]
      omega
    · rw [decide_eq_false h1, Bool.false_and, Bool.false_and]
  · rw [if_neg h, Nat.mul_zero]
    rw [List.countP_eq_zero]
    intro o _
    have := List.countP_le_length (p := L) (l := o)
    simp
    omega
theorem picks_lt (st : Str1) : ∀ a ∈ numS L (picks st), a < st.1.countP L + 1 := by
  intro a h
  have h := List.count_pos_iff.mpr h
  rw [picks_count] at h
  by_cases z : a < st.1.countP L + 1
  · exact z
  · unfold gW at h
    rw [bin_out _ _ (by omega), Nat.zero_mul] at h
    omega
def waysK (sts : List Str1) : Kv := sts.foldl (fun f st => laterK (st.1.countP L) (gW st.1.length (st.1.countP L) st.2) f) [(0, 1)]
theorem ways_go : ∀ (sts : List Str1) (found : Kv) (sp : List (List Nat)), DictOk found (fun k => (numS L sp).count k) →
    DictOk (sts.foldl (fun f st => laterK (st.1.countP L) (gW st.1.length (st.1.countP L) st.2) f) found) fun k => (numS L (sts.foldl stepF sp)).count k
  | [], _, _, h => h
  | st :: sts, found, sp, h => by
    rw [List.foldl_cons, List.foldl_cons]
    refine ways_go sts _ _ ?_
    rw [num_step]
    exact later_ok h (picks_lt L st) fun a _ => picks_count L st a
theorem ways_ok (sts : List Str1) : DictOk (waysK L sts) fun k => (numS L (spread sts)).count k := by
  refine ways_go L sts _ _ ⟨by simp, by simp [numS], fun k hk => ?_⟩
  have := List.count_pos_iff.mp hk
  simp [numS] at this
  simp [this]
end
end K87

namespace K87
open PySem PySem.Spec PyProof.Rows L2 Den
/-! tables and lots as data -/
def rowS (r : List Nat) : Str := ⟨r.toArray⟩
abbrev tabD (T : List (List Nat)) : PyData := .tuple (T.map fun r => .str (rowS r))
abbrev nP (n : Nat) : PyData := .int (n : Nat)
abbrev nD (n : Nat) : D := .int (n : Nat)
abbrev lotD (lot : List Nat) : PyData := .tuple (lot.map nP)
structure TabOk (T : List (List Nat)) (wd : Nat) : Prop where
  n0 : 1 ≤ T.length
  n1 : T.length ≤ 7
  w0 : 1 ≤ wd
  w1 : wd ≤ 4
  row : ∀ r ∈ T, r.length = wd ∧ ∀ c ∈ r, Bit c
theorem str1 : ("1" : Str) = ⟨#[49]⟩ := rfl
theorem cnt_count (c : Nat) (l : List Nat) : PyProof.Rows.cnt c l = (l.count c : Nat) := by
  induction l with
  | nil => rfl
  | cons x xs ih =>
    rw [cnt_cons, ih, List.count_cons]
    by_cases h : x = c <;> simp [h] <;> omega
theorem scnt1 (r : List Nat) : scntD (.str (rowS r)) [.str "1"] = Den.ret (nD (r.count 49)) := by
  show Den.ret (D.int (Txt.count (rowS r) ⟨#[49]⟩)) = _
  rw [count_cnt, cnt_count]
  rfl
theorem ixN_nat {n i : Nat} (h : i < n) : L2.ixN n (i : Int) = some i := by
  unfold L2.ixN
  simp [h]
theorem sub_tup {xs : List PyData} {i : Nat} (h : i < xs.length) : subItem (.p (.tuple xs)) (nD i) = Den.ret (.p xs[i]) := by
  simp [subItem, ixN_nat h, h]
theorem sub_tab {T : List (List Nat)} {p : Nat} (h : p < T.length) : subItem (.p (tabD T)) (nD p) = Den.ret (.str (rowS (T.getD p []))) := by
  rw [sub_tup (by simpa using h)]
  simp [h]
theorem sub_row {r : List Nat} {t : Nat} (h : t < r.length) (h2 : r.length < 1000) : subItem (.str (rowS r)) (nD t) = Den.ret (.str ⟨#[r.getD t 0]⟩) := by
  have e : (rowS r).cps.toList = r := rfl
  have g : decide ((rowS r).length ≤ sizeLine) = true := decide_eq_true (by show r.toArray.size ≤ 2 ^ 24; simp; omega)
  show Den.guardM (decide ((rowS r).length ≤ sizeLine)) (match (L2.ixN (rowS r).cps.toList.length (t : Int)).bind fun j => (rowS r).cps.toList[j]? with | some c => Den.ret (D.str ⟨#[c]⟩) | none => Den.fail) = _
  rw [g, e, ixN_nat h]
  simp [h]
theorem eq_str (x y : Str) : eqD (.str x) (.str y) = Den.ret (x == y) := by
  funext S
  simp [eqD, asPy, toPy, Den.bnd, eqPD, Den.ret, Den.guardM, scalP, PyData.eqv]
theorem eq_one (c : Nat) : eqD (.str ⟨#[c]⟩) (.str "1") = Den.ret (decide (c = 49)) := by
  rw [str1, eq_str]
  congr 1
  rw [Bool.eq_iff_iff, beq_iff_eq, decide_eq_true_eq]
  constructor
  · intro h; injection h with h; simpa using h
  · intro h; rw [h]
theorem allP_map {α : Type} (f : α → PyData) (xs : List α) : allP (xs.map fun x => D.p (f x)) = some (xs.map f) := by
  induction xs with
  | nil => rfl
  | cons x xs ih => simp [allP, ih]
theorem any_nat (ps : List Nat) (p : Nat) : ((ps.map nP).any fun z => PyData.eqv z (nP p)) = decide (p ∈ ps) := by
  induction ps with
  | nil => rfl
  | cons q ps ih =>
    rw [List.map_cons, List.any_cons, ih]
    by_cases h : p = q
    · subst h; simp [PyData.eqv]
    · have : ¬ (q : Int) = (p : Int) := by omega
      simp [PyData.eqv, h, this]
theorem in_nats (p : Nat) (ps : List Nat) (d : D) (S : Sto) (h : seqItems d S = .ok (ps.map nD) S) (hd : ∀ z, d ≠ .str z) : inD (nD p) d S = .ok (decide (p ∈ ps)) S := by
  have e : inD (nD p) d = Den.bnd (seqItems d) fun ys => Den.bnd (asPy (nD p)) fun d => match allP ys with
    | some ds => Den.guardM (flatP d && ds.all flatP) (Den.ret (ds.any fun z => PyData.eqv z d))
    | none => Den.fail := by
    unfold inD
    cases d with
    | p x => cases x <;> first | rfl | exact absurd rfl (hd _)
    | tup xs => rfl
    | ref l => rfl
  rw [e, bnd_ok h]
  have a : asPy (nD p) S = .ok (nP p) S := rfl
  rw [bnd_ok a, allP_map nP ps]
  have g : (flatP (nP p) && (ps.map nP).all flatP) = true := by
    simp [flatP]
  dsimp only
  rw [g, any_nat]
  rfl
theorem in_lot (p : Nat) (ps : List Nat) (S : Sto) : inD (nD p) (.p (lotD ps)) S = .ok (decide (p ∈ ps)) S :=
  in_nats p ps _ S (by simp [seqItems, Den.ret]) (by simp)
theorem in_ref (p : Nat) (ps : List Nat) {S : Sto} {l : Nat} (h : S.objs[l]? = some (.lst (ps.map nD))) : inD (nD p) (.ref l) S = .ok (decide (p ∈ ps)) S :=
  in_nats p ps _ S (by show getL l S = _; exact getL_at h) (by simp)
/-- the same, as a list of ints -/
def usN (ns : List Nat) : List Nat := (usort (ns.map fun n : Nat => (n : Int))).map Int.toNat
theorem usN_cast (ns : List Nat) : (usN ns).map (fun n : Nat => (n : Int)) = usort (ns.map fun n : Nat => (n : Int)) := by
  unfold usN
  rw [List.map_map]
  have : ∀ x ∈ usort (ns.map fun n : Nat => (n : Int)), ((fun n : Nat => (n : Int)) ∘ Int.toNat) x = x := fun x hx => by
    obtain ⟨n, _, rfl⟩ := List.mem_map.mp (mem_usort.mp hx)
    simp
  rw [List.map_congr_left this]; simp
theorem usN_mem (ns : List Nat) (k : Nat) : k ∈ usN ns ↔ k ∈ ns := by
  have h : (k : Int) ∈ (usN ns).map (fun n : Nat => (n : Int)) ↔ (k : Int) ∈ ns.map (fun n : Nat => (n : Int)) := by rw [usN_cast]; exact mem_usort
  have inj : ∀ l : List Nat, (k : Int) ∈ l.map (fun n : Nat => (n : Int)) ↔ k ∈ l := fun l => by
    rw [List.mem_map]
    constructor
    · rintro ⟨a, m, e⟩
      have : a = k := by omega
      exact this ▸ m
    · intro m; exact ⟨k, m, rfl⟩
  rwa [inj, inj] at h
theorem usN_lt (ns : List Nat) : (usN ns).Pairwise (· < ·) := by
  have h := usort_lt (ns.map fun n : Nat => (n : Int))
  rw [← usN_cast, List.pairwise_map] at h
  exact h.imp fun h => by omega
theorem ints_nat (ns : List Nat) : intsD (ns.map nD) = some (ns.map fun n : Nat => (n : Int)) := by
  unfold intsD
  rw [allP_map nP ns]
  show intsOf (ns.map nP) = _
  induction ns with
  | nil => rfl
  | cons n ns ih => simp [intsOf, ih]
theorem ssort_nat (ns : List Nat) (h : ns.length < 60) (S : Sto) : ssortF (ns.map nD) S = .ok ((usN ns).map nD) S := by
  unfold ssortF
  rw [ints_nat]
  have g : decide ((ns.map fun n : Nat => (n : Int)).length < 60) = true := decide_eq_true (by simpa using h)
  dsimp only [optM]
  rw [g, guardM_t, ← usN_cast, List.map_map]
  rfl
/-- strata as data -/
def perS (sums : List Nat) (s : Nat) : List Nat := (List.range sums.length).filter fun p => decide (sums.getD p 0 = s)
def rgtS (T : List (List Nat)) (t p : Nat) : Bool := decide ((T.getD p []).getD t 0 = 49)
def sumsT (T : List (List Nat)) : List Nat := T.map fun r => r.count 49
structure St5 where
  s : Nat
  mine : Nat
  right : Nat
  all : Nat
  rall : Nat
def St5.d (x : St5) : D := .p (.tuple [nP x.s, nP x.mine, nP x.right, nP x.all, nP x.rall])
def stOf (T : List (List Nat)) (lot : List Nat) (t s : Nat) : St5 :=
  let ps := perS (sumsT T) s
  ⟨s, (ps.filter fun p => decide (p ∈ lot)).length, ((ps.filter fun p => decide (p ∈ lot)).filter fun p => rgtS T t p).length, ps.length, (ps.filter fun p => rgtS T t p).length⟩
def strata (T : List (List Nat)) (lot : List Nat) (t : Nat) : List St5 := (usN (sumsT T)).map (stOf T lot t)
end K87

namespace K87
open PySem PySem.Spec PyProof.Rows L2 Den
/-! runs of statements -/
def Runs (s : DSt) (ρ : Rho) (S : Sto) (Q : Fl → Sto → Prop) : Prop := ∃ fl S', s ρ S = .ok fl S' ∧ Q fl S'
section
variable {ρ ρ' : Rho} {S S' : Sto} {Q : Fl → Sto → Prop} {s t : DSt}
theorem Runs.seq (h : s ρ S = .ok (.nx ρ') S') (k : Runs t ρ' S' Q) : Runs (seqS s t) ρ S Q := by
  unfold Runs seqS; rw [bnd_ok h]; exact k
theorem Runs.seqE (h : ∃ ρ' S', s ρ S = .ok (.nx ρ') S' ∧ Runs t ρ' S' Q) : Runs (seqS s t) ρ S Q := by
  obtain ⟨ρ', S', h, k⟩ := h; exact k.seq h
theorem Runs.skip (h : Q (.nx ρ) S) : Runs skipS ρ S Q := ⟨_, _, rfl, h⟩
theorem Runs.ret {f : DE} {d : D} (h : f ρ S = .ok d S') (k : Q (.rt d) S') : Runs (seqS (retS f) t) ρ S Q := by
  refine ⟨.rt d, S', ?_, k⟩
  unfold seqS retS; simp only [Den.bnd, h, Den.ret]
theorem asg_push {l : DL} {xs : List D} {i : Nat} (h : l ρ S = .ok xs S') : asgS (pushL l) (tgN i) ρ S = .ok (.nx (ρ.set i (some (.ref S'.objs.length)))) ⟨S'.objs ++ [.lst xs], S'.nt⟩ := by
  unfold asgS pushL
  simp only [Den.bnd, h, Den.push, tgN, Den.ret]
theorem asg_ok {f : DE} {d : D} {i : Nat} (h : f ρ S = .ok d S') : asgS f (tgN i) ρ S = .ok (.nx (ρ.set i (some d))) S' := by
  unfold asgS
  simp only [Den.bnd, h, tgN, Den.ret]
theorem ex_ok {f : DE} {d : D} (h : f ρ S = .ok d S') : exS f ρ S = .ok (.nx ρ) S' := by
  unfold exS; rw [bnd_ok h]; rfl
theorem runF_of {n N : Nat} {body : DSt} {ds : List D} {Z : D → Sto → Prop} (hn : ds.length = n) (h : Runs body (ds.map some ++ List.replicate (N - n) none) S fun fl S' => ∃ d, endS fl = Den.ret d ∧ Z d S') : ∃ d S', runF n N body ds S = .ok d S' ∧ Z d S' := by
  obtain ⟨fl, S', e, d, e2, z⟩ := h
  refine ⟨d, S', ?_, z⟩
  unfold runF
  rw [decide_eq_true hn, guardM_t, bnd_ok e, e2]
  rfl
/-- a comprehension over one name that only reads -/
theorem lc1 {α : Type} {own : List Nat} {i : Nat} {c : DB} {e : DE} {sf : DS} (ys : List α) (f : α → D) (cb : α → Bool) (ev : α → D) (hs : Reads sf ρ S (ys.map f)) (hn : ys.length < 1000000)
    (hc : ∀ y ∈ ys, c ((wipeR ρ own).set i (some (f y))) S = .ok (cb y) S) (he : ∀ y ∈ ys, cb y = true → e ((wipeR ρ own).set i (some (f y))) S = .ok (ev y) S) :
    lcS own (tgN i) c e sf ρ S = .ok ((ys.filter cb).map ev) S :=
  lcS_read ys f hs hn (fun y => (wipeR ρ own).set i (some (f y))) cb ev (fun _ _ => rfl) hc he
/-- .. without a test -/
theorem lc0 {α : Type} {own : List Nat} {i : Nat} {e : DE} {sf : DS} (ys : List α) (f : α → D) (ev : α → D) (hs : Reads sf ρ S (ys.map f)) (hn : ys.length < 1000000)
    (he : ∀ y ∈ ys, e ((wipeR ρ own).set i (some (f y))) S = .ok (ev y) S) :
    lcS own (tgN i) yesS e sf ρ S = .ok (ys.map ev) S := by
  have := lc1 (own := own) (i := i) (c := yesS) ys f (fun _ => true) ev hs hn (fun _ _ => rfl) fun y hy _ => he y hy
  rwa [List.filter_eq_self.mpr (by simp)] at this
theorem asg_pushR {l : DL} (xs : List D) {i : Nat} (h : l ρ S = .ok xs S) : asgS (pushL l) (tgN i) ρ S = .ok (.nx (ρ.set i (some (.ref S.objs.length)))) ⟨S.objs ++ [.lst xs], S.nt⟩ := asg_push h
theorem asg_pushN {l : DL} (xs : List D) (n : Nat) (ρ' : Rho) (S' : Sto) {i : Nat} (h : l ρ S = .ok xs S) (hn : S.objs.length = n) (hρ : ρ.set i (some (.ref n)) = ρ') (hS : (⟨S.objs ++ [.lst xs], S.nt⟩ : Sto) = S') : asgS (pushL l) (tgN i) ρ S = .ok (.nx ρ') S' := by
  subst hn hρ hS; exact asg_push h
theorem Runs.for_con {i : Nat} {f : DL} {b rest : DSt} (xs : List D) (I : Nat → Rho → Sto → Prop) (hf : f ρ S = .ok xs S) (h0 : I 0 ρ S)
    (hstep : ∀ j ρ S (h : j < xs.length), I j ρ S → Runs b (ρ.set i (some xs[j])) S fun fl S' => ∃ ρ', fl = .nx ρ' ∧ I (j + 1) ρ' S') (k : ∀ ρ' S', I xs.length ρ' S' → Runs rest ρ' S' Q) :
    Runs (seqS (forS (tgN i) (itB (bL f)) b) rest) ρ S Q := by
  obtain ⟨ρ', S', e, hI⟩ := forS_con (t := tgN i) (b := b) hf I h0 fun j ρ S hj hI => by
    obtain ⟨fl, S', e, ρ', rfl, hI'⟩ := hstep j ρ S hj hI
    exact ⟨_, _, ρ', S', rfl, e, hI'⟩
  exact (k ρ' S' hI).seq e
theorem Runs.for_src {t : DT} {sf : DS} {b rest : DSt} (src : Src) (xs : List D) (I : Nat → Rho → Sto → Prop) (hs : sf ρ S = .ok src S) (hn : src.n = xs.length) (hg : ∀ i ρ S, i ≤ xs.length → I i ρ S → src.get i S = some xs[i]?) (h0 : I 0 ρ S)
    (hstep : ∀ j ρ S (h : j < xs.length), I j ρ S → ∃ ρ1, t xs[j] ρ S = .ok ρ1 S ∧ Runs b ρ1 S fun fl S' => ∃ ρ', fl = .nx ρ' ∧ I (j + 1) ρ' S') (k : ∀ ρ' S', I xs.length ρ' S' → Runs rest ρ' S' Q) :
    Runs (seqS (forS t sf b) rest) ρ S Q := by
  obtain ⟨ρ', S', e, hI⟩ := forS_law (t := t) (b := b) hs hn I hg h0 fun j ρ S hj hI => by
    obtain ⟨ρ1, e0, fl, S', e, ρ', rfl, hI'⟩ := hstep j ρ S hj hI
    exact ⟨_, _, ρ', S', e0, e, hI'⟩
  exact (k ρ' S' hI).seq e
theorem lcP {α : Type} {own : List Nat} {i j : Nat} {c : DB} {e : DE} {sf : DS} (ys : List α) (f g : α → PyData) (cb : α → Bool) (ev : α → D) (hs : Reads sf ρ S (ys.map fun y => .p (.tuple [f y, g y]))) (hn : ys.length < 1000000)
    (hc : ∀ y ∈ ys, c (((wipeR ρ own).set i (some (.p (f y)))).set j (some (.p (g y)))) S = .ok (cb y) S) (he : ∀ y ∈ ys, cb y = true → e (((wipeR ρ own).set i (some (.p (f y)))).set j (some (.p (g y)))) S = .ok (ev y) S) :
    lcS own (tgT [tgN i, tgN j]) c e sf ρ S = .ok ((ys.filter cb).map ev) S :=
  lcS_read ys (fun y => .p (.tuple [f y, g y])) hs hn (fun y => ((wipeR ρ own).set i (some (.p (f y)))).set j (some (.p (g y)))) cb ev (fun _ _ => rfl) hc he
end
theorem app_ok {S : Sto} {l : Nat} {xs : List D} {d : D} (h : getL l S = .ok xs S) (hn : xs.length < 1000000) : appD (.ref l) [d] S = .ok .non ⟨S.objs.set l (.lst (xs ++ [d])), S.nt || decide (l < d.mx)⟩ := by
  have g : decide (xs.length < sizeLine) = true := decide_eq_true (by show _ < 2 ^ 24; omega)
  show Den.bnd (getL l) (fun xs => Den.guardM (decide (xs.length < sizeLine)) (Den.bnd (setL l (xs ++ [d]) d.mx) fun _ => Den.ret D.non)) S = _
  rw [bnd_ok h, g, guardM_t]
  rfl
theorem ext_ok {S : Sto} {l : Nat} {xs ds : List D} (h : getL l S = .ok xs S) (hn : xs.length + ds.length < 1000000) : extF (.ref l) ds S = .ok .non ⟨S.objs.set l (.lst (xs ++ ds)), S.nt || decide (l < mxs ds)⟩ := by
  have g : decide (xs.length + ds.length ≤ sizeLine) = true := decide_eq_true (by show _ ≤ 2 ^ 24; omega)
  show Den.bnd (getL l) (fun xs => Den.guardM (decide (xs.length + ds.length ≤ sizeLine)) (Den.bnd (setL l (xs ++ ds) (mxs ds)) fun _ => Den.ret D.non)) S = _
  rw [bnd_ok h, g, guardM_t]
  rfl
theorem enL_nat (ns : List Nat) : enL (ns.map nD) = (List.range ns.length).map fun p => .p (.tuple [nP p, nP (ns.getD p 0)]) := by
  unfold enL
  apply List.ext_getElem
  · simp
  · intro i h1 h2
    simp at h1
    simp [mkTup, allP, h1]
theorem get_app0 {α : Type} (J : List α) (a : α) (t : List α) : (J ++ a :: t)[J.length]? = some a := by simp
theorem get_app1 {α : Type} (J : List α) (a b : α) (t : List α) : (J ++ a :: b :: t)[J.length + 1]? = some b := by
  rw [List.getElem?_append_right (by omega)]; simp
theorem get_app2 {α : Type} (J : List α) (a b c : α) (t : List α) : (J ++ a :: b :: c :: t)[J.length + 2]? = some c := by
  rw [List.getElem?_append_right (by omega)]; simp
theorem get_app3 {α : Type} (J : List α) (a b c d : α) (t : List α) : (J ++ a :: b :: c :: d :: t)[J.length + 3]? = some d := by
  rw [List.getElem?_append_right (by omega)]; simp
section
variable {fs : List Form} {Fs : List (List D → M D)}
theorem glo0 : gloS (mkG gls fs Fs) 0 = kS (.p (.tuple [.int 0, .int 1])) := rfl
theorem glo1 : gloS (mkG gls fs Fs) 1 = kS (.p (.tuple [.str "0", .str "1", .str "-"])) := rfl
theorem glo2 : gloS (mkG gls fs Fs) 2 = kS (.int 12) := rfl
theorem glo3 : gloS (mkG gls fs Fs) 3 = kS (.int 12) := rfl
theorem glo4 : gloS (mkG gls fs Fs) 4 = kS (.str "-") := rfl
theorem glo5 : gloS (mkG gls fs Fs) 5 = kS (.str "1") := rfl
end
end K87

namespace K87
open PySem PySem.Spec PyProof.Rows L2 Den
theorem nat_int (a b : Nat) : ((a : Int) = (b : Int)) ↔ a = b := by omega
theorem uins_len (a : Int) (l : List Int) : (uins a l).length ≤ l.length + 1 := by
  induction l with
  | nil => simp [uins]
  | cons b l ih =>
    unfold uins
    split
    · simp
    · split
      · simp
      · simp; omega
theorem usort_len (l : List Int) : (usort l).length ≤ l.length := by
  induction l with
  | nil => simp [usort]
  | cons a l ih =>
    have := uins_len a (usort l)
    simp only [usort, List.length_cons]; omega
theorem usN_len (ns : List Nat) : (usN ns).length ≤ ns.length := by
  have := usort_len (ns.map fun n : Nat => (n : Int))
  simpa [usN] using this
theorem F18_ok {T : List (List Nat)} {wd t : Nat} {lot : List Nat} (h : TabOk T wd) (ht : t < wd) :
    ∃ d S', F18 [.p (tabD T), .p (lotD lot), nD t] Sto.new = .ok d S' ∧ d = .ref 1 ∧ S'.objs[1]? = some (.lst ((strata T lot t).map St5.d)) ∧ S'.nt = false := by
  have hT7 := h.n1
  refine runF_of rfl ?_
  refine Runs.seq (asg_push (lc0 T (fun r => .str (rowS r)) (fun r => nD (r.count 49)) ?_ (by omega) ?_)) ?_
  · have := reads_tup (ρ := [some (.p (tabD T)), some (.p (lotD lot)), some (nD t)] ++ List.replicate 10 none) (i := 0) (S := Sto.new) (ds := T.map fun r => .str (rowS r)) rfl
    rwa [List.map_map] at this
  · intro r hr
    simp [Ex.den, Exs.den, Bx.den, Bs.den, Bo.den, Lx.den, Kx.den, Ix.den, Tg.den, Tgs.den, Eo.den, Sx.den, Sxs.den, gloS, mkG, gls, kS, vS, binS, binD, addD, subD, cmpS, cmpD, ltD, leD, Den.notM, boolS, andS, orS, notS, bsD, asBS, asBoolD, truS, truD, iteS, chnS, argsS, tupS, subS, pushL, lstS, mthS, chk, tyD, tyP, Mt.ty, Mt.den, MtF.ty, MtF.den, Op1.den, OpF.den, OpL.den1, OpL.denF, lenD, lenF, callG, callS, pmL, Den.bnd, Den.ret, Den.guardM, wipeR, tgN, Den.push, mkTup, allP, sizeLine, List.replicate, eq_int, optM, setL, n18, scnt1]
  refine Runs.seq (asg_pushR [] ?_) ?_
  · simp [Ex.den, Exs.den, Bx.den, Bs.den, Bo.den, Lx.den, Kx.den, Ix.den, Tg.den, Tgs.den, Eo.den, Sx.den, Sxs.den, gloS, mkG, gls, kS, vS, binS, binD, addD, subD, cmpS, cmpD, ltD, leD, Den.notM, boolS, andS, orS, notS, bsD, asBS, asBoolD, truS, truD, iteS, chnS, argsS, tupS, subS, pushL, lstS, mthS, chk, tyD, tyP, Mt.ty, Mt.den, MtF.ty, MtF.den, Op1.den, OpF.den, OpL.den1, OpL.denF, lenD, lenF, callG, callS, pmL, Den.bnd, Den.ret, Den.guardM, wipeR, tgN, Den.push, mkTup, allP, sizeLine, List.replicate, eq_int, optM, setL]
  have hs : (T.map fun r => nD (r.count 49)) = (sumsT T).map nD := by simp [sumsT]
  have hl : (sumsT T).length = T.length := by simp [sumsT]
  rw [hs]
  refine Runs.for_con ((usN (sumsT T)).map nD) (fun i ρ S => ∃ (junk : List O) (o5 o6 o7 o8 : Option D), ρ = [some (.p (tabD T)), some (.p (lotD lot)), some (nD t), some (.ref 0), some (.ref 1), o5, o6, o7, o8, none, none, none, none] ∧ S = ⟨.lst ((sumsT T).map nD) :: .lst (((usN (sumsT T)).take i).map fun s => (stOf T lot t s).d) :: junk, false⟩) ?_ ?_ ?_ ?_
  · have g := ssort_nat (sumsT T) (by omega) ⟨[.lst ((sumsT T).map nD), .lst []], false⟩
    simpa [Lx.den, n18, List.replicate, Ex.den, vS, Den.bnd, Den.ret, lstOp, getL, Sto.new] using g
  · exact ⟨[], none, none, none, none, rfl, by simp [Sto.new]⟩
  · rintro i ρ S hi ⟨junk, o5, o6, o7, o8, rfl, rfl⟩
    have hi' : i < (usN (sumsT T)).length := by simpa using hi
    rw [List.getElem_map]
    generalize hs : (usN (sumsT T))[i] = s
    have hP : (List.take (i + 1) (usN (sumsT T))).map (fun s => (stOf T lot t s).d) = (List.take i (usN (sumsT T))).map (fun s => (stOf T lot t s).d) ++ [(stOf T lot t s).d] := by
      rw [List.take_succ_eq_append_getElem hi', List.map_append, hs]; rfl
    rw [hP]
    have hpre : ((List.take i (usN (sumsT T))).map (fun s => (stOf T lot t s).d)).length ≤ i := by rw [List.length_map, List.length_take]; omega
    generalize (List.take i (usN (sumsT T))).map (fun s => (stOf T lot t s).d) = pre at hpre
    let J0 : List O := .lst ((sumsT T).map nD) :: .lst pre :: junk
    refine Runs.seq (asg_pushN ((perS (sumsT T) s).map nD) (junk.length + 2) [some (.p (tabD T)), some (.p (lotD lot)), some (nD t), some (.ref 0), some (.ref 1), some (nD s), some (.ref (junk.length + 2)), o7, o8, none, none, none, none] ⟨J0 ++ [.lst ((perS (sumsT T) s).map nD)], false⟩ (lcP (List.range (sumsT T).length) nP (fun p => nP ((sumsT T).getD p 0)) (fun p => decide ((sumsT T).getD p 0 = s)) nD ?_ (by simp; omega) ?_ ?_) (by simp) (by simp) rfl) ?_
    · rw [← enL_nat]
      exact reads_en_ref (l := 0) rfl rfl
    · intro p _
      simp [Ex.den, Exs.den, Bx.den, Bs.den, Bo.den, Lx.den, Kx.den, Ix.den, Tg.den, Tgs.den, Eo.den, Sx.den, Sxs.den, gloS, mkG, gls, kS, vS, binS, binD, addD, subD, cmpS, cmpD, ltD, leD, Den.notM, boolS, andS, orS, notS, bsD, asBS, asBoolD, truS, truD, iteS, chnS, argsS, tupS, subS, pushL, lstS, mthS, chk, tyD, tyP, Mt.ty, Mt.den, MtF.ty, MtF.den, Op1.den, OpF.den, OpL.den1, OpL.denF, lenD, lenF, callG, callS, pmL, Den.bnd, Den.ret, Den.guardM, wipeR, tgN, Den.push, mkTup, allP, sizeLine, List.replicate, eq_int, optM, setL, nat_int]
    · intro p _ _
      simp [Ex.den, Exs.den, Bx.den, Bs.den, Bo.den, Lx.den, Kx.den, Ix.den, Tg.den, Tgs.den, Eo.den, Sx.den, Sxs.den, gloS, mkG, gls, kS, vS, binS, binD, addD, subD, cmpS, cmpD, ltD, leD, Den.notM, boolS, andS, orS, notS, bsD, asBS, asBoolD, truS, truD, iteS, chnS, argsS, tupS, subS, pushL, lstS, mthS, chk, tyD, tyP, Mt.ty, Mt.den, MtF.ty, MtF.den, Op1.den, OpF.den, OpL.den1, OpL.denF, lenD, lenF, callG, callS, pmL, Den.bnd, Den.ret, Den.guardM, wipeR, tgN, Den.push, mkTup, allP, sizeLine, List.replicate, eq_int, optM, setL]
    have hp : ∀ p ∈ perS (sumsT T) s, p < T.length := fun p m => by
      have := (List.mem_filter.mp m).1
      rw [List.mem_range, hl] at this; exact this
    have hpl : (perS (sumsT T) s).length ≤ T.length := by
      refine Nat.le_trans (List.length_filter_le _ _) ?_
      simp [hl]
    have hst : stOf T lot t s = ⟨s, ((perS (sumsT T) s).filter fun p => decide (p ∈ lot)).length, (((perS (sumsT T) s).filter fun p => decide (p ∈ lot)).filter fun p => rgtS T t p).length, (perS (sumsT T) s).length, ((perS (sumsT T) s).filter fun p => rgtS T t p).length⟩ := rfl
    generalize perS (sumsT T) s = ps at *
    generalize hB : ps.filter (fun p => decide (p ∈ lot)) = mi at hst
    generalize hC : ps.filter (fun p => rgtS T t p) = ri at hst
    have hm : mi.length ≤ ps.length := by rw [← hB]; exact List.length_filter_le _ _
    refine Runs.seq (asg_pushN (mi.map nD) (junk.length + 3) [some (.p (tabD T)), some (.p (lotD lot)), some (nD t), some (.ref 0), some (.ref 1), some (nD s), some (.ref (junk.length + 2)), some (.ref (junk.length + 3)), o8, none, none, none, none] ⟨J0 ++ [.lst (ps.map nD), .lst (mi.map nD)], false⟩ (hB ▸ lc1 ps nD (fun p => decide (p ∈ lot)) nD ?_ (by omega) ?_ ?_) (by simp [J0]) (by simp) (by simp)) ?_
    · refine reads_ref (l := junk.length + 2) (by simp) ?_
      exact get_app0 J0 _ _
    · intro p _
      simp [Ex.den, Exs.den, Bx.den, Bs.den, Bo.den, Lx.den, Kx.den, Ix.den, Tg.den, Tgs.den, Eo.den, Sx.den, Sxs.den, gloS, mkG, gls, kS, vS, binS, binD, addD, subD, cmpS, cmpD, ltD, leD, Den.notM, boolS, andS, orS, notS, bsD, asBS, asBoolD, truS, truD, iteS, chnS, argsS, tupS, subS, pushL, lstS, mthS, chk, tyD, tyP, Mt.ty, Mt.den, MtF.ty, MtF.den, Op1.den, OpF.den, OpL.den1, OpL.denF, lenD, lenF, callG, callS, pmL, Den.bnd, Den.ret, Den.guardM, wipeR, tgN, Den.push, mkTup, allP, sizeLine, List.replicate, eq_int, optM, setL, in_lot]
    · intro p _ _
      simp [Ex.den, Exs.den, Bx.den, Bs.den, Bo.den, Lx.den, Kx.den, Ix.den, Tg.den, Tgs.den, Eo.den, Sx.den, Sxs.den, gloS, mkG, gls, kS, vS, binS, binD, addD, subD, cmpS, cmpD, ltD, leD, Den.notM, boolS, andS, orS, notS, bsD, asBS, asBoolD, truS, truD, iteS, chnS, argsS, tupS, subS, pushL, lstS, mthS, chk, tyD, tyP, Mt.ty, Mt.den, MtF.ty, MtF.den, Op1.den, OpF.den, OpL.den1, OpL.denF, lenD, lenF, callG, callS, pmL, Den.bnd, Den.ret, Den.guardM, wipeR, tgN, Den.push, mkTup, allP, sizeLine, List.replicate, eq_int, optM, setL]
    refine Runs.seq (asg_pushN (ri.map nD) (junk.length + 4) [some (.p (tabD T)), some (.p (lotD lot)), some (nD t), some (.ref 0), some (.ref 1), some (nD s), some (.ref (junk.length + 2)), some (.ref (junk.length + 3)), some (.ref (junk.length + 4)), none, none, none, none] ⟨J0 ++ [.lst (ps.map nD), .lst (mi.map nD), .lst (ri.map nD)], false⟩ (hC ▸ lc1 ps nD (fun p => rgtS T t p) nD ?_ (by omega) ?_ ?_) (by simp [J0]) (by simp) (by simp)) ?_
    · refine reads_ref (l := junk.length + 2) (by simp) ?_
      exact get_app0 J0 _ _
    · intro p m
      have m := hp p m
      have r := h.row _ (List.getElem_mem m)
      have e1 := sub_tab m
      have e2 := sub_row (r := T.getD p []) (t := t) (by simp [m]; omega) (by simp [m]; have := h.w1; omega)
      simp [Ex.den, Exs.den, Bx.den, Bs.den, Bo.den, Lx.den, Kx.den, Ix.den, Tg.den, Tgs.den, Eo.den, Sx.den, Sxs.den, gloS, mkG, gls, kS, vS, binS, binD, addD, subD, cmpS, cmpD, ltD, leD, Den.notM, boolS, andS, orS, notS, bsD, asBS, asBoolD, truS, truD, iteS, chnS, argsS, tupS, subS, pushL, lstS, mthS, chk, tyD, tyP, Mt.ty, Mt.den, MtF.ty, MtF.den, Op1.den, OpF.den, OpL.den1, OpL.denF, lenD, lenF, callG, callS, pmL, Den.bnd, Den.ret, Den.guardM, wipeR, tgN, Den.push, mkTup, allP, sizeLine, List.replicate, eq_int, optM, setL, e1]
      simp at e2
      rw [e2]
      simp [Den.ret, eq_one, rgtS]
    · intro p _ _
      simp [Ex.den, Exs.den, Bx.den, Bs.den, Bo.den, Lx.den, Kx.den, Ix.den, Tg.den, Tgs.den, Eo.den, Sx.den, Sxs.den, gloS, mkG, gls, kS, vS, binS, binD, addD, subD, cmpS, cmpD, ltD, leD, Den.notM, boolS, andS, orS, notS, bsD, asBS, asBoolD, truS, truD, iteS, chnS, argsS, tupS, subS, pushL, lstS, mthS, chk, tyD, tyP, Mt.ty, Mt.den, MtF.ty, MtF.den, Op1.den, OpF.den, OpL.den1, OpL.denF, lenD, lenF, callG, callS, pmL, Den.bnd, Den.ret, Den.guardM, wipeR, tgN, Den.push, mkTup, allP, sizeLine, List.replicate, eq_int, optM, setL]
    have g6 := get_app0 J0 (O.lst (ps.map nD)) [O.lst (mi.map nD), O.lst (ri.map nD)]
    have g7 := get_app1 J0 (O.lst (ps.map nD)) (O.lst (mi.map nD)) [O.lst (ri.map nD)]
    have g8 := get_app2 J0 (O.lst (ps.map nD)) (O.lst (mi.map nD)) (O.lst (ri.map nD)) []
    have e4 : J0 ++ [O.lst (ps.map nD), O.lst (mi.map nD), O.lst (ri.map nD)] = .lst ((sumsT T).map nD) :: .lst pre :: (junk ++ [O.lst (ps.map nD), O.lst (mi.map nD), O.lst (ri.map nD)]) := rfl
    have hJ0 : J0.length = junk.length + 2 := rfl
    rw [hJ0] at g6 g7 g8
    rw [e4] at g6 g7 g8 ⊢
    generalize junk ++ [O.lst (ps.map nD), O.lst (mi.map nD), O.lst (ri.map nD)] = J at *
    have e : lcS [12] (tgN 12) (cmpS .In (vS 12) (vS 8)) (vS 12) (itB (bE (vS 7))) [some (.p (tabD T)), some (.p (lotD lot)), some (nD t), some (.ref 0), some (.ref 1), some (nD s), some (.ref (junk.length + 2)), some (.ref (junk.length + 3)), some (.ref (junk.length + 4)), none, none, none, none]
        ⟨.lst ((sumsT T).map nD) :: .lst pre :: J, false⟩ = .ok ((mi.filter fun p => decide (p ∈ ri)).map nD) ⟨.lst ((sumsT T).map nD) :: .lst pre :: J, false⟩ := by
      refine lc1 mi nD (fun p => decide (p ∈ ri)) nD ?_ (by omega) ?_ ?_
      · exact reads_ref (l := junk.length + 3) (by simp) g7
      · intro p _
        simp [cmpS, vS, Den.bnd, Den.ret, wipeR, cmpD]
        exact in_ref p ri g8
      · intro p _ _
        simp [Ex.den, Exs.den, Bx.den, Bs.den, Bo.den, Lx.den, Kx.den, Ix.den, Tg.den, Tgs.den, Eo.den, Sx.den, Sxs.den, gloS, mkG, gls, kS, vS, binS, binD, addD, subD, cmpS, cmpD, ltD, leD, Den.notM, boolS, andS, orS, notS, bsD, asBS, asBoolD, truS, truD, iteS, chnS, argsS, tupS, subS, pushL, lstS, mthS, chk, tyD, tyP, Mt.ty, Mt.den, MtF.ty, MtF.den, Op1.den, OpF.den, OpL.den1, OpL.denF, lenD, lenF, callG, callS, pmL, Den.bnd, Den.ret, Den.guardM, wipeR, tgN, Den.push, mkTup, allP, sizeLine, List.replicate, eq_int, optM, setL]
    have hmr : mi.filter (fun p => decide (p ∈ ri)) = mi.filter fun p => rgtS T t p := by
      refine List.filter_congr fun p m => ?_
      have m2 : p ∈ ps := by rw [← hB] at m; exact (List.mem_filter.mp m).1
      rw [← hC, Bool.eq_iff_iff, decide_eq_true_eq, List.mem_filter]
      exact ⟨fun z => z.2, fun z => ⟨m2, z⟩⟩
    rw [hmr] at e
    simp only [List.getElem?_cons_succ] at g6 g7 g8
    have w6 : getL (junk.length + 2) ⟨.lst ((sumsT T).map nD) :: .lst pre :: J, false⟩ = .ok (ps.map nD) ⟨.lst ((sumsT T).map nD) :: .lst pre :: J, false⟩ := getL_at g6
    have w7 : getL (junk.length + 3) ⟨.lst ((sumsT T).map nD) :: .lst pre :: J, false⟩ = .ok (mi.map nD) ⟨.lst ((sumsT T).map nD) :: .lst pre :: J, false⟩ := getL_at g7
    have w8 : getL (junk.length + 4) ⟨.lst ((sumsT T).map nD) :: .lst pre :: J, false⟩ = .ok (ri.map nD) ⟨.lst ((sumsT T).map nD) :: .lst pre :: J, false⟩ := getL_at g8
    have w1 : getL 1 ⟨.lst ((sumsT T).map nD) :: .lst pre :: J, false⟩ = .ok pre ⟨.lst ((sumsT T).map nD) :: .lst pre :: J, false⟩ := rfl
    refine Runs.seq (ex_ok (d := .non) (S' := ⟨.lst ((sumsT T).map nD) :: .lst (pre ++ [(stOf T lot t s).d]) :: J, false⟩) ?_) ?_
    · have us : (usN (sumsT T)).length ≤ 7 := Nat.le_trans (usN_len _) (by omega)
      have g : pre.length < 1000000 := by omega
      simp [Ex.den, Exs.den, Bx.den, Bs.den, Bo.den, Lx.den, Kx.den, Ix.den, Tg.den, Tgs.den, Eo.den, Sx.den, Sxs.den, gloS, mkG, gls, kS, vS, binS, binD, addD, subD, cmpS, cmpD, ltD, leD, Den.notM, boolS, andS, orS, notS, bsD, asBS, asBoolD, truS, truD, iteS, chnS, argsS, tupS, subS, pushL, lstS, mthS, chk, tyD, tyP, Mt.ty, Mt.den, MtF.ty, MtF.den, Op1.den, OpF.den, OpL.den1, OpL.denF, lenD, lenF, callG, callS, pmL, Den.bnd, Den.ret, Den.guardM, wipeR, tgN, Den.push, mkTup, allP, sizeLine, List.replicate, eq_int, optM, setL, w6, w7, w8, e, app_ok w1 g]
      simp [hst, St5.d, D.mx]
    · exact Runs.skip ⟨_, rfl, J, _, _, _, _, rfl, rfl⟩
  · rintro ρ' S' ⟨junk, o5, o6, o7, o8, rfl, rfl⟩
    refine Runs.ret (d := .ref 1) (S' := _) rfl ⟨.ref 1, rfl, rfl, ?_, rfl⟩
    simp [strata]
end K87

namespace K87
open PySem PySem.Spec PyProof.Rows L2 Den
/-! rules, one for each shape -/
section
variable {ρ ρ' : Rho} {S S1 S2 S3 : Sto} {t u : DB} {f g k : DE} {l : DL} {a b c d : D} {p q r : Bool} {fs gs : List DE} {ds es : List D} {Q : Fl → Sto → Prop}
theorem ok_and_t (h : t ρ S = .ok true S1) (h2 : u ρ S1 = .ok q S2) : andS t u ρ S = .ok q S2 := by
  unfold andS; rw [bnd_ok h, if_pos rfl, h2]
theorem ok_and_f (h : t ρ S = .ok false S1) : andS t u ρ S = .ok false S1 := by
  unfold andS; rw [bnd_ok h]; rfl
theorem ok_and (h : t ρ S = .ok p S) (h2 : p = true → u ρ S = .ok q S) : andS t u ρ S = .ok (p && q) S := by
  cases p with
  | true => exact ok_and_t h (h2 rfl)
  | false => exact ok_and_f h
theorem ok_or_t (h : t ρ S = .ok true S1) : orS t u ρ S = .ok true S1 := by
  unfold orS; rw [bnd_ok h]; rfl
theorem ok_or_f (h : t ρ S = .ok false S1) (h2 : u ρ S1 = .ok q S2) : orS t u ρ S = .ok q S2 := by
  unfold orS; rw [bnd_ok h, if_neg (by decide), h2]
theorem ok_or (h : t ρ S = .ok p S) (h2 : p = false → u ρ S = .ok q S) : orS t u ρ S = .ok (p || q) S := by
  cases p with
  | false => exact ok_or_f h (h2 rfl)
  | true => exact ok_or_t h
theorem ok_not (h : t ρ S = .ok p S1) : notS t ρ S = .ok (!p) S1 := by
  unfold notS; rw [bnd_ok h]; rfl
theorem ok_bool (h : t ρ S = .ok p S1) : boolS t ρ S = .ok (.bl p) S1 := by
  unfold boolS; rw [bnd_ok h]; rfl
theorem ok_asB (h : f ρ S = .ok (.bl p) S1) : asBS f ρ S = .ok p S1 := by
  unfold asBS; rw [bnd_ok h]; rfl
theorem ok_tru (h : f ρ S = .ok (.bl p) S1) : truS f ρ S = .ok p S1 := by
  unfold truS; rw [bnd_ok h]; rfl
theorem ok_v {i : Nat} (h : ρ[i]? = some (some d)) : vS i ρ S = .ok d S := by
  unfold vS; rw [h]; rfl
theorem ok_k : kS d ρ S = .ok d S := rfl
theorem ok_cmp {op : CmpOp} (h : f ρ S = .ok a S1) (h2 : g ρ S1 = .ok b S2) (h3 : cmpD op a b S2 = .ok p S3) : cmpS op f g ρ S = .ok p S3 := by
  unfold cmpS; rw [bnd_ok h, bnd_ok h2, h3]
theorem ok_chn {op op' : CmpOp} (h : f ρ S = .ok a S) (h2 : g ρ S = .ok b S) (h3 : cmpD op a b S = .ok p S) (h4 : k ρ S = .ok c S) (h5 : cmpD op' b c S = .ok q S) : chnS op op' f g k ρ S = .ok (p && q) S := by
  unfold chnS; rw [bnd_ok h, bnd_ok h2, bnd_ok h3]
  cases p with
  | true => rw [if_pos rfl, bnd_ok h4, h5]; rfl
  | false => rfl
theorem ok_nil : argsS [] ρ S = .ok [] S := rfl
theorem ok_cons (h : f ρ S = .ok a S1) (h2 : argsS fs ρ S1 = .ok ds S2) : argsS (f :: fs) ρ S = .ok (a :: ds) S2 := by
  show Den.bnd (f ρ) _ S = _
  rw [bnd_ok h, bnd_ok h2]; rfl
theorem ok_args1 (h : f ρ S = .ok a S1) : argsS [f] ρ S = .ok [a] S1 := ok_cons h ok_nil
theorem ok_args2 (h : f ρ S = .ok a S1) (h2 : g ρ S1 = .ok b S2) : argsS [f, g] ρ S = .ok [a, b] S2 := ok_cons h (ok_args1 h2)
theorem ok_args3 (h : f ρ S = .ok a S1) (h2 : g ρ S1 = .ok b S2) (h3 : k ρ S2 = .ok c S3) : argsS [f, g, k] ρ S = .ok [a, b, c] S3 := ok_cons h (ok_args2 h2 h3)
/-- an operation behind what it is given -/
theorem ok_bnd {α β : Type} {m : M α} {F : α → M β} {x : α} {y : β} (h : m S = .ok x S1) (h2 : F x S1 = .ok y S2) : Den.bnd m F S = .ok y S2 := by rw [bnd_ok h, h2]
theorem ok_bin {op : Operator} (h : f ρ S = .ok a S1) (h2 : g ρ S1 = .ok b S2) (h3 : binD op a b S2 = .ok c S3) : binS op f g ρ S = .ok c S3 := by
  unfold binS; rw [bnd_ok h, bnd_ok h2, h3]
theorem ok_sub (h : f ρ S = .ok a S1) (h2 : g ρ S1 = .ok b S2) (h3 : subItem a b S2 = .ok c S3) : subS f g ρ S = .ok c S3 := by
  unfold subS; rw [bnd_ok h, bnd_ok h2, h3]
theorem ok_ite_t (h : t ρ S = .ok true S1) (h2 : f ρ S1 = .ok a S2) : iteS t f g ρ S = .ok a S2 := by
  unfold iteS; rw [bnd_ok h, if_pos rfl, h2]
theorem ok_ite_f (h : t ρ S = .ok false S1) (h2 : g ρ S1 = .ok a S2) : iteS t f g ρ S = .ok a S2 := by
  unfold iteS; rw [bnd_ok h, if_neg (by decide), h2]
theorem ok_tup {xs : List PyData} (h : argsS fs ρ S = .ok (xs.map .p) S1) (hl : xs.length < 1000) : tupS fs ρ S = .ok (.p (.tuple xs)) S1 := by
  unfold tupS
  have g : decide ((xs.map D.p).length ≤ sizeLine) = true := decide_eq_true (by show _ ≤ 2 ^ 24; simp; omega)
  rw [bnd_ok h, g, guardM_t]
  have : mkTup (xs.map D.p) = .p (.tuple xs) := by
    unfold mkTup
    rw [show (xs.map D.p) = xs.map fun x => D.p (id x) from rfl, allP_map]
    simp
  rw [this]; rfl
theorem ok_mth {α : Type} {T : String} {G : D → List D → M α} {as : DL} {y : α} (h : f ρ S = .ok a S1) (ht : tyD S1.objs a = some T) (h2 : as ρ S1 = .ok ds S2) (h3 : G a ds S2 = .ok y S3) : mthS T G f as ρ S = .ok y S3 := by
  unfold mthS
  have : chk T a S1 = .ok () S1 := by unfold chk; rw [if_pos ht]
  rw [bnd_ok h, bnd_ok this, bnd_ok h2, h3]
theorem ok_callS {n m : Nat} {perm : List Nat} {F : List D → M D} (h : argsS fs ρ S = .ok ds S1) (h2 : argsS gs ρ S1 = .ok es S2) (hn : ds.length = n) (hm : es.length = m) (h3 : frame F (pmL perm (ds ++ es)) S2 = .ok d S3) : callS n m perm F fs gs ρ S = .ok d S3 := by
  unfold callS
  rw [bnd_ok h, bnd_ok h2, decide_eq_true hn, decide_eq_true hm]
  exact h3
/-- a call: the form j of the table -/
theorem ok_call {G : Gm} {j n m : Nat} {perm : List Nat} (hj : G.fns[j]? = some (n, m, perm)) (h : argsS fs ρ S = .ok ds S1) (h2 : argsS gs ρ S1 = .ok es S2) (hn : ds.length = n) (hm : es.length = m) (h3 : frame (G.call j) (pmL perm (ds ++ es)) S2 = .ok d S3) : callG G j fs gs ρ S = .ok d S3 := by
  unfold callG
  rw [hj]
  exact ok_callS h h2 hn hm h3
theorem Runs.if_t {s s' r : DSt} (h : t ρ S = .ok true S1) (k : Runs (seqS s r) ρ S1 Q) : Runs (seqS (ifS t s s') r) ρ S Q := by
  unfold Runs seqS ifS at *
  simp only [Den.bnd, h] at *
  exact k
theorem Runs.if_f {s s' r : DSt} (h : t ρ S = .ok false S1) (k : Runs (seqS s' r) ρ S1 Q) : Runs (seqS (ifS t s s') r) ρ S Q := by
  unfold Runs seqS ifS at *
  simp only [Den.bnd, h] at *
  exact k
theorem Runs.skipS {r : DSt} (k : Runs r ρ S Q) : Runs (seqS Den.skipS r) ρ S Q := k
/-- an if that leads nowhere -/
theorem Runs.unless {s r : DSt} (h : t ρ S = .ok false S1) (k : Runs r ρ S1 Q) : Runs (seqS (ifS t s Den.skipS) r) ρ S Q := Runs.if_f h (Runs.skipS k)
/-- a return within a suite -/
theorem Runs.rets {s r : DSt} (h : f ρ S = .ok d S1) (k : Q (.rt d) S1) : Runs (seqS (seqS (retS f) s) r) ρ S Q := by
  unfold Runs seqS retS
  simp only [Den.bnd, h, Den.ret]
  exact ⟨_, _, rfl, k⟩
theorem Runs.ex {r : DSt} (h : f ρ S = .ok d S1) (k : Runs r ρ S1 Q) : Runs (seqS (exS f) r) ρ S Q := Runs.seq (ex_ok h) k
theorem Runs.asg {i : Nat} {r : DSt} (h : f ρ S = .ok d S1) (k : Runs r (ρ.set i (some d)) S1 Q) : Runs (seqS (asgS f (tgN i)) r) ρ S Q := Runs.seq (asg_ok h) k
/-- a def that gives a value -/
theorem F_of {n N : Nat} {body : DSt} (hn : ds.length = n) (h : Runs body (ds.map some ++ List.replicate (N - n) none) S fun fl S' => endS fl = Den.ret d ∧ S' = S1) : runF n N body ds S = .ok d S1 := by
  obtain ⟨d', S', e, rfl, rfl⟩ := runF_of (Z := fun d' S' => d' = d ∧ S' = S1) hn (by
    obtain ⟨fl, S', e, e2, e3⟩ := h
    exact ⟨fl, S', e, d, e2, rfl, e3⟩)
  exact e
theorem F_ex {n N : Nat} {body : DSt} (hn : ds.length = n) (h : Runs body (ds.map some ++ List.replicate (N - n) none) S fun fl _ => endS fl = Den.ret d) : ∃ S', runF n N body ds S = .ok d S' := by
  obtain ⟨d', S', e, rfl⟩ := runF_of (Z := fun d' _ => d' = d) hn (by
    obtain ⟨fl, S', e, e2⟩ := h
    exact ⟨fl, S', e, d, e2, rfl⟩)
  exact ⟨S', e⟩
end
end K87

namespace K87
open PySem PySem.Spec PyProof.Rows L2 Den
/-! rules on terms -/
section
variable {G : Gm} {ρ ρ' : Rho} {S S1 S2 S3 : Sto} {x y z : Ex} {xs ks : Exs} {u v : Bx} {us : Bs} {l : Lx} {a b c d : D} {p q r : Bool} {ds es : List D} {Q : Fl → Sto → Prop} {i j : Nat} {s : Ix} {ss rest : Sxs}
theorem e_var (h : ρ[i]? = some (some d)) : (Ex.var i).den G ρ S = .ok d S := ok_v h
theorem e_int {n : Int} : (Ex.int n).den G ρ S = .ok (.int n) S := rfl
theorem e_str {n : Str} : (Ex.str n).den G ρ S = .ok (.str n) S := rfl
theorem e_bl {n : Bool} : (Ex.bl n).den G ρ S = .ok (.bl n) S := rfl
theorem e_non : Ex.non.den G ρ S = .ok .non S := rfl
theorem e_glo {n : PyData} (h : G.gl[j]? = some n) : (Ex.glo j).den G ρ S = .ok (.p n) S := by
  show gloS G j ρ S = _
  unfold gloS
  rw [h]; rfl
theorem e_bin {op : Operator} (h : x.den G ρ S = .ok a S1) (h2 : y.den G ρ S1 = .ok b S2) (h3 : binD op a b S2 = .ok c S3) : (Ex.bin op x y).den G ρ S = .ok c S3 := ok_bin h h2 h3
theorem e_sub (h : x.den G ρ S = .ok a S1) (h2 : y.den G ρ S1 = .ok b S2) (h3 : subItem a b S2 = .ok c S3) : (Ex.sub x y).den G ρ S = .ok c S3 := ok_sub h h2 h3
theorem e_ofB (h : u.den G ρ S = .ok p S1) : (Ex.ofB u).den G ρ S = .ok (.bl p) S1 := ok_bool h
theorem e_ite_t (h : u.den G ρ S = .ok true S1) (h2 : x.den G ρ S1 = .ok a S2) : (Ex.ite u x y).den G ρ S = .ok a S2 := ok_ite_t h h2
theorem e_ite_f (h : u.den G ρ S = .ok false S1) (h2 : y.den G ρ S1 = .ok a S2) : (Ex.ite u x y).den G ρ S = .ok a S2 := ok_ite_f h h2
theorem e_tup {ps : List PyData} (h : argsS (xs.den G) ρ S = .ok (ps.map .p) S1) (hl : ps.length < 1000) : (Ex.tup xs).den G ρ S = .ok (.p (.tuple ps)) S1 := ok_tup h hl
theorem e_push (h : l.den G ρ S = .ok ds S1) : (Ex.push l).den G ρ S = .ok (.ref S1.objs.length) ⟨S1.objs ++ [.lst ds], S1.nt⟩ := by
  show Den.bnd (l.den G ρ) _ S = _
  rw [bnd_ok h]; rfl
theorem e_op1 {o : Op1} (h : argsS (xs.den G) ρ S = .ok ds S1) (h2 : o.den ds S1 = .ok a S2) : (Ex.op1 o xs).den G ρ S = .ok a S2 := ok_bnd h h2
theorem e_opF {o : OpF} (h : l.den G ρ S = .ok ds S1) (h2 : o.den ds S1 = .ok a S2) : (Ex.opF o l).den G ρ S = .ok a S2 := ok_bnd h h2
theorem e_mt {o : Mt} (h : x.den G ρ S = .ok a S1) (ht : tyD S1.objs a = some o.ty) (h2 : argsS (xs.den G) ρ S1 = .ok ds S2) (h3 : o.den a ds S2 = .ok b S3) : (Ex.mt o x xs).den G ρ S = .ok b S3 := ok_mth h ht h2 h3
theorem e_mtF {o : MtF} (h : x.den G ρ S = .ok a S1) (ht : tyD S1.objs a = some o.ty) (h2 : l.den G ρ S1 = .ok ds S2) (h3 : o.den a ds S2 = .ok b S3) : (Ex.mtF o x l).den G ρ S = .ok b S3 := ok_mth h ht h2 h3
theorem e_isi {t : Ty} (h : x.den G ρ S = .ok a S1) (h2 : isiD t.name a S1 = .ok b S2) : (Ex.isi t x).den G ρ S = .ok b S2 := ok_bnd h h2
theorem e_call {n m : Nat} {perm : List Nat} (hj : G.fns[j]? = some (n, m, perm)) (h : argsS (xs.den G) ρ S = .ok ds S1) (h2 : argsS (ks.den G) ρ S1 = .ok es S2) (hn : ds.length = n) (hm : es.length = m) (h3 : frame (G.call j) (pmL perm (ds ++ es)) S2 = .ok d S3) : (Ex.call j xs ks).den G ρ S = .ok d S3 := ok_call hj h h2 hn hm h3
theorem a_nil : argsS (Exs.nil.den G) ρ S = .ok [] S := rfl
theorem a_cons (h : x.den G ρ S = .ok a S1) (h2 : argsS (xs.den G) ρ S1 = .ok ds S2) : argsS ((Exs.cons x xs).den G) ρ S = .ok (a :: ds) S2 := ok_cons h h2
theorem a_1 (h : x.den G ρ S = .ok a S1) : argsS ((Exs.cons x .nil).den G) ρ S = .ok [a] S1 := ok_cons h ok_nil
theorem a_2 (h : x.den G ρ S = .ok a S1) (h2 : y.den G ρ S1 = .ok b S2) : argsS ((Exs.cons x (.cons y .nil)).den G) ρ S = .ok [a, b] S2 := ok_cons h (ok_args1 h2)
theorem a_3 (h : x.den G ρ S = .ok a S1) (h2 : y.den G ρ S1 = .ok b S2) (h3 : z.den G ρ S2 = .ok c S3) : argsS ((Exs.cons x (.cons y (.cons z .nil))).den G) ρ S = .ok [a, b, c] S3 := ok_args3 h h2 h3
theorem b_cmp {op : CmpOp} (h : x.den G ρ S = .ok a S1) (h2 : y.den G ρ S1 = .ok b S2) (h3 : cmpD op a b S2 = .ok p S3) : (Bx.cmp op x y).den G ρ S = .ok p S3 := ok_cmp h h2 h3
theorem b_chn {op op' : CmpOp} (h : x.den G ρ S = .ok a S) (h2 : y.den G ρ S = .ok b S) (h3 : cmpD op a b S = .ok p S) (h4 : z.den G ρ S = .ok c S) (h5 : cmpD op' b c S = .ok q S) : (Bx.chn op op' x y z).den G ρ S = .ok (p && q) S := ok_chn h h2 h3 h4 h5
theorem b_bop {op : BoolOp} (h : us.den G op ρ S = .ok p S1) : (Bx.bop op us).den G ρ S = .ok p S1 := h
theorem b_one {op : BoolOp} (h : u.den G ρ S = .ok p S1) : (Bs.one u).den G op ρ S = .ok p S1 := h
theorem b_and_t (h : u.den G ρ S = .ok true S1) (h2 : us.den G .And ρ S1 = .ok q S2) : (Bs.cons u us).den G .And ρ S = .ok q S2 := ok_and_t h h2
theorem b_and_f (h : u.den G ρ S = .ok false S1) : (Bs.cons u us).den G .And ρ S = .ok false S1 := ok_and_f h
theorem b_and (h : u.den G ρ S = .ok p S) (h2 : p = true → us.den G .And ρ S = .ok q S) : (Bs.cons u us).den G .And ρ S = .ok (p && q) S := ok_and h h2
theorem b_or_t (h : u.den G ρ S = .ok true S1) : (Bs.cons u us).den G .Or ρ S = .ok true S1 := ok_or_t h
theorem b_or_f (h : u.den G ρ S = .ok false S1) (h2 : us.den G .Or ρ S1 = .ok q S2) : (Bs.cons u us).den G .Or ρ S = .ok q S2 := ok_or_f h h2
theorem b_or (h : u.den G ρ S = .ok p S) (h2 : p = false → us.den G .Or ρ S = .ok q S) : (Bs.cons u us).den G .Or ρ S = .ok (p || q) S := ok_or h h2
theorem b_not (h : u.den G ρ S = .ok p S1) : (Bx.not u).den G ρ S = .ok (!p) S1 := ok_not h
theorem b_tru (h : x.den G ρ S = .ok (.bl p) S1) : (Bx.tru x).den G ρ S = .ok p S1 := ok_tru h
theorem b_asB (h : x.den G ρ S = .ok (.bl p) S1) : (Bx.asB x).den G ρ S = .ok p S1 := ok_asB h
theorem l_disp (h : argsS (xs.den G) ρ S = .ok ds S1) (hl : ds.length < 1000) : (Lx.disp xs).den G ρ S = .ok ds S1 := by
  show Den.bnd (argsS (xs.den G) ρ) _ S = _
  have g : decide (ds.length ≤ sizeLine) = true := decide_eq_true (by show _ ≤ 2 ^ 24; omega)
  rw [bnd_ok h, g]; rfl
theorem l_opF {o : OpL} (h : l.den G ρ S = .ok ds S1) (h2 : o.denF ds S1 = .ok es S2) : (Lx.opF o l).den G ρ S = .ok es S2 := ok_bnd h h2
theorem l_op1 {o : OpL} (h : argsS (xs.den G) ρ S = .ok ds S1) (h2 : o.den1 ds S1 = .ok es S2) : (Lx.op1 o xs).den G ρ S = .ok es S2 := ok_bnd h h2
section
variable {α : Type} {own : List Nat}
/-- a comprehension over one name, with a test -/
theorem l_lc1 (ys : List α) (f : α → D) (cb : α → Bool) (ev : α → D) (hs : Reads (s.den G) ρ S (ys.map f)) (hn : ys.length < 1000000)
    (hc : ∀ y ∈ ys, u.den G ((wipeR ρ own).set i (some (f y))) S = .ok (cb y) S) (he : ∀ y ∈ ys, cb y = true → x.den G ((wipeR ρ own).set i (some (f y))) S = .ok (ev y) S) :
    (Lx.lc own (.nm i) (.so u) x s).den G ρ S = .ok ((ys.filter cb).map ev) S := lc1 ys f cb ev hs hn hc he
theorem l_lc0 (ys : List α) (f : α → D) (ev : α → D) (hs : Reads (s.den G) ρ S (ys.map f)) (hn : ys.length < 1000000)
    (he : ∀ y ∈ ys, x.den G ((wipeR ρ own).set i (some (f y))) S = .ok (ev y) S) :
    (Lx.lc own (.nm i) .yes x s).den G ρ S = .ok (ys.map ev) S := lc0 ys f ev hs hn he
theorem l_lcP (ys : List α) (f g : α → PyData) (cb : α → Bool) (ev : α → D) (hs : Reads (s.den G) ρ S (ys.map fun y => .p (.tuple [f y, g y]))) (hn : ys.length < 1000000)
    (hc : ∀ y ∈ ys, u.den G (((wipeR ρ own).set i (some (.p (f y)))).set j (some (.p (g y)))) S = .ok (cb y) S) (he : ∀ y ∈ ys, cb y = true → x.den G (((wipeR ρ own).set i (some (.p (f y)))).set j (some (.p (g y)))) S = .ok (ev y) S) :
    (Lx.lc own (.tup (.cons (.nm i) (.cons (.nm j) .nil))) (.so u) x s).den G ρ S = .ok ((ys.filter cb).map ev) S := lcP ys f g cb ev hs hn hc he
end
/-! statements -/
theorem s_ret (h : x.den G ρ S = .ok d S1) (k : Q (.rt d) S1) : Runs (Sxs.den G (.cons (.ret x) rest)) ρ S Q := Runs.ret h k
theorem s_nil (k : Q (.nx ρ) S) : Runs (Sxs.den G .nil) ρ S Q := Runs.skip k
theorem s_skip (k : Runs (rest.den G) ρ S Q) : Runs (Sxs.den G (.cons .skip rest)) ρ S Q := k
theorem s_asg (h : x.den G ρ S = .ok d S1) (k : Runs (rest.den G) (ρ.set i (some d)) S1 Q) : Runs (Sxs.den G (.cons (.asg x (.nm i)) rest)) ρ S Q := Runs.asg h k
/-- .. with what stands then -/
theorem s_asgN (d : D) (ρ' : Rho) (S' : Sto) (h : x.den G ρ S = .ok d S') (hρ : ρ.set i (some d) = ρ') (k : Runs (rest.den G) ρ' S' Q) : Runs (Sxs.den G (.cons (.asg x (.nm i)) rest)) ρ S Q := by
  subst hρ; exact Runs.asg h k
theorem s_push (ds : List D) (n : Nat) (ρ' : Rho) (S' : Sto) (h : l.den G ρ S = .ok ds S) (hn : S.objs.length = n) (hρ : ρ.set i (some (.ref n)) = ρ') (hS : (⟨S.objs ++ [.lst ds], S.nt⟩ : Sto) = S') (k : Runs (rest.den G) ρ' S' Q) : Runs (Sxs.den G (.cons (.asg (.push l) (.nm i)) rest)) ρ S Q := by
  subst hn hρ hS; exact Runs.asg (e_push h) k
theorem s_ex (h : x.den G ρ S = .ok d S1) (k : Runs (rest.den G) ρ S1 Q) : Runs (Sxs.den G (.cons (.ex x) rest)) ρ S Q := Runs.ex h k
theorem s_unless (h : u.den G ρ S = .ok false S1) (k : Runs (rest.den G) ρ S1 Q) : Runs (Sxs.den G (.cons (.ifs u ss .nil) rest)) ρ S Q := Runs.unless h k
theorem s_if_t {s s' : Sx} {a' : Sxs} (h : u.den G ρ S = .ok true S1) (k : Runs (seqS (ss.den G) (rest.den G)) ρ S1 Q) : Runs (Sxs.den G (.cons (.ifs u ss a') rest)) ρ S Q := Runs.if_t h k
theorem s_ifret (h : u.den G ρ S = .ok true S1) (h2 : x.den G ρ S1 = .ok d S2) (k : Q (.rt d) S2) : Runs (Sxs.den G (.cons (.ifs u (.cons (.ret x) .nil) .nil) rest)) ρ S Q := Runs.if_t h (Runs.rets h2 k)
theorem s_for_con {body : Sxs} (es : List D) (I : Nat → Rho → Sto → Prop) (hf : l.den G ρ S = .ok es S) (h0 : I 0 ρ S)
    (hstep : ∀ j ρ S (h : j < es.length), I j ρ S → Runs (body.den G) (ρ.set i (some es[j])) S fun fl S' => ∃ ρ', fl = .nx ρ' ∧ I (j + 1) ρ' S') (k : ∀ ρ' S', I es.length ρ' S' → Runs (rest.den G) ρ' S' Q) :
    Runs (Sxs.den G (.cons (.fr (.nm i) (.b (.l l)) body) rest)) ρ S Q := Runs.for_con es I hf h0 hstep k
theorem s_for {body : Sxs} {t : Tg} (src : Src) (es : List D) (I : Nat → Rho → Sto → Prop) (hs : s.den G ρ S = .ok src S) (hn : src.n = es.length) (hg : ∀ i ρ S, i ≤ es.length → I i ρ S → src.get i S = some es[i]?) (h0 : I 0 ρ S)
    (hstep : ∀ j ρ S (h : j < es.length), I j ρ S → ∃ ρ1, t.den G es[j] ρ S = .ok ρ1 S ∧ Runs (body.den G) ρ1 S fun fl S' => ∃ ρ', fl = .nx ρ' ∧ I (j + 1) ρ' S') (k : ∀ ρ' S', I es.length ρ' S' → Runs (rest.den G) ρ' S' Q) :
    Runs (Sxs.den G (.cons (.fr t s body) rest)) ρ S Q := Runs.for_src src es I hs hn hg h0 hstep k
/-- a value that is written in the program or given: the source does not change -/
def ConSrc (sf : DS) (ρ : Rho) (S : Sto) (xs : List D) : Prop := ∃ src, sf ρ S = .ok src S ∧ src.n = xs.length ∧ ∀ i S', i ≤ xs.length → src.get i S' = some xs[i]?
theorem con_tup {f : DE} {ps : List PyData} (hf : f ρ S = .ok (.p (.tuple ps)) S) : ConSrc (itB (bE f)) ρ S (ps.map .p) := by
  refine ⟨srcB (.con (ps.map .p)) (ps.map D.p).length, ?_, rfl, fun i S' hi => src_con _ _ _ _ hi⟩
  unfold itB bE
  rw [Den.bnd, Den.bnd, hf]
  simp only [baseD, Den.bnd, Den.ret, lenB, BSr.items]
theorem con_en {f : DE} {zs : List D} (hf : Den.bnd (f ρ) baseD S = .ok (.con zs) S) : ConSrc (itE (bE f)) ρ S (enL zs) := by
  refine ⟨srcE (.con zs) zs.length, ?_, by simp [srcE, enL], fun i S' hi => src_en zs _ _ _ (by simpa [enL] using hi) _ rfl⟩
  unfold itE bE
  rw [bnd_ok hf]
  rfl
theorem con_r1 {f : DE} {n : Nat} (hf : f ρ S = .ok (.int n) S) (hn : n < 2 ^ 60) : ConSrc (itR1 f) ρ S (rgs 0 n) := by
  refine ⟨srcR 0 n, ?_, by simp [srcR, rgs], fun i S' hi => src_rng 0 n i S' (by simpa [rgs] using hi)⟩
  unfold itR1
  rw [Den.bnd, hf]
  have a : -(2 ^ 62) ≤ (n : Int) := by omega
  have b' : (n : Int) < 4611686018427387904 := by omega
  simp [rng1, a, b']
theorem con_con {f : DL} (hf : f ρ S = .ok ds S) : ConSrc (itB (bL f)) ρ S ds := by
  refine ⟨srcB (.con ds) ds.length, ?_, rfl, fun i S' hi => src_con _ _ _ _ hi⟩
  unfold itB bL
  rw [Den.bnd, Den.bnd, hf]
  simp only [Den.bnd, Den.ret, lenB, BSr.items]
theorem ConSrc.reads {sf : DS} (h : ConSrc sf ρ S ds) : Reads sf ρ S ds := by
  obtain ⟨src, e1, e2, e3⟩ := h
  exact ⟨src, e1, e2, fun i hi => e3 i S hi⟩
theorem s_forC {body : Sxs} {t : Tg} (es : List D) (I : Nat → Rho → Sto → Prop) (hs : ConSrc (s.den G) ρ S es) (h0 : I 0 ρ S)
    (hstep : ∀ j ρ S (h : j < es.length), I j ρ S → ∃ ρ1, t.den G es[j] ρ S = .ok ρ1 S ∧ Runs (body.den G) ρ1 S fun fl S' => ∃ ρ', fl = .nx ρ' ∧ I (j + 1) ρ' S') (k : ∀ ρ' S', I es.length ρ' S' → Runs (rest.den G) ρ' S' Q) :
    Runs (Sxs.den G (.cons (.fr t s body) rest)) ρ S Q := by
  obtain ⟨src, e1, e2, e3⟩ := hs
  exact s_for src es I e1 e2 (fun i _ S' hi _ => e3 i S' hi) h0 hstep k
end
end K87

namespace K87
open PySem PySem.Spec PyProof.Rows L2 Den
/-! the checks let a table, a lot, a task pass -/
theorem bools_map {α : Type} (b : α → Bool) (xs : List α) : boolsD (xs.map fun x => .bl (b x)) = some (xs.map b) := by
  unfold boolsD
  rw [allP_map (fun x => PyData.bool (b x)) xs]
  show boolsOf (xs.map fun x => PyData.bool (b x)) = _
  induction xs with
  | nil => rfl
  | cons x xs ih => simp [boolsOf, ih]
theorem allF_map {α : Type} (b : α → Bool) (xs : List α) : allF (xs.map fun x => .bl (b x)) = Den.ret (.bl (xs.all b)) := by
  unfold allF
  rw [bools_map]
  simp [optM, List.all_map, Function.comp_def]
theorem F1_nat (i k : Nat) (h : i ≤ k) : frame F1 [nD i, .int 0, nD k] = Den.ret (.bl true) := by
  rw [fr1_int]
  simp [h]
theorem isi_p (T : String) (x : PyData) (b : Bool) (h : ∀ kvs, x ≠ .dict kvs) (hb : kitB (tyP x) T = some b) : isiD T (.p x) = Den.ret (.bl b) := by
  funext S
  unfold isiD
  have : tyD S.objs (.p x) = some (tyP x) := by
    cases x <;> first | rfl | exact absurd rfl (h _)
  rw [this]
  show (match kitB (tyP x) T with | some b => Den.R.ok (D.bl b) S | none => .bad) = _
  rw [hb]
  rfl
theorem isi_tup (xs : List PyData) : isiD "tuple" (.p (.tuple xs)) = Den.ret (.bl true) := isi_p _ _ _ (by simp) (by show kitB "tuple" "tuple" = _; decide)
theorem isi_str (z : Str) : isiD "str" (.str z) = Den.ret (.bl true) := isi_p _ _ _ (by simp) (by show kitB "str" "str" = _; decide)
theorem F2_ok (lot : List Nat) (k : Nat) (h : ∀ i ∈ lot, i ≤ k) (hl : lot.length < 1000) : F2 [.p (lotD lot), .int 0, nD k] Sto.new = .ok (.bl true) Sto.new := by
  have e : lcS [3] (tgN 3) yesS (callG (mkG gls [fo0, fo1] [F0, F1]) 1 [vS 3, vS 1, vS 2] []) (itB (bE (vS 0))) [some (.p (lotD lot)), some (.int 0), some (nD k), none] Sto.new = .ok (lot.map fun _ => .bl true) Sto.new := by
    refine lc0 lot nD (fun _ => .bl true) ?_ (by omega) ?_
    · have := reads_tup (ρ := [some (.p (lotD lot)), some (.int 0), some (nD k), none]) (i := 0) (S := Sto.new) (ds := lot.map nP) rfl
      rwa [List.map_map] at this
    · intro i m
      simp [Ex.den, Exs.den, Bx.den, Bs.den, Bo.den, Lx.den, Kx.den, Ix.den, Tg.den, Tgs.den, Eo.den, Sx.den, Sxs.den, gloS, mkG, gls, kS, vS, binS, binD, addD, subD, cmpS, cmpD, ltD, leD, Den.notM, boolS, andS, orS, notS, bsD, asBS, asBoolD, truS, truD, iteS, chnS, argsS, tupS, subS, pushL, lstS, mthS, chk, tyD, tyP, Mt.ty, Mt.den, MtF.ty, MtF.den, Op1.den, OpF.den, OpL.den1, OpL.denF, lenD, lenF, callG, callS, pmL, Den.bnd, Den.ret, Den.guardM, wipeR, tgN, Den.push, mkTup, allP, sizeLine, List.replicate, eq_int, optM, setL, fo0, fo1, F1_nat i k (h i m)]
  simp [Ex.den, Exs.den, Bx.den, Bs.den, Bo.den, Lx.den, Kx.den, Ix.den, Tg.den, Tgs.den, Eo.den, Sx.den, Sxs.den, glo0, glo1, glo2, glo3, glo4, glo5, kS, vS, binS, binD, addD, subD, cmpS, cmpD, ltD, leD, Den.notM, boolS, andS, orS, notS, bsD, asBS, asBoolD, truS, truD, iteS, chnS, argsS, tupS, subS, pushL, lstS, mthS, chk, tyD, tyP, Mt.ty, Mt.den, MtF.ty, MtF.den, Op1.den, OpF.den, OpL.den1, OpL.denF, lenD, lenF, Den.bnd, Den.ret, Den.guardM, wipeR, tgN, Den.push, mkTup, allP, sizeLine, List.replicate, eq_int, optM, setL, F2, runF, t2, n2, seqS, retS, skipS, endS, isi_tup, Ty.name, e, allF_map]
theorem pairs_get (xs ys : List D) (i : Nat) (h : i ≤ (xs.zip ys).length) : Den.pairAt xs ys i = some (((xs.zip ys).map fun p => mkTup [p.1, p.2])[i]?) := by
  unfold Den.pairAt
  by_cases h1 : i < (xs.zip ys).length
  · have h2 := h1
    rw [List.length_zip] at h2
    have a : i < xs.length := by omega
    have b : i < ys.length := by omega
    rw [List.getElem?_eq_getElem a, List.getElem?_eq_getElem b, List.getElem?_map, List.getElem?_eq_getElem h1]
    simp
  · have e : i = (xs.zip ys).length := by omega
    have e2 := e
    rw [List.length_zip] at e2
    have c : i ≤ xs.length ∧ i ≤ ys.length := by omega
    rw [List.getElem?_eq_none (l := (xs.zip ys).map fun p => mkTup [p.1, p.2]) (by simp; omega)]
    split
    · rename_i x y p q
      have := (List.getElem?_eq_some_iff.mp p).1
      have := (List.getElem?_eq_some_iff.mp q).1
      omega
    · rw [if_pos c]
theorem reads_zip {ρ : Rho} {S : Sto} {f g : DE} {xs ys : List PyData} (hf : f ρ S = .ok (.p (.tuple xs)) S) (hg : g ρ S = .ok (.p (.tuple ys)) S) : Reads (itZ (bE f) (bE g)) ρ S ((xs.zip ys).map fun p => .p (.tuple [p.1, p.2])) := by
  have e : ((xs.zip ys).map fun p => D.p (.tuple [p.1, p.2])) = (((xs.map D.p).zip (ys.map D.p)).map fun p => mkTup [p.1, p.2]) := by
    rw [List.zip_map, List.map_map]
    rfl
  rw [e]
  refine ⟨srcZ (.con (xs.map D.p)) (.con (ys.map D.p)) (min (xs.map D.p).length (ys.map D.p).length), ?_, by simp [srcZ], fun i hi => ?_⟩
  · unfold itZ bE
    simp only [Den.bnd, hf, hg, baseD, Den.ret, lenB, BSr.items]
  · show Den.pairAt (xs.map D.p) (ys.map D.p) i = _
    exact pairs_get _ _ _ (by simpa using hi)
theorem cut1 (xs : List PyData) : cutD (.p (.tuple xs)) (some 1) none = Den.ret (.p (.tuple (xs.drop 1))) := by
  show Den.ret (D.p (.tuple (cutL xs (some 1) none))) = _
  congr 3
  unfold cutL HT.sIx
  cases xs with
  | nil => rfl
  | cons x xs => simp
theorem F3_ok (lot : List Nat) (h : lot.Pairwise (· < ·)) (hl : lot.length < 1000) : F3 [.p (lotD lot)] Sto.new = .ok (.bl true) Sto.new := by
  have e : lcS [1, 2] (tgT [tgN 1, tgN 2]) yesS (boolS (cmpS .Lt (vS 1) (vS 2))) (itZ (bE (vS 0)) (bE (cutG cutD (vS 0) (some (kS (.int 1))) none))) [some (.p (lotD lot)), none, none] Sto.new = .ok ((lot.zip (lot.drop 1)).map fun p => .bl (decide (p.1 < p.2))) Sto.new := by
    have := lcP (own := [1, 2]) (i := 1) (j := 2) (c := yesS) (e := boolS (cmpS .Lt (vS 1) (vS 2))) (sf := itZ (bE (vS 0)) (bE (cutG cutD (vS 0) (some (kS (.int 1))) none))) (ρ := [some (.p (lotD lot)), none, none]) (S := Sto.new)
      (lot.zip (lot.drop 1)) (fun p => nP p.1) (fun p => nP p.2) (fun _ => true) (fun p => .bl (decide (p.1 < p.2))) ?_ (by simp; omega) (fun _ _ => rfl) ?_
    · rwa [List.filter_eq_self.mpr (by simp)] at this
    · have := reads_zip (ρ := [some (.p (lotD lot)), none, none]) (S := Sto.new) (f := vS 0) (g := cutG cutD (vS 0) (some (kS (.int 1))) none) (xs := lot.map nP) (ys := (lot.map nP).drop 1) rfl (by
        simp [cutG, optS, partI, Ex.den, Exs.den, Bx.den, Bs.den, Bo.den, Lx.den, Kx.den, Ix.den, Tg.den, Tgs.den, Eo.den, Sx.den, Sxs.den, gloS, mkG, gls, kS, vS, binS, binD, addD, subD, cmpS, cmpD, ltD, leD, Den.notM, boolS, andS, orS, notS, bsD, asBS, asBoolD, truS, truD, iteS, chnS, argsS, tupS, subS, pushL, lstS, mthS, chk, tyD, tyP, Mt.ty, Mt.den, MtF.ty, MtF.den, Op1.den, OpF.den, OpL.den1, OpL.denF, lenD, lenF, callG, callS, pmL, Den.bnd, Den.ret, Den.guardM, wipeR, tgN, Den.push, mkTup, allP, sizeLine, List.replicate, eq_int, optM, setL, cut1])
      rw [← List.map_drop, List.zip_map, List.map_map] at this
      exact this
    · intro p m _
      simp [Ex.den, Exs.den, Bx.den, Bs.den, Bo.den, Lx.den, Kx.den, Ix.den, Tg.den, Tgs.den, Eo.den, Sx.den, Sxs.den, gloS, mkG, gls, kS, vS, binS, binD, addD, subD, cmpS, cmpD, ltD, leD, Den.notM, boolS, andS, orS, notS, bsD, asBS, asBoolD, truS, truD, iteS, chnS, argsS, tupS, subS, pushL, lstS, mthS, chk, tyD, tyP, Mt.ty, Mt.den, MtF.ty, MtF.den, Op1.den, OpF.den, OpL.den1, OpL.denF, lenD, lenF, callG, callS, pmL, Den.bnd, Den.ret, Den.guardM, wipeR, tgN, Den.push, mkTup, allP, sizeLine, List.replicate, eq_int, optM, setL]
  have a : (lot.zip (lot.drop 1)).all (fun p => decide (p.1 < p.2)) = true := by
    clear e hl
    induction lot with
    | nil => rfl
    | cons x xs ih =>
      cases xs with
      | nil => rfl
      | cons y ys =>
        have h2 := List.pairwise_cons.mp h
        have := ih h2.2
        simp only [List.drop_succ_cons, List.drop_zero, List.zip_cons_cons, List.all_cons] at this ⊢
        rw [this, decide_eq_true (h2.1 y (by simp))]
        rfl
  simp only [F3, runF, t3, n3, seqS, retS, skipS, endS, Sxs.den, Sx.den, Ex.den, OpF.den, Lx.den, Ix.den, Kx.den, Tg.den, Tgs.den, Bo.den, Bx.den, Eo.den, List.map_cons, List.map_nil, List.length_cons, List.length_nil]
  simp only [Den.bnd, Den.ret, Den.guardM, List.replicate, e, allF_map, a]
  rw [List.drop_one] at a
  simp [e, allF_map, Den.ret]
  rw [a]
  rfl
end K87

namespace K87
open PySem PySem.Spec PyProof.Rows L2 Den
theorem len_row {r : List Nat} (h : r.length < 1000) : lenD [.str (rowS r)] = Den.ret (nD r.length) := by
  have g : decide ((rowS r).length ≤ sizeLine) = true := decide_eq_true (by show r.toArray.size ≤ 2 ^ 24; simp; omega)
  show Den.guardM (decide ((rowS r).length ≤ sizeLine)) (Den.ret (D.int ((rowS r).length : Nat))) = _
  rw [g]
  rfl
theorem len_tup (xs : List PyData) : lenD [.p (.tuple xs)] = Den.ret (nD xs.length) := by
  show Den.ret (D.int ((xs.map D.p).length : Nat)) = _
  rw [List.length_map]
theorem at_ret {α : Type} {m : M α} {x : α} (h : m = Den.ret x) (S : Sto) : m S = .ok x S := by rw [h]; rfl
theorem in_signs {c : Nat} (h : Bit c) (S : Sto) : inD (.str ⟨#[c]⟩) (.p (.tuple [.str "0", .str "1", .str "-"])) S = .ok true S := by
  rcases h with rfl | rfl <;> rfl
theorem reads_row {ρ : Rho} {S : Sto} {f : DE} {r : List Nat} (hf : f ρ S = .ok (.str (rowS r)) S) : Reads (itB (bE f)) ρ S (r.map fun c => .str ⟨#[c]⟩) := reads_str hf
theorem reads_tab {ρ : Rho} {S : Sto} {i : Nat} {T : List (List Nat)} (h : ρ[i]? = some (some (.p (tabD T)))) : Reads (itB (bE (vS i))) ρ S (T.map fun r => .str (rowS r)) := by
  have := reads_tup (S := S) h
  rwa [List.map_map] at this
theorem reads_lot {ρ : Rho} {S : Sto} {i : Nat} {T : List Nat} (h : ρ[i]? = some (some (.p (lotD T)))) : Reads (itB (bE (vS i))) ρ S (T.map nD) := by
  have := reads_tup (S := S) h
  rwa [List.map_map] at this
theorem le_nat (a b : Int) (h : a ≤ b) (S : Sto) : leD (.int a) (.int b) S = .ok true S := by
  show Den.R.ok (decide (a ≤ b)) S = _
  rw [decide_eq_true h]
theorem all_true {α : Type} (xs : List α) (S : Sto) : allF (xs.map fun _ => .bl true) S = .ok (.bl true) S := by
  rw [allF_map fun _ => true]
  simp [Den.ret]
theorem F9_ok {r : List Nat} (h0 : 1 ≤ r.length) (h1 : r.length ≤ 12) (hb : ∀ c ∈ r, Bit c) : ∃ S', F9 [.str (rowS r)] Sto.new = .ok (.bl true) S' := by
  refine F_ex rfl (s_ret (S1 := Sto.new) (d := .bl true) ?_ rfl)
  refine e_ofB (b_bop (b_and_t (b_asB (e_isi (e_var rfl) (at_ret (isi_str _) _))) (b_and_t ?_ (b_one (b_asB (e_opF (l_lc0 r (fun c => .str ⟨#[c]⟩) (fun _ => .bl true) (reads_row (e_var rfl)) (by omega) ?_) (all_true r _)))))))
  · exact b_chn (p := true) (q := true) e_int (e_op1 (a_1 (e_var rfl)) (at_ret (len_row (by omega)) _)) (le_nat _ _ (by omega) _) (e_glo rfl) (le_nat _ _ (by omega) _)
  · intro c m
    exact e_ofB (b_cmp (e_var rfl) (e_glo rfl) (in_signs (hb c m) _))
theorem width {T : List (List Nat)} {wd : Nat} (h : TabOk T wd) : (T.getD 0 []).length = wd := by
  have h1 := h.n0
  cases T with
  | nil => simp at h1
  | cons r rs => exact (h.row r (by simp)).1
theorem F10_ok {T : List (List Nat)} {wd : Nat} (h : TabOk T wd) : ∃ S', F10 [.p (tabD T)] Sto.new = .ok (.bl true) S' := by
  have h1 := h.n0
  have h2 := h.n1
  have h3 := h.w0
  have h4 := h.w1
  have w0 := width h
  have l0 := len_tup (T.map fun r => PyData.str (rowS r))
  rw [List.length_map] at l0
  refine F_ex rfl (s_unless (S1 := Sto.new) (b_bop (b_or_f (b_not (p := true) (b_tru (e_isi (e_var rfl) (at_ret (isi_tup _) _)))) (b_one (b_not (p := true) ?_)))) (s_unless (b_not (p := true) (b_tru (e_opF (l_lc0 T (fun r => .str (rowS r)) (fun _ => .bl true) (reads_tab rfl) (by omega) ?_) (all_true T _)))) (s_ret (e_opF (l_lc0 T (fun r => .str (rowS r)) (fun _ => .bl true) (reads_tab rfl) (by omega) ?_) (all_true T _)) rfl)))
  · exact b_chn (p := true) (q := true) e_int (e_op1 (a_1 (e_var rfl)) (at_ret l0 _)) (le_nat _ _ (by omega) _) (e_glo rfl) (le_nat _ _ (by omega) _)
  · intro r m
    obtain ⟨w, b⟩ := h.row r m
    exact e_call rfl (a_1 (e_var rfl)) a_nil rfl rfl (frame_p rfl (F9_ok (r := r) (by omega) (by omega) b) _)
  · intro r m
    obtain ⟨w, b⟩ := h.row r m
    refine e_ofB (b_cmp (a := nD wd) (b := nD wd) (e_op1 (a_1 (e_var rfl)) (w ▸ at_ret (len_row (r := r) (by omega)) _)) (e_op1 (a_1 (e_sub (e_var rfl) e_int (at_ret (sub_tab (p := 0) h1) _))) (w0 ▸ at_ret (len_row (r := T.getD 0 []) (by omega)) _)) ?_)
    show eqD (nD wd) (nD wd) _ = _
    rw [eq_int]
    simp [Den.ret]
theorem F11_ok {T : List (List Nat)} {wd : Nat} (h : TabOk T wd) : ∃ S', F11 [.p (tabD T)] Sto.new = .ok .non S' :=
  F_ex rfl (s_unless (b_not (p := true) (b_tru (e_call rfl (a_1 (e_var rfl)) a_nil rfl rfl (frame_p rfl (F10_ok h) _)))) (s_nil rfl))
theorem F12_ok {T : List (List Nat)} {wd t : Nat} (h : TabOk T wd) (ht : t < wd) : ∃ S', F12 [.p (tabD T), nD t] Sto.new = .ok .non S' := by
  have h4 := h.w1
  have w := width h
  have e : ∀ S, frame F1 [nD t, .int 0, .int ((wd : Nat) - 1)] S = .ok (.bl true) S := by
    have := F1_nat t (wd - 1) (by omega)
    rw [show ((wd : Int) - 1) = ((wd - 1 : Nat) : Int) by omega, this]
    intro S; rfl
  exact F_ex rfl (s_unless (b_not (p := true) (b_tru (e_call rfl (a_3 (c := .int ((wd : Nat) - 1)) (e_var rfl) e_int (e_bin (a := nD wd) (b := .int 1) (e_op1 (a_1 (e_sub (e_var rfl) e_int (at_ret (sub_tab (p := 0) h.n0) _))) (w ▸ at_ret (len_row (r := T.getD 0 []) (by omega)) _)) e_int rfl)) a_nil rfl rfl (e _)))) (s_nil rfl))
theorem F2_ex (lot : List Nat) (k : Nat) (h : ∀ i ∈ lot, i ≤ k) (hl : lot.length < 1000) : ∃ S', F2 [.p (lotD lot), .int 0, nD k] Sto.new = .ok (.bl true) S' := ⟨_, F2_ok lot k h hl⟩
theorem enL_str (r : List Nat) : enL (r.map fun c => .str ⟨#[c]⟩) = r.zipIdx.map fun p => .p (.tuple [nP p.2, .str ⟨#[p.1]⟩]) := by
  unfold enL
  rw [List.zipIdx_map, List.map_map]
  refine List.map_congr_left fun p _ => ?_
  rfl
theorem enL_tab (T : List (List Nat)) : enL (T.map fun r => .str (rowS r)) = T.zipIdx.map fun p => .p (.tuple [nP p.2, .str (rowS p.1)]) := by
  unfold enL
  rw [List.zipIdx_map, List.map_map]
  refine List.map_congr_left fun p _ => ?_
  rfl
theorem ne_dash {c : Nat} (h : Bit c) (S : Sto) : eqD (.str ⟨#[c]⟩) (.str "-") S = .ok false S := by
  rcases h with rfl | rfl <;> rfl
theorem F13_ok {T : List (List Nat)} {wd : Nat} (h : TabOk T wd) : ∃ S', F13 [.p (tabD T), .str "-"] Sto.new = .ok (.p (.tuple [])) S' := by
  have h4 := h.w1
  have h7 := h.n1
  refine F_ex rfl (s_push [] 0 [some (.p (tabD T)), some (.str "-"), some (.ref 0), none, none, none, none] ⟨[.lst []], false⟩ (l_disp a_nil (by simp)) rfl rfl rfl ?_)
  refine s_forC (T.zipIdx.map fun p => .p (.tuple [nP p.2, .str (rowS p.1)])) (fun i ρ S => ∃ o3 o4, ρ = [some (.p (tabD T)), some (.str "-"), some (.ref 0), o3, o4, none, none] ∧ S = ⟨[.lst []], false⟩) ?_ ⟨none, none, rfl, rfl⟩ ?_ ?_
  · rw [← enL_tab]
    refine con_en (zs := T.map fun r => .str (rowS r)) ?_
    rw [bnd_ok (e_var rfl)]
    show Den.R.ok (BSr.con ((T.map fun r => PyData.str (rowS r)).map D.p)) _ = _
    rw [List.map_map]
    rfl
  · rintro j ρ S hj ⟨o3, o4, rfl, rfl⟩
    have hj' : j < T.length := by simpa using hj
    have m : T[j] ∈ T := List.getElem_mem hj'
    obtain ⟨w, b⟩ := h.row _ m
    refine ⟨[some (.p (tabD T)), some (.str "-"), some (.ref 0), some (nD j), some (.str (rowS T[j])), none, none], ?_, ?_⟩
    · simp [Tg.den, Tgs.den, tgT, tupItems, tgAll, tgN, Den.bnd, Den.ret, Den.guardM]
    · refine s_ex (d := .non) (S1 := ⟨[.lst []], false⟩) (e_mtF (ds := []) (S2 := ⟨[.lst []], false⟩) (e_var rfl) rfl ?_ rfl) (s_nil ⟨_, rfl, _, _, rfl, rfl⟩)
      rw [show ([] : List D) = ((T[j].zipIdx.filter fun _ => false).map fun _ => D.non) by simp]
      refine l_lcP T[j].zipIdx (fun p => nP p.2) (fun p => .str ⟨#[p.1]⟩) (fun _ => false) (fun _ => .non) ?_ (by simp; omega) ?_ (by simp)
      · rw [← enL_str]
        refine (con_en (zs := T[j].map fun c => .str ⟨#[c]⟩) ?_).reads
        rw [bnd_ok (e_var rfl)]
        rfl
      · intro p m
        have : p.1 ∈ T[j] := List.fst_mem_of_mem_zipIdx m
        exact b_cmp (e_var rfl) (e_var rfl) (ne_dash (b _ this) _)
  · rintro ρ S ⟨o3, o4, rfl, rfl⟩
    exact s_ret (d := .p (.tuple [])) (S1 := ⟨[.lst []], false⟩) (e_op1 (S1 := ⟨[.lst []], false⟩) (a_1 (e_var rfl)) rfl) rfl
theorem F14_ok {T : List (List Nat)} {wd : Nat} (h : TabOk T wd) : ∃ S', F14 [.p (tabD T)] Sto.new = .ok .non S' := by
  refine F_ex rfl (s_asg (e_call rfl (a_2 (e_var rfl) (e_glo rfl)) a_nil rfl rfl (frame_p rfl (F13_ok h) _)) (s_unless (S1 := Sto.new) (b_cmp (e_var rfl) (e_tup (ps := []) a_nil (by simp)) ?_) (s_nil rfl)))
  rfl
theorem F15_ok {T : List (List Nat)} {wd : Nat} (h : TabOk T wd) : ∃ S', F15 [.p (tabD T)] Sto.new = .ok .non S' :=
  F_ex rfl (s_ex (e_call rfl (a_1 (e_var rfl)) a_nil rfl rfl (frame_p rfl (F11_ok h) _)) (s_ex (e_call rfl (a_1 (e_var rfl)) a_nil rfl rfl (frame_p rfl (F14_ok h) _)) (s_nil rfl)))
structure LotOk (lot : List Nat) (n : Nat) : Prop where
  lt : ∀ i ∈ lot, i < n
  asc : lot.Pairwise (· < ·)
  len : lot.length < 1000
theorem F16_ok {T : List (List Nat)} {lot : List Nat} {wd : Nat} (h : TabOk T wd) (hl : LotOk lot T.length) : ∃ S', F16 [.p (tabD T), .p (lotD lot)] Sto.new = .ok .non S' := by
  have l0 := len_tup (T.map fun r => PyData.str (rowS r))
  rw [List.length_map] at l0
  have h1 := h.n0
  have e : (D.int ((T.length : Nat) - 1)) = nD (T.length - 1) := by
    show D.int _ = D.int _
    congr 2; omega
  refine F_ex rfl (s_ex (e_call rfl (a_1 (e_var rfl)) a_nil rfl rfl (frame_p rfl (F15_ok h) _)) (s_unless (b_bop (b_or_f (b_not (p := true) (b_tru (e_call rfl (a_3 (c := nD (T.length - 1)) (e_var rfl) e_int (e_bin (S3 := Sto.new) (e_op1 (a_1 (e_var rfl)) (at_ret l0 _)) e_int ?_)) a_nil rfl rfl (frame_p rfl (F2_ex lot _ (fun i m => by have := hl.lt i m; omega) hl.len) _)))) (b_one (b_not (p := true) (b_tru (e_call rfl (a_1 (e_var rfl)) a_nil rfl rfl (frame_p rfl ⟨_, F3_ok lot hl.asc hl.len⟩ _))))))) (s_nil rfl)))
  rw [← e]; rfl
theorem F17_ok {T : List (List Nat)} {lot : List Nat} {wd t : Nat} (h : TabOk T wd) (hl : LotOk lot T.length) (ht : t < wd) : ∃ S', F17 [.p (tabD T), .p (lotD lot), nD t] Sto.new = .ok .non S' :=
  F_ex rfl (s_ex (e_call rfl (a_2 (e_var rfl) (e_var rfl)) a_nil rfl rfl (frame_p rfl (F16_ok h hl) _)) (s_ex (e_call rfl (a_2 (e_var rfl) (e_var rfl)) a_nil rfl rfl (frame_p rfl (F12_ok h ht) _)) (s_nil rfl)))
end K87

namespace K87
open PySem PySem.Spec PyProof.Rows L2 Den
theorem frame_new {F : List D → M D} {ds : List D} {l : Nat} {o : O} (hp : ds.all D.pure = true) (h : ∃ S', F ds Sto.new = .ok (.ref l) S' ∧ S'.objs[l]? = some o) (hm : o.mx = 0) (S : Sto) : frame F ds S = .ok (.ref S.objs.length) ⟨S.objs ++ [o], S.nt⟩ := by
  obtain ⟨S', e, e2⟩ := h
  unfold frame
  rw [if_pos hp, e]
  unfold Den.fresh
  simp only [e2, hm, if_true]
theorem mxs_p (xs : List PyData) : mxs (xs.map D.p) = 0 := by
  induction xs with
  | nil => rfl
  | cons x xs ih => simp [mxs, D.mx, ih]
abbrev St5.p (x : St5) : PyData := .tuple [nP x.s, nP x.mine, nP x.right, nP x.all, nP x.rall]
theorem st5_map (xs : List St5) : xs.map St5.d = (xs.map St5.p).map D.p := by rw [List.map_map]; rfl
theorem fr18 {T : List (List Nat)} {wd t : Nat} {lot : List Nat} (h : TabOk T wd) (ht : t < wd) (S : Sto) : frame F18 [.p (tabD T), .p (lotD lot), nD t] S = .ok (.ref S.objs.length) ⟨S.objs ++ [.lst ((strata T lot t).map St5.d)], S.nt⟩ := by
  obtain ⟨d, S', e, rfl, e2, _⟩ := F18_ok (lot := lot) h ht
  exact frame_new rfl ⟨S', e, e2⟩ (by rw [st5_map]; exact mxs_p _) S
theorem tup_p (xs : List PyData) (S : Sto) : tupF (xs.map D.p) S = .ok (.p (.tuple xs)) S := by
  unfold tupF mkTup
  rw [show xs.map D.p = xs.map fun x => D.p (id x) from rfl, allP_map]
  simp [Den.ret]
theorem tup_ref {S : Sto} {l : Nat} {xs : List PyData} (h : S.objs[l]? = some (.lst (xs.map D.p))) : Op1.tup.den [.ref l] S = .ok (.p (.tuple xs)) S := by
  show Den.bnd (getL l) tupF S = _
  rw [bnd_ok (getL_at h), tup_p]
theorem F19_ok {T : List (List Nat)} {wd t : Nat} {lot : List Nat} (h : TabOk T wd) (hl : LotOk lot T.length) (ht : t < wd) : ∃ S', F19 [.p (tabD T), .p (lotD lot), nD t] Sto.new = .ok (.p (.tuple ((strata T lot t).map St5.p))) S' :=
  F_ex rfl (s_ex (e_call rfl (a_3 (e_var rfl) (e_var rfl) (e_var rfl)) a_nil rfl rfl (frame_p rfl (F17_ok h hl ht) _)) (s_ret (e_op1 (a_1 (e_call rfl (a_3 (e_var rfl) (e_var rfl) (e_var rfl)) a_nil rfl rfl (fr18 h ht _))) (tup_ref (xs := (strata T lot t).map St5.p) (by rw [← st5_map]; rfl))) rfl))
/-! dicts of ints -/
abbrev kvD (K : Kv) : List (L2.Key × D) := K.map fun p => (.inl (p.1 : Int), nD p.2)
theorem val_kv (K : Kv) (k : Nat) : (valD (kvD K) (.inl (k : Int))).getD (.int 0) = nD (getK K k) := by
  unfold valD getK
  induction K with
  | nil => rfl
  | cons p K ih =>
    by_cases h : p.1 = k
    · subst h; simp
    · have : ¬ ((p.1 : Int) = (k : Int)) := by omega
      simp [h, this] at ih ⊢
      exact ih
theorem put_kv (K : Kv) (k v : Nat) : putKD (kvD K) (.inl (k : Int)) (nD v) = kvD (putK K k v) := by
  unfold putKD putK
  have e : ((kvD K).any fun kv => decide (kv.1 = (.inl (k : Int) : L2.Key))) = K.any fun p => decide (p.1 = k) := by
    rw [List.any_map]
    congr 1
    funext p
    by_cases h : p.1 = k
    · subst h; simp
    · have : ¬ ((p.1 : Int) = (k : Int)) := by omega
      simp [h, this]
  rw [e]
  by_cases h : (K.any fun p => decide (p.1 = k)) = true
  · rw [if_pos h, if_pos h, List.map_map]
    show _ = List.map _ (List.map _ K)
    rw [List.map_map]
    refine List.map_congr_left fun p _ => ?_
    by_cases h : p.1 = k
    · subst h; simp
    · have : ¬ ((p.1 : Int) = (k : Int)) := by omega
      simp [h, this]
  · rw [if_neg h, if_neg h]
    show _ = List.map _ (K ++ [(k, v)])
    rw [List.map_append]
    rfl
theorem mxs_kv (K : Kv) : mxs ((kvD K).map (·.2)) = 0 := by
  rw [List.map_map]
  have : K.map ((fun x => x.2) ∘ fun p : Nat × Nat => ((.inl (p.1 : Int) : L2.Key), nD p.2)) = (K.map fun p => nP p.2).map D.p := by
    rw [List.map_map]; rfl
  rw [this]; exact mxs_p _
theorem bin_tab : ((List.range 9).all fun s => (List.range 9).all fun k => chN s k == bin s k && decide (bin s k < 2 ^ 10)) = true := by decide +kernel
theorem bin_at (s k : Nat) (hs : s < 9) (hk : k < 9) : chN s k = bin s k ∧ bin s k < 2 ^ 10 := by
  have t := bin_tab
  rw [List.all_eq_true] at t
  have t1 := t s (List.mem_range.mpr hs)
  rw [List.all_eq_true] at t1
  have t2 := t1 k (List.mem_range.mpr hk)
  simpa using t2
/-- the calls of choices -/
theorem ch1 (m a : Nat) (hm : m < 9) (ha : a < 9) (S : Sto) : frame F20 [nD m, nD a] S = .ok (nD (bin m a)) S := by
  rw [← (bin_at m a hm ha).1]
  exact at_ret (fr20 m a hm ha) S
theorem ch2 (n m r a : Nat) (hn : n < 9) (hm : m ≤ n) (hr : r ≤ n) (S : Sto) : frame F20 [.int ((n : Nat) - (m : Nat)), .int ((r : Nat) - (a : Nat))] S = .ok (nD (if a ≤ r then bin (n - m) (r - a) else 0)) S := by
  by_cases h : a ≤ r
  · rw [if_pos h, show ((n : Int) - (m : Int)) = ((n - m : Nat) : Int) by omega, show ((r : Int) - (a : Int)) = ((r - a : Nat) : Int) by omega]
    exact ch1 _ _ (by omega) (by omega) S
  · rw [if_neg h]
    exact at_ret (fr20_out _ _ (by omega)) S
theorem mul_small {i j : Int} (h : i.natAbs < 2 ^ 64 ∨ j.natAbs < 2 ^ 64) (S : Sto) : mulD (.int i) (.int j) S = .ok (.int (i * j)) S := by
  have : mulOk i j = true := by
    unfold mulOk
    rcases h with h | h <;> simp [decide_eq_true h]
  simp only [mulD, this, guardM_t]
  rfl
theorem gW_lt (n m r a : Nat) (hn : n < 9) (hm : m ≤ n) (hr : r ≤ n) (ha : a < 9) : gW n m r a < 2 ^ 20 := by
  unfold gW
  have h1 := (bin_at m a (by omega) ha).2
  by_cases h : a ≤ r
  · rw [if_pos h]
    have h2 := (bin_at (n - m) (r - a) (by omega) (by omega)).2
    have := Nat.mul_le_mul (Nat.le_of_lt_succ (Nat.lt_succ_of_lt h1)) (Nat.le_of_lt_succ (Nat.lt_succ_of_lt h2))
    calc bin m a * bin (n - m) (r - a) < 2 ^ 10 * 2 ^ 10 := Nat.mul_lt_mul'' h1 h2
      _ = 2 ^ 20 := by decide
  · rw [if_neg h]; simp
end K87

namespace K87
open PySem PySem.Spec PyProof.Rows L2 Den
section
variable {G : Gm} {ρ : Rho} {S : Sto} {Q : Fl → Sto → Prop} {i l : Nat} {t : Tg} {body rest : Sxs}
/-- a walk over a dict's items: the dict is out of reach meanwhile -/
theorem s_frK (kvs : List (L2.Key × D)) (I : Nat → Rho → Sto → Prop) (hρ : ρ[i]? = some (some (.ref l))) (hS : S.objs[l]? = some (.dic kvs)) (hm : mxs (kvs.map (·.2)) = 0) (h0 : I 0 ρ ⟨S.objs.set l .gone, S.nt⟩)
    (hstep : ∀ j ρ S (h : j < kvs.length), I j ρ S → ∃ ρ1, t.den G (itemD kvs[j]) ρ S = .ok ρ1 S ∧ Runs (body.den G) ρ1 S fun fl S' => ∃ ρ', fl = .nx ρ' ∧ I (j + 1) ρ' S')
    (k : ∀ ρ' S', I kvs.length ρ' S' → Runs (rest.den G) ρ' ⟨S'.objs.set l (.dic kvs), S'.nt⟩ Q) : Runs (Sxs.den G (.cons (.frK i t body) rest)) ρ S Q := by
  obtain ⟨ρ', S', e, hI⟩ := for_law (t := t.den G) (b := body.den G) (src := srcK kvs) (xs := kvs.map itemD) I
    (fun j ρ S hj _ => by
      show Den.itemAt (kvs.map itemD) j = _
      exact src_con (kvs.map itemD) 0 j S hj)
    (fun j ρ S hj hI => by
      have hj' : j < kvs.length := by simpa using hj
      obtain ⟨ρ1, e0, fl, S', e, ρ', rfl, hI'⟩ := hstep j ρ S hj' hI
      rw [List.getElem_map]
      exact ⟨_, _, ρ', S', e0, e, hI'⟩) (kvs.length + 1) 0 ρ ⟨S.objs.set l .gone, S.nt⟩ (Nat.zero_le _) (by simp) h0
  rw [List.length_map] at hI
  have e2 : forKS i (t.den G) (body.den G) ρ S = .ok (.nx ρ') ⟨S'.objs.set l (.dic kvs), S'.nt⟩ := by
    unfold forKS lockM
    simp only [hρ, hS, e, hm]
    simp
  exact Runs.seq e2 (k ρ' S' hI)
end
theorem item_kv (p : Nat × Nat) : itemD (.inl (p.1 : Int), nD p.2) = .p (.tuple [nP p.1, nP p.2]) := rfl
theorem get_kv {S : Sto} {l : Nat} {K : Kv} {k : Nat} {G : Gm} {x y z : Ex} {ρ : Rho} (hx : x.den G ρ S = .ok (.ref l) S) (h : S.objs[l]? = some (.dic (kvD K))) (hy : y.den G ρ S = .ok (nD k) S) (hz : z.den G ρ S = .ok (.int 0) S) :
    (Ex.getD x y z).den G ρ S = .ok (nD (getK K k)) S := by
  show getD2 (x.den G) (y.den G) (z.den G) ρ S = _
  unfold getD2
  have c : chk "dict" (.ref l) S = .ok () S := by
    unfold chk tyD
    simp only [h]; rfl
  have g : getDic l S = .ok (kvD K) S := by unfold getDic; rw [h]
  rw [bnd_ok hx, bnd_ok c, bnd_ok hy, bnd_ok hz]
  show Den.bnd (getDic l) _ S = _
  rw [bnd_ok g]
  show Den.R.ok ((valD (kvD K) (.inl (k : Int))).getD (.int 0)) S = _
  rw [val_kv]
theorem put_ok {S : Sto} {l : Nat} {K : Kv} {k v : Nat} (h : S.objs[l]? = some (.dic (kvD K))) (hn : K.length < 1000000) : putD (.ref l) (nD k) (nD v) S = .ok () ⟨S.objs.set l (.dic (kvD (putK K k v))), S.nt⟩ := by
  have g : (kvD K).length < sizeLine := by
    show _ < 2 ^ 24
    rw [List.length_map]; omega
  show (match S.objs[l]? with
    | some (.lst xs) => (match L2.ixN xs.length (k : Int) with
      | some j => setL l (xs.set j (nD v)) (nD v).mx S
      | none => .bad)
    | some (.dic kvs) => if kvs.length < sizeLine then setDic l (putKD kvs (.inl (k : Int)) (nD v)) (nD v).mx S else .bad
    | _ => .bad) = _
  rw [h]
  dsimp only
  rw [if_pos g, put_kv]
  unfold setDic
  simp [D.mx]
theorem putK_len (K : Kv) (k v : Nat) : (putK K k v).length ≤ K.length + 1 := by
  unfold putK
  split <;> simp
theorem bump_len (K : Kv) (k v : Nat) : (bump K k v).length ≤ K.length + 1 := putK_len _ _ _
/-- one stratum's loops -/
def stepK (st : St5) (f : Kv) : Kv := laterK st.mine (gW st.all st.mine st.rall) f
def waysS (sts : List St5) : Kv := sts.foldl (fun f st => stepK st f) [(0, 1)]
structure St5Ok (x : St5) : Prop where
  a : x.all < 9
  m : x.mine ≤ x.all
  r : x.rall ≤ x.all
theorem inner_len (m : Nat) (g : Nat → Nat) (far w : Nat) : ∀ (xs : List Nat) (later : Kv), (xs.foldl (fun later more => if 0 < g more then bump later (far + more) (w * g more) else later) later).length ≤ later.length + xs.length
  | [], later => by simp
  | x :: xs, later => by
    rw [List.foldl_cons]
    refine Nat.le_trans (inner_len m g far w xs _) ?_
    split
    · have := bump_len later (far + x) (w * g x)
      simp; omega
    · simp
theorem later_len (m : Nat) (g : Nat → Nat) : ∀ (f later : Kv), (f.foldl (fun l p => inner m g p.1 p.2 l) later).length ≤ later.length + f.length * (m + 1)
  | [], later => by simp
  | p :: f, later => by
    rw [List.foldl_cons]
    refine Nat.le_trans (later_len m g f _) ?_
    have := inner_len m g p.1 p.2 (List.range (m + 1)) later
    rw [List.length_range] at this
    have e : inner m g p.1 p.2 later = (List.range (m + 1)).foldl (fun later more => if 0 < g more then bump later (p.1 + more) (p.2 * g more) else later) later := rfl
    rw [e, List.length_cons, Nat.add_mul]
    omega
theorem stepK_len (st : St5) (h : St5Ok st) (f : Kv) : (stepK st f).length ≤ f.length * 9 := by
  have := later_len st.mine (gW st.all st.mine st.rall) f []
  have e : stepK st f = f.foldl (fun l p => inner st.mine (gW st.all st.mine st.rall) p.1 p.2 l) [] := rfl
  rw [e]
  refine Nat.le_trans this ?_
  rw [List.length_nil, Nat.zero_add]
  exact Nat.mul_le_mul_left _ (by have := h.a; have := h.m; omega)
theorem ways_len : ∀ (sts : List St5) (f : Kv), (∀ x ∈ sts, St5Ok x) → (sts.foldl (fun f st => stepK st f) f).length ≤ f.length * 9 ^ sts.length
  | [], f, _ => by simp
  | st :: sts, f, h => by
    rw [List.foldl_cons]
    refine Nat.le_trans (ways_len sts _ fun x m => h x (List.mem_cons_of_mem _ m)) ?_
    rw [List.length_cons, Nat.pow_succ, Nat.mul_comm (9 ^ sts.length), ← Nat.mul_assoc]
    exact Nat.mul_le_mul_right _ (stepK_len st (h st (List.mem_cons_self ..)) f)
theorem asc_len : ∀ (l : List Nat) (a n : Nat), l.Pairwise (· < ·) → (∀ x ∈ l, a ≤ x ∧ x < n) → a ≤ n → l.length ≤ n - a
  | [], _, _, _, _, _ => by simp
  | x :: l, a, n, h, hx, ha => by
    obtain ⟨h1, h2⟩ := List.pairwise_cons.mp h
    obtain ⟨p, q⟩ := hx x (List.mem_cons_self ..)
    have := asc_len l (x + 1) n h2 (fun y m => ⟨h1 y m, (hx y (List.mem_cons_of_mem _ m)).2⟩) (by omega)
    rw [List.length_cons]; omega
theorem strata_len {T : List (List Nat)} {wd : Nat} (h : TabOk T wd) (lot : List Nat) (t : Nat) : (strata T lot t).length ≤ 5 := by
  unfold strata
  rw [List.length_map]
  refine asc_len _ 0 5 (usN_lt _) (fun x m => ⟨Nat.zero_le _, ?_⟩) (by omega)
  rw [usN_mem] at m
  obtain ⟨r, hr, rfl⟩ := List.mem_map.mp m
  have := (h.row r hr).1
  have := h.w1
  have : r.count 49 ≤ r.length := List.count_le_length
  omega
theorem strata_ok {T : List (List Nat)} {wd : Nat} (h : TabOk T wd) (lot : List Nat) (t : Nat) : ∀ x ∈ strata T lot t, St5Ok x := by
  intro x m
  obtain ⟨s, hs, rfl⟩ := List.mem_map.mp m
  have hl : (perS (sumsT T) s).length ≤ T.length := by
    refine Nat.le_trans (List.length_filter_le _ _) ?_
    simp [sumsT]
  have := h.n1
  exact ⟨by show (perS (sumsT T) s).length < 9; omega, List.length_filter_le _ _, List.length_filter_le _ _⟩
end K87

namespace K87
open PySem PySem.Spec PyProof.Rows L2 Den
section
variable {G : Gm} {ρ : Rho} {S S1 : Sto} {Q : Fl → Sto → Prop} {x y z : Ex} {u : Bx} {s : Sx} {a b d : D} {t : Tg} {body rest : Sxs} {i l : Nat}
theorem s_forR (es : List D) (l : Nat) (S1 : Sto) (I : Nat → Rho → Sto → Prop) (hx : x.den G ρ S = .ok (.ref l) S1) (h0 : I 0 ρ S1) (hI : ∀ i ρ S, I i ρ S → S.objs[l]? = some (.lst es))
    (hstep : ∀ j ρ S (h : j < es.length), I j ρ S → ∃ ρ1, t.den G es[j] ρ S = .ok ρ1 S ∧ Runs (body.den G) ρ1 S fun fl S' => ∃ ρ', fl = .nx ρ' ∧ I (j + 1) ρ' S') (k : ∀ ρ' S', I es.length ρ' S' → Runs (rest.den G) ρ' S' Q) :
    Runs (Sxs.den G (.cons (.fr t (.b (.e x)) body) rest)) ρ S Q := by
  have hl := hI _ _ _ h0
  have hs : itB (bE (x.den G)) ρ S = .ok (srcB (.ref l) es.length) S1 := by
    unfold itB bE
    rw [Den.bnd, Den.bnd, hx]
    simp only [baseD, Den.bnd, getL_at hl, Den.ret, lenB, BSr.items, hl]
  obtain ⟨ρ', S', e, hI'⟩ := for_law (t := t.den G) (b := body.den G) (src := srcB (.ref l) es.length) (xs := es) I (fun i ρ S hi h => src_ref (hI _ _ _ h) hi)
    (fun j ρ S hj hI => by
      obtain ⟨ρ1, e0, fl, S', e, ρ', rfl, hI'⟩ := hstep j ρ S hj hI
      exact ⟨_, _, ρ', S', e0, e, hI'⟩) (es.length + 1) 0 ρ S1 (Nat.zero_le _) (by omega) h0
  refine Runs.seq (ρ' := ρ') (S' := S') ?_ (k ρ' S' hI')
  show forS (t.den G) (itB (bE (x.den G))) (body.den G) ρ S = _
  unfold forS
  rw [bnd_ok hs]
  exact e
theorem s_put (hx : x.den G ρ S = .ok d S) (hy : y.den G ρ S = .ok a S) (hz : z.den G ρ S = .ok b S) (hp : putD a b d S = .ok () S1) (k : Runs (rest.den G) ρ S1 Q) : Runs (Sxs.den G (.cons (.asg x (.sub y z)) rest)) ρ S Q := by
  refine Runs.seq (ρ' := ρ) (S' := S1) ?_ k
  show asgS (x.den G) (subT (y.den G) (z.den G)) ρ S = _
  unfold asgS subT
  simp only [Den.bnd, hx, hy, hz, hp, Den.ret]
theorem s_when (h : u.den G ρ S = .ok true S1) (k : Runs (Sxs.den G (.cons s rest)) ρ S1 Q) : Runs (Sxs.den G (.cons (.ifs u (.cons s .nil) .nil) rest)) ρ S Q := by
  obtain ⟨fl, S', e, q⟩ := k
  refine ⟨fl, S', ?_, q⟩
  show seqS (ifS (u.den G) (seqS (s.den G) Den.skipS) Den.skipS) (rest.den G) ρ S = _
  have e : seqS (s.den G) (rest.den G) ρ S1 = .ok fl S' := e
  unfold seqS ifS at *
  simp only [Den.bnd, h, if_true] at *
  revert e
  cases s.den G ρ S1 with
  | ok f S2 => cases f <;> simp [Den.skipS, Den.ret]
  | exc c d S2 => simp
  | bad => simp
end
theorem rgs0 (n : Nat) : rgs 0 n = (List.range n).map nD := by
  unfold rgs
  refine List.map_congr_left fun j _ => ?_
  rw [Int.zero_add]
abbrev G21 : Gm := mkG gls [fo0, fo1, fo2, fo3, fo4, fo5, fo6, fo7, fo8, fo9, fo10, fo11, fo12, fo13, fo14, fo15, fo16, fo17, fo18, fo19, fo20] [F0, F1, F2, F3, F4, F5, F6, F7, F8, F9, F10, F11, F12, F13, F14, F15, F16, F17, F18, F19, F20]
/-- the loop over more -/
def b21c : Sxs := (.cons (.asg (.bin .Mult (.call 20 (.cons (.var 5) (.cons (.var 12) .nil)) .nil) (.call 20 (.cons (.bin .Sub (.var 7) (.var 5)) (.cons (.bin .Sub (.var 8) (.var 12)) .nil)) .nil)) (.nm 13)) (.cons (.ifs (.cmp .Gt (.var 13) (.int 0)) (.cons (.asg (.bin .Add (.getD (.var 9) (.bin .Add (.var 10) (.var 12)) (.int 0)) (.bin .Mult (.var 11) (.var 13))) (.sub (.var 9) (.bin .Add (.var 10) (.var 12)))) .nil) .nil) .nil))
def b21b : Sxs := (.cons (.fr (.nm 12) (.r1 (.bin .Add (.var 5) (.int 1))) b21c) .nil)
def b21a : Sxs := (.cons (.asg .newD (.nm 9)) (.cons (.frK 3 (.tup (.cons (.nm 10) (.cons (.nm 11) .nil))) b21b) (.cons (.asg (.var 9) (.nm 3)) .nil)))
abbrev rho21 (d0 d1 d2 : D) (f : Nat) (st : St5) (l : Nat) (o10 o11 o12 o13 : Option D) : Rho := [some d0, some d1, some d2, some (.ref f), some (nD st.s), some (nD st.mine), some (nD st.right), some (nD st.all), some (nD st.rall), some (.ref l), o10, o11, o12, o13]
theorem b21c_ok {d0 d1 d2 : D} {f : Nat} {st : St5} (hst : St5Ok st) {B : List O} {K : Kv} {far w more : Nat} {o13 : Option D} (hm : more < 9) (hK : K.length < 1000000) :
    Runs (b21c.den G21) (rho21 d0 d1 d2 f st B.length (some (nD far)) (some (nD w)) (some (nD more)) o13) ⟨B ++ [.dic (kvD K)], false⟩ fun fl S' =>
      ∃ ρ', fl = .nx ρ' ∧ (∃ o, ρ' = rho21 d0 d1 d2 f st B.length (some (nD far)) (some (nD w)) (some (nD more)) o) ∧ S' = ⟨B ++ [.dic (kvD (if 0 < gW st.all st.mine st.rall more then bump K (far + more) (w * gW st.all st.mine st.rall more) else K))], false⟩ := by
  have ha := hst.a
  have hm2 := hst.m
  have hr2 := hst.r
  have hg := gW_lt st.all st.mine st.rall more ha hm2 hr2 hm
  have b1 := (bin_at st.mine more (by omega) hm).2
  refine s_asgN (nD (gW st.all st.mine st.rall more)) (rho21 d0 d1 d2 f st B.length (some (nD far)) (some (nD w)) (some (nD more)) (some (nD (gW st.all st.mine st.rall more)))) _
    (e_bin (e_call rfl (a_2 (e_var rfl) (e_var rfl)) a_nil rfl rfl (ch1 st.mine more (by omega) hm _)) (e_call rfl (a_2 (e_bin (e_var rfl) (e_var rfl) rfl) (e_bin (e_var rfl) (e_var rfl) rfl)) a_nil rfl rfl (ch2 st.all st.mine st.rall more ha hm2 hr2 _)) (mul_small (.inl (by simp; omega)) _)) rfl ?_
  generalize gW st.all st.mine st.rall more = g at *
  have hl : (B ++ [O.dic (kvD K)])[B.length]? = some (.dic (kvD K)) := get_app0 B _ _
  by_cases h0 : 0 < g
  · have hc : cmpD .Gt (nD g) (.int 0) ⟨B ++ [.dic (kvD K)], false⟩ = .ok true ⟨B ++ [.dic (kvD K)], false⟩ := by
      show Den.R.ok (decide ((0 : Int) < (g : Int))) _ = _
      rw [decide_eq_true (by omega)]
    refine s_when (b_cmp (e_var rfl) e_int hc) ?_
    refine s_put (S1 := ⟨B ++ [.dic (kvD (bump K (far + more) (w * g)))], false⟩) (e_bin (get_kv (k := far + more) (K := K) (e_var rfl) hl (e_bin (e_var rfl) (e_var rfl) rfl) e_int) (e_bin (e_var rfl) (e_var rfl) (mul_small (.inr (by simp; omega)) _)) (c := nD (getK K (far + more) + w * g)) rfl) (e_var rfl) (e_bin (e_var rfl) (e_var rfl) (c := nD (far + more)) rfl) ?_ (s_nil ⟨_, rfl, ⟨_, rfl⟩, ?_⟩)
    · rw [put_ok hl hK]
      simp [bump]
    · rw [if_pos h0]
  · have hc : cmpD .Gt (nD g) (.int 0) ⟨B ++ [.dic (kvD K)], false⟩ = .ok false ⟨B ++ [.dic (kvD K)], false⟩ := by
      show Den.R.ok (decide ((0 : Int) < (g : Int))) _ = _
      rw [decide_eq_false (by omega)]
    refine s_unless (b_cmp (e_var rfl) e_int hc) (s_nil ⟨_, rfl, ⟨_, rfl⟩, ?_⟩)
    rw [if_neg h0]
end K87

namespace K87
open PySem PySem.Spec PyProof.Rows L2 Den
theorem range_foldl {α : Type} (f : α → Nat → α) (a : α) (j : Nat) : (List.range (j + 1)).foldl f a = f ((List.range j).foldl f a) j := by
  rw [List.range_succ, List.foldl_append]; rfl
theorem b21b_ok {d0 d1 d2 : D} {f : Nat} {st : St5} (hst : St5Ok st) {B : List O} {K : Kv} {far w : Nat} {o12 o13 : Option D} (hK : K.length < 900000) :
    Runs (b21b.den G21) (rho21 d0 d1 d2 f st B.length (some (nD far)) (some (nD w)) o12 o13) ⟨B ++ [.dic (kvD K)], false⟩ fun fl S' =>
      ∃ ρ', fl = .nx ρ' ∧ (∃ o12 o13, ρ' = rho21 d0 d1 d2 f st B.length (some (nD far)) (some (nD w)) o12 o13) ∧ S' = ⟨B ++ [.dic (kvD (inner st.mine (gW st.all st.mine st.rall) far w K))], false⟩ := by
  have ha := hst.a
  have hm2 := hst.m
  refine s_forC ((List.range (st.mine + 1)).map nD) (fun j ρ S => (∃ o12 o13, ρ = rho21 d0 d1 d2 f st B.length (some (nD far)) (some (nD w)) o12 o13) ∧ S = ⟨B ++ [.dic (kvD ((List.range j).foldl (fun later more => if 0 < gW st.all st.mine st.rall more then bump later (far + more) (w * gW st.all st.mine st.rall more) else later) K))], false⟩) ?_ ⟨⟨_, _, rfl⟩, rfl⟩ ?_ ?_
  · rw [← rgs0]
    exact con_r1 (f := (Ex.bin Operator.Add (Ex.var 5) (Ex.int 1)).den G21) (e_bin (e_var rfl) e_int rfl) (by omega)
  · rintro j ρ S hj ⟨⟨o12, o13, rfl⟩, rfl⟩
    have hj' : j < st.mine + 1 := by simpa using hj
    refine ⟨rho21 d0 d1 d2 f st B.length (some (nD far)) (some (nD w)) (some (nD j)) o13, by rw [List.getElem_map, List.getElem_range]; rfl, ?_⟩
    have hl := inner_len st.mine (gW st.all st.mine st.rall) far w (List.range j) K
    rw [List.length_range] at hl
    obtain ⟨fl, S', e, ρ', rfl, ⟨o, rfl⟩, rfl⟩ := b21c_ok (d0 := d0) (d1 := d1) (d2 := d2) (f := f) hst (B := B) (K := (List.range j).foldl (fun later more => if 0 < gW st.all st.mine st.rall more then bump later (far + more) (w * gW st.all st.mine st.rall more) else later) K) (far := far) (w := w) (more := j) (o13 := o13) (by omega) (by omega)
    exact ⟨_, _, e, _, rfl, ⟨_, _, rfl⟩, by rw [range_foldl]⟩
  · rintro ρ S ⟨⟨o12, o13, rfl⟩, rfl⟩
    refine s_nil ⟨_, rfl, ⟨_, _, rfl⟩, ?_⟩
    rw [List.length_map, List.length_range]; rfl
theorem b21a_ok {d0 d1 d2 : D} {f : Nat} {st : St5} (hst : St5Ok st) {J : List O} {K : Kv} {l : Nat} {o10 o11 o12 o13 : Option D} {o9 : Option D} (hf : J[f]? = some (.dic (kvD K))) (hK : K.length < 50000) :
    Runs (b21a.den G21) ([some d0, some d1, some d2, some (.ref f), some (nD st.s), some (nD st.mine), some (nD st.right), some (nD st.all), some (nD st.rall), o9, o10, o11, o12, o13]) ⟨J, false⟩ fun fl S' =>
      ∃ ρ', fl = .nx ρ' ∧ (∃ o4 o5 o6 o7 o8 o9 o10 o11 o12 o13, ρ' = [some d0, some d1, some d2, some (.ref J.length), o4, o5, o6, o7, o8, o9, o10, o11, o12, o13]) ∧ S' = ⟨J ++ [.dic (kvD (stepK st K))], false⟩ := by
  have hfl : f < J.length := (List.getElem?_eq_some_iff.mp hf).1
  have ha := hst.a
  have hm2 := hst.m
  refine s_asgN (.ref J.length) (rho21 d0 d1 d2 f st J.length o10 o11 o12 o13) ⟨J ++ [.dic []], false⟩ rfl rfl ?_
  refine s_frK (l := f) (kvD K) (fun j ρ S => (∃ o10 o11 o12 o13, ρ = rho21 d0 d1 d2 f st J.length o10 o11 o12 o13) ∧ S = ⟨J.set f .gone ++ [.dic (kvD ((K.take j).foldl (fun l p => inner st.mine (gW st.all st.mine st.rall) p.1 p.2 l) []))], false⟩) rfl ?_ (mxs_kv K) ⟨⟨_, _, _, _, rfl⟩, ?_⟩ ?_ ?_
  · show (J ++ [O.dic []])[f]? = _
    rw [List.getElem?_append_left hfl, hf]
  · show (⟨(J ++ [O.dic []]).set f .gone, false⟩ : Sto) = _
    rw [List.set_append_left _ _ hfl]
    rfl
  · rintro j ρ S hj ⟨⟨o10, o11, o12, o13, rfl⟩, rfl⟩
    have hj' : j < K.length := by simpa using hj
    refine ⟨rho21 d0 d1 d2 f st J.length (some (nD K[j].1)) (some (nD K[j].2)) o12 o13, ?_, ?_⟩
    · rw [List.getElem_map, item_kv]
      simp [Tg.den, Tgs.den, tgT, tupItems, tgAll, tgN, Den.bnd, Den.ret, Den.guardM]
    · have hl := later_len st.mine (gW st.all st.mine st.rall) (K.take j) []
      rw [List.length_take, List.length_nil] at hl
      have hl2 : min j K.length * (st.mine + 1) ≤ 50000 * 9 := Nat.mul_le_mul (by omega) (by omega)
      have hJ : (J.set f .gone).length = J.length := List.length_set
      have e := b21b_ok (d0 := d0) (d1 := d1) (d2 := d2) (f := f) hst (B := J.set f .gone) (K := (K.take j).foldl (fun l p => inner st.mine (gW st.all st.mine st.rall) p.1 p.2 l) []) (far := K[j].1) (w := K[j].2) (o12 := o12) (o13 := o13) (by omega)
      rw [hJ] at e
      obtain ⟨fl, S', e, ρ', rfl, ⟨o12', o13', rfl⟩, rfl⟩ := e
      refine ⟨_, _, e, _, rfl, ⟨_, _, _, _, rfl⟩, ?_⟩
      rw [List.take_succ_eq_append_getElem hj', List.foldl_append]
      rfl
  · rintro ρ S ⟨⟨o10, o11, o12, o13, rfl⟩, rfl⟩
    rw [List.length_map, List.take_length]
    refine s_asgN (.ref J.length) _ _ (e_var rfl) rfl (s_nil ⟨_, rfl, ⟨_, _, _, _, _, _, _, _, _, _, rfl⟩, ?_⟩)
    show (⟨(J.set f O.gone ++ [O.dic _]).set f (.dic (kvD K)), false⟩ : Sto) = _
    rw [List.set_append_left _ _ (by rw [List.length_set]; exact hfl), List.set_set]
    have : J.set f (.dic (kvD K)) = J := by
      refine List.ext_getElem? fun i => ?_
      by_cases hi : f = i
      · subst hi; rw [hf]; simp [hfl]
      · rw [List.getElem?_set_ne hi]
    rw [this]
    rfl
theorem F21_ok {T : List (List Nat)} {wd t : Nat} {lot : List Nat} (h : TabOk T wd) (ht : t < wd) : ∃ d S', F21 [.p (tabD T), .p (lotD lot), nD t] Sto.new = .ok d S' ∧ ∃ l, d = .ref l ∧ S'.objs[l]? = some (.dic (kvD (waysS (strata T lot t)))) := by
  have hs := strata_len h lot t
  have hok := strata_ok h lot t
  refine runF_of rfl (s_asgN (.ref 0) _ ⟨[.dic [(.inl 0, .int 1)]], false⟩ rfl rfl ?_)
  generalize hst : strata T lot t = sts at *
  refine s_forR (sts.map St5.d) 1 ⟨[.dic [(.inl 0, .int 1)], .lst (sts.map St5.d)], false⟩ (fun i ρ S => ∃ (J : List O) (f : Nat) (o4 o5 o6 o7 o8 o9 o10 o11 o12 o13 : Option D), S = ⟨J, false⟩ ∧ J[1]? = some (.lst (sts.map St5.d)) ∧ J[f]? = some (.dic (kvD (waysS (sts.take i)))) ∧
    ρ = [some (.p (tabD T)), some (.p (lotD lot)), some (nD t), some (.ref f), o4, o5, o6, o7, o8, o9, o10, o11, o12, o13]) (e_call rfl (a_3 (e_var rfl) (e_var rfl) (e_var rfl)) a_nil rfl rfl (hst ▸ fr18 h ht _)) ⟨_, 0, none, none, none, none, none, none, none, none, none, none, rfl, rfl, rfl, rfl⟩ (fun i ρ S ⟨J, f, _, _, _, _, _, _, _, _, _, _, e1, e2, _⟩ => by rw [e1]; exact e2) ?_ ?_
  · rintro j ρ S hj ⟨J, f, o4, o5, o6, o7, o8, o9, o10, o11, o12, o13, rfl, e2, e3, rfl⟩
    have hj' : j < sts.length := by simpa using hj
    refine ⟨[some (.p (tabD T)), some (.p (lotD lot)), some (nD t), some (.ref f), some (nD sts[j].s), some (nD sts[j].mine), some (nD sts[j].right), some (nD sts[j].all), some (nD sts[j].rall), o9, o10, o11, o12, o13], ?_, ?_⟩
    · rw [List.getElem_map]
      simp [St5.d, Tg.den, Tgs.den, tgT, tupItems, tgAll, tgN, Den.bnd, Den.ret, Den.guardM]
    · have hl := ways_len (sts.take j) [(0, 1)] (fun x m => hok x (List.mem_of_mem_take m))
      have hp : 9 ^ (sts.take j).length ≤ 9 ^ 4 := Nat.pow_le_pow_right (by decide) (by rw [List.length_take]; omega)
      have hl2 : (waysS (sts.take j)).length ≤ 1 * 9 ^ (sts.take j).length := hl
      obtain ⟨fl, S', e, ρ', rfl, ⟨p4, p5, p6, p7, p8, p9, p10, p11, p12, p13, rfl⟩, rfl⟩ := b21a_ok (d0 := .p (tabD T)) (d1 := .p (lotD lot)) (d2 := nD t) (l := 0) (o9 := o9) (o10 := o10) (o11 := o11) (o12 := o12) (o13 := o13) (hok _ (List.getElem_mem hj')) e3 (by omega)
      refine ⟨_, _, e, _, rfl, _, J.length, p4, p5, p6, p7, p8, p9, p10, p11, p12, p13, rfl, ?_, ?_, rfl⟩
      · rw [List.getElem?_append_left (List.getElem?_eq_some_iff.mp e2).1, e2]
      · rw [get_app0 J _ []]
        unfold waysS
        rw [List.take_succ_eq_append_getElem hj', List.foldl_append]
        rfl
  · rintro ρ S ⟨J, f, o4, o5, o6, o7, o8, o9, o10, o11, o12, o13, rfl, e2, e3, rfl⟩
    refine s_ret (e_var rfl) ⟨_, rfl, f, rfl, ?_⟩
    rw [e3, List.length_map, List.take_length]
end K87

namespace K87
open PySem PySem.Spec PyProof.Rows L2 Den
theorem fr21 {T : List (List Nat)} {wd t : Nat} {lot : List Nat} (h : TabOk T wd) (ht : t < wd) (S : Sto) : frame F21 [.p (tabD T), .p (lotD lot), nD t] S = .ok (.ref S.objs.length) ⟨S.objs ++ [.dic (kvD (waysS (strata T lot t)))], S.nt⟩ := by
  obtain ⟨d, S', e, l, rfl, e2⟩ := F21_ok (lot := lot) h ht
  exact frame_new rfl ⟨S', e, e2⟩ (mxs_kv _) S
theorem pairs_kv (K : Kv) : pairsOf (kvD K) = some (K.map fun p => ((p.1 : Int), (p.2 : Int))) := by
  induction K with
  | nil => rfl
  | cons p K ih =>
    show (pairsOf (kvD K)).map _ = _
    rw [ih]; rfl
abbrev prP (p : Int × Int) : PyData := .tuple [.int p.1, .int p.2]
abbrev kvI (K : Kv) : List (Int × Int) := K.map fun p => ((p.1 : Int), (p.2 : Int))
theorem sortIt_ok {G : Gm} {x : Ex} {ρ : Rho} {S S1 : Sto} {l : Nat} {K : Kv} (hx : x.den G ρ S = .ok (.ref l) S1) (h : S1.objs[l]? = some (.dic (kvD K))) (hn : K.length < 1000000) : (Lx.sortIt x).den G ρ S = .ok (((psort (kvI K)).map prP).map D.p) S1 := by
  have g : getDic l S1 = .ok (kvD K) S1 := by unfold getDic; rw [h]
  show Den.bnd (x.den G ρ) _ S = _
  rw [bnd_ok hx]
  show Den.bnd (getDic l) _ S1 = _
  rw [bnd_ok g, pairs_kv]
  have g2 : decide ((kvI K).length < sizeLine) = true := decide_eq_true (by show _ < 2 ^ 24; rw [List.length_map]; omega)
  dsimp only [optM]
  rw [g2, List.map_map]
  rfl
theorem ways_short {T : List (List Nat)} {wd : Nat} (h : TabOk T wd) (lot : List Nat) (t : Nat) : (waysS (strata T lot t)).length < 100000 := by
  have hl := ways_len (strata T lot t) [(0, 1)] (strata_ok h lot t)
  have hp : 9 ^ (strata T lot t).length ≤ 9 ^ 5 := Nat.pow_le_pow_right (by decide) (strata_len h lot t)
  have hl2 : (waysS (strata T lot t)).length ≤ 1 * 9 ^ (strata T lot t).length := hl
  omega
theorem F22_ok {T : List (List Nat)} {wd t : Nat} {lot : List Nat} (h : TabOk T wd) (hl : LotOk lot T.length) (ht : t < wd) : ∃ S', F22 [.p (tabD T), .p (lotD lot), nD t] Sto.new = .ok (.p (.tuple ((psort (kvI (waysS (strata T lot t)))).map prP))) S' := by
  refine F_ex rfl (s_ex (e_call rfl (a_3 (e_var rfl) (e_var rfl) (e_var rfl)) a_nil rfl rfl (frame_p rfl (F17_ok h hl ht) _)) (s_ret (e_opF (sortIt_ok (K := waysS (strata T lot t)) (e_call rfl (a_3 (e_var rfl) (e_var rfl) (e_var rfl)) a_nil rfl rfl (fr21 h ht _)) rfl ?_) (tup_p _ _)) rfl))
  have := ways_short h lot t
  omega
theorem sub_cell {T : List (List Nat)} {wd t p : Nat} (h : TabOk T wd) (ht : t < wd) (hp : p < T.length) (S : Sto) : subItem (.str (rowS (T.getD p []))) (nD t) S = .ok (.str ⟨#[(T.getD p []).getD t 0]⟩) S := by
  have m : T.getD p [] ∈ T := by simp [hp]
  have := (h.row _ m).1
  have := h.w1
  exact at_ret (sub_row (by omega) (by omega)) S
theorem cell_eq {T : List (List Nat)} {t p : Nat} (S : Sto) : eqD (.str ⟨#[(T.getD p []).getD t 0]⟩) (.str "1") S = .ok (rgtS T t p) S := at_ret (eq_one _) S
theorem F23_ok {T : List (List Nat)} {wd t : Nat} {lot : List Nat} (h : TabOk T wd) (hl : LotOk lot T.length) (ht : t < wd) : ∃ S', F23 [.p (tabD T), .p (lotD lot), nD t] Sto.new = .ok (nD (lot.filter fun p => rgtS T t p).length) S' := by
  refine F_ex rfl (s_ret (S1 := Sto.new) (e_opF (l_lc1 lot nD (fun p => rgtS T t p) nD (reads_lot rfl) (by have := hl.len; omega) ?_ ?_) ?_) rfl)
  · intro p m
    exact b_cmp (e_sub (e_sub (e_var rfl) (e_var rfl) (at_ret (sub_tab (hl.lt p m)) _)) (e_var rfl) (sub_cell h ht (hl.lt p m) _)) (e_glo rfl) (cell_eq _)
  · intro p _ _
    exact e_var rfl
  · show Den.R.ok (D.int ((_ : List D).length : Nat)) _ = _
    rw [List.length_map]
/-- a comprehension over a dict's items -/
theorem l_lcK {G : Gm} {ρ : Rho} {S : Sto} {i l a b : Nat} {own : List Nat} {u : Bx} {x : Ex} (K : Kv) (cb : Nat × Nat → Bool) (ev : Nat × Nat → D) (hρ : ρ[i]? = some (some (.ref l))) (hS : S.objs[l]? = some (.dic (kvD K))) (hn : K.length < 1000000)
    (hc : ∀ p ∈ K, ∀ S, u.den G (((wipeR ρ own).set a (some (nD p.1))).set b (some (nD p.2))) S = .ok (cb p) S) (he : ∀ p ∈ K, ∀ S, x.den G (((wipeR ρ own).set a (some (nD p.1))).set b (some (nD p.2))) S = .ok (ev p) S) :
    (Lx.lcK i own (.tup (.cons (.nm a) (.cons (.nm b) .nil))) (.so u) x).den G ρ S = .ok ((K.filter cb).map ev) S := by
  have hl := (List.getElem?_eq_some_iff.mp hS).1
  have e := lc_go_read (ρ := wipeR ρ own) (S := ⟨S.objs.set l .gone, S.nt⟩) (t := (Tg.tup (.cons (.nm a) (.cons (.nm b) .nil))).den G) (c := u.den G) (e := x.den G) (src := srcK (kvD K)) (fun p : Nat × Nat => .p (.tuple [nP p.1, nP p.2]))
    (fun p => ((wipeR ρ own).set a (some (nD p.1))).set b (some (nD p.2))) cb ev K (fun j hj => by
      have e1 : (kvD K).map itemD = K.map fun p => D.p (.tuple [nP p.1, nP p.2]) := by rw [List.map_map]; rfl
      have e2 := src_con ((kvD K).map itemD) 0 j ⟨S.objs.set l .gone, S.nt⟩ (by simpa using hj)
      rw [← e1]
      exact e2) (fun p _ => rfl) (fun p m => hc p m _) (fun p m _ => he p m _) K [] (K.length + 1) [] rfl (by omega)
  show lcKS i own _ _ _ ρ S = _
  unfold lcKS lockM
  have g : decide ((kvD K).length < sizeLine) = true := decide_eq_true (by show _ < 2 ^ 24; rw [List.length_map]; omega)
  simp only [hρ, hS, g, guardM_t]
  have hlen : (kvD K).length = K.length := List.length_map _
  have e' : lcGo ((Tg.tup (.cons (.nm a) (.cons (.nm b) .nil))).den G) ((Bo.so u).den G) (x.den G) (srcK (kvD K)) (wipeR ρ own) ((kvD K).length + 1) 0 [] ⟨S.objs.set l .gone, S.nt⟩ = .ok ((K.filter cb).map ev) ⟨S.objs.set l .gone, S.nt⟩ := by
    rw [hlen]
    have e := e
    rw [List.nil_append] at e
    exact e
  rw [e']
  simp only [List.set_set, mxs_kv]
  have hset : S.objs.set l (.dic (kvD K)) = S.objs := by
    refine List.ext_getElem? fun i => ?_
    by_cases hi : l = i
    · subst hi; rw [hS]; simp [hl]
    · rw [List.getElem?_set_ne hi]
  rw [hset]
  simp
theorem sumF_nat {α : Type} (f : α → Nat) (xs : List α) (S : Sto) : sumF (xs.map fun x => nD (f x)) S = .ok (nD (sm f xs)) S := by
  have e : xs.map (fun x => nD (f x)) = (xs.map f).map nD := by rw [List.map_map]; rfl
  unfold sumF
  rw [e, ints_nat]
  show Den.R.ok (D.int ((xs.map f).map fun n : Nat => (n : Int)).sum) S = _
  congr 3
  unfold sm
  induction xs.map f with
  | nil => rfl
  | cons n ns ih => simp only [List.map_cons, List.sum_cons, ih]; simp
def wholeK (K : Kv) : Nat := sm (·.2) K
def moreK (K : Kv) (here : Nat) : Nat := sm (·.2) (K.filter fun p => decide (here ≤ p.1))
def lessK (K : Kv) (here : Nat) : Nat := sm (·.2) (K.filter fun p => decide (p.1 ≤ here))
def hereS (T : List (List Nat)) (lot : List Nat) (t : Nat) : Nat := (lot.filter fun p => rgtS T t p).length
theorem F24_ok {T : List (List Nat)} {wd t : Nat} {lot : List Nat} (h : TabOk T wd) (hl : LotOk lot T.length) (ht : t < wd) (h0 : 0 < wholeK (waysS (strata T lot t))) (h1 : wholeK (waysS (strata T lot t)) < 2 ^ big) :
    ∃ S', F24 [.p (tabD T), .p (lotD lot), nD t] Sto.new = .ok (.p (.tuple [fr (moreK (waysS (strata T lot t)) (hereS T lot t)) (wholeK (waysS (strata T lot t))), fr (lessK (waysS (strata T lot t)) (hereS T lot t)) (wholeK (waysS (strata T lot t)))])) S' := by
  have hsh := ways_short h lot t
  generalize hK : waysS (strata T lot t) = K at *
  generalize hH : hereS T lot t = here at *
  refine F_ex rfl (Runs.seq (ρ' := [some (.p (tabD T)), some (.p (lotD lot)), some (nD t), none, none, none, some (.ref 0), some (nD here), none, none]) (S' := ⟨[.dic (kvD K)], false⟩) ?_ ?_)
  · have e1 := fr21 (lot := lot) h ht Sto.new
    have e2 := frame_p (F := F23) (ds := [.p (tabD T), .p (lotD lot), nD t]) rfl (F23_ok h hl ht) ⟨[.dic (kvD K)], false⟩
    rw [hK] at e1
    have hH' : (lot.filter fun p => rgtS T t p).length = here := hH
    rw [hH'] at e2
    have e3 : argsS ((Exs.cons (.call 21 (.cons (.var 0) (.cons (.var 1) (.cons (.var 2) .nil))) .nil) (.cons (.call 23 (.cons (.var 0) (.cons (.var 1) (.cons (.var 2) .nil))) .nil) .nil)).den (mkG gls [fo0, fo1, fo2, fo3, fo4, fo5, fo6, fo7, fo8, fo9, fo10, fo11, fo12, fo13, fo14, fo15, fo16, fo17, fo18, fo19, fo20, fo21, fo22, fo23] [F0, F1, F2, F3, F4, F5, F6, F7, F8, F9, F10, F11, F12, F13, F14, F15, F16, F17, F18, F19, F20, F21, F22, F23])) [some (.p (tabD T)), some (.p (lotD lot)), some (nD t), none, none, none, none, none, none, none] Sto.new = .ok [.ref 0, nD here] ⟨[.dic (kvD K)], false⟩ :=
      a_2 (e_call rfl (a_3 (e_var rfl) (e_var rfl) (e_var rfl)) a_nil rfl rfl e1) (e_call rfl (a_3 (e_var rfl) (e_var rfl) (e_var rfl)) a_nil rfl rfl e2)
    show asgS (tupS _) (tgT [tgN 6, tgN 7]) _ _ = _
    unfold asgS tupS
    rw [Den.bnd, Den.bnd]
    erw [e3]
    rfl
  · refine s_asgN (nD (wholeK K)) [some (.p (tabD T)), some (.p (lotD lot)), some (nD t), some (nD (wholeK K)), none, none, some (.ref 0), some (nD here), none, none] ⟨[.dic (kvD K)], false⟩ ?_ rfl ?_
    · show sumValS (vS 6) _ _ = _
      unfold sumValS dictM
      have : (kvD K).map (·.2) = K.map fun p => nD p.2 := by rw [List.map_map]; rfl
      show sumF ((kvD K).map (·.2)) ⟨[.dic (kvD K)], false⟩ = _
      rw [this, sumF_nat]
      rfl
    refine s_asgN (nD (moreK K here)) [some (.p (tabD T)), some (.p (lotD lot)), some (nD t), some (nD (wholeK K)), some (nD (moreK K here)), none, some (.ref 0), some (nD here), none, none] _ (e_opF (l_lcK K (fun p => decide (here ≤ p.1)) (fun p => nD p.2) rfl rfl (by omega) (fun p m S => b_cmp (e_var rfl) (e_var rfl) ?_) (fun p m S => e_var rfl)) (sumF_nat _ _ _)) rfl ?_
    · show Den.R.ok (decide ((here : Int) ≤ (p.1 : Int))) S = _
      simp
    refine s_asgN (nD (lessK K here)) [some (.p (tabD T)), some (.p (lotD lot)), some (nD t), some (nD (wholeK K)), some (nD (moreK K here)), some (nD (lessK K here)), some (.ref 0), some (nD here), none, none] _ (e_opF (l_lcK K (fun p => decide (p.1 ≤ here)) (fun p => nD p.2) rfl rfl (by omega) (fun p m S => b_cmp (e_var rfl) (e_var rfl) ?_) (fun p m S => e_var rfl)) (sumF_nat _ _ _)) rfl ?_
    · show Den.R.ok (decide ((p.1 : Int) ≤ (here : Int))) S = _
      simp
    exact s_ret (e_tup (ps := [_, _]) (a_2 (e_call rfl (a_2 (e_var rfl) (e_var rfl)) a_nil rfl rfl (at_ret (fr5 _ _ h0 h1) _)) (e_call rfl (a_2 (e_var rfl) (e_var rfl)) a_nil rfl rfl (at_ret (fr5 _ _ h0 h1) _))) (by simp)) rfl
end K87

namespace K87
open PySem PySem.Spec PyProof.Rows L2 Den
section
variable {G : Gm} {ρ : Rho} {S S1 S2 : Sto} {Q : Fl → Sto → Prop} {x y : Ex} {a b : D} {rest : Sxs} {i j : Nat}
theorem s_par2 (ρ' : Rho) (hx : x.den G ρ S = .ok a S1) (hy : y.den G ρ S1 = .ok b S2) (hρ : (ρ.set i (some a)).set j (some b) = ρ') (k : Runs (rest.den G) ρ' S2 Q) : Runs (Sxs.den G (.cons (.par [i, j] (.cons x (.cons y .nil))) rest)) ρ S Q := by
  subst hρ
  refine Runs.seq (ρ' := (ρ.set i (some a)).set j (some b)) (S' := S2) ?_ k
  show parS [i, j] _ ρ S = _
  unfold parS
  rw [bnd_ok (a_2 hx hy)]
  rfl
/-- a comprehension with any target that binds without reading -/
theorem l_lcT {α : Type} {own : List Nat} {t : Tg} {e : Ex} {s : Ix} (ys : List α) (f : α → D) (r1 : α → Rho) (ev : α → D) (hs : Reads (s.den G) ρ S (ys.map f)) (hn : ys.length < 1000000)
    (ht : ∀ y ∈ ys, t.den G (f y) (wipeR ρ own) S = .ok (r1 y) S) (he : ∀ y ∈ ys, e.den G (r1 y) S = .ok (ev y) S) :
    (Lx.lc own t .yes e s).den G ρ S = .ok (ys.map ev) S := by
  have := lcS_read (own := own) (t := t.den G) (c := yesS) (e := e.den G) (sf := s.den G) ys f hs hn r1 (fun _ => true) ev ht (fun _ _ => rfl) fun y hy _ => he y hy
  rwa [List.filter_eq_self.mpr (by simp)] at this
end
theorem F25_ok {T : List (List Nat)} {wd t : Nat} {lot : List Nat} (h : TabOk T wd) (hl : LotOk lot T.length) (ht : t < wd) (h0 : 0 < wholeK (waysS (strata T lot t))) (h1 : wholeK (waysS (strata T lot t)) < 2 ^ big) :
    ∃ S', F25 [.p (tabD T), .p (lotD lot), nD t] Sto.new = .ok (.p (fr (moreK (waysS (strata T lot t)) (hereS T lot t)) (wholeK (waysS (strata T lot t))))) S' :=
  F_ex rfl (s_ex (e_call rfl (a_3 (e_var rfl) (e_var rfl) (e_var rfl)) a_nil rfl rfl (frame_p rfl (F17_ok h hl ht) _)) (s_ret (e_sub (e_call rfl (a_3 (e_var rfl) (e_var rfl) (e_var rfl)) a_nil rfl rfl (frame_p rfl (F24_ok h hl ht h0 h1) _)) e_int rfl) rfl))
theorem F26_ok {T : List (List Nat)} {wd t : Nat} {lot : List Nat} (h : TabOk T wd) (hl : LotOk lot T.length) (ht : t < wd) (h0 : 0 < wholeK (waysS (strata T lot t))) (h1 : wholeK (waysS (strata T lot t)) < 2 ^ big) :
    ∃ S', F26 [.p (tabD T), .p (lotD lot), nD t] Sto.new = .ok (.p (fr (lessK (waysS (strata T lot t)) (hereS T lot t)) (wholeK (waysS (strata T lot t))))) S' :=
  F_ex rfl (s_ex (e_call rfl (a_3 (e_var rfl) (e_var rfl) (e_var rfl)) a_nil rfl rfl (frame_p rfl (F17_ok h hl ht) _)) (s_ret (e_sub (e_call rfl (a_3 (e_var rfl) (e_var rfl) (e_var rfl)) a_nil rfl rfl (frame_p rfl (F24_ok h hl ht h0 h1) _)) e_int rfl) rfl))
structure St5Ok2 (x : St5) : Prop where
  a : x.all < 9
  a0 : 0 < x.all
  m : x.mine ≤ x.all
  r : x.rall ≤ x.all
  rm : x.right ≤ x.mine
  rr : x.right ≤ x.rall
theorem strata_ok2 {T : List (List Nat)} {wd : Nat} (h : TabOk T wd) (lot : List Nat) (t : Nat) : ∀ x ∈ strata T lot t, St5Ok2 x := by
  intro x m
  have o := strata_ok h lot t x m
  obtain ⟨s, hs, rfl⟩ := List.mem_map.mp m
  rw [usN_mem] at hs
  obtain ⟨p, hp, e⟩ := List.getElem_of_mem hs
  have mem : p ∈ perS (sumsT T) s := List.mem_filter.mpr ⟨List.mem_range.mpr hp, by simp [hp, e]⟩
  refine ⟨o.a, List.length_pos_of_mem mem, o.m, o.r, List.length_filter_le _ _, ?_⟩
  show (((perS (sumsT T) s).filter fun p => decide (p ∈ lot)).filter fun p => rgtS T t p).length ≤ ((perS (sumsT T) s).filter fun p => rgtS T t p).length
  rw [List.filter_filter]
  have : ((perS (sumsT T) s).filter fun p => rgtS T t p && decide (p ∈ lot)) = (((perS (sumsT T) s).filter fun p => rgtS T t p).filter fun p => decide (p ∈ lot)) := by
    rw [List.filter_filter]
    congr 1; funext p; exact Bool.and_comm _ _
  rw [this]
  exact List.length_filter_le _ _
/-- the terms of the odds -/
def tA (x : St5) : Int := (x.right : Int) * (((x.all : Int) - (x.mine : Int)) - ((x.rall : Int) - (x.right : Int)))
def tB (x : St5) : Int := ((x.mine : Int) - (x.right : Int)) * ((x.rall : Int) - (x.right : Int))
def qA (x : St5) : Int × Nat := red (tA x, x.all)
def qB (x : St5) : Int × Nat := red (tB x, x.all)
theorem ok_red {i : Int} {n : Nat} (h0 : 0 < n) (h1 : n ≤ 2 ^ 20) (h2 : i.natAbs ≤ 2 ^ 20) : okQ (red (i, n)) := by
  obtain ⟨a, b, c⟩ := red_low (i, n) h0
  exact ⟨a, Nat.le_trans b h1, Nat.le_trans c h2⟩
theorem tA_le {x : St5} (h : St5Ok2 x) : (tA x).natAbs ≤ 200 := by
  have := h.a; have := h.m; have := h.r; have := h.rm; have := h.rr
  unfold tA
  rw [Int.natAbs_mul, Int.natAbs_natCast]
  refine Nat.le_trans (Nat.mul_le_mul (show x.right ≤ 8 by omega) (show _ ≤ 16 by omega)) (by decide)
theorem tB_le {x : St5} (h : St5Ok2 x) : (tB x).natAbs ≤ 200 := by
  have := h.a; have := h.m; have := h.r; have := h.rm; have := h.rr
  unfold tB
  rw [Int.natAbs_mul]
  refine Nat.le_trans (Nat.mul_le_mul (show _ ≤ 8 by omega) (show _ ≤ 8 by omega)) (by decide)
theorem okA {x : St5} (h : St5Ok2 x) : okQ (qA x) := ok_red h.a0 (by have := h.a; omega) (by have := tA_le h; omega)
theorem okB {x : St5} (h : St5Ok2 x) : okQ (qB x) := ok_red h.a0 (by have := h.a; omega) (by have := tB_le h; omega)
theorem fr5q {i : Int} {n : Nat} (h0 : 0 < n) (h1 : n < 1000) (S : Sto) : frame F5 [.int i, nD n] S = .ok (.p (dP (red (i, n)))) S := by
  rw [← fr_red]
  exact at_ret (fr5 i n h0 (Nat.lt_of_lt_of_le h1 (Nat.le_trans (by decide : 1000 ≤ 2 ^ 10) (Nat.pow_le_pow_right (by decide) (by decide))))) S
def sumA (xs : List St5) : Int × Nat := sumP (xs.map qA)
def sumB (xs : List St5) : Int × Nat := sumP (xs.map qB)
theorem plus_at (qs : List (Int × Nat)) (q : Int × Nat) (hq : ∀ q ∈ qs, okQ q) (h : okQ q) (hn : qs.length ≤ 100) (S : Sto) : frame F6 [.p (dP (sumP qs)), .p (dP q)] S = .ok (.p (dP (sumP (qs ++ [q])))) S := by
  have e : sumP (qs ++ [q]) = addP (sumP qs) q := by unfold sumP; rw [List.foldl_append]; rfl
  rw [e]
  exact at_ret (F6_at (sumP qs) q (0 + 21 * qs.length) (by show _ < 8000; omega) (sum_bd qs (0, 1) 0 hq (by decide)) h) S
theorem mul_tiny {i j : Int} (h : i.natAbs < 1000) (S : Sto) : mulD (.int i) (.int j) S = .ok (.int (i * j)) S := mul_small (.inl (by omega)) S
theorem sumP_red : ∀ (qs : List (Int × Nat)) (p : Int × Nat), (p.1 = 0 → p.2 = 1) → (∀ q ∈ qs, okQ q) → 0 < p.2 → (qs.foldl addP p).1 = 0 → (qs.foldl addP p).2 = 1
  | [], p, h, _, _ => h
  | q :: qs, p, h, hq, h0 => by
    rw [List.foldl_cons]
    have q0 := (hq q (List.mem_cons_self ..)).1
    have m0 : 0 < p.2 * q.2 := Nat.mul_pos h0 q0
    refine sumP_red qs _ ?_ (fun x m => hq x (List.mem_cons_of_mem _ m)) (red_low (p.1 * q.2 + q.1 * p.2, p.2 * q.2) m0).1
    intro e
    have e : (p.1 * q.2 + q.1 * p.2) / (Nat.gcd (p.1 * q.2 + q.1 * p.2).natAbs (p.2 * q.2) : Nat) = 0 := e
    show (p.2 * q.2) / Nat.gcd (p.1 * q.2 + q.1 * p.2).natAbs (p.2 * q.2) = 1
    generalize p.1 * q.2 + q.1 * p.2 = t at *
    generalize p.2 * q.2 = l at *
    have g0 : 0 < Nat.gcd t.natAbs l := Nat.gcd_pos_of_pos_right _ m0
    obtain ⟨k, hk⟩ := Int.ofNat_dvd_left.mpr (Nat.gcd_dvd_left t.natAbs l)
    have tz : t = 0 := by
      generalize Nat.gcd t.natAbs l = g at *
      rw [hk, Int.mul_ediv_cancel_left _ (by omega)] at e
      rw [hk, e, Int.mul_zero]
    rw [tz]
    simp
    exact Nat.div_self m0
theorem red_nn {i : Int} {n : Nat} (h : 0 ≤ i) : 0 ≤ (red (i, n)).1 := Int.ediv_nonneg h (Int.natCast_nonneg _)
theorem sumP_nn : ∀ (qs : List (Int × Nat)) (p : Int × Nat), 0 ≤ p.1 → (∀ q ∈ qs, 0 ≤ q.1) → 0 ≤ (qs.foldl addP p).1
  | [], p, h, _ => h
  | q :: qs, p, h, hq => by
    rw [List.foldl_cons]
    refine sumP_nn qs _ (red_nn ?_) fun x m => hq x (List.mem_cons_of_mem _ m)
    have := hq q (List.mem_cons_self ..)
    have a := Int.mul_nonneg h (Int.natCast_nonneg q.2)
    have b := Int.mul_nonneg this (Int.natCast_nonneg p.2)
    omega
theorem tB_nn {x : St5} (h : St5Ok2 x) : 0 ≤ tB x := by
  have := h.rm; have := h.rr
  exact Int.mul_nonneg (by omega) (by omega)
theorem eq_dP (q : Int × Nat) (S : Sto) : eqD (.p (dP q)) (.p (.tuple [.int 0, .int 1])) S = .ok (decide (q.1 = 0) && decide (q.2 = 1)) S := by
  have a : asPy (.p (dP q)) S = .ok (dP q) S := rfl
  have b : asPy (.p (.tuple [.int 0, .int 1])) S = .ok (.tuple [.int 0, .int 1]) S := rfl
  unfold eqD
  rw [bnd_ok a, bnd_ok b]
  have g : (scalP (dP q) (.tuple [.int 0, .int 1]) || (SeqAt.shaped (dP q) && SeqAt.shaped (.tuple [.int 0, .int 1]))) = true := by
    rfl
  unfold eqPD
  rw [g, guardM_t]
  show Den.R.ok ((q.1 == 0) && (((q.2 : Int) == 1) && true)) S = _
  congr 1
  have : ((q.2 : Int) == 1) = decide (q.2 = 1) := by
    by_cases h : q.2 = 1
    · simp [h]
    · have : ¬ (q.2 : Int) = 1 := by omega
      simp [h, this]
  rw [this, Bool.and_true]
  rfl
def oddsD (xs : List St5) : PyData := if (sumB xs).1 = 0 then .none else fr ((sumA xs).1 * ((sumB xs).2 : Nat)) ((sumA xs).2 * (sumB xs).1.toNat)
theorem F27_ok {T : List (List Nat)} {wd t : Nat} {lot : List Nat} (h : TabOk T wd) (hl : LotOk lot T.length) (ht : t < wd) : ∃ S', F27 [.p (tabD T), .p (lotD lot), nD t] Sto.new = .ok (.p (oddsD (strata T lot t))) S' := by
  have hs := strata_len h lot t
  have hok := strata_ok2 h lot t
  refine F_ex rfl (s_ex (e_call rfl (a_3 (e_var rfl) (e_var rfl) (e_var rfl)) a_nil rfl rfl (frame_p rfl (F17_ok h hl ht) _)) ?_)
  refine s_par2 [some (.p (tabD T)), some (.p (lotD lot)), some (nD t), some (.p (dP (sumA []))), some (.p (dP (sumB []))), none, none, none, none, none, none, none] (e_glo rfl) (e_glo rfl) rfl ?_
  generalize hst : strata T lot t = sts at *
  have okAs : ∀ n, ∀ q ∈ (sts.take n).map qA, okQ q := fun n q m => by
    obtain ⟨x, mx, rfl⟩ := List.mem_map.mp m
    exact okA (hok x (List.mem_of_mem_take mx))
  have okBs : ∀ n, ∀ q ∈ (sts.take n).map qB, okQ q := fun n q m => by
    obtain ⟨x, mx, rfl⟩ := List.mem_map.mp m
    exact okB (hok x (List.mem_of_mem_take mx))
  refine s_forR (sts.map St5.d) 0 ⟨[.lst (sts.map St5.d)], false⟩ (fun i ρ S => S = ⟨[.lst (sts.map St5.d)], false⟩ ∧ ∃ o5 o6 o7 o8 o9 o10 o11, ρ = [some (.p (tabD T)), some (.p (lotD lot)), some (nD t), some (.p (dP (sumA (sts.take i)))), some (.p (dP (sumB (sts.take i)))), o5, o6, o7, o8, o9, o10, o11]) (e_call rfl (a_3 (e_var rfl) (e_var rfl) (e_var rfl)) a_nil rfl rfl (hst ▸ fr18 h ht _)) ⟨rfl, _, _, _, _, _, _, _, rfl⟩ (fun i ρ S z => by rw [z.1]; rfl) ?_ ?_
  · rintro j ρ S hj ⟨rfl, o5, o6, o7, o8, o9, o10, o11, rfl⟩
    have hj' : j < sts.length := by simpa using hj
    have ok := hok _ (List.getElem_mem hj')
    have := ok.a
    have eA : sumA (sts.take (j + 1)) = sumP ((sts.take j).map qA ++ [qA sts[j]]) := by
      unfold sumA
      rw [List.take_succ_eq_append_getElem hj', List.map_append]; rfl
    have eB : sumB (sts.take (j + 1)) = sumP ((sts.take j).map qB ++ [qB sts[j]]) := by
      unfold sumB
      rw [List.take_succ_eq_append_getElem hj', List.map_append]; rfl
    refine ⟨[some (.p (tabD T)), some (.p (lotD lot)), some (nD t), some (.p (dP (sumA (sts.take j)))), some (.p (dP (sumB (sts.take j)))), some (nD sts[j].s), some (nD sts[j].mine), some (nD sts[j].right), some (nD sts[j].all), some (nD sts[j].rall), o10, o11], ?_, ?_⟩
    · rw [List.getElem_map]
      simp [St5.d, Tg.den, Tgs.den, tgT, tupItems, tgAll, tgN, Den.bnd, Den.ret, Den.guardM]
    · rw [eA, eB]
      have lA : ((sts.take j).map qA).length ≤ 100 := by simp; omega
      have lB : ((sts.take j).map qB).length ≤ 100 := by simp; omega
      have pA := plus_at ((sts.take j).map qA) (qA sts[j]) (okAs j) (okA ok) lA
      have pB := plus_at ((sts.take j).map qB) (qB sts[j]) (okBs j) (okB ok) lB
      generalize sts[j] = x at *
      have rm := ok.rm; have rr := ok.rr; have mm := ok.m; have rl := ok.r
      refine s_par2 _ (e_bin (e_var rfl) (e_var rfl) rfl) (e_bin (e_var rfl) (e_var rfl) rfl) rfl ?_
      refine s_asg (e_call rfl (a_2 (e_var rfl) (e_call rfl (a_2 (e_bin (e_var rfl) (e_bin (e_var rfl) (e_var rfl) rfl) (mul_tiny (by simp; omega) _)) (e_var rfl)) a_nil rfl rfl (fr5q ok.a0 (by omega) _))) a_nil rfl rfl (pA _)) ?_
      refine s_asg (e_call rfl (a_2 (e_var rfl) (e_call rfl (a_2 (e_bin (e_bin (e_var rfl) (e_var rfl) rfl) (e_var rfl) (mul_tiny (by omega) _)) (e_var rfl)) a_nil rfl rfl (fr5q ok.a0 (by omega) _))) a_nil rfl rfl (pB _)) ?_
      exact s_nil ⟨_, rfl, rfl, _, _, _, _, _, _, _, rfl⟩
  · rintro ρ S ⟨rfl, o5, o6, o7, o8, o9, o10, o11, rfl⟩
    rw [List.length_map, List.take_length]
    have okA' := okAs sts.length
    have okB' := okBs sts.length
    rw [List.take_length] at okA' okB'
    have bA := sum_bd (sts.map qA) (0, 1) 0 okA' (by decide)
    have bB := sum_bd (sts.map qB) (0, 1) 0 okB' (by decide)
    have rB := sumP_red (sts.map qB) (0, 1) (fun _ => rfl) okB' (by decide)
    have nB := sumP_nn (sts.map qB) (0, 1) (by decide) fun q m => by
      obtain ⟨x, mx, rfl⟩ := List.mem_map.mp m
      exact red_nn (tB_nn (hok x mx))
    have lA : 0 + 21 * (sts.map qA).length ≤ 150 := by simp; omega
    have lB : 0 + 21 * (sts.map qB).length ≤ 150 := by simp; omega
    have hA : (sts.map qA).foldl addP (0, 1) = sumA sts := rfl
    have hB : (sts.map qB).foldl addP (0, 1) = sumB sts := rfl
    rw [hA] at bA; rw [hB] at bB rB nB
    have pA : 2 ^ (0 + 21 * (sts.map qA).length) ≤ 2 ^ 150 := Nat.pow_le_pow_right (by decide) lA
    have pB : 2 ^ (0 + 21 * (sts.map qB).length) ≤ 2 ^ 150 := Nat.pow_le_pow_right (by decide) lB
    generalize 2 ^ (0 + 21 * (sts.map qA).length) = XA at *
    generalize 2 ^ (0 + 21 * (sts.map qB).length) = XB at *
    unfold oddsD
    generalize sumA sts = f at *
    generalize sumB sts = s at *
    refine s_ret (S1 := ⟨[.lst (sts.map St5.d)], false⟩) ?_ rfl
    by_cases z : s.1 = 0
    · rw [if_pos z]
      refine e_ite_t (b_cmp (e_var rfl) (e_glo rfl) (p := true) ?_) rfl
      show eqD _ _ _ = _
      rw [eq_dP, rB z, z]; rfl
    · rw [if_neg z]
      obtain ⟨u, hu⟩ : ∃ u : Nat, s.1 = (u : Int) := ⟨s.1.toNat, by omega⟩
      have hs : s = ((u : Int), s.2) := by rw [← hu]
      rw [hs]
      have e := F7_ok f.1 f.2 u s.2 bA.1 (by omega) (small_lt (by omega) (by omega) (by decide)) (Nat.lt_of_le_of_lt (Nat.le_trans bB.2.1 pB) (Nat.pow_lt_pow_right (by decide) (by decide))) (by
        have : f.2 * u ≤ 2 ^ 150 * 2 ^ 150 := Nat.mul_le_mul (by omega) (by omega)
        rw [← Nat.pow_add] at this
        exact Nat.lt_of_le_of_lt this (Nat.pow_lt_pow_right (by decide) (by decide)))
      refine e_ite_f (b_cmp (e_var rfl) (e_glo rfl) (p := false) ?_) (e_call rfl (a_2 (e_var rfl) (e_var rfl)) a_nil rfl rfl (frame_p rfl ⟨_, congrFun e _⟩ _))
      show eqD _ _ _ = _
      rw [eq_dP]
      have : ¬ (u : Int) = 0 := by omega
      simp [this]
      intro; omega
end K87

namespace K87
open PySem PySem.Spec PyProof.Rows L2 Den
def qM (x : St5) : Int × Nat := red (((x.mine : Int) * (x.rall : Int)), x.all)
def sumM (xs : List St5) : Int × Nat := sumP (xs.map qM)
theorem okM {x : St5} (h : St5Ok2 x) : okQ (qM x) := by
  refine ok_red h.a0 (by have := h.a; omega) ?_
  have := h.a; have := h.m; have := h.r
  rw [Int.natAbs_mul, Int.natAbs_natCast, Int.natAbs_natCast]
  exact Nat.le_trans (Nat.mul_le_mul (show x.mine ≤ 8 by omega) (show x.rall ≤ 8 by omega)) (by decide)
theorem fr8 {S : Sto} {l : Nat} {qs : List (Int × Nat)} (hn : S.nt = false) (h : S.objs[l]? = some (.lst (qs.map fun q => .p (dP q)))) (hq : ∀ q ∈ qs, okQ q) (hl : qs.length ≤ 100) : frame F8 [.ref l] S = .ok (.p (dP (sumP qs))) S := frame_ref (F8_ok h hq hl) hn rfl
theorem fr38 {S : Sto} {l : Nat} {qs : List (Int × Nat)} (hn : S.nt = false) (h : S.objs[l]? = some (.lst (qs.map fun q => .p (dP q)))) (hq : ∀ q ∈ qs, okQ q) (hl : qs.length ≤ 100) : frame F38 [.ref l] S = .ok (.p (dP (sumP qs))) S := frame_ref (F38_ok h hq hl) hn rfl
theorem F28_ok {T : List (List Nat)} {wd t : Nat} {lot : List Nat} (h : TabOk T wd) (ht : t < wd) : ∃ S', F28 [.p (tabD T), .p (lotD lot), nD t] Sto.new = .ok (.p (dP (sumM (strata T lot t)))) S' := by
  have hs := strata_len h lot t
  have hok := strata_ok2 h lot t
  refine F_ex rfl (s_asgN (.ref 0) [some (.p (tabD T)), some (.p (lotD lot)), some (nD t), some (.ref 0), none, none, none, none, none] ⟨[.lst ((strata T lot t).map St5.d)], false⟩ (e_call rfl (a_3 (e_var rfl) (e_var rfl) (e_var rfl)) a_nil rfl rfl (fr18 h ht _)) rfl ?_)
  generalize hst : strata T lot t = sts at *
  refine s_ret (e_call rfl (a_1 (e_push (l_lcT sts St5.d (fun x => [some (.p (tabD T)), some (.p (lotD lot)), some (nD t), some (.ref 0), some (nD x.s), some (nD x.mine), some (nD x.right), some (nD x.all), some (nD x.rall)]) (fun x => .p (dP (qM x))) (reads_ref (l := 0) rfl rfl) (by omega) ?_ ?_))) a_nil rfl rfl (fr8 (qs := sts.map qM) rfl ?_ ?_ (by simp; omega))) rfl
  · intro x _
    simp [St5.d, Tg.den, Tgs.den, tgT, tupItems, tgAll, tgN, Den.bnd, Den.ret, Den.guardM, wipeR]
  · intro x m
    have ok := hok x m
    have := ok.a; have := ok.m
    exact e_call rfl (a_2 (e_bin (e_var rfl) (e_var rfl) (mul_tiny (by simp; omega) _)) (e_var rfl)) a_nil rfl rfl (fr5q ok.a0 (by omega) _)
  · show some (O.lst (sts.map fun x => D.p (dP (qM x)))) = _
    rw [List.map_map]; rfl
  · intro q m
    obtain ⟨x, mx, rfl⟩ := List.mem_map.mp m
    exact okM (hok x mx)
theorem F29_ok {T : List (List Nat)} {wd t : Nat} {lot : List Nat} (h : TabOk T wd) (hl : LotOk lot T.length) (ht : t < wd) : ∃ S', F29 [.p (tabD T), .p (lotD lot), nD t] Sto.new = .ok (.p (dP (sumM (strata T lot t)))) S' :=
  F_ex rfl (s_ex (e_call rfl (a_3 (e_var rfl) (e_var rfl) (e_var rfl)) a_nil rfl rfl (frame_p rfl (F17_ok h hl ht) _)) (s_ret (e_call rfl (a_3 (e_var rfl) (e_var rfl) (e_var rfl)) a_nil rfl rfl (frame_p rfl (F28_ok h ht) _)) rfl))
/-! the law's own -/
theorem int_at (i : Int) (S : Sto) : Op1.int.den [.int i] S = .ok (.int i) S := rfl
theorem mod_at {i j : Int} (h : 0 < j) (S : Sto) : modD (.int i) (.int j) S = .ok (.int (i % j)) S := by
  simp [modD, Den.guardM, h, Den.ret]
theorem pow_at {i : Int} {j : Int} (h0 : 0 ≤ j) (h1 : j ≤ 100) (h : i.natAbs < 2 ^ 100000) (S : Sto) : powD (.int i) (.int j) S = .ok (.int (i ^ j.toNat)) S := by
  simp [powD, Den.guardM, h0, h1, h, Den.ret]
theorem F30_ok (ns : List Int) (place : Nat) (hp : place < 64) : ∃ S' a b, F30 [.p (.list (ns.map .int)), nD place] Sto.new = .ok (.ref 0) S' ∧ S'.objs[0]? = some (potL a b 0) ∧ 0 ≤ b ∧ b < 2 ^ 62 := by
  have hcell : ∃ cell : Int, (Ex.ite (.cmp .Lt (.var 1) (.op1 .len (.cons (.var 0) .nil))) (.sub (.var 0) (.var 1)) (.bin .Add (.bin .Add (.bin .Mod (.op1 .int (.cons (.opF .sum (.cut (.var 0) .no (.so (.int 1)))) .nil)) (.int 1000003)) (.bin .Mult (.int 8950) (.var 1))) (.int 21544))).den (mkG gls [fo0, fo1, fo2, fo3, fo4, fo5, fo6, fo7, fo8, fo9, fo10, fo11, fo12, fo13, fo14, fo15, fo16, fo17, fo18, fo19, fo20, fo21, fo22, fo23, fo24, fo25, fo26, fo27, fo28, fo29, fo30, fo31, fo32] [F0, F1, F2, F3, F4, F5, F6, F7, F8, F9, F10, F11, F12, F13, F14, F15, F16, F17, F18, F19, F20, F21, F22, F23, F24, F25, F25, F26, F26, F27, F27, F28, F29]) [some (.p (.list (ns.map .int))), some (nD place), none, none, none] Sto.new = .ok (.int cell) Sto.new := by
    have e1 : lenD [.p (.list (ns.map .int))] Sto.new = .ok (nD ns.length) Sto.new := by
      show Den.R.ok (D.int ((ns.map PyData.int).length : Nat)) _ = _
      rw [List.length_map]
    by_cases h : place < ns.length
    · refine ⟨ns[place], e_ite_t (S1 := Sto.new) (b_cmp (e_var rfl) (e_op1 (a_1 (e_var rfl)) e1) (p := true) ?_) (e_sub (e_var rfl) (e_var rfl) ?_)⟩
      · show Den.R.ok (decide ((place : Int) < (ns.length : Int))) _ = _
        rw [decide_eq_true (by omega)]
      · have hl : place < (ns.map PyData.int).length := by simpa using h
        show (match (L2.ixN (ns.map PyData.int).length (place : Int)).bind fun j => (ns.map PyData.int)[j]? with | some x => Den.ret (D.p x) | none => Den.fail) Sto.new = _
        rw [ixN_nat hl]
        simp [h, Den.ret]
    · have e2 : ∃ c, (Ex.opF .sum (.cut (.var 0) .no (.so (.int 1)))).den (mkG gls [fo0, fo1, fo2, fo3, fo4, fo5, fo6, fo7, fo8, fo9, fo10, fo11, fo12, fo13, fo14, fo15, fo16, fo17, fo18, fo19, fo20, fo21, fo22, fo23, fo24, fo25, fo26, fo27, fo28, fo29, fo30, fo31, fo32] [F0, F1, F2, F3, F4, F5, F6, F7, F8, F9, F10, F11, F12, F13, F14, F15, F16, F17, F18, F19, F20, F21, F22, F23, F24, F25, F25, F26, F26, F27, F27, F28, F29]) [some (.p (.list (ns.map .int))), some (nD place), none, none, none] Sto.new = .ok (.int c) Sto.new := by
        cases ns with
        | nil => exact ⟨0, rfl⟩
        | cons n ns =>
          refine ⟨n + 0, ?_⟩
          refine e_opF (ds := [.int n]) (S1 := Sto.new) ?_ rfl
          show Den.R.ok (cutL ((PyData.int n :: ns.map PyData.int).map D.p) none (some 1)) Sto.new = _
          have : cutL ((PyData.int n :: ns.map PyData.int).map D.p) none (some 1) = [.int n] := by
            unfold cutL HT.sIx
            simp
          rw [this]
      obtain ⟨c, e2⟩ := e2
      refine ⟨_, e_ite_f (S1 := Sto.new) (b_cmp (e_var rfl) (e_op1 (a_1 (e_var rfl)) e1) (p := false) ?_) (e_bin (e_bin (e_bin (e_op1 (a_1 e2) (int_at _ _)) e_int (mod_at (by decide) _)) (e_bin e_int (e_var rfl) (mul_small (.inl (by decide)) _)) rfl) e_int rfl)⟩
      show Den.R.ok (decide ((place : Int) < (ns.length : Int))) _ = _
      rw [decide_eq_false (by omega)]
  obtain ⟨cell, hcell⟩ := hcell
  have hbool : ∃ z : Int, z.natAbs < 2 ^ 64 ∧ Op1.int.den [.bl (decide ((10 ^ 18 : Int) ≤ (cell.natAbs : Int)))] Sto.new = .ok (.int z) Sto.new := by
    cases decide ((10 ^ 18 : Int) ≤ (cell.natAbs : Int))
    · exact ⟨0, by decide, rfl⟩
    · exact ⟨1, by decide, rfl⟩
  obtain ⟨z, hz, hbool⟩ := hbool
  have r0 := Int.emod_nonneg cell (show (2305843009213693951 : Int) ≠ 0 by decide)
  have r1 := Int.emod_lt_of_pos cell (show (0 : Int) < 2305843009213693951 by decide)
  have key : ∃ d S', F30 [.p (.list (ns.map .int)), nD place] Sto.new = .ok d S' ∧ d = .ref 0 ∧ ∃ a b, S'.objs[0]? = some (potL a b 0) ∧ 0 ≤ b ∧ b < 2 ^ 62 := by
    refine runF_of rfl (s_asg hcell (s_asg (e_bin (e_bin (e_op1 (a_1 (e_op1 (a_1 (e_var rfl)) rfl)) (int_at _ _)) (e_bin (e_bin e_int e_int (pow_at (by decide) (by decide) (small_lt (by decide) (by decide) (by decide)) _)) e_int (pow_at (by decide) (by decide) (small_lt (by decide) (by decide) (by decide)) _)) (mod_at (by decide) _)) (e_op1 (a_1 (e_ofB (b_cmp (e_op1 (a_1 (e_var rfl)) rfl) (e_bin e_int e_int (pow_at (by decide) (by decide) (small_lt (by decide) (by decide) (by decide)) _)) rfl))) hbool) (mul_small (.inr hz) _)) (s_asg (e_bin (e_op1 (a_1 (e_var rfl)) (int_at _ _)) e_int (mod_at (by decide) _)) (s_ret (e_push (l_disp (a_3 (e_var rfl) (e_bin (e_op1 (a_1 (e_bin (e_bin (e_bin (e_var rfl) e_int (mul_small (.inr (by decide)) _)) (e_bin (e_bin e_int (e_var rfl) (mul_small (.inl (by decide)) _)) (e_var rfl) (mul_small (.inr (by simp; omega)) _)) rfl) e_int rfl)) (int_at _ _)) e_int (mod_at (by decide) _)) e_int) (by simp))) ⟨_, rfl, rfl, _, _, rfl, Int.emod_nonneg _ (by decide), ?_⟩))))
    refine Int.lt_trans (Int.emod_lt_of_pos _ (by decide)) (by decide)
  obtain ⟨d, S', e, rfl, a, b, r⟩ := key
  exact ⟨S', a, b, e, r⟩
end K87

namespace K87
open PySem PySem.Spec PyProof.Rows L2 Den
theorem F33_ok (ns : List Int) : ∃ S' k, F33 [.p (.list (ns.map .int)), .int 3] Sto.new = .ok (.ref 0) S' ∧ S'.objs[0]? = some (.lst (rgs 0 k)) ∧ k ≤ 3 := by
  have e1 : lenD [.p (.list (ns.map .int))] Sto.new = .ok (nD ns.length) Sto.new := by
    show Den.R.ok (D.int ((ns.map PyData.int).length : Nat)) _ = _
    rw [List.length_map]
  have hk : max 1 (min 3 (ns.length : Int)) = ((max 1 (min 3 ns.length) : Nat) : Int) := by omega
  have key : ∃ d S', F33 [.p (.list (ns.map .int)), .int 3] Sto.new = .ok d S' ∧ d = .ref 0 ∧ S'.objs[0]? = some (.lst (rgs 0 (max 1 (min 3 ns.length)))) := by
    refine runF_of rfl (s_ret (e_push (l := .rg1 (.op1 .max (.cons (.int 1) (.cons (.op1 .min (.cons (.var 1) (.cons (.op1 .len (.cons (.var 0) .nil)) .nil))) .nil)))) (S1 := Sto.new) (ds := rgs 0 (max 1 (min 3 ns.length))) ?_) ⟨_, rfl, rfl, rfl⟩)
    show lrg1 _ _ _ = _
    unfold lrg1
    have e2 : (Ex.op1 .max (.cons (.int 1) (.cons (.op1 .min (.cons (.var 1) (.cons (.op1 .len (.cons (.var 0) .nil)) .nil))) .nil))).den (mkG gls [fo0, fo1, fo2, fo3, fo4, fo5, fo6, fo7, fo8, fo9, fo10, fo11, fo12, fo13, fo14, fo15, fo16, fo17, fo18, fo19, fo20, fo21, fo22, fo23, fo24, fo25, fo26, fo27, fo28, fo29, fo30, fo31, fo32, fo33, fo34, fo35] [F0, F1, F2, F3, F4, F5, F6, F7, F8, F9, F10, F11, F12, F13, F14, F15, F16, F17, F18, F19, F20, F21, F22, F23, F24, F25, F25, F26, F26, F27, F27, F28, F29, F30, F31, F32]) [some (.p (.list (ns.map .int))), some (.int 3)] Sto.new = .ok (.int (max 1 (min 3 (ns.length : Int)))) Sto.new := e_op1 (a_2 e_int (e_op1 (a_2 (e_var rfl) (e_op1 (a_1 (e_var rfl)) e1)) rfl)) rfl
    erw [bnd_ok e2]
    show rgL 0 (max 1 (min 3 (ns.length : Int))) _ = _
    rw [hk]
    generalize hm : max 1 (min 3 ns.length) = k
    have : k ≤ 3 := by omega
    unfold rgL
    have a1 : (-(2 ^ 62) ≤ (k : Int)) := by omega
    have a2 : ((k : Int) < 2 ^ 62) := by omega
    have a3 : ((k : Int) - 0).toNat = k := by omega
    rw [a3]
    have a4 : k ≤ 2 ^ 24 := by omega
    rw [decide_eq_true a1, decide_eq_true a2, decide_eq_true a4]
    rfl
  obtain ⟨d, S', e, rfl, e2⟩ := key
  exact ⟨S', _, e, e2, by omega⟩
/-! stores with a pot -/
section
variable {base : List O} {l k : Nat} {S : Sto}
theorem PS.nt (h : PS base l k S) : S.nt = false := h.2.1
theorem PS.lt (h : PS base l k S) : l < base.length := h.1
theorem PS.at_ (h : PS base l k S) {j : Nat} (hj : j ≠ l) : S.objs[j]? = base[j]? := by
  obtain ⟨_, _, a, b, c, e, _⟩ := h
  rw [e, List.getElem?_set_ne (fun z => hj z.symm)]
theorem PS.push (h : PS base l k S) (o : O) : PS (base ++ [o]) l k ⟨S.objs ++ [o], S.nt⟩ := by
  obtain ⟨h1, h2, a, b, c, e, r⟩ := h
  refine ⟨by rw [List.length_append]; omega, h2, a, b, c, ?_, r⟩
  show S.objs ++ [o] = _
  rw [e, List.set_append_left _ _ h1]
theorem PS.put (h : PS base l k S) {j : Nat} (hj : j ≠ l) (o : O) : PS (base.set j o) l k ⟨S.objs.set j o, S.nt⟩ := by
  obtain ⟨h1, h2, a, b, c, e, r⟩ := h
  refine ⟨by rw [List.length_set]; exact h1, h2, a, b, c, ?_, r⟩
  show S.objs.set j o = _
  rw [e, List.set_comm _ _ (fun z => hj z.symm)]
theorem PS.cut (h : PS base l k S) {n : Nat} (hn : l < n) (hb : n ≤ base.length) : PS (base.take n) l k ⟨S.objs.take n, false⟩ := by
  obtain ⟨h1, h2, a, b, c, e, r⟩ := h
  refine ⟨by rw [List.length_take]; omega, rfl, a, b, c, ?_, r⟩
  show S.objs.take n = _
  rw [e, List.take_set]
end
theorem pop_at {S : Sto} {l : Nat} {xs : List D} {i : Nat} (h : S.objs[l]? = some (.lst xs)) (hi : i < xs.length) (hx : xs.length < 100000) (hn : S.nt = false) : popI (.ref l) [nD i] S = .ok xs[i] ⟨S.objs.set l (.lst (xs.eraseIdx i)), false⟩ := by
  show Den.bnd (getL l) (fun xs => Den.guardM (decide (-(2 ^ 63) ≤ (i : Int)) && decide ((i : Int) < 2 ^ 63)) (optM (L2.ixN xs.length (i : Int)) fun j => optM xs[j]? fun d => Den.bnd (setL l (xs.eraseIdx j) 0) fun _ => Den.ret d)) S = _
  have a1 : (-(2 ^ 63) ≤ (i : Int)) := by omega
  have a2 : ((i : Int) < 2 ^ 63) := by omega
  rw [bnd_ok (getL_at h), decide_eq_true a1, decide_eq_true a2, ixN_nat hi]
  simp [optM, hi, Den.guardM, Den.bnd, Den.ret, setL, hn]
abbrev G34 : Gm := mkG gls [fo0, fo1, fo2, fo3, fo4, fo5, fo6, fo7, fo8, fo9, fo10, fo11, fo12, fo13, fo14, fo15, fo16, fo17, fo18, fo19, fo20, fo21, fo22, fo23, fo24, fo25, fo26, fo27, fo28, fo29, fo30, fo31, fo32, fo33, fo34, fo35, fo36] [F0, F1, F2, F3, F4, F5, F6, F7, F8, F9, F10, F11, F12, F13, F14, F15, F16, F17, F18, F19, F20, F21, F22, F23, F24, F25, F25, F26, F26, F27, F27, F28, F29, F30, F31, F32, F33]
theorem len_ref {S : Sto} {l : Nat} {xs : List D} (h : S.objs[l]? = some (.lst xs)) : lenD [.ref l] S = .ok (nD xs.length) S := by
  show Den.bnd (getL l) _ S = _
  rw [bnd_ok (getL_at h)]; rfl
theorem ty_lst {S : Sto} {l : Nat} {xs : List D} (h : S.objs[l]? = some (.lst xs)) : tyD S.objs (.ref l) = some "list" := by
  show (match S.objs[l]? with | some (.lst _) => some "list" | some (.dic _) => some "dict" | _ => none) = _
  rw [h]
theorem mxs_n (ns : List Nat) : mxs (ns.map nD) = 0 := by
  have : ns.map nD = (ns.map nP).map D.p := by rw [List.map_map]; rfl
  rw [this]; exact mxs_p _
theorem erase_perm : ∀ (l : List Nat) (i : Nat) (h : i < l.length), (l[i] :: l.eraseIdx i).Perm l
  | x :: l, 0, _ => by simp
  | x :: l, i + 1, h => by
    have := erase_perm l i (by simpa using h)
    simp only [List.getElem_cons_succ, List.eraseIdx_cons_succ]
    exact (List.Perm.swap _ _ _).trans (List.Perm.cons _ this)
theorem erase_map {α β : Type} (f : α → β) : ∀ (l : List α) (i : Nat), (l.map f).eraseIdx i = (l.eraseIdx i).map f
  | [], _ => by simp
  | x :: l, 0 => by simp
  | x :: l, i + 1 => by simp [erase_map f l i]
theorem lst_at {S : Sto} {q : Nat} {xs : List D} (h : S.objs[q]? = some (.lst xs)) : OpL.lst.den1 [.ref q] S = .ok xs S := by
  show Den.bnd (getL q) lstF S = _
  rw [bnd_ok (getL_at h)]; rfl
theorem F34_ok {base : List O} {l k q many : Nat} {S : Sto} {pool : List Nat} (h : PS base l k S) (hq : q ≠ l) (hp : base[q]? = some (.lst (pool.map nD))) (hm : many ≤ pool.length) (hl : pool.length < 100) (hk : k + many < 1000) :
    ∃ d S', F34 [.ref l, .ref q, nD many] S = .ok d S' ∧ d = .ref (base.length + 1) ∧ ∃ found left : List Nat, (found ++ left).Perm pool ∧ found.length = many ∧ PS (base ++ [.lst (left.map nD), .lst (found.map nD)]) l (k + many) S' := by
  have hlt := h.lt
  have hlen := h.len
  have hpS : S.objs[q]? = some (.lst (pool.map nD)) := by rw [h.at_ hq, hp]
  have p1 := h.push (.lst (pool.map nD))
  have p2 := p1.push (.lst [])
  refine runF_of rfl (s_par2 [some (.ref l), some (.ref q), some (nD many), none, some (.ref base.length), some (.ref (base.length + 1))] (S2 := ⟨S.objs ++ [.lst (pool.map nD)] ++ [.lst []], S.nt⟩) (e_push (l_op1 (a_1 (e_var rfl)) (lst_at hpS))) (e_push (l_disp a_nil (by simp))) ?_ ?_)
  · simp [hlen, n34, List.replicate]
  refine s_forC ((List.range many).map nD) (fun i ρ S => ∃ (found left : List Nat) (o3 : Option D), (found ++ left).Perm pool ∧ found.length = i ∧ PS (base ++ [.lst (left.map nD), .lst (found.map nD)]) l (k + i) S ∧ ρ = [some (.ref l), some (.ref q), some (nD many), o3, some (.ref base.length), some (.ref (base.length + 1))]) ?_ ⟨[], pool, none, by simp, rfl, by simpa using p2, rfl⟩ ?_ ?_
  · rw [← rgs0]
    exact con_r1 (f := (Ex.var 2).den G34) (e_var rfl) (by omega)
  · rintro j ρ S hj ⟨found, left, o3, hperm, hfl, hps, rfl⟩
    have hj' : j < many := by simpa using hj
    have hpl := hperm.length_eq
    rw [List.length_append] at hpl
    refine ⟨[some (.ref l), some (.ref q), some (nD many), some (nD j), some (.ref base.length), some (.ref (base.length + 1))], by rw [List.getElem_map, List.getElem_range]; rfl, ?_⟩
    have n1 : base.length ≠ l := by omega
    have n2 : base.length + 1 ≠ l := by omega
    have g1 : S.objs[base.length]? = some (.lst (left.map nD)) := by rw [hps.at_ n1]; exact get_app0 base _ _
    have g2 : S.objs[base.length + 1]? = some (.lst (found.map nD)) := by rw [hps.at_ n2]; exact get_app1 base _ _ _
    obtain ⟨d, S1, e1, d0, d1, hps1⟩ := draw (n := (left.length : Nat)) hps (by omega) (by omega) (by omega)
    obtain ⟨i, rfl⟩ : ∃ i : Nat, d = (i : Int) := ⟨d.toNat, by omega⟩
    have hi : i < left.length := by omega
    have g1' : S1.objs[base.length]? = some (.lst (left.map nD)) := by rw [hps1.at_ n1]; exact get_app0 base _ _
    have e2 := pop_at g1' (i := i) (by simpa using hi) (by simp; omega) hps1.nt
    have hps2 := hps1.put n1 (.lst ((left.map nD).eraseIdx i))
    rw [hps1.nt] at hps2
    have g2' : (S1.objs.set base.length (.lst ((left.map nD).eraseIdx i)))[base.length + 1]? = some (.lst (found.map nD)) := by
      rw [List.getElem?_set_ne (by omega), hps1.at_ n2]; exact get_app1 base _ _ _
    have e3 := app_ok (S := ⟨S1.objs.set base.length (.lst ((left.map nD).eraseIdx i)), false⟩) (l := base.length + 1) (xs := found.map nD) (d := (left.map nD)[i]'(by simpa using hi)) (getL_at g2') (by simp; omega)
    have hps3 := hps2.put n2 (.lst (found.map nD ++ [nD left[i]]))
    have hle : lenD [.ref base.length] S = .ok (.int (left.length : Nat)) S := by
      rw [len_ref g1, List.length_map]
    refine s_ex (e_mt (e_var rfl) (ty_lst g2) (a_1 (e_mt (e_var rfl) (ty_lst g1) (a_1 (e_call (G := G34) (j := 34) rfl (a_2 (e_var rfl) (e_op1 (a_1 (e_var rfl)) hle)) a_nil rfl rfl e1)) e2)) e3) ?_
    refine s_nil ⟨_, rfl, found ++ [left[i]], left.eraseIdx i, _, ?_, by simp [hfl], ?_, rfl⟩
    · refine List.Perm.trans ?_ hperm
      rw [List.append_assoc]
      exact List.Perm.append_left _ (erase_perm left i hi)
    · have hb : ((base ++ [O.lst (left.map nD), O.lst (found.map nD)]).set base.length (.lst ((left.map nD).eraseIdx i))).set (base.length + 1) (.lst (found.map nD ++ [nD left[i]])) = base ++ [.lst ((left.eraseIdx i).map nD), .lst ((found ++ [left[i]]).map nD)] := by
        rw [List.set_append_right _ _ (Nat.le_refl _), List.set_append_right _ _ (by omega)]
        simp [erase_map]
      rw [hb] at hps3
      have : (⟨(S1.objs.set base.length (.lst ((left.map nD).eraseIdx i))).set (base.length + 1) (.lst (found.map nD ++ [nD left[i]])), false⟩ : Sto) = ⟨(S1.objs.set base.length (.lst ((left.map nD).eraseIdx i))).set (base.length + 1) (.lst (found.map nD ++ [(left.map nD)[i]'(by simpa using hi)])), false || decide (base.length + 1 < ((left.map nD)[i]'(by simpa using hi)).mx)⟩ := by
        simp [D.mx]
      rw [← this]
      exact hps3
  · rintro ρ S ⟨found, left, o3, hperm, hfl, hps, rfl⟩
    rw [List.length_map, List.length_range] at hfl hps
    exact s_ret (e_var rfl) ⟨_, rfl, rfl, found, left, hperm, hfl, hps⟩
end K87

namespace K87
open PySem PySem.Spec PyProof.Rows L2 Den
theorem fr34 {base : List O} {l k q many : Nat} {S : Sto} {pool : List Nat} (h : PS base l k S) (hq : q ≠ l) (hp : base[q]? = some (.lst (pool.map nD))) (hm : many ≤ pool.length) (hl : pool.length < 100) (hk : k + many < 1000) :
    ∃ (found left : List Nat) (S' : Sto), frame F34 [.ref l, .ref q, nD many] S = .ok (.ref base.length) S' ∧ (found ++ left).Perm pool ∧ PS (base ++ [.lst (found.map nD)]) l (k + many) S' := by
  obtain ⟨d, S1, e, rfl, found, left, hperm, _, hps⟩ := F34_ok h hq hp hm hl hk
  have hlen := h.len
  have hlt := h.lt
  have hc := hps.cut (n := base.length) hlt (by simp)
  rw [show (base ++ [O.lst (left.map nD), O.lst (found.map nD)]).take base.length = base by simp] at hc
  have hpu := hc.push (.lst (found.map nD))
  refine ⟨found, left, _, ?_, hperm, hpu⟩
  unfold frame
  rw [if_neg (by simp [D.pure]), e]
  have g : S1.objs[base.length + 1]? = some (.lst (found.map nD)) := by
    rw [hps.at_ (by omega)]; exact get_app1 base _ _ _
  show (if S1.nt = false ∧ S.objs.length ≤ base.length + 1 then (match S1.objs[base.length + 1]? with
    | some o => if o.mx ≤ S.objs.length then Den.R.ok (D.ref S.objs.length) ⟨S1.objs.take S.objs.length ++ [o], false⟩ else _
    | none => _) else _) = _
  rw [if_pos ⟨hps.nt, by omega⟩, g]
  dsimp only
  rw [if_pos (by show mxs _ ≤ _; rw [mxs_n]; exact Nat.zero_le _), hlen]
theorem frame_pure {F : List D → M D} {l : Nat} {ds : List D} {base : List O} {l0 k : Nat} {S S' : Sto} {x : PyData} (hS : S.objs.length = base.length) (hl : l0 < base.length) {B : List O} (e : F (.ref l :: ds) S = .ok (.p x) S') (h : PS (base ++ B) l0 k S') : ∃ S2, frame F (.ref l :: ds) S = .ok (.p x) S2 ∧ PS base l0 k S2 := by
  have hc := h.cut (n := base.length) hl (by simp)
  rw [show (base ++ B).take base.length = base by simp] at hc
  refine ⟨_, ?_, hc⟩
  unfold frame
  rw [if_neg (by simp [D.pure]), e]
  show (if S'.nt = false then Den.R.ok (D.p x) ⟨S'.objs.take S.objs.length, false⟩ else _) = _
  rw [if_pos h.nt, hS]
theorem isort_nat (ns : List Nat) : ∃ ms : List Nat, isort (ns.map fun n : Nat => (n : Int)) = ms.map (fun n : Nat => (n : Int)) ∧ ms.Perm ns ∧ ms.Pairwise (· ≤ ·) := by
  have hp : (isort (ns.map fun n : Nat => (n : Int))).Perm (ns.map fun n : Nat => (n : Int)) := List.mergeSort_perm _ _
  have hs : (isort (ns.map fun n : Nat => (n : Int))).Pairwise (fun a b => decide (a ≤ b) = true) := List.pairwise_mergeSort (fun a b c h1 h2 => by simp at *; omega) (fun a b => by simp; omega) _
  refine ⟨(isort (ns.map fun n : Nat => (n : Int))).map Int.toNat, ?_, ?_, ?_⟩
  · rw [List.map_map]
    have : ∀ x ∈ isort (ns.map fun n : Nat => (n : Int)), ((fun n : Nat => (n : Int)) ∘ Int.toNat) x = x := fun x hx => by
      obtain ⟨n, _, rfl⟩ := List.mem_map.mp (hp.mem_iff.mp hx)
      simp
    rw [List.map_congr_left this]; simp
  · have := hp.map Int.toNat
    rw [List.map_map] at this
    simpa [Function.comp_def] using this
  · rw [List.pairwise_map]
    exact hs.imp fun h => by simp at h; omega
theorem sort_nat {ns ms : List Nat} (h : isort (ns.map fun n : Nat => (n : Int)) = ms.map (fun n : Nat => (n : Int))) {S : Sto} {q : Nat} (hq : S.objs[q]? = some (.lst (ns.map nD))) : OpL.sort.den1 [.ref q] S = .ok (ms.map nD) S := by
  show Den.bnd (getL q) sortF S = _
  rw [bnd_ok (getL_at hq)]
  unfold sortF
  rw [ints_nat]
  dsimp only [optM]
  rw [h, List.map_map]
  rfl
theorem asc_of {ms : List Nat} (h : ms.Pairwise (· ≤ ·)) (hn : ms.Nodup) : ms.Pairwise (· < ·) := by
  induction ms with
  | nil => exact .nil
  | cons x xs ih =>
    obtain ⟨h1, h2⟩ := List.pairwise_cons.mp h
    obtain ⟨n1, n2⟩ := List.nodup_cons.mp hn
    refine List.pairwise_cons.mpr ⟨fun y hy => ?_, ih h2 n2⟩
    have := h1 y hy
    have : x ≠ y := fun z => n1 (z ▸ hy)
    omega
theorem rgI_int (i : Int) (k : Int → M (List D)) : rgI (.int i) k = k i := rfl
theorem rgL_ok {n : Nat} (hn : n < 1000) (S : Sto) : rgL 0 (n : Int) S = .ok (rgs 0 n) S := by
  have a1 : (-(2 ^ 62) ≤ (n : Int)) := by omega
  have a2 : ((n : Int) < 2 ^ 62) := by omega
  have a3 : ((n : Int) - 0).toNat = n := by omega
  have a4 : n ≤ 2 ^ 24 := by omega
  unfold rgL
  rw [a3, decide_eq_true a1, decide_eq_true a2, decide_eq_true a4]
  rfl
theorem rg1_ok {f : DE} {ρ : Rho} {S : Sto} {n : Nat} (hf : f ρ S = .ok (nD n) S) (hn : n < 1000) : lrg1 f ρ S = .ok ((List.range n).map nD) S := by
  unfold lrg1
  rw [bnd_ok hf, rgI_int, rgL_ok hn, rgs0]
theorem l_opF2 {G : Gm} {ρ : Rho} {S S1 : Sto} {x : Ex} {o : OpL} {a : D} {es : List D} (h : x.den G ρ S = .ok a S1) (h2 : o.den1 [a] S1 = .ok es S1) : (Lx.op1 o (.cons x .nil)).den G ρ S = .ok es S1 := l_op1 (a_1 h) h2
theorem e_pushN {G : Gm} {ρ : Rho} {S S1 : Sto} {l : Lx} {ds : List D} {n : Nat} (h : l.den G ρ S = .ok ds S1) (hn : S1.objs.length = n) : (Ex.push l).den G ρ S = .ok (.ref n) ⟨S1.objs ++ [.lst ds], S1.nt⟩ := by
  subst hn; exact e_push h
theorem F35_ok {base : List O} {l k many : Nat} {S : Sto} (h : PS base l k S) (hm : many < 50) (hk : k + 60 < 1000) : ∃ lot S', frame F35 [.ref l, nD many] S = .ok (.p (lotD lot)) S' ∧ LotOk lot many ∧ PS base l (k + 51) S' := by
  have hlen := h.len
  have hlt := h.lt
  have p1 := h.push (.lst ((List.range many).map nD))
  have pn : (⟨S.objs ++ [O.lst ((List.range many).map nD)], S.nt⟩ : Sto).nt = false := h.nt
  obtain ⟨d, S1, e1, d0, d1, p2⟩ := draw (n := ((many : Nat) + 1 : Int)) p1 (by omega) (by omega) (by omega)
  obtain ⟨m, rfl⟩ : ∃ i : Nat, d = (i : Int) := ⟨d.toNat, by omega⟩
  obtain ⟨found, left, S2, e2, hperm, p3⟩ := fr34 (q := base.length) (many := m) p2 (by omega) (pool := List.range many) (get_app0 base _ _) (by simp; omega) (by simp; omega) (by omega)
  rw [show (base ++ [O.lst ((List.range many).map nD)]).length = base.length + 1 by simp] at e2
  obtain ⟨ms, hms, hmp, hma⟩ := isort_nat found
  have g3 : S2.objs[base.length + 1]? = some (.lst (found.map nD)) := by
    rw [p3.at_ (by omega), List.append_assoc]; exact get_app1 base _ _ _
  have rg : lrg1 ((Ex.var 1).den G34) [some (.ref l), some (nD many)] S = .ok ((List.range many).map nD) S := rg1_ok (e_var rfl) (by omega)
  have key : F35 [.ref l, nD many] S = .ok (.p (lotD ms)) S2 := by
    refine F_of rfl (s_ret (e_opF (l_opF2 (e_call rfl (a_3 (e_var rfl) (e_pushN (n := base.length) rg hlen) (e_call rfl (a_2 (e_var rfl) (e_bin (e_var rfl) e_int rfl)) a_nil rfl rfl e1)) a_nil rfl rfl e2) (sort_nat hms g3)) (by rw [show ms.map nD = (ms.map nP).map D.p by rw [List.map_map]; rfl]; exact tup_p _ _)) ⟨rfl, rfl⟩)
  have hps : PS (base ++ [O.lst ((List.range many).map nD), .lst (found.map nD)]) l (k + 1 + m) S2 := by
    rw [List.append_assoc] at p3; exact p3
  obtain ⟨S', e, p⟩ := frame_pure hlen hlt key hps
  refine ⟨ms, S', e, ⟨fun i mi => ?_, asc_of hma ?_, ?_⟩, p.mono (by omega)⟩
  · have := hperm.mem_iff.mp (List.mem_append_left left (hmp.mem_iff.mp mi))
    exact List.mem_range.mp this
  · have := hperm.nodup_iff.mpr List.nodup_range
    exact hmp.nodup_iff.mpr (List.nodup_append.mp this).1
  · have := hperm.length_eq
    have h2 := hmp.length_eq
    simp at this
    omega
end K87

namespace K87
open PySem PySem.Spec PyProof.Rows L2 Den
theorem strs_sgn (cs : List Nat) : strsD (cs.map sgn) = some (cs.map fun c => Str.mk #[c]) := by
  unfold strsD
  rw [show cs.map sgn = cs.map fun c => D.p (PyData.str (Str.mk #[c])) from rfl, allP_map]
  show strsOf _ = _
  induction cs with
  | nil => rfl
  | cons c cs ih => simp [strsOf, ih]
theorem str_ext {a b : Str} (h : a.cps.toList = b.cps.toList) : a = b := by
  obtain ⟨a⟩ := a; obtain ⟨b⟩ := b
  simp at h
  rw [h]
theorem join_sgn (cs : List Nat) (h : cs.length < 1000) (S : Sto) : MtF.join.den (.str "") (cs.map sgn) S = .ok (.str (rowS cs)) S := by
  show optM (strsD (cs.map sgn)) (fun ys => Den.guardM (decide ((ys.map (·.length)).sum + ys.length * (Str.length "") ≤ 16777216)) (Den.ret (D.str (Txt.join "" ys)))) S = _
  rw [strs_sgn]
  have e1 : (((cs.map fun c => Str.mk #[c]).map (·.length)).sum + (cs.map fun c => Str.mk #[c]).length * (Str.length "")) ≤ 16777216 := by
    have : ((cs.map fun c => Str.mk #[c]).map (·.length)) = cs.map fun _ => 1 := by rw [List.map_map]; rfl
    rw [this]
    have e : (cs.map fun _ => 1).sum = cs.length := by
      clear this h
      induction cs with
      | nil => rfl
      | cons c cs ih => simp only [List.map_cons, List.sum_cons, ih, List.length_cons]; omega
    rw [e]
    have : Str.length "" = 0 := rfl
    rw [this]; omega
  dsimp only [optM]
  rw [decide_eq_true e1, guardM_t]
  have e2 : Txt.join "" (cs.map fun c => Str.mk #[c]) = rowS cs := by
    refine str_ext ?_
    have : Txt.join "" (cs.map fun c => Str.mk #[c]) = Str.join (Str.mk #[]) (cs.map fun c => Str.mk #[c]) := StrLaws.glued_eq_join _ _
    rw [this, jn]
    rfl
  rw [e2]; rfl
abbrev G40 : Gm := mkG gls [fo0, fo1, fo2, fo3, fo4, fo5, fo6, fo7, fo8, fo9, fo10, fo11, fo12, fo13, fo14, fo15, fo16, fo17, fo18, fo19, fo20, fo21, fo22, fo23, fo24, fo25, fo26, fo27, fo28, fo29, fo30, fo31, fo32, fo33, fo34, fo35, fo36, fo37, fo38, fo39, fo40, fo41, fo42] [F0, F1, F2, F3, F4, F5, F6, F7, F8, F9, F10, F11, F12, F13, F14, F15, F16, F17, F18, F19, F20, F21, F22, F23, F24, F25, F25, F26, F26, F27, F27, F28, F29, F30, F31, F32, F33, F34, F35, F36, F37, F38, F39]
theorem r1_src {f : DE} {ρ : Rho} {S S1 : Sto} {n : Nat} (hf : f ρ S = .ok (nD n) S1) (hn : n < 1000) : itR1 f ρ S = .ok (srcR 0 n) S1 := by
  unfold itR1
  rw [bnd_ok hf]
  have a : -(2 ^ 62) ≤ (n : Int) := by omega
  have b' : (n : Int) < 4611686018427387904 := by omega
  simp [rng1, a, b']
theorem lcS_src {own : List Nat} {t : DT} {c : DB} {e : DE} {sf : DS} {ρ : Rho} {S S1 : Sto} {n : Nat} (hs : sf ρ S = .ok (srcR 0 n) S1) (hn : n < 1000) : lcS own t c e sf ρ S = lcGo t c e (srcR 0 n) (wipeR ρ own) (n + 1) 0 [] S1 := by
  have g : decide ((srcR 0 n).n < sizeLine) = true := decide_eq_true (by show n < 2 ^ 24; omega)
  unfold lcS
  rw [bnd_ok hs, g, guardM_t]
  rfl
theorem row_drawn {base : List O} {l k n : Nat} {S : Sto} {o5 o6 : Option D} {d1 d2 : D} (hk : k + n < 1000) (h : PS base l k S) :
    ∃ cs S', (Ex.mtF .join (.str "") (.lc [6] (.nm 6) .yes (.call 35 (.cons (.var 0) (.cons (.var 3) .nil)) .nil) (.r1 (.var 4)))).den G40 [some (.ref l), some d1, some d2, some (.str "01"), some (nD n), o5, o6] S = .ok (.str (rowS cs)) S' ∧ cs.length = n ∧ (∀ c ∈ cs, Bit c) ∧ PS base l (k + n) S' := by
  obtain ⟨cs, S', e, e2, e3, e4⟩ := bits_go (ρ := [some (.ref l), some d1, some d2, some (.str "01"), some (nD n), o5, none]) (t := (Tg.nm 6).den G40) (e := (Ex.call 35 (.cons (.var 0) (.cons (.var 3) .nil)) .nil).den G40) hk h (fun d S => ⟨_, rfl, by
    funext S'
    generalize hr : frame F32 [.ref l, .str "01"] S' = r
    show callG G40 35 [vS 0, vS 3] [] _ S' = r
    rw [← hr]
    rfl⟩)
  refine ⟨cs, S', e_mtF e_str rfl ?_ (join_sgn cs (by omega) _), e2, e3, e4⟩
  exact (lcS_src (sf := itR1 ((Ex.var 4).den G40)) (r1_src (e_var rfl) (by omega)) (by omega)).trans e
theorem F40_ok {base : List O} {l k : Nat} {S : Sto} (h : PS base l k S) (hk : k < 800) : ∃ T wd S', frame F40 [.ref l, .int 7, .int 4, .str "01"] S = .ok (.p (tabD T)) S' ∧ TabOk T wd ∧ PS base l (k + 30) S' := by
  obtain ⟨d, S1, e1, d0, d1, p1⟩ := draw (n := (4 : Int)) h (by omega) (by omega) (by omega)
  obtain ⟨m, rfl⟩ : ∃ i : Nat, d = (i : Int) := ⟨d.toNat, by omega⟩
  obtain ⟨d, S2, e2, d0', d1', p2⟩ := draw (n := (7 : Int)) p1 (by omega) (by omega) (by omega)
  obtain ⟨n, rfl⟩ : ∃ i : Nat, d = (i : Int) := ⟨d.toNat, by omega⟩
  have go : ∃ ys S', lcGo ((Tg.nm 5).den G40) (Bo.yes.den G40) ((Ex.mtF .join (.str "") (.lc [6] (.nm 6) .yes (.call 35 (.cons (.var 0) (.cons (.var 3) .nil)) .nil) (.r1 (.var 4)))).den G40) (srcR 0 (1 + n)) [some (.ref l), some (.int 7), some (.int 4), some (.str "01"), some (nD (1 + m)), none, none] (1 + n + 1) 0 [] S2 = .ok ys S' ∧
      ∃ T : List (List Nat), ys = T.map (fun r => D.str (rowS r)) ∧ T.length = 1 + n ∧ (∀ r ∈ T, r.length = 1 + m ∧ ∀ c ∈ r, Bit c) ∧ PS base l (k + 2 + (1 + n) * (1 + m)) S' := by
    have := lc_law (t := (Tg.nm 5).den G40) (c := Bo.yes.den G40) (e := (Ex.mtF .join (.str "") (.lc [6] (.nm 6) .yes (.call 35 (.cons (.var 0) (.cons (.var 3) .nil)) .nil) (.r1 (.var 4)))).den G40) (src := srcR 0 (1 + n)) (xs := rgs 0 (1 + n)) (ρ := [some (.ref l), some (.int 7), some (.int 4), some (.str "01"), some (nD (1 + m)), none, none])
      (fun i acc S => ∃ T : List (List Nat), acc = T.map (fun r => D.str (rowS r)) ∧ T.length = i ∧ (∀ r ∈ T, r.length = 1 + m ∧ ∀ c ∈ r, Bit c) ∧ PS base l (k + 2 + i * (1 + m)) S)
      (fun i acc S hi _ => src_rng 0 (1 + n) i S (by simpa [rgs] using hi))
      (fun i acc S hi ⟨T, h1, h2, h3, h4⟩ => by
        have hi' : i < 1 + n := by simpa [rgs] using hi
        have hmul : i * (1 + m) ≤ 7 * 4 := Nat.mul_le_mul (by omega) (by omega)
        obtain ⟨cs, S', e, c1, c2, c3⟩ := row_drawn (d1 := .int 7) (d2 := .int 4) (n := 1 + m) (o5 := some (rgs 0 (1 + n))[i]) (o6 := none) (by omega) h4
        refine ⟨_, S, true, S, rfl, rfl, .inl ⟨rfl, _, S', e, T ++ [cs], by rw [h1]; simp, by simp [h2], ?_, ?_⟩⟩
        · intro r hr
          rcases List.mem_append.mp hr with z | z
          · exact h3 r z
          · rw [List.mem_singleton.mp z]; exact ⟨c1, c2⟩
        · rw [Nat.add_mul, Nat.one_mul, ← Nat.add_assoc]; exact c3)
      (1 + n + 1) 0 [] S2 (Nat.zero_le _) (by simp [rgs]) ⟨[], rfl, rfl, by simp, by simpa using p2⟩
    simpa [rgs] using this
  obtain ⟨ys, S3, e3, T, rfl, t1, t2, p3⟩ := go
  have hmul : (1 + n) * (1 + m) ≤ 7 * 4 := Nat.mul_le_mul (by omega) (by omega)
  have key : F40 [.ref l, .int 7, .int 4, .str "01"] S = .ok (.p (tabD T)) S3 := by
    have e1' : (Ex.bin .Add (.int 1) (.call 34 (.cons (.var 0) (.cons (.var 2) .nil)) .nil)).den G40 [some (.ref l), some (.int 7), some (.int 4), some (.str "01"), none, none, none] S = .ok (nD (1 + m)) S1 := e_bin e_int (e_call rfl (a_2 (e_var rfl) (e_var rfl)) a_nil rfl rfl e1) rfl
    have e2' : (Ex.bin .Add (.int 1) (.call 34 (.cons (.var 0) (.cons (.var 1) .nil)) .nil)).den G40 [some (.ref l), some (.int 7), some (.int 4), some (.str "01"), some (nD (1 + m)), none, none] S1 = .ok (nD (1 + n)) S2 := e_bin e_int (e_call rfl (a_2 (e_var rfl) (e_var rfl)) a_nil rfl rfl e2) rfl
    refine F_of rfl (s_asg e1' (s_ret (e_opF (l := .lc [5] (.nm 5) .yes (.mtF .join (.str "") (.lc [6] (.nm 6) .yes (.call 35 (.cons (.var 0) (.cons (.var 3) .nil)) .nil) (.r1 (.var 4)))) (.r1 (.bin .Add (.int 1) (.call 34 (.cons (.var 0) (.cons (.var 1) .nil)) .nil)))) (ds := T.map fun r => D.str (rowS r)) (S1 := S3) ?_ ?_) ⟨rfl, rfl⟩))
    · exact (lcS_src (own := [5]) (t := (Tg.nm 5).den G40) (c := Bo.yes.den G40) (sf := itR1 ((Ex.bin .Add (.int 1) (.call 34 (.cons (.var 0) (.cons (.var 1) .nil)) .nil)).den G40)) (r1_src e2' (by omega)) (by omega)).trans e3
    · rw [show (T.map fun r => D.str (rowS r)) = (T.map fun r => PyData.str (rowS r)).map D.p by rw [List.map_map]; rfl]
      exact tup_p _ _
  obtain ⟨S', e, p⟩ := frame_pure (B := []) h.len h.lt key (by simpa using p3)
  exact ⟨T, 1 + m, S', e, ⟨by omega, by omega, by omega, by omega, t2⟩, p.mono (by omega)⟩
end K87

namespace K87
/-! plain: how many spreadings there are -/
theorem picks_len (st : Str1) : (picks st).length = bin st.1.length st.2 := by
  have h := picks_count (fun _ => true) st st.2
  have e : numS (fun _ => true) (picks st) = (picks st).map fun _ => st.2 := by
    unfold numS
    refine List.map_congr_left fun o m => ?_
    have := (List.mem_filter.mp m).2
    simp at this
    simp [this]
  rw [e] at h
  have c : ((picks st).map fun _ => st.2).count st.2 = (picks st).length := by
    induction picks st with
    | nil => rfl
    | cons o os ih => simp [ih]
  rw [c] at h
  rw [h]
  unfold gW
  rw [if_pos (Nat.le_refl _)]
  have z : (st.1.countP fun _ => true) = st.1.length := by simp
  rw [z, Nat.sub_self, Nat.sub_self]
  simp [bin_zero]
theorem stepF_len (found : List (List Nat)) (st : Str1) : (stepF found st).length = (picks st).length * found.length := by
  unfold stepF
  induction picks st with
  | nil => simp
  | cons o os ih =>
    simp only [List.map_cons, List.flatten_cons, List.length_append, List.length_map, ih, List.length_cons, Nat.add_mul, Nat.one_mul]
    omega
def cT (n : Nat) : Nat := [1, 1, 2, 3, 6, 10, 20, 35].getD n 0
theorem bin_cT : ((List.range 8).all fun n => (List.range 8).all fun k => decide (bin n k ≤ cT n)) = true := by decide +kernel
theorem cT_mul : ((List.range 8).all fun a => (List.range 8).all fun b => !decide (a + b < 8) || decide (cT a * cT b ≤ cT (a + b))) = true := by decide +kernel
theorem bin_le {n k : Nat} (h : n < 8) (hk : k < 8) : bin n k ≤ cT n := by
  have t := bin_cT
  rw [List.all_eq_true] at t
  have t1 := t n (List.mem_range.mpr h)
  rw [List.all_eq_true] at t1
  simpa using t1 k (List.mem_range.mpr hk)
theorem cT_le {a b : Nat} (h : a + b < 8) : cT a * cT b ≤ cT (a + b) := by
  have t := cT_mul
  rw [List.all_eq_true] at t
  have t1 := t a (List.mem_range.mpr (by omega))
  rw [List.all_eq_true] at t1
  have := t1 b (List.mem_range.mpr (by omega))
  simpa [h] using this
theorem spread_len_go : ∀ (sts : List Str1) (found : List (List Nat)) (n : Nat), found.length ≤ cT n → n + sm (fun st => st.1.length) sts < 8 → (∀ st ∈ sts, st.2 < 8) → (sts.foldl stepF found).length ≤ cT (n + sm (fun st => st.1.length) sts)
  | [], found, n, h, _, _ => by simpa using h
  | st :: sts, found, n, h, hs, hr => by
    rw [sm_cons] at hs
    rw [List.foldl_cons, sm_cons, ← Nat.add_assoc]
    refine spread_len_go sts _ (n + st.1.length) ?_ (by omega) fun x m => hr x (List.mem_cons_of_mem _ m)
    rw [stepF_len, picks_len]
    have h1 : bin st.1.length st.2 ≤ cT st.1.length := bin_le (by omega) (hr st (List.mem_cons_self ..))
    have h2 := cT_le (a := n) (b := st.1.length) (by omega)
    calc bin st.1.length st.2 * found.length ≤ cT st.1.length * cT n := Nat.mul_le_mul h1 h
      _ = cT n * cT st.1.length := Nat.mul_comm _ _
      _ ≤ _ := h2
theorem cT_35 {n : Nat} : cT n ≤ 35 := by
  by_cases h : n < 8
  · have : ∀ n, n < 8 → cT n ≤ 35 := by decide
    exact this n h
  · have : cT n = 0 := by
      unfold cT
      rw [List.getD_eq_getElem?_getD, List.getElem?_eq_none (by simp; omega)]
      rfl
    omega
theorem spread_len (sts : List Str1) (h : sm (fun st => st.1.length) sts < 8) (hr : ∀ st ∈ sts, st.2 < 8) : (spread sts).length ≤ 35 := by
  refine Nat.le_trans (spread_len_go sts [[]] 0 ?_ (by omega) hr) cT_35
  decide
theorem subsS_len : ∀ (ps : List Nat) (f : List (List Nat)), (ps.foldl stepS f).length = f.length * 2 ^ ps.length
  | [], f => by simp
  | p :: ps, f => by
    rw [List.foldl_cons, subsS_len ps]
    simp only [stepS, List.length_append, List.length_map, List.length_cons, Nat.pow_succ]
    rw [← Nat.two_mul, Nat.mul_comm 2, Nat.mul_assoc, Nat.mul_comm 2]
theorem sum_parts (us : List Nat) (hn : us.Nodup) (sums : List Nat) : sm (fun s => ((List.range sums.length).filter fun p => decide (sums.getD p 0 = s)).length) us ≤ sums.length := by
  have e : ∀ s, ((List.range sums.length).filter fun p => decide (sums.getD p 0 = s)).length = sm (fun p => if sums.getD p 0 = s then 1 else 0) (List.range sums.length) := by
    intro s
    induction List.range sums.length with
    | nil => rfl
    | cons p ps ih =>
      rw [List.filter_cons, sm_cons, ← ih]
      by_cases h : sums.getD p 0 = s
      · rw [if_pos (decide_eq_true h), if_pos h, List.length_cons]; omega
      · rw [if_neg (by simpa using h), if_neg h]; omega
  rw [sm_congr fun s _ => e s, sm_swap]
  have b : ∀ p ∈ List.range sums.length, sm (fun s => if sums.getD p 0 = s then 1 else 0) us ≤ 1 := by
    intro p _
    clear e
    induction us with
    | nil => simp
    | cons u us ih =>
      obtain ⟨h1, h2⟩ := List.nodup_cons.mp hn
      rw [sm_cons]
      by_cases h : sums.getD p 0 = u
      · have : sm (fun s => if sums.getD p 0 = s then 1 else 0) us = sm (fun _ => 0) us := sm_congr fun s m => by
          rw [if_neg]; intro z; exact h1 (h ▸ z ▸ m)
        rw [this, sm_zero, if_pos h]; omega
      · rw [if_neg h]
        have := ih h2
        omega
  have : sm (fun p => sm (fun s => if sums.getD p 0 = s then 1 else 0) us) (List.range sums.length) ≤ (List.range sums.length).length := by
    revert b
    generalize List.range sums.length = ps
    intro b
    induction ps with
    | nil => simp
    | cons p ps ih =>
      rw [sm_cons, List.length_cons]
      have := b p (List.mem_cons_self ..)
      have := ih fun q m => b q (List.mem_cons_of_mem _ m)
      omega
  rw [List.length_range] at this
  exact this
end K87

namespace K87
open PySem PySem.Spec PyProof.Rows L2 Den
def oP (o : List Nat) : PyData := lotD o
abbrev oD (o : List Nat) : D := .p (oP o)
theorem mxs_o (os : List (List Nat)) : mxs (os.map oD) = 0 := by
  have : os.map oD = (os.map oP).map D.p := by rw [List.map_map]; rfl
  rw [this]; exact mxs_p _
theorem addO (o p : List Nat) (h : o.length + p.length < 1000) (S : Sto) : binD .Add (oD o) (oD p) S = .ok (oD (o ++ p)) S := by
  show catTup (o.map nP) (p.map nP) S = _
  unfold catTup
  have g : decide ((o.map nP).length + (p.map nP).length ≤ sizeLine) = true := decide_eq_true (by show _ ≤ 2 ^ 24; simp; omega)
  rw [g, guardM_t, ← List.map_append]
  rfl
theorem add_refs {S : Sto} {a b : Nat} {xs ys : List D} (ha : S.objs[a]? = some (.lst xs)) (hb : S.objs[b]? = some (.lst ys)) (h : xs.length + ys.length < 1000000) : binD .Add (.ref a) (.ref b) S = .ok (.ref S.objs.length) ⟨S.objs ++ [.lst (xs ++ ys)], S.nt⟩ := by
  show Den.bnd (getL a) (fun xs => Den.bnd (getL b) fun ys => Den.guardM (decide (xs.length + ys.length ≤ sizeLine)) (Den.push (.lst (xs ++ ys)))) S = _
  have g : decide (xs.length + ys.length ≤ sizeLine) = true := decide_eq_true (by show _ ≤ 2 ^ 24; omega)
  rw [bnd_ok (getL_at ha), bnd_ok (getL_at hb), g]
  rfl
def strsOf1 (T : List (List Nat)) (t s : Nat) : Str1 := (perS (sumsT T) s, ((perS (sumsT T) s).filter fun p => rgtS T t p).length)
def strT (T : List (List Nat)) (t : Nat) : List Str1 := (usN (sumsT T)).map (strsOf1 T t)
abbrev G41 : Gm := mkG gls [fo0, fo1, fo2, fo3, fo4, fo5, fo6, fo7, fo8, fo9, fo10, fo11, fo12, fo13, fo14, fo15, fo16, fo17, fo18, fo19, fo20, fo21, fo22, fo23, fo24, fo25, fo26, fo27, fo28, fo29, fo30, fo31, fo32, fo33, fo34, fo35, fo36, fo37, fo38, fo39, fo40, fo41, fo42, fo43] [F0, F1, F2, F3, F4, F5, F6, F7, F8, F9, F10, F11, F12, F13, F14, F15, F16, F17, F18, F19, F20, F21, F22, F23, F24, F25, F25, F26, F26, F27, F27, F28, F29, F30, F31, F32, F33, F34, F35, F36, F37, F38, F39, F40]
/-- subsets, person by person -/
def b41a : Sxs := (.cons (.asg (.bin .Add (.var 7) (.push (.lc [10] (.nm 10) .yes (.bin .Add (.var 10) (.tup (.cons (.var 8) .nil))) (.b (.e (.var 7)))))) (.nm 7)) .nil)
abbrev rho41 (T : List (List Nat)) (t : Nat) (o : List (Option D)) : Rho := some (.p (tabD T)) :: some (nD t) :: some (.ref 0) :: o
theorem stepS_mem {ps : List Nat} : ∀ o ∈ subsS ps, o.length ≤ ps.length := by
  have go : ∀ (ps : List Nat) (f : List (List Nat)) (n : Nat), (∀ o ∈ f, o.length ≤ n) → ∀ o ∈ ps.foldl stepS f, o.length ≤ n + ps.length := by
    intro ps
    induction ps with
    | nil => intro f n h o m; exact h o m
    | cons p ps ih =>
      intro f n h o m
      rw [List.foldl_cons] at m
      have := ih (stepS f p) (n + 1) (fun q mq => by
        rcases List.mem_append.mp mq with z | z
        · have := h q z; omega
        · obtain ⟨r, mr, rfl⟩ := List.mem_map.mp z
          have := h r mr
          simp; omega) o m
      rw [List.length_cons]; omega
  intro o m
  have := go ps [[]] 0 (by simp) o m
  omega
theorem take_foldl' {α β : Type} (f : β → α → β) (b : β) (xs : List α) (i : Nat) (h : i < xs.length) : (xs.take (i + 1)).foldl f b = f ((xs.take i).foldl f b) xs[i] := by
  rw [List.take_succ_eq_append_getElem h, List.foldl_append]
  rfl
theorem b41_subs {T : List (List Nat)} {t : Nat} {J : List O} {a m : Nat} {ps : List Nat} {d3 d4 d6 o8 o9 o10 o11 o12 : Option D} {rest : Sxs} {Q : Fl → Sto → Prop} (hp : ps.length < 8) (ha : J[a]? = some (.lst (ps.map nD))) (hm : J[m]? = some (.lst [oD []]))
    (k : ∀ (junk : List O) (m' : Nat) (o8 o10 : Option D), (J ++ junk)[m']? = some (.lst ((subsS ps).map oD)) → Runs (rest.den G41) (rho41 T t [d3, d4, some (.ref a), d6, some (.ref m'), o8, o9, o10, o11, o12]) ⟨J ++ junk, false⟩ Q) :
    Runs (Sxs.den G41 (.cons (.fr (.nm 8) (.b (.e (.var 5))) b41a) rest)) (rho41 T t [d3, d4, some (.ref a), d6, some (.ref m), o8, o9, o10, o11, o12]) ⟨J, false⟩ Q := by
  have hal := (List.getElem?_eq_some_iff.mp ha).1
  refine s_forR (ps.map nD) a ⟨J, false⟩ (fun i ρ S => ∃ (junk : List O) (m' : Nat) (o8 o10 : Option D), S = ⟨J ++ junk, false⟩ ∧ (J ++ junk)[m']? = some (.lst (((ps.take i).foldl stepS [[]]).map oD)) ∧ ρ = rho41 T t [d3, d4, some (.ref a), d6, some (.ref m'), o8, o9, o10, o11, o12])
    (e_var rfl) ⟨[], m, o8, o10, by simp, by simpa using hm, rfl⟩ (fun i ρ S ⟨junk, m', o8, o10, e1, e2, e3⟩ => by rw [e1]; show (J ++ junk)[a]? = _; rw [List.getElem?_append_left hal, ha]) ?_ ?_
  · rintro j ρ S hj ⟨junk, m', o8, o10, rfl, e2, rfl⟩
    have hj' : j < ps.length := by simpa using hj
    rw [take_foldl' stepS _ ps j hj']
    have hln := subsS_len (ps.take j) [[]]
    have h2 : 2 ^ (ps.take j).length ≤ 2 ^ 7 := Nat.pow_le_pow_right (by decide) (by rw [List.length_take]; omega)
    have hol := stepS_mem (ps := ps.take j)
    have hol : ∀ o ∈ (ps.take j).foldl stepS [[]], o.length ≤ 7 := fun o mo => Nat.le_trans (hol o mo) (by rw [List.length_take]; omega)
    generalize (ps.take j).foldl stepS [[]] = f at *
    have hfl : f.length ≤ 128 := by rw [hln]; simpa using h2
    refine ⟨rho41 T t [d3, d4, some (.ref a), d6, some (.ref m'), some (nD ps[j]), o9, o10, o11, o12], by rw [List.getElem_map]; rfl, ?_⟩
    have hml := (List.getElem?_eq_some_iff.mp e2).1
    have g1 : (J ++ junk ++ [O.lst ((f.map fun o => o ++ [ps[j]]).map oD)])[m']? = some (.lst (f.map oD)) := by rw [List.getElem?_append_left hml, e2]
    have g2 := get_app0 (J ++ junk) (O.lst ((f.map fun o => o ++ [ps[j]]).map oD)) []
    have e := add_refs (S := ⟨J ++ junk ++ [O.lst ((f.map fun o => o ++ [ps[j]]).map oD)], false⟩) g1 g2 (by simp; omega)
    refine s_asgN (.ref (J ++ junk ++ [O.lst ((f.map fun o => o ++ [ps[j]]).map oD)]).length) _ _ (e_bin (e_var rfl) (e_push (S1 := ⟨J ++ junk, false⟩) (ds := (f.map fun o => o ++ [ps[j]]).map oD) (l := .lc [10] (.nm 10) .yes (.bin .Add (.var 10) (.tup (.cons (.var 8) .nil))) (.b (.e (.var 7)))) ?_) e) rfl (s_nil ⟨_, rfl, junk ++ [O.lst ((f.map fun o => o ++ [ps[j]]).map oD), O.lst (f.map oD ++ (f.map fun o => o ++ [ps[j]]).map oD)], _, _, _, ?_, ?_, rfl⟩)
    · rw [List.map_map]
      refine l_lc0 f oD _ (reads_ref (l := m') rfl e2) (by omega) fun o mo => ?_
      refine e_bin (e_var rfl) (e_tup (ps := [nP ps[j]]) (a_1 (e_var rfl)) (by simp)) (addO o [ps[j]] ?_ _)
      have := hol o mo
      simp; omega
    · simp
    · have := get_app0 (J ++ junk ++ [O.lst ((f.map fun o => o ++ [ps[j]]).map oD)]) (O.lst (f.map oD ++ (f.map fun o => o ++ [ps[j]]).map oD)) []
      rw [← List.map_append] at this ⊢
      simp only [List.append_assoc, List.cons_append, List.nil_append] at this ⊢
      exact this
  · rintro ρ S ⟨junk, m', o8, o10, rfl, e2, rfl⟩
    rw [List.length_map, List.take_length] at e2
    exact k junk m' o8 o10 e2
/-- all longer ones -/
def b41b : Sxs := (.cons (.ex (.mtF .ext (.var 9) (.lc [12] (.nm 12) .yes (.bin .Add (.var 12) (.var 10)) (.b (.e (.var 3)))))) .nil)
theorem b41_ext {T : List (List Nat)} {t : Nat} {B : List O} {f m : Nat} {found : List (List Nat)} {st : Str1} {d4 d5 d8 o10 o11 o12 : Option D} {rest : Sxs} {Q : Fl → Sto → Prop} (hp : st.1.length < 8) (hf : B[f]? = some (.lst (found.map oD))) (hm : B[m]? = some (.lst ((subsS st.1).map oD))) (hfl : found.length ≤ 35) (hfo : ∀ o ∈ found, o.length < 100)
    (hlen : (stepF found st).length ≤ 35)
    (k : ∀ o10, Runs (rest.den G41) (rho41 T t [some (.ref f), d4, d5, some (nD st.2), some (.ref m), d8, some (.ref B.length), o10, o11, o12]) ⟨B ++ [.lst ((stepF found st).map oD)], false⟩ Q) :
    Runs (Sxs.den G41 (.cons (.fr (.nm 10) (.b (.l (.lc [10] (.nm 10) (.so (.cmp .Eq (.op1 .len (.cons (.var 10) .nil)) (.var 6))) (.var 10) (.b (.e (.var 7)))))) b41b) rest)) (rho41 T t [some (.ref f), d4, d5, some (nD st.2), some (.ref m), d8, some (.ref B.length), o10, o11, o12]) ⟨B ++ [.lst []], false⟩ Q := by
  have hfl' := (List.getElem?_eq_some_iff.mp hf).1
  have hml' := (List.getElem?_eq_some_iff.mp hm).1
  have hsl : (subsS st.1).length ≤ 128 := by
    have := subsS_len st.1 [[]]
    have h2 : 2 ^ st.1.length ≤ 2 ^ 7 := Nat.pow_le_pow_right (by decide) (by omega)
    have e : subsS st.1 = st.1.foldl stepS [[]] := rfl
    rw [e, this]; simpa using h2
  have hol := stepS_mem (ps := st.1)
  refine s_forC ((picks st).map oD) (fun i ρ S => (∃ o10, ρ = rho41 T t [some (.ref f), d4, d5, some (nD st.2), some (.ref m), d8, some (.ref B.length), o10, o11, o12]) ∧ S = ⟨B ++ [.lst (((((picks st).take i).map fun o => found.map (· ++ o)).flatten).map oD)], false⟩) ?_ ⟨⟨_, rfl⟩, rfl⟩ ?_ ?_
  · refine con_con (f := (Lx.lc [10] (.nm 10) (.so (.cmp .Eq (.op1 .len (.cons (.var 10) .nil)) (.var 6))) (.var 10) (.b (.e (.var 7)))).den G41) ?_
    refine l_lc1 (subsS st.1) oD (fun o => decide (o.length = st.2)) oD (reads_ref (l := m) rfl ?_) (by omega) ?_ ?_
    · show (B ++ [O.lst []])[m]? = _
      rw [List.getElem?_append_left hml', hm]
    · intro o mo
      refine b_cmp (e_op1 (a_1 (e_var rfl)) (at_ret (len_tup (o.map nP)) _)) (e_var rfl) ?_
      show eqD (nD (o.map nP).length) (nD st.2) _ = _
      rw [eq_int, List.length_map]
      simp [Den.ret, nat_int]
    · intro o mo _
      exact e_var rfl
  · rintro j ρ S hj ⟨⟨o10, rfl⟩, rfl⟩
    have hj' : j < (picks st).length := by simpa using hj
    have mo : (picks st)[j] ∈ subsS st.1 := (List.mem_filter.mp (List.getElem_mem hj')).1
    have ho := hol _ mo
    refine ⟨rho41 T t [some (.ref f), d4, d5, some (nD st.2), some (.ref m), d8, some (.ref B.length), some (oD (picks st)[j]), o11, o12], by rw [List.getElem_map]; rfl, ?_⟩
    have hcur : ((((picks st).take j).map fun o => found.map (· ++ o)).flatten).length ≤ 128 * 35 := by
      have e : ∀ xs : List (List Nat), ((xs.map fun o => found.map (· ++ o)).flatten).length = xs.length * found.length := by
        intro xs
        induction xs with
        | nil => simp
        | cons x xs ih => simp only [List.map_cons, List.flatten_cons, List.length_append, List.length_map, ih, List.length_cons, Nat.add_mul]; omega
      rw [e]
      refine Nat.mul_le_mul ?_ hfl
      rw [List.length_take]
      have := List.length_filter_le (fun o : List Nat => decide (o.length = st.2)) (subsS st.1)
      have : (picks st).length ≤ (subsS st.1).length := this
      omega
    rw [List.take_succ_eq_append_getElem hj', List.map_append, List.flatten_append]
    generalize (((picks st).take j).map fun o => found.map (· ++ o)).flatten = cur at *
    generalize (picks st)[j] = o at *
    have g := get_app0 B (O.lst (cur.map oD)) []
    have e := ext_ok (S := ⟨B ++ [.lst (cur.map oD)], false⟩) (l := B.length) (xs := cur.map oD) (ds := (found.map fun x => x ++ o).map oD) (getL_at g) (by simp; omega)
    refine s_ex (e_mtF (e_var rfl) (ty_lst g) ?_ e) (s_nil ⟨_, rfl, ⟨_, rfl⟩, ?_⟩)
    · rw [List.map_map]
      refine l_lc0 found oD _ (reads_ref (l := f) rfl ?_) (by omega) fun x mx => ?_
      · show (B ++ [O.lst (cur.map oD)])[f]? = _
        rw [List.getElem?_append_left hfl', hf]
      · exact e_bin (e_var rfl) (e_var rfl) (addO x o (by have := hfo x mx; omega) _)
    · show (⟨(B ++ [O.lst (cur.map oD)]).set B.length (.lst (cur.map oD ++ (found.map fun x => x ++ o).map oD)), false || decide (B.length < mxs ((found.map fun x => x ++ o).map oD))⟩ : Sto) = _
      rw [mxs_o]
      simp
  · rintro ρ S ⟨⟨o10, rfl⟩, rfl⟩
    rw [List.length_map, List.take_length]
    exact k o10
end K87

namespace K87
open PySem PySem.Spec PyProof.Rows L2 Den
theorem l_sset {G : Gm} {ρ : Rho} {S : Sto} {x : Ex} {l : Nat} {ns : List Nat} (hx : x.den G ρ S = .ok (.ref l) S) (h : S.objs[l]? = some (.lst (ns.map nD))) (hn : ns.length < 60) : (Lx.sset x).den G ρ S = .ok ((usN ns).map nD) S := by
  show Den.bnd (x.den G ρ) (fun d => lstOp ssortF [d]) S = _
  rw [bnd_ok hx]
  show Den.bnd (getL l) ssortF S = _
  rw [bnd_ok (getL_at h), ssort_nat ns hn S]
theorem sm_take_le {α : Type} (f : α → Nat) (xs : List α) (i : Nat) : sm f (xs.take i) ≤ sm f xs := by
  have : sm f (xs.take i ++ xs.drop i) = sm f xs := by rw [List.take_append_drop]
  rw [sm_append] at this
  omega
theorem spread_mem : ∀ (sts : List Str1) (f : List (List Nat)) (n : Nat), (∀ o ∈ f, o.length ≤ n) → ∀ o ∈ sts.foldl stepF f, o.length ≤ n + sm (fun st => st.1.length) sts
  | [], f, n, h, o, m => by have := h o m; simpa using this
  | st :: sts, f, n, h, o, m => by
    rw [List.foldl_cons] at m
    have := spread_mem sts (stepF f st) (n + st.1.length) (fun q mq => by
      obtain ⟨l, ml, mq⟩ := List.mem_flatten.mp mq
      obtain ⟨p, mp, rfl⟩ := List.mem_map.mp ml
      obtain ⟨r, mr, rfl⟩ := List.mem_map.mp mq
      have a := h r mr
      have b := stepS_mem p (List.mem_filter.mp mp).1
      rw [List.length_append]; omega) o m
    rw [sm_cons]; omega
theorem usN_nodup (ns : List Nat) : (usN ns).Nodup := (usN_lt ns).imp fun h => by omega
theorem strT_sum {T : List (List Nat)} {wd : Nat} (h : TabOk T wd) (t : Nat) : sm (fun st : Str1 => st.1.length) (strT T t) < 8 := by
  have := sum_parts (usN (sumsT T)) (usN_nodup _) (sumsT T)
  have e : sm (fun st : Str1 => st.1.length) (strT T t) = sm (fun s => ((List.range (sumsT T).length).filter fun p => decide ((sumsT T).getD p 0 = s)).length) (usN (sumsT T)) := by
    unfold strT
    rw [sm_map]; rfl
  rw [e]
  have hl : (sumsT T).length = T.length := by simp [sumsT]
  have := h.n1
  omega
theorem perS_len (T : List (List Nat)) (s : Nat) : (perS (sumsT T) s).length ≤ T.length := by
  refine Nat.le_trans (List.length_filter_le _ _) ?_
  simp [sumsT]
theorem strT_lt {T : List (List Nat)} {wd : Nat} (h : TabOk T wd) (t : Nat) : ∀ st ∈ strT T t, st.2 < 8 := by
  intro st m
  obtain ⟨s, hs, rfl⟩ := List.mem_map.mp m
  have := perS_len T s
  have : ((perS (sumsT T) s).filter fun p => rgtS T t p).length ≤ (perS (sumsT T) s).length := List.length_filter_le _ _
  have := h.n1
  show ((perS (sumsT T) s).filter fun p => rgtS T t p).length < 8
  omega
theorem F41_ok {T : List (List Nat)} {wd t : Nat} (h : TabOk T wd) (ht : t < wd) : ∃ d S', F41 [.p (tabD T), nD t] Sto.new = .ok d S' ∧ ∃ l, d = .ref l ∧ S'.objs[l]? = some (.lst ((spread (strT T t)).map oD)) := by
  have hT7 := h.n1
  have hs : (T.map fun r => nD (r.count 49)) = (sumsT T).map nD := by simp [sumsT]
  have hl : (sumsT T).length = T.length := by simp [sumsT]
  have l0 := len_tup (T.map fun r => PyData.str (rowS r))
  rw [List.length_map] at l0
  refine runF_of rfl (s_push ((sumsT T).map nD) 0 [some (.p (tabD T)), some (nD t), some (.ref 0), none, none, none, none, none, none, none, none, none, none] ⟨[.lst ((sumsT T).map nD)], false⟩ ?_ rfl rfl rfl ?_)
  · rw [← hs]
    refine l_lc0 T (fun r => .str (rowS r)) _ (reads_tab rfl) (by omega) fun r m => ?_
    exact e_mt (e_var rfl) rfl (a_1 e_str) (at_ret (scnt1 r) _)
  refine s_push [oD []] 1 [some (.p (tabD T)), some (nD t), some (.ref 0), some (.ref 1), none, none, none, none, none, none, none, none, none] ⟨[.lst ((sumsT T).map nD), .lst [oD []]], false⟩ (l_disp (a_1 (e_tup (ps := []) a_nil (by simp))) (by simp)) rfl rfl rfl ?_
  refine s_for_con ((usN (sumsT T)).map nD) (fun i ρ S => ∃ (J : List O) (f : Nat) (o4 o5 o6 o7 o8 o9 o10 o11 o12 : Option D), S = ⟨J, false⟩ ∧ J[0]? = some (.lst ((sumsT T).map nD)) ∧ J[f]? = some (.lst ((((strT T t).take i).foldl stepF [[]]).map oD)) ∧ ρ = rho41 T t [some (.ref f), o4, o5, o6, o7, o8, o9, o10, o11, o12]) ?_ ⟨_, 1, none, none, none, none, none, none, none, none, none, rfl, rfl, rfl, rfl⟩ ?_ ?_
  · exact l_sset (l := 0) (e_var rfl) rfl (by omega)
  · rintro i ρ S hi ⟨J, f, o4, o5, o6, o7, o8, o9, o10, o11, o12, rfl, hJ0, hJf, rfl⟩
    have hi' : i < (usN (sumsT T)).length := by simpa using hi
    have hi2 : i < (strT T t).length := by simpa [strT] using hi'
    have hsum := strT_sum h t
    have hst : (strT T t)[i] = strsOf1 T t (usN (sumsT T))[i] := by simp [strT]
    have hmem := List.getElem_mem hi2
    have htl := sm_take_le (fun st : Str1 => st.1.length) (strT T t) i
    have htl1 := sm_take_le (fun st : Str1 => st.1.length) (strT T t) (i + 1)
    have hfl := spread_len ((strT T t).take i) (by omega) fun st m => strT_lt h t st (List.mem_of_mem_take m)
    have hfl1 := spread_len ((strT T t).take (i + 1)) (by omega) fun st m => strT_lt h t st (List.mem_of_mem_take m)
    have hfo := spread_mem ((strT T t).take i) [[]] 0 (by simp)
    have hfold : spread ((strT T t).take (i + 1)) = stepF (spread ((strT T t).take i)) (strsOf1 T t (usN (sumsT T))[i]) := by
      unfold spread
      rw [take_foldl' stepF _ _ i hi2, hst]
    have hfold' : ((strT T t).take (i + 1)).foldl stepF [[]] = stepF (spread ((strT T t).take i)) (strsOf1 T t (usN (sumsT T))[i]) := hfold
    have hsp : ((strT T t).take i).foldl stepF [[]] = spread ((strT T t).take i) := rfl
    rw [hfold'] ; rw [hfold] at hfl1; rw [hsp] at hJf hfo
    generalize spread ((strT T t).take i) = found at *
    rw [List.getElem_map]
    generalize (usN (sumsT T))[i] = s at *
    have hp : ∀ p ∈ perS (sumsT T) s, p < T.length := fun p m => by
      have := (List.mem_filter.mp m).1
      rw [List.mem_range, hl] at this; exact this
    have hpl := perS_len T s
    have hJf' := (List.getElem?_eq_some_iff.mp hJf).1
    have hJ0' := (List.getElem?_eq_some_iff.mp hJ0).1
    -- persons
    refine s_push ((perS (sumsT T) s).map nD) J.length (rho41 T t [some (.ref f), some (nD s), some (.ref J.length), o6, o7, o8, o9, o10, o11, o12]) ⟨J ++ [.lst ((perS (sumsT T) s).map nD)], false⟩ (l_lc1 (List.range T.length) nD (fun p => decide ((sumsT T).getD p 0 = s)) nD ?_ (by simp; omega) ?_ ?_ |> fun z => by rw [show perS (sumsT T) s = (List.range T.length).filter fun p => decide ((sumsT T).getD p 0 = s) by unfold perS; rw [hl]]; exact z) rfl rfl rfl ?_
    · rw [← rgs0]
      exact (con_r1 (n := T.length) (f := (Ex.op1 .len (.cons (.var 0) .nil)).den G41) (e_op1 (ds := [.p (tabD T)]) (a_1 (e_var rfl)) (at_ret l0 _)) (by omega)).reads
    · intro p m
      have hpT : p < T.length := List.mem_range.mp m
      refine b_cmp (e_sub (e_var rfl) (e_var rfl) (c := nD ((sumsT T).getD p 0)) (S3 := ⟨J, false⟩) ?_) (e_var rfl) ?_
      · have hix : p < ((sumsT T).map nD).length := by simp [hl]; exact hpT
        show (match (J : List O)[0]? with
          | some (.lst xs) => (match (L2.ixN xs.length (p : Int)).bind fun j => xs[j]? with
            | some x => Den.R.ok x ⟨J, false⟩
            | none => .bad)
          | _ => .bad) = _
        rw [hJ0]
        dsimp only
        rw [ixN_nat hix]
        simp [hl, hpT]
      · show eqD (nD _) (nD s) _ = _
        rw [eq_int]
        simp [Den.ret, nat_int]
    · intro p _ _
      exact e_var rfl
    have hst2 : strsOf1 T t s = (perS (sumsT T) s, ((perS (sumsT T) s).filter fun p => rgtS T t p).length) := rfl
    have gP := get_app0 J (O.lst ((perS (sumsT T) s).map nD)) []
    -- right
    refine s_asgN (nD (strsOf1 T t s).2) (rho41 T t [some (.ref f), some (nD s), some (.ref J.length), some (nD (strsOf1 T t s).2), o7, o8, o9, o10, o11, o12]) ⟨J ++ [.lst ((perS (sumsT T) s).map nD)], false⟩ (e_opF (l_lc1 (perS (sumsT T) s) nD (fun p => rgtS T t p) nD (reads_ref (l := J.length) rfl gP) (by omega) ?_ ?_) ?_) rfl ?_
    · intro p m
      exact b_cmp (e_sub (e_sub (e_var rfl) (e_var rfl) (at_ret (sub_tab (hp p m)) _)) (e_var rfl) (sub_cell h ht (hp p m) _)) e_str (cell_eq _)
    · intro p _ _
      exact e_var rfl
    · show Den.R.ok (D.int ((_ : List D).length : Nat)) _ = _
      rw [List.length_map]; rfl
    -- some
    refine s_push [oD []] (J.length + 1) (rho41 T t [some (.ref f), some (nD s), some (.ref J.length), some (nD (strsOf1 T t s).2), some (.ref (J.length + 1)), o8, o9, o10, o11, o12]) ⟨J ++ [.lst ((perS (sumsT T) s).map nD), .lst [oD []]], false⟩ (l_disp (a_1 (e_tup (ps := []) a_nil (by simp))) (by simp)) (by simp) rfl (by simp) ?_
    refine b41_subs (J := J ++ [.lst ((perS (sumsT T) s).map nD), .lst [oD []]]) (a := J.length) (m := J.length + 1) (ps := perS (sumsT T) s) (by omega) (get_app0 J _ _) (get_app1 J _ _ _) ?_
    intro junk m o8 o10 hm
    have hfB : (J ++ [O.lst ((perS (sumsT T) s).map nD), .lst [oD []]] ++ junk)[f]? = some (.lst (found.map oD)) := by
      rw [List.append_assoc, List.getElem?_append_left hJf', hJf]
    have h0B : (J ++ [O.lst ((perS (sumsT T) s).map nD), .lst [oD []]] ++ junk)[0]? = some (.lst ((sumsT T).map nD)) := by
      rw [List.append_assoc, List.getElem?_append_left hJ0', hJ0]
    generalize J ++ [O.lst ((perS (sumsT T) s).map nD), .lst [oD []]] ++ junk = B at *
    -- longer
    refine s_push [] B.length (rho41 T t [some (.ref f), some (nD s), some (.ref J.length), some (nD (strsOf1 T t s).2), some (.ref m), o8, some (.ref B.length), o10, o11, o12]) ⟨B ++ [.lst []], false⟩ (l_disp a_nil (by simp)) rfl rfl rfl ?_
    refine b41_ext (st := strsOf1 T t s) (B := B) (f := f) (m := m) (found := found) (by rw [hst2]; show (perS (sumsT T) s).length < 8; omega) hfB hm hfl (fun o mo => by have := hfo o mo; omega) hfl1 ?_
    intro o10
    have hfl' := (List.getElem?_eq_some_iff.mp h0B).1
    refine s_asgN (.ref B.length) _ _ (e_var rfl) rfl (s_nil ⟨_, rfl, _, B.length, _, _, _, _, _, _, _, _, _, rfl, ?_, get_app0 B _ _, rfl⟩)
    rw [List.getElem?_append_left hfl', h0B]
  · rintro ρ S ⟨J, f, o4, o5, o6, o7, o8, o9, o10, o11, o12, rfl, hJ0, hJf, rfl⟩
    rw [List.length_map] at hJf
    have : (strT T t).length = (usN (sumsT T)).length := by simp [strT]
    rw [← this, List.take_length] at hJf
    exact s_ret (e_var rfl) ⟨_, rfl, f, rfl, hJf⟩
end K87

namespace K87
/-! plain: shares, the lot of all others, shares no oftener than they say -/
theorem filter_sm {α : Type} (p : α → Bool) (xs : List α) : (xs.filter p).length = sm (fun x => if p x = true then 1 else 0) xs := by
  induction xs with
  | nil => rfl
  | cons x xs ih =>
    rw [List.filter_cons, sm_cons, ← ih]
    cases h : p x <;> simp <;> omega
theorem whole_dict {K : Kv} {ns : List Nat} (h : DictOk K fun k => ns.count k) : sm (fun p : Nat × Nat => p.2) K = ns.length := by
  have e := sm_dict (fun _ => 1) K ns h
  simp only [Nat.mul_one] at e
  rw [e]
  induction ns with
  | nil => rfl
  | cons n ns ih => 
    have : ∀ l : List Nat, sm (fun _ => 1) l = l.length := by
      intro l
      induction l with
      | nil => rfl
      | cons a l ih => rw [sm_cons, ih, List.length_cons]; omega
    exact this _
theorem some_dict {K : Kv} {ns : List Nat} (h : DictOk K fun k => ns.count k) (q : Nat → Bool) : sm (fun p : Nat × Nat => p.2) (K.filter fun p => q p.1) = (ns.filter q).length := by
  have e := sm_dict (fun k => if q k = true then 1 else 0) K ns h
  rw [filter_sm, ← e]
  induction K with
  | nil => rfl
  | cons p K ih =>
    have gen : ∀ K : Kv, sm (fun p : Nat × Nat => p.2) (K.filter fun p => q p.1) = sm (fun p => p.2 * if q p.1 = true then 1 else 0) K := by
      intro K
      induction K with
      | nil => rfl
      | cons p K ih =>
        rw [List.filter_cons, sm_cons, ← ih]
        cases q p.1 <;> simp
    exact gen _
/-- shares are no oftener than they say -/
theorem far_law (ns : List Nat) (fn fd : Nat) : (ns.filter fun x => decide ((ns.filter fun y => decide (x ≤ y)).length * fd ≤ fn * ns.length)).length * fd ≤ fn * ns.length := by
  generalize hq : (fun x => decide ((ns.filter fun y => decide (x ≤ y)).length * fd ≤ fn * ns.length)) = q
  by_cases h : ns.filter q = []
  · rw [h]; simp
  · obtain ⟨x, hx, hmin⟩ : ∃ x, x ∈ ns.filter q ∧ ∀ y ∈ ns.filter q, x ≤ y := by
      generalize ns.filter q = l at h
      induction l with
      | nil => exact absurd rfl h
      | cons a l ih =>
        by_cases hl : l = []
        · exact ⟨a, by simp, by simp [hl]⟩
        · obtain ⟨x, m, hm⟩ := ih hl
          by_cases hax : a ≤ x
          · exact ⟨a, by simp, fun y hy => by
              rcases List.mem_cons.mp hy with z | z
              · omega
              · have := hm y z; omega⟩
          · exact ⟨x, List.mem_cons_of_mem _ m, fun y hy => by
              rcases List.mem_cons.mp hy with z | z
              · omega
              · exact hm y z⟩
    have hxq := (List.mem_filter.mp hx).2
    rw [← hq] at hxq
    have hxq := of_decide_eq_true hxq
    have hle : (ns.filter q).length ≤ (ns.filter fun y => decide (x ≤ y)).length := by
      have e : ns.filter q = (ns.filter fun y => decide (x ≤ y)).filter q := by
        rw [List.filter_filter]
        refine List.filter_congr fun y my => ?_
        cases hy : q y with
        | false => rfl
        | true =>
          have := hmin y (List.mem_filter.mpr ⟨my, hy⟩)
          simp [this]
      rw [e]
      exact List.length_filter_le _ _
    exact Nat.le_trans (Nat.mul_le_mul_right _ hle) hxq
/-- numbers of the others -/
theorem compl_more (ns : List Nat) (R here : Nat) (h : ∀ x ∈ ns, x ≤ R) (hh : here ≤ R) : ((ns.map fun x => R - x).filter fun x => decide (R - here ≤ x)).length = (ns.filter fun x => decide (x ≤ here)).length := by
  rw [filter_sm, filter_sm, sm_map]
  refine sm_congr fun x m => ?_
  have := h x m
  by_cases z : x ≤ here
  · have : R - here ≤ R - x := by omega
    simp [z, this]
  · have : ¬ R - here ≤ R - x := by omega
    simp [z, this]
theorem compl_less (ns : List Nat) (R here : Nat) (h : ∀ x ∈ ns, x ≤ R) (hh : here ≤ R) : ((ns.map fun x => R - x).filter fun x => decide (x ≤ R - here)).length = (ns.filter fun x => decide (here ≤ x)).length := by
  rw [filter_sm, filter_sm, sm_map]
  refine sm_congr fun x m => ?_
  have := h x m
  by_cases z : here ≤ x
  · have : R - x ≤ R - here := by omega
    simp [z, this]
  · have : ¬ R - x ≤ R - here := by omega
    simp [z, this]
/-- each spreading: its persons, how many -/
theorem subs_sub (ps : List Nat) : ∀ o ∈ subsS ps, ∀ p ∈ o, p ∈ ps := by
  have go : ∀ (ps : List Nat) (f : List (List Nat)) (A : List Nat), (∀ o ∈ f, ∀ p ∈ o, p ∈ A) → ∀ o ∈ ps.foldl stepS f, ∀ p ∈ o, p ∈ A ++ ps := by
    intro ps
    induction ps with
    | nil => intro f A h o m p mp; simpa using h o m p mp
    | cons q ps ih =>
      intro f A h o m p mp
      rw [List.foldl_cons] at m
      have := ih (stepS f q) (A ++ [q]) (fun r mr x mx => by
        rcases List.mem_append.mp mr with z | z
        · exact List.mem_append_left _ (h r z x mx)
        · obtain ⟨r', mr', rfl⟩ := List.mem_map.mp z
          rcases List.mem_append.mp mx with w | w
          · exact List.mem_append_left _ (h r' mr' x w)
          · exact List.mem_append_right _ w) o m p mp
      simpa using this
  intro o m p mp
  have := go ps [[]] [] (by simp) o m p mp
  simpa using this
theorem spread_info : ∀ (sts : List Str1) (f : List (List Nat)) (n N : Nat), (∀ o ∈ f, o.length = n ∧ ∀ p ∈ o, p < N) → (∀ st ∈ sts, ∀ p ∈ st.1, p < N) → ∀ o ∈ sts.foldl stepF f, o.length = n + sm (fun st => st.2) sts ∧ ∀ p ∈ o, p < N
  | [], f, n, N, h, _, o, m => by have := h o m; simpa using this
  | st :: sts, f, n, N, h, hs, o, m => by
    rw [List.foldl_cons] at m
    have := spread_info sts (stepF f st) (n + st.2) N (fun q mq => by
      obtain ⟨l, ml, mq⟩ := List.mem_flatten.mp mq
      obtain ⟨p, mp, rfl⟩ := List.mem_map.mp ml
      obtain ⟨r, mr, rfl⟩ := List.mem_map.mp mq
      obtain ⟨a1, a2⟩ := h r mr
      obtain ⟨b1, b2⟩ := List.mem_filter.mp mp
      have b2 := of_decide_eq_true b2
      refine ⟨by rw [List.length_append]; omega, fun x mx => ?_⟩
      rcases List.mem_append.mp mx with z | z
      · exact a2 x z
      · exact hs st (List.mem_cons_self ..) x (subs_sub st.1 p b1 x z)) (fun x mx => hs x (List.mem_cons_of_mem _ mx)) o m
    rw [sm_cons]
    exact ⟨by omega, this.2⟩
theorem compl_num (L L2 : Nat → Bool) (N R : Nat) (f : List (List Nat)) (hL : ∀ p, p < N → L2 p = !L p) (h : ∀ o ∈ f, o.length = R ∧ ∀ p ∈ o, p < N) : numS L2 f = (numS L f).map fun x => R - x := by
  unfold numS
  rw [List.map_map]
  refine List.map_congr_left fun o m => ?_
  obtain ⟨a, b⟩ := h o m
  have e : o.countP L2 = o.countP fun p => !L p := by
    refine List.countP_congr fun p mp => ?_
    rw [hL p (b p mp)]
  show o.countP L2 = R - o.countP L
  rw [e, count_out, a]
theorem num_le (L : Nat → Bool) (R : Nat) (f : List (List Nat)) (h : ∀ o ∈ f, o.length = R) : ∀ x ∈ numS L f, x ≤ R := by
  intro x m
  obtain ⟨o, mo, rfl⟩ := List.mem_map.mp m
  rw [← h o mo]
  exact List.countP_le_length
end K87

namespace K87
/-! plain: fractions as rationals; the mean -/
def qr (r : Rat) : Int × Nat := (r.num, r.den)
theorem red_qr (q : Int × Nat) (h : 0 < q.2) : red q = qr (mkRat q.1 q.2) := by
  unfold red qr
  rw [Rat.num_mkRat, Rat.den_mkRat, if_neg (by omega), if_neg (by omega), Nat.gcd_comm]
theorem add_qr (a b : Rat) : addP (qr a) (qr b) = qr (a + b) := by
  have ha := a.den_pos
  have hb := b.den_pos
  rw [Rat.add_def']
  show red (a.num * b.den + b.num * a.den, a.den * b.den) = _
  exact red_qr _ (Nat.mul_pos ha hb)
theorem sum_qr : ∀ (rs : List Rat) (a : Rat), (rs.map qr).foldl addP (qr a) = qr (rs.foldl (· + ·) a)
  | [], a => rfl
  | r :: rs, a => by
    rw [List.map_cons, List.foldl_cons, List.foldl_cons, add_qr, sum_qr rs]
theorem qr_zero : qr 0 = (0, 1) := rfl
/-! numbers of the spreadings -/
theorem addN_len (ns as : List Nat) : (addN ns as).length = ns.length * as.length := by
  unfold addN
  induction as with
  | nil => simp
  | cons a as ih =>
    rw [List.map_cons, List.flatten_cons, List.length_append, ih, List.length_map, List.length_cons, Nat.mul_add]
    omega
theorem addN_sum (ns as : List Nat) : (addN ns as).sum = ns.sum * as.length + ns.length * as.sum := by
  unfold addN
  induction as with
  | nil => simp
  | cons a as ih =>
    have e : ∀ ns : List Nat, (ns.map (· + a)).sum = ns.sum + ns.length * a := by
      intro ns
      induction ns with
      | nil => simp
      | cons n ns ih => simp only [List.map_cons, List.sum_cons, ih, List.length_cons, Nat.add_mul]; omega
    rw [List.map_cons, List.flatten_cons, List.sum_append, ih, e, List.length_cons, List.sum_cons, Nat.mul_add, Nat.mul_add]
    omega
theorem mean_tab : ((List.range 8).all fun n => (List.range (n + 1)).all fun m => (List.range (n + 1)).all fun r => n * sm (fun a => gW n m r a * a) (List.range (m + 1)) == m * r * bin n r && decide (0 < bin n r)) = true := by decide +kernel
theorem mean_at {n m r : Nat} (hn : n < 8) (hm : m ≤ n) (hr : r ≤ n) : n * sm (fun a => gW n m r a * a) (List.range (m + 1)) = m * r * bin n r ∧ 0 < bin n r := by
  have t := mean_tab
  rw [List.all_eq_true] at t
  have t1 := t n (List.mem_range.mpr hn)
  rw [List.all_eq_true] at t1
  have t2 := t1 m (List.mem_range.mpr (by omega))
  rw [List.all_eq_true] at t2
  have t3 := t2 r (List.mem_range.mpr (by omega))
  simpa using t3
theorem picks_sum (L : Nat → Bool) (st : Str1) (h : st.1.length < 8) (hr : st.2 ≤ st.1.length) : st.1.length * (numS L (picks st)).sum = st.1.countP L * st.2 * (numS L (picks st)).length ∧ 0 < (numS L (picks st)).length := by
  have hm : st.1.countP L ≤ st.1.length := List.countP_le_length
  obtain ⟨a, b⟩ := mean_at h hm hr
  have e1 : (numS L (picks st)).length = bin st.1.length st.2 := by unfold numS; rw [List.length_map, picks_len]
  have e2 : (numS L (picks st)).sum = sm (fun a => gW st.1.length (st.1.countP L) st.2 a * a) (List.range (st.1.countP L + 1)) := by
    have := sm_counts (fun a => a) (st.1.countP L + 1) (numS L (picks st)) (picks_lt L st)
    have e : (numS L (picks st)).sum = sm (fun a => a) (numS L (picks st)) := by unfold sm; simp
    rw [e, this]
    exact sm_congr fun j _ => by rw [picks_count]
  rw [e2, e1]
  exact ⟨a, b⟩
def meanR (L : Nat → Bool) (st : Str1) : Rat := mkRat ((st.1.countP L : Int) * (st.2 : Int)) st.1.length
theorem mean_go (L : Nat → Bool) : ∀ (sts : List Str1) (f : List (List Nat)), 0 < (numS L f).length → (∀ st ∈ sts, 0 < st.1.length ∧ st.1.length < 8 ∧ st.2 ≤ st.1.length) →
    0 < (numS L (sts.foldl stepF f)).length ∧ (sts.map (meanR L)).foldl (· + ·) (mkRat ((numS L f).sum : Nat) (numS L f).length) = mkRat ((numS L (sts.foldl stepF f)).sum : Nat) (numS L (sts.foldl stepF f)).length
  | [], f, h, _ => ⟨h, rfl⟩
  | st :: sts, f, h, hs => by
    obtain ⟨s0, s1, s2⟩ := hs st (List.mem_cons_self ..)
    obtain ⟨pa, pb⟩ := picks_sum L st s1 s2
    have el := addN_len (numS L f) (numS L (picks st))
    have es := addN_sum (numS L f) (numS L (picks st))
    rw [← num_step] at el es
    have hpos : 0 < (numS L (stepF f st)).length := by rw [el]; exact Nat.mul_pos h pb
    rw [List.foldl_cons, List.map_cons, List.foldl_cons]
    have key : mkRat ((numS L f).sum : Nat) (numS L f).length + meanR L st = mkRat ((numS L (stepF f st)).sum : Nat) (numS L (stepF f st)).length := by
      unfold meanR
      rw [Rat.mkRat_add_mkRat _ _ (by omega) (by omega), Rat.mkRat_eq_iff (Nat.ne_of_gt (Nat.mul_pos h s0)) (by omega), el, es]
      have pa' : (st.1.length : Int) * ((numS L (picks st)).sum : Nat) = (st.1.countP L : Int) * (st.2 : Int) * ((numS L (picks st)).length : Nat) := by exact_mod_cast pa
      push_cast
      generalize ((numS L (picks st)).sum : Int) = sa at *
      generalize ((numS L (picks st)).length : Int) = A at *
      generalize ((numS L f).sum : Int) = s at *
      generalize ((numS L f).length : Int) = N at *
      generalize (st.1.length : Int) = n at *
      generalize (st.1.countP L : Int) = m at *
      generalize (st.2 : Int) = r at *
      grind
    rw [key]
    exact mean_go L sts (stepF f st) hpos fun x m => hs x (List.mem_cons_of_mem _ m)
theorem mean_law (L : Nat → Bool) (sts : List Str1) (hs : ∀ st ∈ sts, 0 < st.1.length ∧ st.1.length < 8 ∧ st.2 ≤ st.1.length) :
    0 < (numS L (spread sts)).length ∧ sumP (sts.map fun st => red ((st.1.countP L : Int) * (st.2 : Int), st.1.length)) = red (((numS L (spread sts)).sum : Nat), (numS L (spread sts)).length) := by
  obtain ⟨a, b⟩ := mean_go L sts [[]] (by simp [numS]) hs
  refine ⟨a, ?_⟩
  rw [red_qr _ a]
  have e : (sts.map fun st => red ((st.1.countP L : Int) * (st.2 : Int), st.1.length)) = (sts.map (meanR L)).map qr := by
    rw [List.map_map]
    refine List.map_congr_left fun st m => ?_
    exact red_qr _ (hs st m).1
  rw [e]
  unfold sumP
  rw [← qr_zero, sum_qr]
  congr 1
  have z : mkRat ((numS L [[]]).sum : Nat) (numS L [[]]).length = 0 := by simp [numS]
  rw [z] at b
  exact b
end K87

namespace K87
open PySem PySem.Spec PyProof.Rows L2 Den
/-! repr of plain data -/
def niceI (i : Int) : Bool := decide (i.natAbs < 2 ^ 600)
mutual
def nice : PyData → Bool
  | .none | .bool _ => true
  | .int i => niceI i
  | .str _ => false
  | .list xs | .tuple xs => niceAll xs
  | .dict _ => false
def niceAll : List PyData → Bool
  | [] => true
  | x :: xs => nice x && niceAll xs
end
theorem niceI_show {i : Int} (h : niceI i = true) : decide (i.natAbs.log2 < 1920) = true := by
  have h := of_decide_eq_true h
  refine decide_eq_true ?_
  by_cases z : i.natAbs = 0
  · rw [z]; decide
  · have : i.natAbs.log2 < 600 := (Nat.log2_lt z).mpr h
    omega
theorem niceI_len {i : Int} (h : niceI i = true) : decide ((PyData.shown (.int i)).length ≤ 201) = true := by
  have h := of_decide_eq_true h
  refine decide_eq_true ?_
  have e := int_text_length_le10 (a := i) (k := 200) (by decide) (Nat.lt_of_lt_of_le h (by decide))
  show (Str.ofString (toString i)).length ≤ 201
  have : (Str.ofString (toString i)).length = (toString i).length := PySem.ofString_length _
  rw [this]; exact e
mutual
theorem nice_ok : ∀ x : PyData, nice x = true → PyData.showable x = true ∧ PyData.hasDict x = false ∧ PyData.leavesShort 201 x = true
  | .none, _ => ⟨rfl, rfl, rfl⟩
  | .bool _, _ => ⟨rfl, rfl, rfl⟩
  | .int i, h => by
    simp only [nice] at h
    simp only [PyData.showable, PyData.hasDict, PyData.leavesShort]
    exact ⟨niceI_show h, trivial, niceI_len h⟩
  | .str _, h => by simp [nice] at h
  | .dict _, h => by simp [nice] at h
  | .list xs, h => by
    simp only [nice] at h
    simp only [PyData.showable, PyData.hasDict, PyData.leavesShort]
    exact niceAll_ok xs h
  | .tuple xs, h => by
    simp only [nice] at h
    simp only [PyData.showable, PyData.hasDict, PyData.leavesShort]
    exact niceAll_ok xs h
theorem niceAll_ok : ∀ xs : List PyData, niceAll xs = true → PyData.showableAll xs = true ∧ PyData.hasDictAll xs = false ∧ PyData.leavesShortAll 201 xs = true
  | [], _ => ⟨rfl, rfl, rfl⟩
  | x :: xs, h => by
    simp only [niceAll, Bool.and_eq_true] at h
    obtain ⟨a1, a2, a3⟩ := nice_ok x h.1
    obtain ⟨b1, b2, b3⟩ := niceAll_ok xs h.2
    simp [PyData.showableAll, PyData.hasDictAll, PyData.leavesShortAll, a1, a2, a3, b1, b2, b3]
end
/-- data that is told: how deep, how many -/
structure Told (x : PyData) (d b : Nat) : Prop where
  n : nice x = true
  d : PyData.depth x ≤ d
  b : PyData.bulk x ≤ b
theorem Told.mono {x : PyData} {d b d' b' : Nat} (h : Told x d b) (hd : d ≤ d') (hb : b ≤ b') : Told x d' b' := ⟨h.n, Nat.le_trans h.d hd, Nat.le_trans h.b hb⟩
theorem told_int {i : Int} (h : i.natAbs < 2 ^ 600) : Told (.int i) 0 0 := ⟨by simp only [nice]; exact decide_eq_true h, by simp [PyData.depth], by simp [PyData.bulk]⟩
theorem told_nat {n : Nat} (h : n < 2 ^ 500) : Told (nP n) 0 0 := told_int (by rw [Int.natAbs_natCast]; exact Nat.lt_of_lt_of_le h (Nat.pow_le_pow_right (by decide) (by decide)))
theorem told_non : Told .none 0 0 := ⟨by simp [nice], by simp [PyData.depth], by simp [PyData.bulk]⟩
theorem told_all {d b : Nat} : ∀ xs : List PyData, (∀ x ∈ xs, Told x d b) → niceAll xs = true ∧ PyData.depthAll xs ≤ d ∧ PyData.bulkAll xs ≤ (b + 1) * xs.length
  | [], _ => ⟨rfl, by simp [PyData.depthAll], by simp [PyData.bulkAll]⟩
  | x :: xs, h => by
    obtain ⟨a1, a2, a3⟩ := told_all xs fun y m => h y (List.mem_cons_of_mem _ m)
    have hx := h x (List.mem_cons_self ..)
    refine ⟨by simp [niceAll, hx.n, a1], ?_, ?_⟩
    · simp only [PyData.depthAll]
      exact Nat.max_le.mpr ⟨hx.d, a2⟩
    · simp only [PyData.bulkAll, List.length_cons]
      have := hx.b
      rw [Nat.mul_add]; omega
theorem told_tup {d b n : Nat} {xs : List PyData} (h : ∀ x ∈ xs, Told x d b) (hn : xs.length ≤ n) : Told (.tuple xs) (d + 1) ((b + 1) * n) := by
  obtain ⟨a1, a2, a3⟩ := told_all xs h
  refine ⟨by simp only [nice]; exact a1, by simp only [PyData.depth]; omega, ?_⟩
  simp only [PyData.bulk]
  exact Nat.le_trans a3 (Nat.mul_le_mul_left _ hn)
theorem told_lst {d b n : Nat} {xs : List PyData} (h : ∀ x ∈ xs, Told x d b) (hn : xs.length ≤ n) : Told (.list xs) (d + 1) ((b + 1) * n) := by
  obtain ⟨a1, a2, a3⟩ := told_all xs h
  refine ⟨by simp only [nice]; exact a1, by simp only [PyData.depth]; omega, ?_⟩
  simp only [PyData.bulk]
  exact Nat.le_trans a3 (Nat.mul_le_mul_left _ hn)
theorem repr_ok {x : PyData} {d b : Nat} (h : Told x d b) (hd : d ≤ 60) (hb : b ≤ 80000) (S : Sto) : reprP x S = .ok (.str (PyData.shown x)) S := by
  obtain ⟨a1, a2, a3⟩ := nice_ok x h.n
  have l := PyData.shown_le_bulk 201 (by decide) x a3
  have l2 : (201 + 2) * x.bulk ≤ 203 * 80000 := Nat.mul_le_mul_left _ (Nat.le_trans h.b hb)
  have g : (PyData.showable x && !PyData.hasDict x && decide (PyData.depth x ≤ 60) && decide ((PyData.shown x).length ≤ sizeLine)) = true := by
    rw [a1, a2, decide_eq_true (Nat.le_trans h.d hd), decide_eq_true (by rw [sizeLine_eq]; omega)]
    rfl
  unfold reprP
  rw [g]; rfl
section
variable {G : Gm} {ρ : Rho} {S S1 S2 : Sto} {x y : Ex} {l : Lx} {a b : D} {p q : PyData} {d n : Nat} {ps : List PyData} {Q : Fl → Sto → Prop} {ss rest : Sxs}
theorem e_reprP (h : x.den G ρ S = .ok (.p p) S1) (t : Told p d n) (hd : d ≤ 60) (hn : n ≤ 80000) : (Ex.op1 .repr (.cons x .nil)).den G ρ S = .ok (.str (PyData.shown p)) S1 := by
  refine e_op1 (a_1 h) ?_
  show Den.bnd (asPy (.p p)) reprP S1 = _
  have : asPy (.p p) S1 = .ok p S1 := rfl
  rw [bnd_ok this]
  exact repr_ok t hd hn _
theorem toAll_p (f : D → Option PyData) (hf : ∀ x, f (.p x) = some x) : ∀ xs : List PyData, toPyAll f (xs.map .p) = some xs
  | [] => rfl
  | x :: xs => by simp [toPyAll, hf, toAll_p f hf xs]
theorem e_reprR {k : Nat} (h : x.den G ρ S = .ok (.ref k) S1) (hk : S1.objs[k]? = some (.lst (ps.map .p))) (t : Told (.list ps) d n) (hd : d ≤ 60) (hn : n ≤ 80000) : (Ex.op1 .repr (.cons x .nil)).den G ρ S = .ok (.str (PyData.shown (.list ps))) S1 := by
  refine e_op1 (a_1 h) ?_
  show Den.bnd (asPy (.ref k)) reprP S1 = _
  have : asPy (.ref k) S1 = .ok (.list ps) S1 := by
    unfold asPy
    have : toPy S1.objs 40 (.ref k) = some (.list ps) := by
      show (match S1.objs[k]? with | some (.lst xs) => (toPyAll (toPy S1.objs 39) xs).map PyData.list | _ => none) = _
      rw [hk]
      dsimp only
      rw [toAll_p _ fun _ => rfl]; rfl
    rw [this]
  rw [bnd_ok this]
  exact repr_ok t hd hn _
theorem e_reprF (h : l.den G ρ S = .ok (ps.map .p) S1) (t : Told (.list ps) d n) (hd : d ≤ 60) (hn : n ≤ 80000) : (Ex.opF .repr l).den G ρ S = .ok (.str (PyData.shown (.list ps))) S1 := by
  refine e_opF h ?_
  show (match toPyAll (toPy S1.objs 39) (ps.map .p) with | some xs => reprP (.list xs) S1 | none => .bad) = _
  rw [toAll_p _ fun _ => rfl]
  exact repr_ok t hd hn _
theorem ne_same (z : Str) (S : Sto) : cmpD .NotEq (.str z) (.str z) S = .ok false S := by
  show Den.bnd (eqD (.str z) (.str z)) (fun b => Den.ret (!b)) S = _
  rw [bnd_ok (at_ret (eq_str z z) S)]
  simp [Den.ret]
/-- repr(x) != repr(y): no -/
theorem s_reprs (h : (Ex.op1 .repr (.cons x .nil)).den G ρ S = .ok (.str (PyData.shown p)) S1) (h2 : y.den G ρ S1 = .ok (.str (PyData.shown p)) S2) (k : Runs (rest.den G) ρ S2 Q) : Runs (Sxs.den G (.cons (.ifs (.cmp .NotEq (.op1 .repr (.cons x .nil)) y) ss .nil) rest)) ρ S Q :=
  s_unless (b_cmp h h2 (ne_same _ _)) k
end
/-! sorted items of a dict of counts -/
theorem psort_dict {K : Kv} {ns : List Nat} (h : DictOk K fun k => ns.count k) : psort (kvI K) = (usN ns).map fun k : Nat => ((k : Int), (ns.count k : Int)) := by
  have hp : (psort (kvI K)).Perm (kvI K) := List.mergeSort_perm _ _
  have hs : (psort (kvI K)).Pairwise (fun a b => lexLe a b = true) := List.pairwise_mergeSort (fun a b c h1 h2 => by
      unfold lexLe at *
      simp only [Bool.or_eq_true, Bool.and_eq_true, decide_eq_true_eq] at *
      omega) (fun a b => by
      unfold lexLe
      simp only [Bool.or_eq_true, Bool.and_eq_true, decide_eq_true_eq]
      omega) _
  have hmem : ∀ q ∈ psort (kvI K), ∃ k : Nat, q = ((k : Int), (ns.count k : Int)) ∧ k ∈ ns := fun q m => by
    obtain ⟨p, mp, rfl⟩ := List.mem_map.mp (hp.mem_iff.mp m)
    obtain ⟨e, z⟩ := h.val p mp
    refine ⟨p.1, by rw [← e], List.count_pos_iff.mp (by omega)⟩
  have hnd : ((psort (kvI K)).map (·.1)).Nodup := by
    have : ((kvI K).map (·.1)).Nodup := by
      rw [List.map_map]
      have e : (K.map ((fun x : Int × Int => x.1) ∘ fun p : Nat × Nat => ((p.1 : Int), (p.2 : Int)))) = (K.map (·.1)).map fun n : Nat => (n : Int) := by rw [List.map_map]; rfl
      rw [e]
      have := h.nd
      unfold List.Nodup at this ⊢
      rw [List.pairwise_map]
      exact this.imp fun z w => z (by omega)
    exact (hp.map (·.1)).nodup_iff.mpr this
  have hkeys : (psort (kvI K)).map (·.1) = (usN ns).map fun n : Nat => (n : Int) := by
    rw [usN_cast]
    refine lt_uniq ?_ (usort_lt _) fun x => ?_
    · rw [List.pairwise_map]
      have hnd' : (psort (kvI K)).Pairwise fun a b => a.1 ≠ b.1 := by
        have := hnd
        unfold List.Nodup at this
        rwa [List.pairwise_map] at this
      refine (hs.and hnd').imp fun {a b} z => ?_
      obtain ⟨z1, z2⟩ := z
      unfold lexLe at z1
      simp only [Bool.or_eq_true, Bool.and_eq_true, decide_eq_true_eq] at z1
      omega
    · rw [mem_usort, List.mem_map, List.mem_map]
      constructor
      · rintro ⟨q, m, rfl⟩
        obtain ⟨k, rfl, mk⟩ := hmem q m
        exact ⟨k, mk, rfl⟩
      · rintro ⟨n, m, rfl⟩
        have := h.all n (List.count_pos_iff.mpr m)
        obtain ⟨p, mp, e⟩ := List.mem_map.mp this
        exact ⟨((p.1 : Int), (p.2 : Int)), hp.mem_iff.mpr (List.mem_map.mpr ⟨p, mp, rfl⟩), by simpa using congrArg (fun n : Nat => (n : Int)) e⟩
  have e1 : psort (kvI K) = ((psort (kvI K)).map (·.1)).map fun i : Int => (i, (ns.count i.toNat : Int)) := by
    rw [List.map_map]
    refine (List.map_id _).symm.trans (List.map_congr_left fun q m => ?_)
    obtain ⟨k, rfl, _⟩ := hmem q m
    simp
  rw [e1, hkeys, List.map_map]
  refine List.map_congr_left fun k _ => ?_
  simp
end K87

namespace K87
open PySem PySem.Spec PyProof.Rows L2 Den
def Lm (lot : List Nat) : Nat → Bool := fun p => decide (p ∈ lot)
def numT (T : List (List Nat)) (lot : List Nat) (t : Nat) : List Nat := numS (Lm lot) (spread (strT T t))
theorem waysT (T : List (List Nat)) (lot : List Nat) (t : Nat) : waysS (strata T lot t) = waysK (Lm lot) (strT T t) := by
  unfold waysS waysK strata strT
  rw [List.foldl_map, List.foldl_map]
  congr 1
  funext f s
  show laterK _ (gW _ _ _) f = laterK _ (gW _ _ _) f
  have e : ((perS (sumsT T) s).filter fun p => decide (p ∈ lot)).length = (perS (sumsT T) s).countP (Lm lot) := (List.countP_eq_length_filter ..).symm
  show laterK ((perS (sumsT T) s).filter fun p => decide (p ∈ lot)).length (gW _ ((perS (sumsT T) s).filter fun p => decide (p ∈ lot)).length _) f = _
  rw [e]
  rfl
theorem dictT (T : List (List Nat)) (lot : List Nat) (t : Nat) : DictOk (waysS (strata T lot t)) fun k => (numT T lot t).count k := by
  rw [waysT]
  exact ways_ok (Lm lot) (strT T t)
theorem strT_info {T : List (List Nat)} {wd : Nat} (h : TabOk T wd) (t : Nat) : ∀ st ∈ strT T t, 0 < st.1.length ∧ st.1.length < 8 ∧ st.2 ≤ st.1.length := by
  intro st m
  obtain ⟨s, hs, rfl⟩ := List.mem_map.mp m
  rw [usN_mem] at hs
  obtain ⟨p, hp, e⟩ := List.getElem_of_mem hs
  have mem : p ∈ perS (sumsT T) s := List.mem_filter.mpr ⟨List.mem_range.mpr hp, by simp [hp, e]⟩
  have := perS_len T s
  have := h.n1
  exact ⟨List.length_pos_of_mem mem, by show (perS (sumsT T) s).length < 8; omega, List.length_filter_le _ _⟩
theorem numT_len {T : List (List Nat)} {wd : Nat} (h : TabOk T wd) (lot : List Nat) (t : Nat) : 0 < (numT T lot t).length ∧ (numT T lot t).length ≤ 35 := by
  refine ⟨(mean_law (Lm lot) (strT T t) (strT_info h t)).1, ?_⟩
  unfold numT numS
  rw [List.length_map]
  exact spread_len _ (strT_sum h t) (strT_lt h t)
theorem wholeT (T : List (List Nat)) (lot : List Nat) (t : Nat) : wholeK (waysS (strata T lot t)) = (numT T lot t).length := whole_dict (dictT T lot t)
theorem moreT (T : List (List Nat)) (lot : List Nat) (t here : Nat) : moreK (waysS (strata T lot t)) here = ((numT T lot t).filter fun x => decide (here ≤ x)).length := some_dict (dictT T lot t) fun x => decide (here ≤ x)
theorem lessT (T : List (List Nat)) (lot : List Nat) (t here : Nat) : lessK (waysS (strata T lot t)) here = ((numT T lot t).filter fun x => decide (x ≤ here)).length := some_dict (dictT T lot t) fun x => decide (x ≤ here)
theorem meanT {T : List (List Nat)} {wd : Nat} (h : TabOk T wd) (lot : List Nat) (t : Nat) : sumM (strata T lot t) = red (((numT T lot t).sum : Nat), (numT T lot t).length) := by
  refine Eq.trans ?_ (mean_law (Lm lot) (strT T t) (strT_info h t)).2
  unfold sumM strata strT
  rw [List.map_map, List.map_map]
  congr 1
  refine List.map_congr_left fun s _ => ?_
  have e : ((perS (sumsT T) s).filter fun p => decide (p ∈ lot)).length = (perS (sumsT T) s).countP (Lm lot) := (List.countP_eq_length_filter ..).symm
  show red ((((perS (sumsT T) s).filter fun p => decide (p ∈ lot)).length : Int) * _, _) = _
  rw [e]
  rfl
/-! the lot of all others -/
def others (n : Nat) (lot : List Nat) : List Nat := (List.range n).filter fun p => !decide (p ∈ lot)
theorem others_ok (n : Nat) (lot : List Nat) (hn : n < 1000) : LotOk (others n lot) n := by
  refine ⟨fun i m => List.mem_range.mp (List.mem_filter.mp m).1, ?_, ?_⟩
  · exact List.Pairwise.filter _ (List.pairwise_lt_range ..)
  · have := List.length_filter_le (fun p => !decide (p ∈ lot)) (List.range n)
    rw [List.length_range] at this
    show ((List.range n).filter _).length < 1000
    omega
def totR (T : List (List Nat)) (t : Nat) : Nat := sm (fun st : Str1 => st.2) (strT T t)
theorem str_mem {T : List (List Nat)} (t : Nat) : ∀ st ∈ strT T t, ∀ p ∈ st.1, p < T.length := by
  intro st m p mp
  obtain ⟨s, hs, rfl⟩ := List.mem_map.mp m
  have := (List.mem_filter.mp mp).1
  have hl : (sumsT T).length = T.length := by simp [sumsT]
  rwa [List.mem_range, hl] at this
theorem Lm_others (n : Nat) (lot : List Nat) : ∀ p, p < n → Lm (others n lot) p = !Lm lot p := by
  intro p hp
  unfold Lm others
  rw [Bool.eq_iff_iff]
  simp [List.mem_filter, hp]
theorem numT_others (T : List (List Nat)) (lot : List Nat) (t : Nat) : numT T (others T.length lot) t = (numT T lot t).map fun x => totR T t - x := by
  refine compl_num (Lm lot) (Lm (others T.length lot)) T.length (totR T t) _ (Lm_others _ _) fun o m => ?_
  have := spread_info (strT T t) [[]] 0 T.length (by simp) (str_mem t) o m
  exact ⟨by have := this.1; show o.length = sm _ _; omega, this.2⟩
theorem numT_le (T : List (List Nat)) (lot : List Nat) (t : Nat) : ∀ x ∈ numT T lot t, x ≤ totR T t := by
  refine num_le (Lm lot) (totR T t) _ fun o m => ?_
  have := spread_info (strT T t) [[]] 0 T.length (by simp) (str_mem t) o m
  have := this.1
  show o.length = sm _ _
  omega
/-- strata part all persons -/
theorem parts_all (us : List Nat) (hn : us.Nodup) (sums : List Nat) (hu : ∀ s ∈ sums, s ∈ us) (R : Nat → Bool) : sm (fun s => (((List.range sums.length).filter fun p => decide (sums.getD p 0 = s)).filter R).length) us = ((List.range sums.length).filter R).length := by
  have e : ∀ s, (((List.range sums.length).filter fun p => decide (sums.getD p 0 = s)).filter R).length = sm (fun p => if sums.getD p 0 = s then (if R p = true then 1 else 0) else 0) (List.range sums.length) := by
    intro s
    rw [List.filter_filter, filter_sm]
    refine sm_congr fun p _ => ?_
    by_cases h : sums.getD p 0 = s <;> cases R p <;> simp [h] <;> simpa using h
  rw [sm_congr fun s _ => e s, sm_swap, filter_sm]
  refine sm_congr fun p mp => ?_
  have hp := List.mem_range.mp mp
  have hin : sums.getD p 0 ∈ us := hu _ (by simp [hp])
  clear e hu
  induction us with
  | nil => cases hin
  | cons u us ih =>
    obtain ⟨h1, h2⟩ := List.nodup_cons.mp hn
    rw [sm_cons]
    by_cases h : sums.getD p 0 = u
    · have : sm (fun s => if sums.getD p 0 = s then (if R p = true then 1 else 0) else 0) us = sm (fun _ => 0) us := sm_congr fun s m => by
        rw [if_neg]; intro z; exact h1 (h ▸ z ▸ m)
      rw [this, sm_zero, if_pos h]; omega
    · rw [if_neg h, Nat.zero_add]
      refine ih h2 ?_
      rcases List.mem_cons.mp hin with z | z
      · exact absurd z h
      · exact z
theorem totR_eq (T : List (List Nat)) (t : Nat) : totR T t = ((List.range T.length).filter fun p => rgtS T t p).length := by
  have := parts_all (usN (sumsT T)) (usN_nodup _) (sumsT T) (fun s m => (usN_mem _ _).mpr m) (rgtS T t)
  have hl : (sumsT T).length = T.length := by simp [sumsT]
  rw [hl] at this
  rw [← this]
  unfold totR strT
  rw [sm_map]
  refine sm_congr fun s _ => ?_
  show ((perS (sumsT T) s).filter _).length = _
  unfold perS
  rw [hl]
theorem lot_filter {lot : List Nat} {n : Nat} (h : LotOk lot n) : (List.range n).filter (fun p => decide (p ∈ lot)) = lot := by
  have hp : ((List.range n).filter fun p => decide (p ∈ lot)).Pairwise (· < ·) := List.Pairwise.filter _ (List.pairwise_lt_range ..)
  have gen : ∀ {l k : List Nat}, l.Pairwise (· < ·) → k.Pairwise (· < ·) → (∀ x, x ∈ l ↔ x ∈ k) → l = k := by
    intro l k h1 h2 h
    have := lt_uniq (l := l.map fun n : Nat => (n : Int)) (k := k.map fun n : Nat => (n : Int)) (by rw [List.pairwise_map]; exact h1.imp fun z => by omega) (by rw [List.pairwise_map]; exact h2.imp fun z => by omega) (fun x => by
      simp only [List.mem_map]
      constructor
      · rintro ⟨a, m, rfl⟩; exact ⟨a, (h a).mp m, rfl⟩
      · rintro ⟨a, m, rfl⟩; exact ⟨a, (h a).mpr m, rfl⟩)
    have := congrArg (List.map Int.toNat) this
    simpa [List.map_map, Function.comp_def] using this
  refine gen hp h.asc fun x => ?_
  rw [List.mem_filter, List.mem_range, decide_eq_true_eq]
  exact ⟨fun z => z.2, fun z => ⟨h.lt x z, z⟩⟩
theorem split_lot (L R : Nat → Bool) (xs : List Nat) : ((xs.filter fun p => !L p).filter R).length + ((xs.filter L).filter R).length = (xs.filter R).length ∧ (xs.filter fun p => !L p).length + (xs.filter L).length = xs.length := by
  constructor
  · rw [List.filter_filter, List.filter_filter, filter_sm, filter_sm, filter_sm, ← sm_add]
    refine sm_congr fun x _ => ?_
    cases L x <;> cases R x <;> rfl
  · have e : xs.length = (xs.filter fun _ => true).length := by rw [List.filter_eq_self.mpr (fun _ _ => rfl)]
    rw [e, filter_sm, filter_sm, filter_sm, ← sm_add]
    refine sm_congr fun x _ => ?_
    cases L x <;> rfl
theorem here_others {T : List (List Nat)} {lot : List Nat} (h : LotOk lot T.length) (t : Nat) : hereS T lot t ≤ totR T t ∧ hereS T (others T.length lot) t = totR T t - hereS T lot t := by
  have e1 : hereS T lot t = (((List.range T.length).filter fun p => decide (p ∈ lot)).filter fun p => rgtS T t p).length := by
    rw [lot_filter h]; rfl
  have e2 : hereS T (others T.length lot) t = (((List.range T.length).filter fun p => !decide (p ∈ lot)).filter fun p => rgtS T t p).length := rfl
  rw [totR_eq, e1, e2]
  have := (split_lot (fun p => decide (p ∈ lot)) (fun p => rgtS T t p) (List.range T.length)).1
  omega
/-! strata of the others -/
def flip5 (x : St5) : St5 := ⟨x.s, x.all - x.mine, x.rall - x.right, x.all, x.rall⟩
theorem strata_others {T : List (List Nat)} {wd : Nat} (h : TabOk T wd) (lot : List Nat) (t : Nat) : strata T (others T.length lot) t = (strata T lot t).map flip5 := by
  unfold strata
  rw [List.map_map]
  refine List.map_congr_left fun s _ => ?_
  have hp : ∀ p ∈ perS (sumsT T) s, p < T.length := fun p m => by
    have hl : (sumsT T).length = T.length := by simp [sumsT]
    have := (List.mem_filter.mp m).1
    rwa [List.mem_range, hl] at this
  have e1 : (perS (sumsT T) s).filter (fun p => decide (p ∈ others T.length lot)) = (perS (sumsT T) s).filter fun p => !decide (p ∈ lot) := List.filter_congr fun p m => by
    have := Lm_others T.length lot p (hp p m)
    exact this
  show stOf T (others T.length lot) t s = flip5 (stOf T lot t s)
  show St5.mk s ((perS (sumsT T) s).filter fun p => decide (p ∈ others T.length lot)).length (((perS (sumsT T) s).filter fun p => decide (p ∈ others T.length lot)).filter fun p => rgtS T t p).length (perS (sumsT T) s).length ((perS (sumsT T) s).filter fun p => rgtS T t p).length = St5.mk s ((perS (sumsT T) s).length - ((perS (sumsT T) s).filter fun p => decide (p ∈ lot)).length) (((perS (sumsT T) s).filter fun p => rgtS T t p).length - (((perS (sumsT T) s).filter fun p => decide (p ∈ lot)).filter fun p => rgtS T t p).length) (perS (sumsT T) s).length ((perS (sumsT T) s).filter fun p => rgtS T t p).length
  rw [e1]
  obtain ⟨a1, a2⟩ := split_lot (fun p => decide (p ∈ lot)) (fun p => rgtS T t p) (perS (sumsT T) s)
  congr 1 <;> omega
theorem flipA {x : St5} (h : St5Ok2 x) : qA (flip5 x) = qB x := by
  have := h.m; have := h.rm; have := h.rr; have := h.r
  unfold qA qB tA tB flip5
  dsimp only
  congr 2
  rw [show ((x.rall - x.right : Nat) : Int) = (x.rall : Int) - (x.right : Int) by omega, show ((x.all - x.mine : Nat) : Int) = (x.all : Int) - (x.mine : Int) by omega]
  rw [Int.mul_comm]
  congr 1 <;> omega
theorem flipB {x : St5} (h : St5Ok2 x) : qB (flip5 x) = qA x := by
  have := h.m; have := h.rm; have := h.rr; have := h.r
  unfold qA qB tA tB flip5
  dsimp only
  congr 2
  rw [show ((x.rall - x.right : Nat) : Int) = (x.rall : Int) - (x.right : Int) by omega, show ((x.all - x.mine : Nat) : Int) = (x.all : Int) - (x.mine : Int) by omega]
  rw [Int.mul_comm]
  congr 1; omega
end K87

namespace K87
open PySem PySem.Spec PyProof.Rows L2 Den
def s42_0 : Sx := (.asg (.call 43 (.cons (.var 0) (.cons (.int 7) (.cons (.int 4) (.cons (.str "01") .nil)))) .nil) (.nm 1))
def s42_1 : Sx := (.asg (.tup (.cons (.call 38 (.cons (.var 0) (.cons (.op1 .len (.cons (.var 1) .nil)) .nil)) .nil) (.cons (.op1 .int (.cons (.call 34 (.cons (.var 0) (.cons (.op1 .len (.cons (.sub (.var 1) (.int 0)) .nil)) .nil)) .nil) .nil)) .nil))) (.tup (.cons (.nm 18) (.cons (.nm 19) .nil))))
def s42_2 : Sx := (.asg (.push (.lc [23] (.nm 23) .yes (.mt .scnt (.var 23) (.cons (.str "1") .nil)) (.b (.e (.var 1))))) (.nm 2))
def s42_3 : Sx := (.asg (.push (.disp .nil)) (.nm 3))
def s42_4 : Sx := (.fr (.nm 4) (.b (.l (.sset (.var 2)))) (.cons (.asg (.push (.lc [26] (.nm 26) (.so (.cmp .Eq (.sub (.var 2) (.var 26)) (.var 4))) (.var 26) (.r1 (.op1 .len (.cons (.var 1) .nil))))) (.nm 20)) (.cons (.asg (.push (.lc [26] (.nm 26) (.so (.cmp .In (.var 26) (.var 18))) (.var 26) (.b (.e (.var 20))))) (.nm 21)) (.cons (.asg (.push (.lc [7] (.nm 7) .yes (.opF .len (.lc [26] (.nm 26) (.so (.cmp .Eq (.sub (.sub (.var 1) (.var 26)) (.var 19)) (.str "1"))) (.var 26) (.b (.e (.var 7))))) (.b (.e (.tup (.cons (.var 21) (.cons (.var 20) .nil))))))) (.nm 22)) (.cons (.ex (.mt .app (.var 3) (.cons (.tup (.cons (.op1 .int (.cons (.var 4) .nil)) (.cons (.op1 .len (.cons (.var 21) .nil)) (.cons (.sub (.var 22) (.int 0)) (.cons (.op1 .len (.cons (.var 20) .nil)) (.cons (.sub (.var 22) (.int 1)) .nil)))))) .nil))) .nil)))))
def s42_5 : Sx := (.ifs (.cmp .NotEq (.op1 .repr (.cons (.call 19 .nil (.cons (.var 19) (.cons (.var 18) (.cons (.var 1) .nil)))) .nil)) (.op1 .repr (.cons (.op1 .tup (.cons (.var 3) .nil)) .nil))) (.cons (.ret (.bl false)) .nil) .nil)
def s42_6 : Sx := (.asg (.call 44 (.cons (.var 1) (.cons (.var 19) .nil)) .nil) (.nm 5))
def s42_7 : Sx := (.asg (.push (.lc [24] (.nm 24) .yes (.opF .len (.lc [26] (.nm 26) (.so (.cmp .In (.var 26) (.var 18))) (.var 26) (.b (.e (.var 24))))) (.b (.e (.var 5))))) (.nm 6))
def s42_8 : Sx := (.asg (.push (.sset (.var 6))) (.nm 7))
def s42_9 : Sx := (.ifs (.cmp .NotEq (.op1 .repr (.cons (.call 22 .nil (.cons (.var 19) (.cons (.var 18) (.cons (.var 1) .nil)))) .nil)) (.op1 .repr (.cons (.opF .tup (.lc [4] (.nm 4) .yes (.tup (.cons (.op1 .int (.cons (.var 4) .nil)) (.cons (.mt .cnt (.var 6) (.cons (.var 4) .nil)) .nil))) (.b (.e (.var 7))))) .nil))) (.cons (.ret (.bl false)) .nil) .nil)
def s42_10 : Sx := (.asg (.opF .len (.lc [26] (.nm 26) (.so (.cmp .Eq (.sub (.sub (.var 1) (.var 26)) (.var 19)) (.str "1"))) (.var 26) (.b (.e (.var 18))))) (.nm 8))
def s42_11 : Sx := (.asg (.push (.disp (.cons (.call 39 (.cons (.opF .len (.lc [4] (.nm 4) (.so (.cmp .GtE (.var 4) (.var 8))) (.var 4) (.b (.e (.var 6))))) (.cons (.op1 .len (.cons (.var 6) .nil)) .nil)) .nil) (.cons (.call 39 (.cons (.opF .len (.lc [4] (.nm 4) (.so (.cmp .LtE (.var 4) (.var 8))) (.var 4) (.b (.e (.var 6))))) (.cons (.op1 .len (.cons (.var 6) .nil)) .nil)) .nil) .nil)))) (.nm 9))
def s42_12 : Sx := (.ifs (.cmp .NotEq (.opF .repr (.disp (.cons (.call 26 .nil (.cons (.var 19) (.cons (.var 18) (.cons (.var 1) .nil)))) (.cons (.call 28 .nil (.cons (.var 19) (.cons (.var 18) (.cons (.var 1) .nil)))) .nil)))) (.op1 .repr (.cons (.var 9) .nil))) (.cons (.ret (.bl false)) .nil) .nil)
def s42_13 : Sx := (.ifs (.cmp .NotEq (.op1 .repr (.cons (.call 32 .nil (.cons (.var 19) (.cons (.var 18) (.cons (.var 1) .nil)))) .nil)) (.op1 .repr (.cons (.call 39 (.cons (.op1 .sumL (.cons (.var 6) .nil)) (.cons (.op1 .len (.cons (.var 6) .nil)) .nil)) .nil) .nil))) (.cons (.ret (.bl false)) .nil) .nil)
def s42_14 : Sx := (.asg (.call 41 (.cons (.push (.lc [4, 21, 28, 29, 30] (.tup (.cons (.nm 4) (.cons (.nm 21) (.cons (.nm 28) (.cons (.nm 29) (.cons (.nm 30) .nil)))))) .yes (.call 39 (.cons (.bin .Mult (.var 28) (.bin .Add (.bin .Sub (.bin .Sub (.var 29) (.var 21)) (.var 30)) (.var 28))) (.cons (.var 29) .nil)) .nil) (.b (.e (.var 3))))) .nil) .nil) (.nm 10))
def s42_15 : Sx := (.asg (.call 41 (.cons (.push (.lc [4, 21, 28, 29, 30] (.tup (.cons (.nm 4) (.cons (.nm 21) (.cons (.nm 28) (.cons (.nm 29) (.cons (.nm 30) .nil)))))) .yes (.call 39 (.cons (.bin .Mult (.bin .Sub (.var 21) (.var 28)) (.bin .Sub (.var 30) (.var 28))) (.cons (.var 29) .nil)) .nil) (.b (.e (.var 3))))) .nil) .nil) (.nm 11))
def s42_16 : Sx := (.asg (.ite (.cmp .Eq (.sub (.var 11) (.int 0)) (.int 0)) .non (.call 39 (.cons (.bin .Mult (.sub (.var 10) (.int 0)) (.sub (.var 11) (.int 1))) (.cons (.bin .Mult (.sub (.var 10) (.int 1)) (.sub (.var 11) (.int 0))) .nil)) .nil)) (.nm 12))
def s42_17 : Sx := (.ifs (.cmp .NotEq (.op1 .repr (.cons (.call 30 .nil (.cons (.var 19) (.cons (.var 18) (.cons (.var 1) .nil)))) .nil)) (.op1 .repr (.cons (.var 12) .nil))) (.cons (.ret (.bl false)) .nil) .nil)
def s42_18 : Sx := (.asg (.opF .tup (.lc [26] (.nm 26) (.so (.cmp .NotIn (.var 26) (.var 18))) (.op1 .int (.cons (.var 26) .nil)) (.r1 (.op1 .len (.cons (.var 1) .nil))))) (.nm 13))
def s42_19 : Sx := (.ifs (.bop .Or (.cons (.cmp .NotEq (.call 25 (.cons (.var 1) (.cons (.var 13) (.cons (.var 19) .nil))) .nil) (.sub (.var 9) (.int 1))) (.one (.cmp .NotEq (.call 27 (.cons (.var 1) (.cons (.var 13) (.cons (.var 19) .nil))) .nil) (.sub (.var 9) (.int 0)))))) (.cons (.ret (.bl false)) .nil) .nil)
def s42_20 : Sx := (.asg (.call 29 (.cons (.var 1) (.cons (.var 13) (.cons (.var 19) .nil))) .nil) (.nm 14))
def s42_21 : Sx := (.ifs (.bop .And (.cons (.cmp .IsNot (.var 12) .non) (.cons (.cmp .IsNot (.var 14) .non) (.cons (.cmp .Gt (.sub (.var 12) (.int 0)) (.int 0)) (.one (.cmp .NotEq (.var 14) (.tup (.cons (.sub (.var 12) (.int 1)) (.cons (.sub (.var 12) (.int 0)) .nil))))))))) (.cons (.ret (.bl false)) .nil) .nil)
def s42_22 : Sx := (.asg (.call 39 (.cons (.call 34 (.cons (.var 0) (.cons (.int 9) .nil)) .nil) (.cons (.int 8) .nil)) .nil) (.nm 15))
def s42_23 : Sx := (.asg (.push (.lc [25] (.nm 25) .yes (.call 39 (.cons (.opF .len (.lc [4] (.nm 4) (.so (.cmp .GtE (.var 4) (.var 25))) (.var 4) (.b (.e (.var 6))))) (.cons (.op1 .len (.cons (.var 6) .nil)) .nil)) .nil) (.b (.e (.var 6))))) (.nm 16))
def s42_24 : Sx := (.asg (.opF .len (.lc [27] (.nm 27) (.so (.not (.tru (.call 42 (.cons (.var 15) (.cons (.var 27) .nil)) .nil)))) (.var 27) (.b (.e (.var 16))))) (.nm 17))
def s42_25 : Sx := (.ret (.ofB (.bop .Or (.cons (.not (.asB (.call 42 (.cons (.var 15) (.cons (.call 39 (.cons (.var 17) (.cons (.op1 .len (.cons (.var 6) .nil)) .nil)) .nil) .nil)) .nil))) (.one (.cmp .Eq (.sub (.var 15) (.int 0)) (.int 0)))))))
def r42_26 : Sxs := .nil
def r42_25 : Sxs := .cons s42_25 r42_26
def r42_24 : Sxs := .cons s42_24 r42_25
def r42_23 : Sxs := .cons s42_23 r42_24
def r42_22 : Sxs := .cons s42_22 r42_23
def r42_21 : Sxs := .cons s42_21 r42_22
def r42_20 : Sxs := .cons s42_20 r42_21
def r42_19 : Sxs := .cons s42_19 r42_20
def r42_18 : Sxs := .cons s42_18 r42_19
def r42_17 : Sxs := .cons s42_17 r42_18
def r42_16 : Sxs := .cons s42_16 r42_17
def r42_15 : Sxs := .cons s42_15 r42_16
def r42_14 : Sxs := .cons s42_14 r42_15
def r42_13 : Sxs := .cons s42_13 r42_14
def r42_12 : Sxs := .cons s42_12 r42_13
def r42_11 : Sxs := .cons s42_11 r42_12
def r42_10 : Sxs := .cons s42_10 r42_11
def r42_9 : Sxs := .cons s42_9 r42_10
def r42_8 : Sxs := .cons s42_8 r42_9
def r42_7 : Sxs := .cons s42_7 r42_8
def r42_6 : Sxs := .cons s42_6 r42_7
def r42_5 : Sxs := .cons s42_5 r42_6
def r42_4 : Sxs := .cons s42_4 r42_5
def r42_3 : Sxs := .cons s42_3 r42_4
def r42_2 : Sxs := .cons s42_2 r42_3
def r42_1 : Sxs := .cons s42_1 r42_2
def r42_0 : Sxs := .cons s42_0 r42_1
abbrev G42 : Gm := mkG gls [fo0, fo1, fo2, fo3, fo4, fo5, fo6, fo7, fo8, fo9, fo10, fo11, fo12, fo13, fo14, fo15, fo16, fo17, fo18, fo19, fo20, fo21, fo22, fo23, fo24, fo25, fo26, fo27, fo28, fo29, fo30, fo31, fo32, fo33, fo34, fo35, fo36, fo37, fo38, fo39, fo40, fo41, fo42, fo43, fo44] [F0, F1, F2, F3, F4, F5, F6, F7, F8, F9, F10, F11, F12, F13, F14, F15, F16, F17, F18, F19, F20, F21, F22, F23, F24, F25, F25, F26, F26, F27, F27, F28, F29, F30, F31, F32, F33, F34, F35, F36, F37, F38, F39, F40, F41]
theorem F42_eq : F42 = runF 1 31 (r42_0.den G42) := rfl
end K87

namespace K87
open PySem PySem.Spec PyProof.Rows L2 Den
abbrev R42 (l : Nat) (T : List (List Nat)) (lot : List Nat) (t : Nat) (x2 x3 x4 x5 x6 x7 x8 x9 x10 x11 x12 x13 x14 x15 x16 x17 x20 x21 x22 : Option D) : Rho := [some (.ref l), some (.p (tabD T)), x2, x3, x4, x5, x6, x7, x8, x9, x10, x11, x12, x13, x14, x15, x16, x17, some (.p (lotD lot)), some (nD t), x20, x21, x22, none, none, none, none, none, none, none, none]
theorem s_asgT {G : Gm} {ρ ρ' : Rho} {S S1 : Sto} {Q : Fl → Sto → Prop} {x : Ex} {d : D} {t : Tg} {rest : Sxs} (h : x.den G ρ S = .ok d S1) (ht : t.den G d ρ S1 = .ok ρ' S1) (k : Runs (rest.den G) ρ' S1 Q) : Runs (Sxs.den G (.cons (.asg x t) rest)) ρ S Q := by
  refine Runs.seq (ρ' := ρ') (S' := S1) ?_ k
  show asgS (x.den G) (t.den G) ρ S = _
  unfold asgS
  rw [bnd_ok h, bnd_ok ht]; rfl
/-- what is drawn -/
theorem segA {base : List O} {l k : Nat} {S : Sto} {Q : Fl → Sto → Prop} (h : PS base l k S) (hk : k < 700)
    (K : ∀ T wd lot t S', TabOk T wd → LotOk lot T.length → t < wd → PS base l (k + 82) S' → Runs (r42_2.den G42) (R42 l T lot t none none none none none none none none none none none none none none none none none none none) S' Q) :
    Runs (r42_0.den G42) ([some (.ref l)] ++ List.replicate 30 none) S Q := by
  obtain ⟨T, wd, S1, e1, hT, p1⟩ := F40_ok h (by omega)
  have h7 := hT.n1
  obtain ⟨lot, S2, e2, hl, p2⟩ := F35_ok (many := T.length) p1 (by omega) (by omega)
  have h4 := hT.w1
  have h0 := hT.w0
  have w := width hT
  obtain ⟨d, S3, e3, d0, d1, p3⟩ := draw (n := ((wd : Nat) : Int)) p2 (by omega) (by omega) (by omega)
  obtain ⟨t, rfl⟩ : ∃ i : Nat, d = (i : Int) := ⟨d.toNat, by omega⟩
  have l0 := len_tup (T.map fun r => PyData.str (rowS r))
  rw [List.length_map] at l0
  have K := K T wd lot t S3 hT hl (by omega) (p3.mono (by omega))
  refine s_asg (e_call (G := G42) (j := 43) rfl (a_cons (e_var rfl) (a_3 e_int e_int e_str)) a_nil rfl rfl e1) ?_
  refine s_asgT (e_tup (ps := [lotD lot, nP t]) (a_2 (e_call (G := G42) (j := 38) rfl (a_2 (e_var rfl) (e_op1 (a_1 (e_var rfl)) (at_ret l0 _))) a_nil rfl rfl e2) (e_op1 (a_1 (e_call (G := G42) (j := 34) rfl (a_2 (e_var rfl) (e_op1 (a_1 (e_sub (e_var rfl) e_int (at_ret (sub_tab (p := 0) hT.n0) _))) (w ▸ at_ret (len_row (r := T.getD 0 []) (by omega)) _))) a_nil rfl rfl e3)) (int_at _ _))) (by simp)) (ρ' := R42 l T lot t none none none none none none none none none none none none none none none none none none none) rfl ?_
  exact K
end K87

namespace K87
open PySem PySem.Spec PyProof.Rows L2 Den
section
variable {base X : List O} {l k i : Nat} {S : Sto} {o : O}
theorem PS.ob (h : PS (base ++ X) l k S) (hl : l < base.length) (hX : X[i]? = some o) : S.objs[base.length + i]? = some o := by
  rw [h.at_ (by omega), List.getElem?_append_right (by omega), Nat.add_sub_cancel_left, hX]
theorem PS.pushX (h : PS (base ++ X) l k S) (o : O) : PS (base ++ (X ++ [o])) l k ⟨S.objs ++ [o], S.nt⟩ := by
  have := h.push o
  rwa [List.append_assoc] at this
theorem PS.lenX (h : PS (base ++ X) l k S) : S.objs.length = base.length + X.length := by
  rw [h.len, List.length_append]
theorem PS.putX (h : PS (base ++ X) l k S) (hl : l < base.length) (o : O) : PS (base ++ X.set i o) l k ⟨S.objs.set (base.length + i) o, S.nt⟩ := by
  have := h.put (j := base.length + i) (by omega) o
  rwa [List.set_append_right _ _ (by omega), Nat.add_sub_cancel_left] at this
end
theorem reads_conE {ρ : Rho} {S : Sto} {f : DE} {d : D} {xs : List D} (hf : f ρ S = .ok d S) (hd : baseD d = Den.ret (.con xs)) : Reads (itB (bE f)) ρ S xs := by
  refine ⟨srcB (.con xs) xs.length, ?_, rfl, fun i hi => src_con _ _ _ _ hi⟩
  unfold itB bE
  rw [Den.bnd, Den.bnd, hf]
  simp only [hd, Den.bnd, Den.ret, lenB, BSr.items]
section
variable {G : Gm} {ρ : Rho} {S : Sto} {Q : Fl → Sto → Prop} {l : Lx} {rest : Sxs} {i : Nat}
/-- a list that is made, in a store with a pot -/
theorem s_pushX {base X : List O} {p k : Nat} (ds : List D) (h : PS (base ++ X) p k S) (hl : l.den G ρ S = .ok ds S) (K : ∀ S', PS (base ++ (X ++ [.lst ds])) p k S' → Runs (rest.den G) (ρ.set i (some (.ref (base.length + X.length)))) S' Q) : Runs (Sxs.den G (.cons (.asg (.push l) (.nm i)) rest)) ρ S Q := by
  refine Runs.asg (e_push hl) ?_
  rw [h.lenX]
  exact K _ (h.pushX _)
end
abbrev RB (l : Nat) (T : List (List Nat)) (lot : List Nat) (t : Nat) (n : Nat) (x4 x20 x21 x22 : Option D) : Rho := R42 l T lot t (some (.ref (n + 0))) (some (.ref (n + 1))) x4 none none none none none none none none none none none none none x20 x21 x22
theorem segB {base : List O} {l k : Nat} {S : Sto} {Q : Fl → Sto → Prop} {T : List (List Nat)} {wd t : Nat} {lot : List Nat} (hT : TabOk T wd) (hl : LotOk lot T.length) (ht : t < wd) (h : PS base l k S)
    (K : ∀ X S' x4 x20 x21 x22, PS (base ++ X) l k S' → X[1]? = some (.lst ((strata T lot t).map St5.d)) → Runs (r42_5.den G42) (RB l T lot t base.length x4 x20 x21 x22) S' Q) :
    Runs (r42_2.den G42) (R42 l T lot t none none none none none none none none none none none none none none none none none none none) S Q := by
  have h7 := hT.n1
  have hlt := h.lt
  have hs : (T.map fun r => nD (r.count 49)) = (sumsT T).map nD := by simp [sumsT]
  have hsl : (sumsT T).length = T.length := by simp [sumsT]
  have l0 := len_tup (T.map fun r => PyData.str (rowS r))
  rw [List.length_map] at l0
  have h' : PS (base ++ []) l k S := by rw [List.append_nil]; exact h
  refine s_pushX ((sumsT T).map nD) h' ?_ ?_
  · rw [← hs]
    refine l_lc0 T (fun r => .str (rowS r)) _ (reads_tab rfl) (by omega) fun r m => ?_
    exact e_mt (e_var rfl) rfl (a_1 e_str) (at_ret (scnt1 r) _)
  intro S1 p1
  refine s_pushX [] p1 (l_disp a_nil (by simp)) ?_
  intro S2 p2
  refine s_for_con ((usN (sumsT T)).map nD) (fun i ρ S => ∃ (junk : List O) (x4 x20 x21 x22 : Option D), PS (base ++ (.lst ((sumsT T).map nD) :: .lst (((usN (sumsT T)).take i).map fun s => (stOf T lot t s).d) :: junk)) l k S ∧ ρ = RB l T lot t base.length x4 x20 x21 x22) ?_ ⟨[], none, none, none, none, p2, rfl⟩ ?_ ?_
  · exact l_sset (l := base.length + 0) (e_var rfl) (p2.ob hlt rfl) (by omega)
  · rintro i ρ S hi ⟨junk, x4, x20, x21, x22, p, rfl⟩
    have hi' : i < (usN (sumsT T)).length := by simpa using hi
    have us : (usN (sumsT T)).length ≤ 7 := Nat.le_trans (usN_len _) (by omega)
    rw [List.getElem_map]
    generalize hs : (usN (sumsT T))[i] = s
    have hP : (List.take (i + 1) (usN (sumsT T))).map (fun s => (stOf T lot t s).d) = (List.take i (usN (sumsT T))).map (fun s => (stOf T lot t s).d) ++ [(stOf T lot t s).d] := by
      rw [List.take_succ_eq_append_getElem hi', List.map_append, hs]; rfl
    rw [hP]
    have hpre : ((List.take i (usN (sumsT T))).map (fun s => (stOf T lot t s).d)).length ≤ i := by rw [List.length_map, List.length_take]; omega
    generalize (List.take i (usN (sumsT T))).map (fun s => (stOf T lot t s).d) = pre at *
    have hp : ∀ p ∈ perS (sumsT T) s, p < T.length := fun p m => by
      have := (List.mem_filter.mp m).1
      rw [List.mem_range, hsl] at this; exact this
    have hpl := perS_len T s
    have g2 : S.objs[base.length + 0]? = some (.lst ((sumsT T).map nD)) := p.ob hlt rfl
    refine s_pushX ((perS (sumsT T) s).map nD) p (l_lc1 (List.range T.length) nD (fun p => decide ((sumsT T).getD p 0 = s)) nD ?_ (by simp; omega) ?_ ?_ |> fun z => by rw [show perS (sumsT T) s = (List.range T.length).filter fun p => decide ((sumsT T).getD p 0 = s) by unfold perS; rw [hsl]]; exact z) ?_
    · rw [← rgs0]
      exact (con_r1 (n := T.length) (f := (Ex.op1 .len (.cons (.var 1) .nil)).den G42) (e_op1 (ds := [.p (tabD T)]) (a_1 (e_var rfl)) (at_ret l0 _)) (by omega)).reads
    · intro q m
      have hpT : q < T.length := List.mem_range.mp m
      refine b_cmp (e_sub (e_var rfl) (e_var rfl) (c := nD ((sumsT T).getD q 0)) (S3 := S) ?_) (e_var rfl) ?_
      · have hix : q < ((sumsT T).map nD).length := by simp [hsl]; exact hpT
        show (match S.objs[base.length + 0]? with
          | some (.lst xs) => (match (L2.ixN xs.length (q : Int)).bind fun j => xs[j]? with
            | some x => Den.R.ok x S
            | none => .bad)
          | _ => .bad) = _
        rw [g2]
        dsimp only
        rw [ixN_nat hix]
        simp [hsl, hpT]
      · show eqD (nD _) (nD s) _ = _
        rw [eq_int]
        simp [Den.ret, nat_int]
    · intro p _ _
      exact e_var rfl
    have hst : stOf T lot t s = ⟨s, ((perS (sumsT T) s).filter fun p => decide (p ∈ lot)).length, (((perS (sumsT T) s).filter fun p => decide (p ∈ lot)).filter fun p => rgtS T t p).length, (perS (sumsT T) s).length, ((perS (sumsT T) s).filter fun p => rgtS T t p).length⟩ := rfl
    generalize perS (sumsT T) s = ps at *
    generalize hB : ps.filter (fun p => decide (p ∈ lot)) = mi at hst
    have hm : mi.length ≤ ps.length := by rw [← hB]; exact List.length_filter_le _ _
    have hmp : ∀ p ∈ mi, p < T.length := fun p m => hp p (by rw [← hB] at m; exact (List.mem_filter.mp m).1)
    intro S3 p3
    have q3 : ∀ {j : Nat} {o : O}, (O.lst ((sumsT T).map nD) :: O.lst pre :: junk ++ [O.lst (ps.map nD)])[j]? = some o → S3.objs[base.length + j]? = some o := fun hj => p3.ob hlt hj
    have c3 := q3 (get_app0 (O.lst ((sumsT T).map nD) :: O.lst pre :: junk) (O.lst (ps.map nD)) [])
    refine s_pushX (mi.map nD) p3 (hB ▸ l_lc1 ps nD (fun p => decide (p ∈ lot)) nD (reads_ref rfl c3) (by omega) ?_ ?_) ?_
    · intro p _
      exact b_cmp (e_var rfl) (e_var rfl) (in_lot p lot _)
    · intro p _ _
      exact e_var rfl
    intro S4 p4
    have d3 : S4.objs[base.length + (O.lst ((sumsT T).map nD) :: O.lst pre :: junk).length]? = some (.lst (ps.map nD)) := p4.ob hlt (by rw [List.append_assoc]; exact get_app0 _ _ _)
    have d4 : S4.objs[base.length + (O.lst ((sumsT T).map nD) :: O.lst pre :: junk ++ [O.lst (ps.map nD)]).length]? = some (.lst (mi.map nD)) := p4.ob hlt (get_app0 _ _ _)
    refine s_pushX [nD (mi.filter fun p => rgtS T t p).length, nD (ps.filter fun p => rgtS T t p).length] p4 ?_ ?_
    · have e := l_lc0 (G := G42) (own := [7]) (i := 7) (x := .opF .len (.lc [26] (.nm 26) (.so (.cmp .Eq (.sub (.sub (.var 1) (.var 26)) (.var 19)) (.str "1"))) (.var 26) (.b (.e (.var 7))))) (s := .b (.e (.tup (.cons (.var 21) (.cons (.var 20) .nil)))))
        (ρ := RB l T lot t base.length (some (nD s)) (some (.ref (base.length + (O.lst ((sumsT T).map nD) :: O.lst pre :: junk).length))) (some (.ref (base.length + (O.lst ((sumsT T).map nD) :: O.lst pre :: junk ++ [O.lst (ps.map nD)]).length))) x22) (S := S4)
        [(base.length + (O.lst ((sumsT T).map nD) :: O.lst pre :: junk ++ [O.lst (ps.map nD)]).length, mi), (base.length + (O.lst ((sumsT T).map nD) :: O.lst pre :: junk).length, ps)] (fun p => .ref p.1) (fun p => nD (p.2.filter fun p => rgtS T t p).length) (reads_conE (d := .tup [_, _]) rfl rfl) (by simp) ?_
      · exact e
      · rintro ⟨a, qs⟩ m
        have hq : S4.objs[a]? = some (.lst (qs.map nD)) ∧ (∀ p ∈ qs, p < T.length) ∧ qs.length ≤ T.length := by
          rcases List.mem_cons.mp m with z | z
          · cases z; exact ⟨d4, hmp, by omega⟩
          · rw [List.mem_singleton] at z; cases z; exact ⟨d3, hp, hpl⟩
        obtain ⟨qa, qp, ql⟩ := hq
        refine e_opF (l_lc1 qs nD (fun p => rgtS T t p) nD (reads_ref (l := a) rfl qa) (by omega) ?_ ?_) ?_
        · intro p m
          exact b_cmp (e_sub (e_sub (e_var rfl) (e_var rfl) (at_ret (sub_tab (qp p m)) _)) (e_var rfl) (sub_cell hT ht (qp p m) _)) e_str (cell_eq _)
        · intro p _ _
          exact e_var rfl
        · show Den.R.ok (D.int ((_ : List D).length : Nat)) _ = _
          rw [List.length_map]
    intro S5 p5
    have f3 : S5.objs[base.length + (O.lst ((sumsT T).map nD) :: O.lst pre :: junk).length]? = some (.lst (ps.map nD)) := p5.ob hlt (by rw [List.append_assoc, List.append_assoc]; exact get_app0 _ _ _)
    have f4 : S5.objs[base.length + (O.lst ((sumsT T).map nD) :: O.lst pre :: junk ++ [O.lst (ps.map nD)]).length]? = some (.lst (mi.map nD)) := p5.ob hlt (by rw [List.append_assoc]; exact get_app0 _ _ _)
    have f5 : S5.objs[base.length + (O.lst ((sumsT T).map nD) :: O.lst pre :: junk ++ [O.lst (ps.map nD)] ++ [O.lst (mi.map nD)]).length]? = some (.lst [nD (mi.filter fun p => rgtS T t p).length, nD (ps.filter fun p => rgtS T t p).length]) := p5.ob hlt (get_app0 _ _ _)
    have f1 : S5.objs[base.length + 1]? = some (.lst pre) := p5.ob hlt rfl
    have e5 := app_ok (S := S5) (l := base.length + 1) (xs := pre) (d := (stOf T lot t s).d) (getL_at f1) (by omega)
    have p6 := p5.putX (i := 1) hlt (.lst (pre ++ [(stOf T lot t s).d]))
    have hle3 : lenD [.ref (base.length + (O.lst ((sumsT T).map nD) :: O.lst pre :: junk).length)] S5 = .ok (nD ps.length) S5 := by rw [len_ref f3, List.length_map]
    have hle4 : lenD [.ref (base.length + (O.lst ((sumsT T).map nD) :: O.lst pre :: junk ++ [O.lst (ps.map nD)]).length)] S5 = .ok (nD mi.length) S5 := by rw [len_ref f4, List.length_map]
    have hs0 : subItem (.ref (base.length + (O.lst ((sumsT T).map nD) :: O.lst pre :: junk ++ [O.lst (ps.map nD)] ++ [O.lst (mi.map nD)]).length)) (.int 0) S5 = .ok (nD (mi.filter fun p => rgtS T t p).length) S5 := by
      unfold subItem; simp only [f5]; rfl
    have hs1 : subItem (.ref (base.length + (O.lst ((sumsT T).map nD) :: O.lst pre :: junk ++ [O.lst (ps.map nD)] ++ [O.lst (mi.map nD)]).length)) (.int 1) S5 = .ok (nD (ps.filter fun p => rgtS T t p).length) S5 := by
      unfold subItem; simp only [f5]; rfl
    have e5' := e5
    rw [hst] at e5'
    refine s_ex (e_mt (e_var rfl) (ty_lst f1) (a_1 (e_tup (ps := [nP s, nP mi.length, nP (mi.filter fun p => rgtS T t p).length, nP ps.length, nP (ps.filter fun p => rgtS T t p).length]) (a_cons (e_op1 (a_1 (e_var rfl)) (int_at _ _)) (a_cons (e_op1 (a_1 (e_var rfl)) hle4) (a_3 (e_sub (e_var rfl) e_int hs0) (e_op1 (a_1 (e_var rfl)) hle3) (e_sub (e_var rfl) e_int hs1)))) (by simp))) e5') (s_nil ⟨_, rfl, junk ++ [O.lst (ps.map nD)] ++ [O.lst (mi.map nD)] ++ [O.lst [nD (mi.filter fun p => rgtS T t p).length, nD (ps.filter fun p => rgtS T t p).length]], _, _, _, _, ?_, rfl⟩)
    have z : (⟨S5.objs.set (base.length + 1) (.lst (pre ++ [(stOf T lot t s).d])), S5.nt || decide (base.length + 1 < (stOf T lot t s).d.mx)⟩ : Sto) = ⟨S5.objs.set (base.length + 1) (.lst (pre ++ [(stOf T lot t s).d])), S5.nt⟩ := by
      simp [hst, St5.d, D.mx]
    rw [hst] at z p6 ⊢
    have goal := p6
    rw [← z] at goal
    exact goal
  · rintro ρ S ⟨junk, x4, x20, x21, x22, p, rfl⟩
    rw [List.length_map, List.take_length] at p
    refine K _ S x4 x20 x21 x22 p ?_
    show some _ = some _
    congr 2
    unfold strata
    rw [List.map_map]
    rfl
end K87

namespace K87
open PySem PySem.Spec PyProof.Rows L2 Den
theorem fr41 {T : List (List Nat)} {wd t : Nat} (h : TabOk T wd) (ht : t < wd) (S : Sto) : frame F41 [.p (tabD T), nD t] S = .ok (.ref S.objs.length) ⟨S.objs ++ [.lst ((spread (strT T t)).map oD)], S.nt⟩ := by
  obtain ⟨d, S', e, l, rfl, e2⟩ := F41_ok h ht
  exact frame_new rfl ⟨S', e, e2⟩ (mxs_o _) S
theorem told5 {x : St5} (h : St5Ok2 x) (hs : x.s < 100) : Told x.p 1 5 := by
  have := h.a; have := h.m; have := h.r; have := h.rm; have := h.rr
  have big2 : ∀ n : Nat, n < 100 → n < 2 ^ 500 := fun n hn => Nat.lt_of_lt_of_le hn (Nat.le_trans (by decide : 100 ≤ 2 ^ 7) (Nat.pow_le_pow_right (by decide) (by decide)))
  refine told_tup (d := 0) (b := 0) (n := 5) (fun y m => ?_) (by simp)
  simp only [List.mem_cons, List.not_mem_nil, or_false] at m
  rcases m with rfl | rfl | rfl | rfl | rfl <;> exact told_nat (big2 _ (by omega))
theorem strata_s {T : List (List Nat)} {wd : Nat} (h : TabOk T wd) (lot : List Nat) (t : Nat) : ∀ x ∈ strata T lot t, x.s < 5 := by
  intro x m
  obtain ⟨s, hs, rfl⟩ := List.mem_map.mp m
  rw [usN_mem] at hs
  obtain ⟨r, hr, rfl⟩ := List.mem_map.mp hs
  have := (h.row r hr).1
  have := h.w1
  have : r.count 49 ≤ r.length := List.count_le_length
  show r.count 49 < 5
  omega
theorem told_strata {T : List (List Nat)} {wd : Nat} (h : TabOk T wd) (lot : List Nat) (t : Nat) : Told (.tuple ((strata T lot t).map St5.p)) 2 30 := by
  refine told_tup (d := 1) (b := 5) (n := 5) (fun y m => ?_) (by simp; exact strata_len h lot t)
  obtain ⟨x, mx, rfl⟩ := List.mem_map.mp m
  exact told5 (strata_ok2 h lot t x mx) (by have := strata_s h lot t x mx; omega)
abbrev RC (l : Nat) (T : List (List Nat)) (lot : List Nat) (t : Nat) (n : Nat) (x4 x5 x6 x7 x8 x9 x20 x21 x22 : Option D) : Rho := R42 l T lot t (some (.ref (n + 0))) (some (.ref (n + 1))) x4 x5 x6 x7 x8 x9 none none none none none none none none x20 x21 x22
theorem numT_eq (T : List (List Nat)) (lot : List Nat) (t : Nat) : (spread (strT T t)).map (fun o => nD (o.filter fun p => decide (p ∈ lot)).length) = (numT T lot t).map nD := by
  unfold numT numS
  rw [List.map_map]
  refine List.map_congr_left fun o _ => ?_
  show nD _ = nD _
  congr 2
  exact (List.countP_eq_length_filter ..).symm
theorem count_cast (ns : List Nat) (k : Nat) : (ns.map fun n : Nat => (n : Int)).count (k : Int) = ns.count k := by
  induction ns with
  | nil => rfl
  | cons n ns ih =>
    rw [List.map_cons, List.count_cons, List.count_cons, ih]
    by_cases h : n = k
    · subst h; simp
    · have : ¬ (n : Int) = (k : Int) := by omega
      simp [h, this]
theorem cnt_at {S : Sto} {l : Nat} {ns : List Nat} {k : Nat} (h : S.objs[l]? = some (.lst (ns.map nD))) : Mt.cnt.den (.ref l) [nD k] S = .ok (nD (ns.count k)) S := by
  show Den.bnd (getL l) (fun xs => optM (intsD xs) fun is => Den.ret (D.int (is.count (k : Int) : Nat))) S = _
  rw [bnd_ok (getL_at h), ints_nat]
  dsimp only [optM]
  rw [count_cast]; rfl
theorem usN_small {ns : List Nat} {k : Nat} (h : ∀ x ∈ ns, x < k) : (usN ns).length ≤ k := asc_len _ 0 k (usN_lt _) (fun x m => ⟨Nat.zero_le _, h x ((usN_mem _ _).mp m)⟩) (Nat.zero_le _)
theorem segC {base X : List O} {l k : Nat} {S : Sto} {Q : Fl → Sto → Prop} {T : List (List Nat)} {wd t : Nat} {lot : List Nat} {x4 x20 x21 x22 : Option D} (hT : TabOk T wd) (hl : LotOk lot T.length) (ht : t < wd) (hlt : l < base.length) (h : PS (base ++ X) l k S) (hX : X[1]? = some (.lst ((strata T lot t).map St5.d)))
    (K : ∀ X' S' n6 x5 x7, PS (base ++ X') l k S' → X'[1]? = some (.lst ((strata T lot t).map St5.d)) → X'[n6]? = some (.lst ((numT T lot t).map nD)) → Runs (r42_10.den G42) (RC l T lot t base.length x4 x5 (some (.ref (base.length + n6))) x7 none none x20 x21 x22) S' Q) :
    Runs (r42_5.den G42) (RB l T lot t base.length x4 x20 x21 x22) S Q := by
  have hn := numT_len hT lot t
  have td := told_strata hT lot t
  have g3 : S.objs[base.length + 1]? = some (.lst ((strata T lot t).map St5.d)) := h.ob hlt hX
  have g3' := g3
  rw [st5_map] at g3'
  refine s_reprs (p := .tuple ((strata T lot t).map St5.p)) (e_reprP (e_call (G := G42) (j := 19) rfl a_nil (a_3 (e_var rfl) (e_var rfl) (e_var rfl)) rfl rfl (frame_p rfl (F19_ok hT hl ht) S)) td (by decide) (by decide)) (e_reprP (e_op1 (a_1 (e_var rfl)) (tup_ref g3')) td (by decide) (by decide)) ?_
  -- every
  refine Runs.asg (e_call (G := G42) (j := 44) rfl (a_2 (e_var rfl) (e_var rfl)) a_nil rfl rfl (fr41 hT ht S)) ?_
  have p1 := h.pushX (.lst ((spread (strT T t)).map oD))
  rw [h.lenX]
  have g5 := p1.ob hlt (get_app0 X (O.lst ((spread (strT T t)).map oD)) [])
  -- numbers
  refine s_pushX ((numT T lot t).map nD) p1 ?_ ?_
  · rw [← numT_eq]
    refine l_lc0 (spread (strT T t)) oD _ (reads_ref rfl g5) (by have := hn.2; unfold numT numS at this; rw [List.length_map] at this; omega) fun o mo => ?_
    have hol := spread_mem (strT T t) [[]] 0 (by simp) o mo
    have := strT_sum hT t
    refine e_opF (l_lc1 o nD (fun p => decide (p ∈ lot)) nD (reads_lot rfl) (by omega) ?_ ?_) ?_
    · intro p _
      exact b_cmp (e_var rfl) (e_var rfl) (in_lot p lot _)
    · intro p _ _
      exact e_var rfl
    · show Den.R.ok (D.int ((_ : List D).length : Nat)) _ = _
      rw [List.length_map]
  intro S2 p2
  have g6 : S2.objs[base.length + (X ++ [O.lst ((spread (strT T t)).map oD)]).length]? = some (.lst ((numT T lot t).map nD)) := p2.ob hlt (get_app0 _ _ _)
  -- some
  refine s_pushX ((usN (numT T lot t)).map nD) p2 (l_sset (e_var rfl) g6 (by omega)) ?_
  intro S3 p3
  have hX3 : (X ++ [O.lst ((spread (strT T t)).map oD)] ++ [O.lst ((numT T lot t).map nD)] ++ [O.lst ((usN (numT T lot t)).map nD)])[1]? = some (.lst ((strata T lot t).map St5.d)) := by
    have := (List.getElem?_eq_some_iff.mp hX).1
    rw [List.append_assoc, List.append_assoc, List.getElem?_append_left this, hX]
  have hX6 : (X ++ [O.lst ((spread (strT T t)).map oD)] ++ [O.lst ((numT T lot t).map nD)] ++ [O.lst ((usN (numT T lot t)).map nD)])[(X ++ [O.lst ((spread (strT T t)).map oD)]).length]? = some (.lst ((numT T lot t).map nD)) := by
    rw [List.append_assoc]; exact get_app0 _ _ _
  have g6' := p3.ob hlt hX6
  have g7 := p3.ob hlt (get_app0 (X ++ [O.lst ((spread (strT T t)).map oD)] ++ [O.lst ((numT T lot t).map nD)]) (O.lst ((usN (numT T lot t)).map nD)) [])
  have hK := K _ S3 _ (some (.ref (base.length + X.length))) (some (.ref (base.length + (X ++ [O.lst ((spread (strT T t)).map oD)] ++ [O.lst ((numT T lot t).map nD)]).length))) p3 hX3 hX6
  have hR : totR T t < 8 := by
    have : totR T t ≤ sm (fun st : Str1 => st.1.length) (strT T t) := by
      have := strT_info hT t
      unfold totR
      revert this
      generalize strT T t = sts
      intro this
      induction sts with
      | nil => simp
      | cons st sts ih =>
        rw [sm_cons, sm_cons]
        have a := (this st (List.mem_cons_self ..)).2.2
        have := ih fun x m => this x (List.mem_cons_of_mem _ m)
        omega
    have := strT_sum hT t
    omega
  have hns : ∀ x ∈ numT T lot t, x < 8 := fun x m => by have := numT_le T lot t x m; omega
  have hul := usN_small hns
  have hw : (psort (kvI (waysS (strata T lot t)))).map prP = (usN (numT T lot t)).map fun k => PyData.tuple [nP k, nP ((numT T lot t).count k)] := by
    rw [psort_dict (dictT T lot t), List.map_map]; rfl
  have td2 : Told (.tuple ((usN (numT T lot t)).map fun k => PyData.tuple [nP k, nP ((numT T lot t).count k)])) 2 24 := by
    have big2 : ∀ n : Nat, n < 100 → n < 2 ^ 500 := fun n hn => Nat.lt_of_lt_of_le hn (Nat.le_trans (by decide : 100 ≤ 2 ^ 7) (Nat.pow_le_pow_right (by decide) (by decide)))
    refine told_tup (d := 1) (b := 2) (n := 8) (fun y m => ?_) (by simp; exact hul)
    obtain ⟨x, mx, rfl⟩ := List.mem_map.mp m
    refine told_tup (d := 0) (b := 0) (n := 2) (fun y m => ?_) (by simp)
    simp only [List.mem_cons, List.not_mem_nil, or_false] at m
    have c : (numT T lot t).count x ≤ (numT T lot t).length := List.count_le_length
    have := hns x ((usN_mem _ _).mp mx)
    rcases m with rfl | rfl <;> exact told_nat (big2 _ (by omega))
  have f22 := F22_ok hT hl ht
  rw [hw] at f22
  refine s_reprs (p := .tuple ((usN (numT T lot t)).map fun k => PyData.tuple [nP k, nP ((numT T lot t).count k)])) (e_reprP (e_call (G := G42) (j := 22) rfl a_nil (a_3 (e_var rfl) (e_var rfl) (e_var rfl)) rfl rfl (frame_p rfl f22 S3)) td2 (by decide) (by decide)) (e_reprP (e_opF (l_lc0 (usN (numT T lot t)) nD (fun k => .p (.tuple [nP k, nP ((numT T lot t).count k)])) (reads_ref rfl g7) (by omega) ?_) ?_) td2 (by decide) (by decide)) hK
  · intro x _
    exact e_tup (ps := [nP x, nP ((numT T lot t).count x)]) (a_2 (e_op1 (a_1 (e_var rfl)) (int_at _ _)) (e_mt (e_var rfl) (ty_lst g6') (a_1 (e_var rfl)) (cnt_at g6'))) (by simp)
  · rw [show ((usN (numT T lot t)).map fun k => D.p (PyData.tuple [nP k, nP ((numT T lot t).count k)])) = ((usN (numT T lot t)).map fun k => PyData.tuple [nP k, nP ((numT T lot t).count k)]).map D.p by rw [List.map_map]; rfl]
    exact tup_p _ _
end K87

namespace K87
open PySem PySem.Spec PyProof.Rows L2 Den
theorem told_fr {t : Int} {l : Nat} (h0 : 0 < l) (ht : t.natAbs ≤ 2 ^ 400) (hl : l ≤ 2 ^ 400) : Told (fr t l) 1 2 := by
  rw [fr_red]
  obtain ⟨a, b, c⟩ := red_low (t, l) h0
  have e : 2 ^ 400 < 2 ^ 500 := Nat.pow_lt_pow_right (by decide) (by decide)
  have e2 : 2 ^ 400 < 2 ^ 600 := Nat.pow_lt_pow_right (by decide) (by decide)
  refine told_tup (d := 0) (b := 0) (n := 2) (fun y m => ?_) (by simp)
  simp only [List.mem_cons, List.not_mem_nil, or_false] at m
  rcases m with rfl | rfl
  · exact told_int (Nat.lt_of_le_of_lt (Nat.le_trans c ht) e2)
  · exact told_nat (Nat.lt_of_le_of_lt (Nat.le_trans b hl) e)
theorem fr36n {t : Int} {l : Nat} (h0 : 0 < l) (h1 : l < 1000) (S : Sto) : frame F36 [.int t, nD l] S = .ok (.p (fr t l)) S :=
  at_ret (fr36 t l h0 (Nat.lt_of_lt_of_le h1 (Nat.le_trans (by decide : 1000 ≤ 2 ^ 10) (Nat.pow_le_pow_right (by decide) (by decide))))) S
structure SumOk (q : Int × Nat) : Prop where
  d0 : 0 < q.2
  d1 : q.2 ≤ 2 ^ 150
  n : q.1.natAbs ≤ 2 ^ 150
  z : q.1 = 0 → q.2 = 1
theorem sum_ok {qs : List (Int × Nat)} (hq : ∀ q ∈ qs, okQ q) (hn : qs.length ≤ 6) : SumOk (sumP qs) := by
  obtain ⟨a, b, c⟩ := sum_bd qs (0, 1) 0 hq (by decide)
  have e : 2 ^ (0 + 21 * qs.length) ≤ 2 ^ 150 := Nat.pow_le_pow_right (by decide) (by omega)
  exact ⟨a, Nat.le_trans b e, Nat.le_trans c e, sumP_red qs (0, 1) (fun _ => rfl) hq (by decide)⟩
theorem sumA_ok {xs : List St5} (h : ∀ x ∈ xs, St5Ok2 x) (hn : xs.length ≤ 6) : SumOk (sumA xs) := sum_ok (fun q m => by obtain ⟨x, mx, rfl⟩ := List.mem_map.mp m; exact okA (h x mx)) (by simpa using hn)
theorem sumB_ok {xs : List St5} (h : ∀ x ∈ xs, St5Ok2 x) (hn : xs.length ≤ 6) : SumOk (sumB xs) ∧ 0 ≤ (sumB xs).1 := ⟨sum_ok (fun q m => by obtain ⟨x, mx, rfl⟩ := List.mem_map.mp m; exact okB (h x mx)) (by simpa using hn), sumP_nn (xs.map qB) (0, 1) (by decide) fun q m => by
  obtain ⟨x, mx, rfl⟩ := List.mem_map.mp m
  exact red_nn (tB_nn (h x mx))⟩
theorem told_odds {xs : List St5} (h : ∀ x ∈ xs, St5Ok2 x) (hn : xs.length ≤ 6) : Told (oddsD xs) 1 2 := by
  have a := sumA_ok h hn
  obtain ⟨b, b0⟩ := sumB_ok h hn
  unfold oddsD
  by_cases z : (sumB xs).1 = 0
  · rw [if_pos z]; exact told_non.mono (by decide) (by decide)
  · rw [if_neg z]
    have e : 2 ^ 150 * 2 ^ 150 ≤ 2 ^ 400 := by rw [← Nat.pow_add]; exact Nat.pow_le_pow_right (by decide) (by decide)
    have b1 := b.n
    refine told_fr (Nat.mul_pos a.d0 (by omega)) ?_ ?_
    · rw [Int.natAbs_mul, Int.natAbs_natCast]
      exact Nat.le_trans (Nat.mul_le_mul a.n b.d1) e
    · exact Nat.le_trans (Nat.mul_le_mul a.d1 (by omega)) e
theorem l_lc5 {G : Gm} {ρ : Rho} {S : Sto} {own : List Nat} {i1 i2 i3 i4 i5 : Nat} {e : Ex} {s : Ix} (xs : List St5) (ev : St5 → D) (hs : Reads (s.den G) ρ S (xs.map St5.d)) (hn : xs.length < 1000000)
    (he : ∀ x ∈ xs, e.den G ((((((wipeR ρ own).set i1 (some (nD x.s))).set i2 (some (nD x.mine))).set i3 (some (nD x.right))).set i4 (some (nD x.all))).set i5 (some (nD x.rall))) S = .ok (ev x) S) :
    (Lx.lc own (.tup (.cons (.nm i1) (.cons (.nm i2) (.cons (.nm i3) (.cons (.nm i4) (.cons (.nm i5) .nil)))))) .yes e s).den G ρ S = .ok (xs.map ev) S :=
  l_lcT xs St5.d _ ev hs hn (fun x _ => by
    simp [St5.d, Tg.den, Tgs.den, tgT, tupItems, tgAll, tgN, Den.bnd, Den.ret, Den.guardM]) he
/-- shares of the numbers -/
def shM (ns : List Nat) (here : Nat) : PyData := fr ((ns.filter fun x => decide (here ≤ x)).length : Nat) ns.length
def shL (ns : List Nat) (here : Nat) : PyData := fr ((ns.filter fun x => decide (x ≤ here)).length : Nat) ns.length
theorem told_sh {ns : List Nat} (h0 : 0 < ns.length) (h1 : ns.length ≤ 35) (p : Nat → Bool) : Told (fr ((ns.filter p).length : Nat) ns.length) 1 2 := by
  have := List.length_filter_le p ns
  have e : 35 ≤ 2 ^ 400 := Nat.le_trans (by decide : 35 ≤ 2 ^ 6) (Nat.pow_le_pow_right (by decide) (by decide))
  exact told_fr h0 (by rw [Int.natAbs_natCast]; omega) (by omega)
theorem f25 {T : List (List Nat)} {wd t : Nat} {lot : List Nat} (h : TabOk T wd) (hl : LotOk lot T.length) (ht : t < wd) (S : Sto) : frame F25 [.p (tabD T), .p (lotD lot), nD t] S = .ok (.p (shM (numT T lot t) (hereS T lot t))) S := by
  have hn := numT_len h lot t
  have e := F25_ok h hl ht (by rw [wholeT]; exact hn.1) (by rw [wholeT]; exact Nat.lt_of_le_of_lt hn.2 (Nat.lt_of_lt_of_le (by decide : 35 < 2 ^ 6) (Nat.pow_le_pow_right (by decide) (by decide))))
  rw [wholeT, moreT] at e
  exact frame_p rfl e S
theorem f26 {T : List (List Nat)} {wd t : Nat} {lot : List Nat} (h : TabOk T wd) (hl : LotOk lot T.length) (ht : t < wd) (S : Sto) : frame F26 [.p (tabD T), .p (lotD lot), nD t] S = .ok (.p (shL (numT T lot t) (hereS T lot t))) S := by
  have hn := numT_len h lot t
  have e := F26_ok h hl ht (by rw [wholeT]; exact hn.1) (by rw [wholeT]; exact Nat.lt_of_le_of_lt hn.2 (Nat.lt_of_lt_of_le (by decide : 35 < 2 ^ 6) (Nat.pow_le_pow_right (by decide) (by decide))))
  rw [wholeT, lessT] at e
  exact frame_p rfl e S
abbrev RD (l : Nat) (T : List (List Nat)) (lot : List Nat) (t : Nat) (n : Nat) (x4 x5 x6 x7 x8 x9 x10 x11 x12 x20 x21 x22 : Option D) : Rho := R42 l T lot t (some (.ref (n + 0))) (some (.ref (n + 1))) x4 x5 x6 x7 x8 x9 x10 x11 x12 none none none none none x20 x21 x22
theorem totR_lt {T : List (List Nat)} {wd : Nat} (hT : TabOk T wd) (t : Nat) : totR T t < 8 := by
  have : totR T t ≤ sm (fun st : Str1 => st.1.length) (strT T t) := by
    have := strT_info hT t
    unfold totR
    revert this
    generalize strT T t = sts
    intro this
    induction sts with
    | nil => simp
    | cons st sts ih =>
      rw [sm_cons, sm_cons]
      have a := (this st (List.mem_cons_self ..)).2.2
      have := ih fun x m => this x (List.mem_cons_of_mem _ m)
      omega
  have := strT_sum hT t
  omega
theorem sum_le8 : ∀ (ns : List Nat), (∀ x ∈ ns, x < 8) → ns.sum ≤ 8 * ns.length
  | [], _ => by simp
  | n :: ns, h => by
    have := sum_le8 ns fun x m => h x (List.mem_cons_of_mem _ m)
    have := h n (List.mem_cons_self ..)
    rw [List.sum_cons, List.length_cons]; omega
/-- here, shares, mean -/
theorem segD {base X : List O} {l k n6 : Nat} {S : Sto} {Q : Fl → Sto → Prop} {T : List (List Nat)} {wd t : Nat} {lot : List Nat} {x4 x5 x7 x20 x21 x22 : Option D} (hT : TabOk T wd) (hl : LotOk lot T.length) (ht : t < wd) (hlt : l < base.length) (h : PS (base ++ X) l k S)
    (hX : X[1]? = some (.lst ((strata T lot t).map St5.d))) (hX6 : X[n6]? = some (.lst ((numT T lot t).map nD)))
    (K : ∀ X' S' n9, PS (base ++ X') l k S' → X'[1]? = some (.lst ((strata T lot t).map St5.d)) → X'[n6]? = some (.lst ((numT T lot t).map nD)) → X'[n9]? = some (.lst [.p (shM (numT T lot t) (hereS T lot t)), .p (shL (numT T lot t) (hereS T lot t))]) →
      Runs (r42_14.den G42) (RC l T lot t base.length x4 x5 (some (.ref (base.length + n6))) x7 (some (nD (hereS T lot t))) (some (.ref (base.length + n9))) x20 x21 x22) S' Q) :
    Runs (r42_10.den G42) (RC l T lot t base.length x4 x5 (some (.ref (base.length + n6))) x7 none none x20 x21 x22) S Q := by
  have hn := numT_len hT lot t
  have f25' := f25 hT hl ht
  have f26' := f26 hT hl ht
  have g6 := h.ob hlt hX6
  have hm := meanT hT lot t
  have f29 := F29_ok hT hl ht
  rw [hm, ← fr_red] at f29
  have hs8 := sum_le8 (numT T lot t) fun x m => by have := numT_le T lot t x m; have := totR_lt hT t; omega
  generalize numT T lot t = ns at *
  refine Runs.asg (d := nD (hereS T lot t)) (S1 := S) (e_opF (l_lc1 lot nD (fun p => rgtS T t p) nD (reads_lot rfl) (by have := hl.len; omega) ?_ ?_) ?_) ?_
  · intro p m
    exact b_cmp (e_sub (e_sub (e_var rfl) (e_var rfl) (at_ret (sub_tab (hl.lt p m)) _)) (e_var rfl) (sub_cell hT ht (hl.lt p m) _)) e_str (cell_eq _)
  · intro p _ _
    exact e_var rfl
  · show Den.R.ok (D.int ((_ : List D).length : Nat)) _ = _
    rw [List.length_map]; rfl
  generalize hereS T lot t = here at *
  have le6 : lenD [.ref (base.length + n6)] S = .ok (nD ns.length) S := by rw [len_ref g6, List.length_map]
  refine s_pushX [.p (shM ns here), .p (shL ns here)] h (l_disp (a_2 (e_call (G := G42) (j := 39) rfl (a_2 (e_opF (S1 := S) (a := nD (ns.filter fun x => decide (here ≤ x)).length) (l_lc1 ns nD (fun x => decide (here ≤ x)) nD (reads_ref rfl g6) (by omega) ?_ ?_) ?_) (e_op1 (a_1 (e_var rfl)) le6)) a_nil rfl rfl (fr36n hn.1 (by omega) S)) (e_call (G := G42) (j := 39) rfl (a_2 (e_opF (S1 := S) (a := nD (ns.filter fun x => decide (x ≤ here)).length) (l_lc1 ns nD (fun x => decide (x ≤ here)) nD (reads_ref rfl g6) (by omega) ?_ ?_) ?_) (e_op1 (a_1 (e_var rfl)) le6)) a_nil rfl rfl (fr36n hn.1 (by omega) S))) (by simp)) ?_
  · intro x _
    refine b_cmp (e_var rfl) (e_var rfl) ?_
    show Den.R.ok (decide ((here : Int) ≤ (x : Int))) S = _
    simp
  · intro x _ _
    exact e_var rfl
  · show Den.R.ok (D.int ((_ : List D).length : Nat)) _ = _
    rw [List.length_map]
  · intro x _
    refine b_cmp (e_var rfl) (e_var rfl) ?_
    show Den.R.ok (decide ((x : Int) ≤ (here : Int))) S = _
    simp
  · intro x _ _
    exact e_var rfl
  · show Den.R.ok (D.int ((_ : List D).length : Nat)) _ = _
    rw [List.length_map]
  intro S2 p2
  have hX' : (X ++ [O.lst [.p (shM ns here), .p (shL ns here)]])[1]? = some (.lst ((strata T lot t).map St5.d)) := by
    rw [List.getElem?_append_left (List.getElem?_eq_some_iff.mp hX).1, hX]
  have hX6' : (X ++ [O.lst [.p (shM ns here), .p (shL ns here)]])[n6]? = some (.lst (ns.map nD)) := by
    rw [List.getElem?_append_left (List.getElem?_eq_some_iff.mp hX6).1, hX6]
  have hX9 := get_app0 X (O.lst [.p (shM ns here), .p (shL ns here)]) []
  have g9 := p2.ob hlt hX9
  have g6' := p2.ob hlt hX6'
  have hK := K _ S2 _ p2 hX' hX6' hX9
  have td : Told (.list [shM ns here, shL ns here]) 2 6 := by
    refine told_lst (d := 1) (b := 2) (n := 2) (fun y m => ?_) (by simp)
    simp only [List.mem_cons, List.not_mem_nil, or_false] at m
    rcases m with rfl | rfl
    · exact told_sh hn.1 hn.2 _
    · exact told_sh hn.1 hn.2 _
  refine s_unless (b_cmp (e_reprF (ps := [shM ns here, shL ns here]) (l_disp (a_2 (e_call (G := G42) (j := 26) rfl a_nil (a_3 (e_var rfl) (e_var rfl) (e_var rfl)) rfl rfl (f25' S2)) (e_call (G := G42) (j := 28) rfl a_nil (a_3 (e_var rfl) (e_var rfl) (e_var rfl)) rfl rfl (f26' S2))) (by simp)) td (by decide) (by decide)) (e_reprR (ps := [shM ns here, shL ns here]) (e_var rfl) g9 td (by decide) (by decide)) (ne_same _ _)) ?_
  have hsum : Op1.sumL.den [.ref (base.length + n6)] S2 = .ok (nD ns.sum) S2 := by
    show Den.bnd (getL (base.length + n6)) sumF S2 = _
    rw [bnd_ok (getL_at g6')]
    have := sumF_nat (fun n : Nat => n) ns S2
    rw [this]
    unfold sm
    simp
  have le6' : lenD [.ref (base.length + n6)] S2 = .ok (nD ns.length) S2 := by rw [len_ref g6', List.length_map]
  have hs35 : ns.sum ≤ 2 ^ 400 := Nat.le_trans (show ns.sum ≤ 2 ^ 9 by omega) (Nat.pow_le_pow_right (by decide) (by decide))
  have e35 : 35 ≤ 2 ^ 400 := Nat.le_trans (by decide : 35 ≤ 2 ^ 6) (Nat.pow_le_pow_right (by decide) (by decide))
  have td2 : Told (fr (ns.sum : Nat) ns.length) 1 2 := told_fr hn.1 (by rw [Int.natAbs_natCast]; exact hs35) (by omega)
  exact s_reprs (p := fr (ns.sum : Nat) ns.length) (e_reprP (e_call (G := G42) (j := 32) rfl a_nil (a_3 (e_var rfl) (e_var rfl) (e_var rfl)) rfl rfl (frame_p rfl f29 S2)) td2 (by decide) (by decide)) (e_reprP (e_call (G := G42) (j := 39) rfl (a_2 (e_op1 (a_1 (e_var rfl)) hsum) (e_op1 (a_1 (e_var rfl)) le6')) a_nil rfl rfl (fr36n hn.1 (by omega) S2)) td2 (by decide) (by decide)) hK
end K87

namespace K87
open PySem PySem.Spec PyProof.Rows L2 Den
theorem lawA (x : St5) : (x.right : Int) * ((((x.all : Int) - (x.mine : Int)) - (x.rall : Int)) + (x.right : Int)) = tA x := by
  unfold tA
  congr 1
  omega
/-- a sum of fractions of the strata -/
theorem sum_call {base X : List O} {l k n : Nat} {S : Sto} {ρ : Rho} {sts : List St5} {e : Ex} {own : List Nat} {i1 i2 i3 i4 i5 v : Nat} (q : St5 → Int × Nat) (hlt : l < base.length) (h : PS (base ++ X) l k S) (hX : X[n]? = some (.lst (sts.map St5.d))) (hv : ρ[v]? = some (some (.ref (base.length + n)))) (hs : sts.length ≤ 6) (hq : ∀ x ∈ sts, okQ (q x))
    (he : ∀ x ∈ sts, e.den G42 ((((((wipeR ρ own).set i1 (some (nD x.s))).set i2 (some (nD x.mine))).set i3 (some (nD x.right))).set i4 (some (nD x.all))).set i5 (some (nD x.rall))) S = .ok (.p (dP (q x))) S) :
    ∃ S', (Ex.call 41 (.cons (.push (.lc own (.tup (.cons (.nm i1) (.cons (.nm i2) (.cons (.nm i3) (.cons (.nm i4) (.cons (.nm i5) .nil)))))) .yes e (.b (.e (.var v))))) .nil) .nil).den G42 ρ S = .ok (.p (dP (sumP (sts.map q)))) S' ∧ PS (base ++ (X ++ [.lst (sts.map fun x => .p (dP (q x)))])) l k S' := by
  have p1 := h.pushX (.lst (sts.map fun x => .p (dP (q x))))
  have g := p1.ob hlt (get_app0 X (O.lst (sts.map fun x => .p (dP (q x)))) [])
  rw [← h.lenX] at g
  refine ⟨_, e_call (G := G42) (j := 41) rfl (a_1 (e_push (l_lc5 sts _ (reads_ref hv (h.ob hlt hX)) (by omega) he))) a_nil rfl rfl (fr38 (qs := sts.map q) p1.nt (by rw [List.map_map]; exact g) ?_ (by simp; omega)), p1⟩
  intro z m
  obtain ⟨x, mx, rfl⟩ := List.mem_map.mp m
  exact hq x mx
theorem fr36q {i : Int} {n : Nat} (h0 : 0 < n) (h1 : n < 1000) (S : Sto) : frame F36 [.int i, nD n] S = .ok (.p (dP (red (i, n)))) S := by
  rw [← fr_red]; exact fr36n h0 h1 S
/-- the odds, from two sums -/
theorem odds_e {ρ : Rho} {S : Sto} {A B : Int × Nat} (hA : SumOk A) (hB : SumOk B) (hB0 : 0 ≤ B.1) (h10 : ρ[10]? = some (some (.p (dP A)))) (h11 : ρ[11]? = some (some (.p (dP B)))) :
    (Ex.ite (.cmp .Eq (.sub (.var 11) (.int 0)) (.int 0)) .non (.call 39 (.cons (.bin .Mult (.sub (.var 10) (.int 0)) (.sub (.var 11) (.int 1))) (.cons (.bin .Mult (.sub (.var 10) (.int 1)) (.sub (.var 11) (.int 0))) .nil)) .nil)).den G42 ρ S = .ok (.p (if B.1 = 0 then .none else fr (A.1 * (B.2 : Nat)) (A.2 * B.1.toNat))) S := by
  have z : ∀ (q : Int × Nat), subItem (.p (dP q)) (.int 0) S = .ok (.int q.1) S := fun q => rfl
  have z1 : ∀ (q : Int × Nat), subItem (.p (dP q)) (.int 1) S = .ok (nD q.2) S := fun q => rfl
  have hc : cmpD .Eq (.int B.1) (.int 0) S = .ok (decide (B.1 = 0)) S := at_ret (eq_int _ _) S
  by_cases h : B.1 = 0
  · rw [if_pos h]
    rw [decide_eq_true h] at hc
    exact e_ite_t (b_cmp (e_sub (e_var h11) e_int (z B)) e_int hc) rfl
  · rw [if_neg h]
    rw [decide_eq_false h] at hc
    have b1 := hB.n
    have up : ∀ n : Nat, n ≤ 2 ^ 150 → n < 2 ^ 400000 := fun n hn => Nat.lt_of_le_of_lt hn (Nat.pow_lt_pow_right (by decide) (by decide))
    have m1 : mulD (.int A.1) (nD B.2) S = .ok (.int (A.1 * (B.2 : Nat))) S := at_ret (mul_ok (up _ hA.n) (by rw [Int.natAbs_natCast]; exact up _ hB.d1)) S
    have m2 : mulD (nD A.2) (.int B.1) S = .ok (nD (A.2 * B.1.toNat)) S := by
      have := at_ret (mul_ok (i := (A.2 : Int)) (j := B.1) (by rw [Int.natAbs_natCast]; exact up _ hA.d1) (up _ hB.n)) S
      rw [this]
      congr 2
      rw [Int.natCast_mul, Int.toNat_of_nonneg hB0]
    have hl : A.2 * B.1.toNat < 2 ^ big := by
      have : A.2 * B.1.toNat ≤ 2 ^ 150 * 2 ^ 150 := Nat.mul_le_mul hA.d1 (by omega)
      rw [← Nat.pow_add] at this
      exact Nat.lt_of_le_of_lt this (Nat.pow_lt_pow_right (by decide) (by decide))
    exact e_ite_f (b_cmp (e_sub (e_var h11) e_int (z B)) e_int hc) (e_call (G := G42) (j := 39) rfl (a_2 (e_bin (e_sub (e_var h10) e_int (z A)) (e_sub (e_var h11) e_int (z1 B)) m1) (e_bin (e_sub (e_var h10) e_int (z1 A)) (e_sub (e_var h11) e_int (z B)) m2)) a_nil rfl rfl (at_ret (fr36 _ _ (Nat.mul_pos hA.d0 (by omega)) hl) S))
theorem segE {base X : List O} {l k n6 n9 : Nat} {S : Sto} {Q : Fl → Sto → Prop} {T : List (List Nat)} {wd t : Nat} {lot : List Nat} {x4 x5 x6 x7 x8 x9 x20 x21 x22 : Option D} {o6 o9 : O} (hT : TabOk T wd) (hl : LotOk lot T.length) (ht : t < wd) (hlt : l < base.length) (h : PS (base ++ X) l k S)
    (hX : X[1]? = some (.lst ((strata T lot t).map St5.d))) (hX6 : X[n6]? = some o6) (hX9 : X[n9]? = some o9)
    (K : ∀ X' S' x10 x11, PS (base ++ X') l k S' → X'[n6]? = some o6 → X'[n9]? = some o9 →
      Runs (r42_18.den G42) (RD l T lot t base.length x4 x5 x6 x7 x8 x9 x10 x11 (some (.p (oddsD (strata T lot t)))) x20 x21 x22) S' Q) :
    Runs (r42_14.den G42) (RC l T lot t base.length x4 x5 x6 x7 x8 x9 x20 x21 x22) S Q := by
  have hok := strata_ok2 hT lot t
  have hs := strata_len hT lot t
  have f27 := F27_ok hT hl ht
  have tdo := told_odds hok (by omega)
  have hA := sumA_ok hok (by omega)
  obtain ⟨hB, hB0⟩ := sumB_ok hok (by omega)
  unfold oddsD at f27 tdo K
  unfold sumA sumB at *
  generalize strata T lot t = sts at *
  obtain ⟨S1, e1, p1⟩ := sum_call (ρ := RC l T lot t base.length x4 x5 x6 x7 x8 x9 x20 x21 x22) (own := [4, 21, 28, 29, 30]) (i1 := 4) (i2 := 21) (i3 := 28) (i4 := 29) (i5 := 30) (v := 3) (e := .call 39 (.cons (.bin .Mult (.var 28) (.bin .Add (.bin .Sub (.bin .Sub (.var 29) (.var 21)) (.var 30)) (.var 28))) (.cons (.var 29) .nil)) .nil) qA hlt h hX rfl (by omega) (fun x m => okA (hok x m)) (fun x m => by
    have ok := hok x m
    have := ok.a; have := ok.rm; have := ok.m
    have e := lawA x
    exact e_call (G := G42) (j := 39) rfl (a_2 (e_bin (e_var rfl) (e_bin (e_bin (e_bin (e_var rfl) (e_var rfl) rfl) (e_var rfl) rfl) (e_var rfl) rfl) (by
      have := mul_tiny (i := (x.right : Int)) (j := ((((x.all : Int) - (x.mine : Int)) - (x.rall : Int)) + (x.right : Int))) (by simp; omega) S
      rw [e] at this
      exact this)) (e_var rfl)) a_nil rfl rfl (fr36q ok.a0 (by omega) S))
  refine Runs.asg e1 ?_
  have up : ∀ {Y : List O} {j : Nat} {o : O} {a : O}, Y[j]? = some o → (Y ++ [a])[j]? = some o := fun {Y j o a} hj => by
    rw [List.getElem?_append_left (List.getElem?_eq_some_iff.mp hj).1, hj]
  obtain ⟨S2, e2, p2⟩ := sum_call (ρ := RD l T lot t base.length x4 x5 x6 x7 x8 x9 (some (.p (dP (sumP (sts.map qA))))) none none x20 x21 x22) (own := [4, 21, 28, 29, 30]) (i1 := 4) (i2 := 21) (i3 := 28) (i4 := 29) (i5 := 30) (v := 3) (e := .call 39 (.cons (.bin .Mult (.bin .Sub (.var 21) (.var 28)) (.bin .Sub (.var 30) (.var 28))) (.cons (.var 29) .nil)) .nil) qB hlt p1 (up hX) rfl (by omega) (fun x m => okB (hok x m)) (fun x m => by
    have ok := hok x m
    have := ok.a; have := ok.rm; have := ok.m
    exact e_call (G := G42) (j := 39) rfl (a_2 (e_bin (e_bin (e_var rfl) (e_var rfl) rfl) (e_bin (e_var rfl) (e_var rfl) rfl) (mul_tiny (by omega) S1)) (e_var rfl)) a_nil rfl rfl (fr36q ok.a0 (by omega) S1))
  refine Runs.asg e2 ?_
  have hK := K _ S2 (some (.p (dP (sumP (sts.map qA))))) (some (.p (dP (sumP (sts.map qB))))) p2 (up (up hX6)) (up (up hX9))
  generalize sumP (sts.map qA) = A at *
  generalize sumP (sts.map qB) = B at *
  refine s_asgN (.p (if B.1 = 0 then .none else fr (A.1 * (B.2 : Nat)) (A.2 * B.1.toNat))) (RD l T lot t base.length x4 x5 x6 x7 x8 x9 (some (.p (dP A))) (some (.p (dP B))) (some (.p (if B.1 = 0 then .none else fr (A.1 * (B.2 : Nat)) (A.2 * B.1.toNat)))) x20 x21 x22) S2 (odds_e hA hB hB0 rfl rfl) rfl ?_
  exact s_reprs (e_reprP (e_call (G := G42) (j := 30) rfl a_nil (a_3 (e_var rfl) (e_var rfl) (e_var rfl)) rfl rfl (frame_p rfl f27 S2)) tdo (by decide) (by decide)) (e_reprP (e_var rfl) tdo (by decide) (by decide)) hK
end K87

namespace K87
open PySem PySem.Spec PyProof.Rows L2 Den
theorem eq_dPs (q r : Int × Nat) (S : Sto) : eqD (.p (dP q)) (.p (dP r)) S = .ok (decide (q.1 = r.1) && decide (q.2 = r.2)) S := by
  have a : asPy (.p (dP q)) S = .ok (dP q) S := rfl
  have b : asPy (.p (dP r)) S = .ok (dP r) S := rfl
  unfold eqD
  rw [bnd_ok a, bnd_ok b]
  have g : (scalP (dP q) (dP r) || (SeqAt.shaped (dP q) && SeqAt.shaped (dP r))) = true := by
    rfl
  unfold eqPD
  rw [g, guardM_t]
  show Den.R.ok ((q.1 == r.1) && (((q.2 : Int) == (r.2 : Int)) && true)) S = _
  congr 1
  have : ((q.2 : Int) == (r.2 : Int)) = decide (q.2 = r.2) := by
    by_cases h : q.2 = r.2
    · simp [h]
    · have : ¬ (q.2 : Int) = (r.2 : Int) := by omega
      simp [h, this]
  rw [this, Bool.and_true]
  rfl
theorem ne_dP (q : Int × Nat) (S : Sto) : cmpD .NotEq (.p (dP q)) (.p (dP q)) S = .ok false S := by
  show Den.bnd (eqD (.p (dP q)) (.p (dP q))) (fun b => Den.ret (!b)) S = _
  rw [bnd_ok (eq_dPs q q S)]
  simp [Den.ret]
theorem ne_fr (t : Int) (l : Nat) (S : Sto) : cmpD .NotEq (.p (fr t l)) (.p (fr t l)) S = .ok false S := by
  rw [fr_red]; exact ne_dP _ S
theorem sh_others {T : List (List Nat)} {wd : Nat} {lot : List Nat} (hT : TabOk T wd) (hl : LotOk lot T.length) (t : Nat) :
    shM (numT T (others T.length lot) t) (hereS T (others T.length lot) t) = shL (numT T lot t) (hereS T lot t) ∧ shL (numT T (others T.length lot) t) (hereS T (others T.length lot) t) = shM (numT T lot t) (hereS T lot t) := by
  obtain ⟨h1, h2⟩ := here_others hl t
  have hle := numT_le T lot t
  unfold shM shL
  rw [numT_others, h2]
  rw [compl_more _ _ _ hle h1, compl_less _ _ _ hle h1, List.length_map]
  exact ⟨rfl, rfl⟩
theorem flip_sums {xs : List St5} (h : ∀ x ∈ xs, St5Ok2 x) : sumA (xs.map flip5) = sumB xs ∧ sumB (xs.map flip5) = sumA xs := by
  unfold sumA sumB
  rw [List.map_map, List.map_map]
  exact ⟨congrArg sumP (List.map_congr_left fun x m => flipA (h x m)), congrArg sumP (List.map_congr_left fun x m => flipB (h x m))⟩
abbrev RF (l : Nat) (T : List (List Nat)) (lot : List Nat) (t : Nat) (n : Nat) (x4 x5 x6 x7 x8 x9 x10 x11 x12 x13 x14 x15 x16 x17 x20 x21 x22 : Option D) : Rho := R42 l T lot t (some (.ref (n + 0))) (some (.ref (n + 1))) x4 x5 x6 x7 x8 x9 x10 x11 x12 x13 x14 x15 x16 x17 x20 x21 x22
theorem isnot_non (x : D) (S : Sto) : cmpD .IsNot x .non S = .ok (!x.isNon) S := by
  show Den.bnd (isD x .non) (fun b => Den.ret (!b)) S = _
  have : isD x .non S = .ok x.isNon S := by
    unfold isD
    cases x with
    | p y => cases y <;> rfl
    | _ => rfl
  rw [bnd_ok this]; rfl
theorem fr_swap (a b c d : Nat) : ∀ S, cmpD .NotEq (.p (fr ((b : Int) * (c : Int)) (d * a))) (.p (.tuple [.int (((c * b : Nat) : Int) / (Nat.gcd ((a : Int) * (d : Int)).natAbs (c * b) : Nat)), .int (((a : Int) * (d : Int)) / (Nat.gcd ((a : Int) * (d : Int)).natAbs (c * b) : Nat))])) S = .ok false S := by
  intro S
  have e : (PyData.tuple [.int (((c * b : Nat) : Int) / (Nat.gcd ((a : Int) * (d : Int)).natAbs (c * b) : Nat)), .int (((a : Int) * (d : Int)) / (Nat.gcd ((a : Int) * (d : Int)).natAbs (c * b) : Nat))]) = fr ((b : Int) * (c : Int)) (d * a) := by
    unfold fr
    have g : Nat.gcd ((a : Int) * (d : Int)).natAbs (c * b) = Nat.gcd ((b : Int) * (c : Int)).natAbs (d * a) := by
      rw [show ((a : Int) * (d : Int)) = ((a * d : Nat) : Int) by push_cast; rfl, show ((b : Int) * (c : Int)) = ((b * c : Nat) : Int) by push_cast; rfl, Int.natAbs_natCast, Int.natAbs_natCast, Nat.gcd_comm, Nat.mul_comm c b, Nat.mul_comm a d]
    rw [g]
    have e1 : ((c * b : Nat) : Int) = (b : Int) * (c : Int) := by push_cast; exact Int.mul_comm _ _
    have e2 : (a : Int) * (d : Int) = ((d * a : Nat) : Int) := by push_cast; exact Int.mul_comm _ _
    rw [e1, e2]
  rw [e]
  exact ne_fr _ _ S
theorem segF {base X : List O} {l k n6 n9 : Nat} {S : Sto} {Q : Fl → Sto → Prop} {T : List (List Nat)} {wd t : Nat} {lot : List Nat} {x4 x5 x6 x7 x8 x10 x11 x20 x21 x22 : Option D} {o6 : O} (hT : TabOk T wd) (hl : LotOk lot T.length) (ht : t < wd) (hlt : l < base.length) (h : PS (base ++ X) l k S)
    (hX9 : X[n9]? = some (.lst [.p (shM (numT T lot t) (hereS T lot t)), .p (shL (numT T lot t) (hereS T lot t))]))
    (K : ∀ x13 x14, Runs (r42_22.den G42) (RF l T lot t base.length x4 x5 x6 x7 x8 (some (.ref (base.length + n9))) x10 x11 (some (.p (oddsD (strata T lot t)))) x13 x14 none none none x20 x21 x22) S Q) :
    Runs (r42_18.den G42) (RD l T lot t base.length x4 x5 x6 x7 x8 (some (.ref (base.length + n9))) x10 x11 (some (.p (oddsD (strata T lot t)))) x20 x21 x22) S Q := by
  have h7 := hT.n1
  have hl' := others_ok T.length lot (by omega)
  have g9 := h.ob hlt hX9
  have l0 := len_tup (T.map fun r => PyData.str (rowS r))
  rw [List.length_map] at l0
  have a25 := f25 hT hl' ht
  have a26 := f26 hT hl' ht
  obtain ⟨e1, e2⟩ := sh_others hT hl t
  rw [e1] at a25; rw [e2] at a26
  have f27 := F27_ok hT hl' ht
  have so := strata_others hT lot t
  have hok := strata_ok2 hT lot t
  have hok' := strata_ok2 hT (others T.length lot) t
  have hs := strata_len hT lot t
  have hs' := strata_len hT (others T.length lot) t
  obtain ⟨hB', hB0'⟩ := sumB_ok hok' (by omega)
  obtain ⟨hB, hB0⟩ := sumB_ok hok (by omega)
  obtain ⟨s1, s2⟩ := flip_sums hok
  rw [so] at f27 hB0'
  rw [s2] at hB0'
  unfold oddsD at f27 K ⊢
  rw [s1, s2] at f27
  generalize sumA (strata T lot t) = A at *
  generalize sumB (strata T lot t) = B at *
  have hot : (others T.length lot).map nD = ((others T.length lot).map nP).map D.p := by rw [List.map_map]; rfl
  refine Runs.asg (d := .p (lotD (others T.length lot))) (S1 := S) (e_opF (ds := (others T.length lot).map nD) (l_lc1 (List.range T.length) nD (fun p => !decide (p ∈ lot)) nD ?_ (by simp; omega) ?_ ?_) (by rw [hot]; exact tup_p _ _)) ?_
  · rw [← rgs0]
    exact (con_r1 (n := T.length) (f := (Ex.op1 .len (.cons (.var 1) .nil)).den G42) (e_op1 (ds := [.p (tabD T)]) (a_1 (e_var rfl)) (at_ret l0 _)) (by omega)).reads
  · intro p _
    refine b_cmp (e_var rfl) (e_var rfl) ?_
    show Den.bnd (inD (nD p) (.p (lotD lot))) (fun b => Den.ret (!b)) S = _
    rw [bnd_ok (in_lot p lot S)]; rfl
  · intro p _ _
    exact e_op1 (a_1 (e_var rfl)) (int_at _ _)
  have sb0 : subItem (.ref (base.length + n9)) (.int 0) S = .ok (.p (shM (numT T lot t) (hereS T lot t))) S := by
    unfold subItem; simp only [g9]; rfl
  have sb1 : subItem (.ref (base.length + n9)) (.int 1) S = .ok (.p (shL (numT T lot t) (hereS T lot t))) S := by
    unfold subItem; simp only [g9]; rfl
  refine s_unless (b_bop (b_or_f (b_cmp (e_call (G := G42) (j := 25) rfl (a_3 (e_var rfl) (e_var rfl) (e_var rfl)) a_nil rfl rfl (a25 S)) (e_sub (e_var rfl) e_int sb1) (ne_fr _ _ _)) (b_one (b_cmp (e_call (G := G42) (j := 27) rfl (a_3 (e_var rfl) (e_var rfl) (e_var rfl)) a_nil rfl rfl (a26 S)) (e_sub (e_var rfl) e_int sb0) (ne_fr _ _ _))))) ?_
  refine Runs.asg (e_call (G := G42) (j := 29) rfl (a_3 (e_var rfl) (e_var rfl) (e_var rfl)) a_nil rfl rfl (frame_p rfl f27 S)) ?_
  refine s_unless (S1 := S) ?_ (K _ _)
  by_cases hb : B.1 = 0
  · rw [if_pos hb]
    exact b_bop (b_and_f (b_cmp (e_var rfl) e_non (isnot_non .non S)))
  · rw [if_neg hb]
    by_cases ha : A.1 = 0
    · rw [if_pos ha]
      exact b_bop (b_and_t (b_cmp (e_var rfl) e_non (isnot_non _ S)) (b_and_f (b_cmp (e_var rfl) e_non (isnot_non .non S))))
    · rw [if_neg ha]
      obtain ⟨a, ha'⟩ : ∃ a : Nat, A.1 = (a : Int) := ⟨A.1.toNat, by omega⟩
      obtain ⟨b, hb'⟩ : ∃ b : Nat, B.1 = (b : Int) := ⟨B.1.toNat, by omega⟩
      rw [ha', hb', Int.toNat_natCast, Int.toNat_natCast]
      refine b_bop (b_and_t (b_cmp (e_var rfl) e_non (isnot_non _ S)) (b_and_t (b_cmp (e_var rfl) e_non (isnot_non _ S)) ?_))
      refine (b_and (G := G42) (p := decide ((0 : Int) < ((a : Int) * (B.2 : Int)) / (Nat.gcd ((a : Int) * (B.2 : Int)).natAbs (A.2 * b) : Nat))) (q := false) (b_cmp (e_sub (e_var rfl) e_int rfl) e_int rfl) (fun _ => b_one (b_cmp (e_var rfl) (e_tup (ps := [_, _]) (a_2 (e_sub (e_var rfl) e_int rfl) (e_sub (e_var rfl) e_int rfl)) (by simp)) (fr_swap a b A.2 B.2 S)))).trans ?_
      rw [Bool.and_false]
end K87

namespace K87
open PySem PySem.Spec PyProof.Rows L2 Den
theorem less_red (f : Int) (fd m N : Nat) (hN : 0 < N) : (decide (f * ((red ((m : Nat), N)).2 : Nat) < (red ((m : Nat), N)).1 * (fd : Nat))) = decide (f * (N : Int) < (m : Int) * (fd : Int)) := by
  obtain ⟨m', hm⟩ := Nat.gcd_dvd_left m N
  obtain ⟨N', hN'⟩ := Nat.gcd_dvd_right m N
  have g0 : 0 < Nat.gcd m N := Nat.gcd_pos_of_pos_right _ hN
  have e1 : (red ((m : Nat), N)).1 = (m' : Int) := by
    show (m : Int) / (Nat.gcd (m : Int).natAbs N : Nat) = _
    rw [Int.natAbs_natCast]
    generalize Nat.gcd m N = g at *
    rw [hm]
    push_cast
    exact Int.mul_ediv_cancel_left _ (by omega)
  have e2 : (red ((m : Nat), N)).2 = N' := by
    show N / Nat.gcd (m : Int).natAbs N = _
    rw [Int.natAbs_natCast]
    generalize Nat.gcd m N = g at *
    rw [hN']
    exact Nat.mul_div_cancel_left _ g0
  rw [e1, e2, decide_eq_decide]
  generalize Nat.gcd m N = g at *
  rw [hm, hN']
  push_cast
  have g1 : (0 : Int) < (g : Int) := by omega
  constructor
  · intro h
    have := Int.mul_lt_mul_of_pos_left h g1
    grind
  · intro h
    refine Int.lt_of_mul_lt_mul_left (a := (g : Int)) ?_ (Int.le_of_lt g1)
    grind
theorem less_call {f : Nat} {fd m N : Nat} (hN : 0 < N) (hN2 : N ≤ 35) (hm : m ≤ 35) (hf : f ≤ 1000) (hfd : fd ≤ 1000) (S : Sto) : frame F39 [.p (dP ((f : Int), fd)), .p (fr (m : Nat) N)] S = .ok (.bl (decide (f * N < m * fd))) S := by
  rw [fr_red]
  obtain ⟨a, b, c⟩ := red_low ((m : Nat), N) hN
  have up : ∀ n : Nat, n ≤ 1000 → n < 2 ^ 400000 := fun n hn => Nat.lt_of_le_of_lt hn (Nat.lt_of_lt_of_le (by decide : 1000 < 2 ^ 10) (Nat.pow_le_pow_right (by decide) (by decide)))
  have c' : (red ((m : Nat), N)).1.natAbs ≤ m := by simpa using c
  have e := F39_ok (f : Int) fd (red ((m : Nat), N)).1 (red ((m : Nat), N)).2 (by rw [Int.natAbs_natCast]; exact up _ hf) (up _ (by omega)) (up _ hfd) (up _ (by have : (red ((m : Nat), N)).2 ≤ N := b; omega))
  have e2 : decide ((f : Int) * ((red ((m : Nat), N)).2 : Nat) < (red ((m : Nat), N)).1 * (fd : Nat)) = decide (f * N < m * fd) := by
    rw [less_red _ _ _ _ hN, decide_eq_decide]
    have : (f : Int) * (N : Int) < (m : Int) * (fd : Int) ↔ ((f * N : Nat) : Int) < ((m * fd : Nat) : Int) := by push_cast; exact Iff.rfl
    rw [this]
    omega
  rw [e2] at e
  exact frame_p rfl ⟨_, congrFun e _⟩ S
theorem segG {base X : List O} {l k n6 : Nat} {S : Sto} {T : List (List Nat)} {wd t : Nat} {lot : List Nat} {x4 x5 x7 x8 x9 x10 x11 x12 x13 x14 x20 x21 x22 : Option D} (hT : TabOk T wd) (hlt : l < base.length) (h : PS (base ++ X) l k S) (hk : k < 900)
    (hX6 : X[n6]? = some (.lst ((numT T lot t).map nD))) :
    Runs (r42_22.den G42) (RF l T lot t base.length x4 x5 (some (.ref (base.length + n6))) x7 x8 x9 x10 x11 x12 x13 x14 none none none x20 x21 x22) S fun fl S' => endS fl = Den.ret (.bl true) ∧ ∃ B, PS (base ++ B) l (k + 1) S' := by
  have hn := numT_len hT lot t
  generalize numT T lot t = ns at *
  obtain ⟨d, S1, e1, d0, d1, p1⟩ := draw (n := (9 : Int)) h (by omega) (by omega) (by omega)
  obtain ⟨d, rfl⟩ : ∃ i : Nat, d = (i : Int) := ⟨d.toNat, by omega⟩
  have ef : red ((d : Int), 8) = (((d / Nat.gcd d 8 : Nat) : Int), 8 / Nat.gcd d 8) := by
    unfold red
    rw [Int.natAbs_natCast]
    push_cast
    rfl
  have hfn : d / Nat.gcd d 8 ≤ 1000 := Nat.le_trans (Nat.div_le_self _ _) (by omega)
  have hfd : 8 / Nat.gcd d 8 ≤ 1000 := Nat.le_trans (Nat.div_le_self _ _) (by omega)
  have e36 := fr36q (i := (d : Int)) (n := 8) (by decide) (by decide) S1
  rw [ef] at e36
  generalize d / Nat.gcd d 8 = fn at *
  generalize 8 / Nat.gcd d 8 = fd at *
  refine Runs.asg (e_call (G := G42) (j := 39) rfl (a_2 (e_call (G := G42) (j := 34) rfl (a_2 (e_var rfl) e_int) a_nil rfl rfl e1) e_int) a_nil rfl rfl e36) ?_
  have g6 := p1.ob hlt hX6
  have le6 : lenD [.ref (base.length + n6)] S1 = .ok (nD ns.length) S1 := by rw [len_ref g6, List.length_map]
  refine s_pushX (ns.map fun x => .p (shM ns x)) p1 (l_lc0 ns nD _ (reads_ref rfl g6) (by omega) fun x mx => e_call (G := G42) (j := 39) rfl (a_2 (e_opF (S1 := S1) (a := nD (ns.filter fun y => decide (x ≤ y)).length) (l_lc1 ns nD (fun y => decide (x ≤ y)) nD (reads_ref rfl g6) (by omega) (fun y _ => b_cmp (e_var rfl) (e_var rfl) (by
      show Den.R.ok (decide ((x : Int) ≤ (y : Int))) S1 = _
      simp)) (fun y _ _ => e_var rfl)) (by
      show Den.R.ok (D.int ((_ : List D).length : Nat)) _ = _
      rw [List.length_map])) (e_op1 (a_1 (e_var rfl)) le6)) a_nil rfl rfl (fr36n hn.1 (by omega) S1)) ?_
  intro S2 p2
  have g16 := p2.ob hlt (get_app0 X (O.lst (ns.map fun x => .p (shM ns x))) [])
  have g6' : S2.objs[base.length + n6]? = some (.lst (ns.map nD)) := p2.ob hlt (by rw [List.getElem?_append_left (List.getElem?_eq_some_iff.mp hX6).1, hX6])
  have le6' : lenD [.ref (base.length + n6)] S2 = .ok (nD ns.length) S2 := by rw [len_ref g6', List.length_map]
  have hfl : ∀ x, (ns.filter fun y => decide (x ≤ y)).length ≤ 35 := fun x => Nat.le_trans (List.length_filter_le _ _) hn.2
  refine Runs.asg (d := nD (ns.filter fun x => decide ((ns.filter fun y => decide (x ≤ y)).length * fd ≤ fn * ns.length)).length) (S1 := S2) (e_opF (l_lc1 ns (fun x => .p (shM ns x)) (fun x => decide ((ns.filter fun y => decide (x ≤ y)).length * fd ≤ fn * ns.length)) (fun x => .p (shM ns x)) (reads_ref rfl g16) (by omega) ?_ ?_) ?_) ?_
  · intro x _
    have z : (!decide (fn * ns.length < (ns.filter fun y => decide (x ≤ y)).length * fd)) = decide ((ns.filter fun y => decide (x ≤ y)).length * fd ≤ fn * ns.length) := by
      rw [Bool.eq_iff_iff]; simp
    rw [← z]
    exact b_not (b_tru (e_call (G := G42) (j := 42) rfl (a_2 (e_var rfl) (e_var rfl)) a_nil rfl rfl (less_call hn.1 hn.2 (hfl x) hfn hfd S2)))
  · intro x _ _
    exact e_var rfl
  · show Den.R.ok (D.int ((_ : List D).length : Nat)) _ = _
    rw [List.length_map]
  have fl := far_law ns fn fd
  have hfew : (ns.filter fun x => decide ((ns.filter fun y => decide (x ≤ y)).length * fd ≤ fn * ns.length)).length ≤ 35 := Nat.le_trans (List.length_filter_le _ _) hn.2
  generalize (ns.filter fun x => decide ((ns.filter fun y => decide (x ≤ y)).length * fd ≤ fn * ns.length)).length = few at *
  have lc := less_call (f := fn) (fd := fd) (m := few) hn.1 hn.2 hfew hfn hfd S2
  rw [decide_eq_false (by omega)] at lc
  refine s_ret (d := .bl true) (S1 := S2) (e_ofB (b_bop (b_or_t (b_not (p := false) (b_asB (e_call (G := G42) (j := 42) rfl (a_2 (e_var rfl) (e_call (G := G42) (j := 39) rfl (a_2 (e_var rfl) (e_op1 (a_1 (e_var rfl)) le6')) a_nil rfl rfl (fr36n hn.1 (by omega) S2))) a_nil rfl rfl lc)))))) ⟨rfl, _, p2⟩
theorem F42_ok {base : List O} {l k : Nat} {S : Sto} (h : PS base l k S) (hk : k < 700) : ∃ S', frame F42 [.ref l] S = .ok (.bl true) S' ∧ PS base l (k + 83) S' := by
  have hlt := h.lt
  have key : ∃ d S', F42 [.ref l] S = .ok d S' ∧ d = .bl true ∧ ∃ B, PS (base ++ B) l (k + 82 + 1) S' := by
    rw [F42_eq]
    refine runF_of rfl ?_
    refine segA h hk fun T wd lot t S1 hT hl ht p1 => ?_
    refine segB hT hl ht p1 fun X S2 x4 x20 x21 x22 p2 hX => ?_
    refine segC hT hl ht hlt p2 hX fun X3 S3 n6 x5 x7 p3 hX3 hX36 => ?_
    refine segD hT hl ht hlt p3 hX3 hX36 fun X4 S4 n9 p4 hX4 hX46 hX49 => ?_
    refine segE hT hl ht hlt p4 hX4 hX46 hX49 fun X5 S5 x10 x11 p5 hX56 hX59 => ?_
    refine segF (o6 := .gone) (n6 := n6) hT hl ht hlt p5 hX59 fun x13 x14 => ?_
    obtain ⟨fl, S', e, e2, B, p⟩ := segG hT hlt p5 (by omega) hX56
    exact ⟨fl, S', e, _, e2, rfl, B, p⟩
  obtain ⟨d, S', e, rfl, B, p⟩ := key
  exact frame_pure h.len hlt e p
end K87

namespace K87
open PySem PySem.Spec PyProof.Rows L2 Den
abbrev G43 : Gm := mkG gls [fo0, fo1, fo2, fo3, fo4, fo5, fo6, fo7, fo8, fo9, fo10, fo11, fo12, fo13, fo14, fo15, fo16, fo17, fo18, fo19, fo20, fo21, fo22, fo23, fo24, fo25, fo26, fo27, fo28, fo29, fo30, fo31, fo32, fo33, fo34, fo35, fo36, fo37, fo38, fo39, fo40, fo41, fo42, fo43, fo44, fo45] [F0, F1, F2, F3, F4, F5, F6, F7, F8, F9, F10, F11, F12, F13, F14, F15, F16, F17, F18, F19, F20, F21, F22, F23, F24, F25, F25, F26, F26, F27, F27, F28, F29, F30, F31, F32, F33, F34, F35, F36, F37, F38, F39, F40, F41, F42]
theorem laps {base : List O} {l : Nat} {S : Sto} {d0 : D} {o1 o3 : Option D} (h : PS base l 0 S) : ∃ S', (Ex.opF .all (.lc [3] (.nm 3) .yes (.call 45 (.cons (.var 2) .nil) .nil) (.r1 (.int 5)))).den G43 [some d0, o1, some (.ref l), o3] S = .ok (.bl true) S' ∧ PS base l 415 S' := by
  obtain ⟨ys, S', e, e2, p⟩ := lc_law (t := (Tg.nm 3).den G43) (c := Bo.yes.den G43) (e := (Ex.call 45 (.cons (.var 2) .nil) .nil).den G43) (src := srcR 0 5) (xs := rgs 0 5) (ρ := [some d0, o1, some (.ref l), none])
    (fun i acc S => acc = (List.range i).map (fun _ => D.bl true) ∧ PS base l (83 * i) S)
    (fun i acc S hi _ => src_rng 0 5 i S (by simpa [rgs] using hi))
    (fun i acc S hi ⟨h1, h2⟩ => by
      have hi' : i < 5 := by simpa [rgs] using hi
      obtain ⟨S', e, p⟩ := F42_ok h2 (by omega)
      refine ⟨_, S, true, S, rfl, rfl, .inl ⟨rfl, _, S', e_call (G := G43) (j := 45) rfl (a_1 (e_var rfl)) a_nil rfl rfl e, ?_, p.mono (by omega)⟩⟩
      rw [h1, List.range_succ, List.map_append]; rfl)
    6 0 [] S (Nat.zero_le _) (by simp [rgs]) ⟨rfl, h⟩
  have hr : (rgs 0 5).length = 5 := by simp [rgs]
  rw [hr] at e2 p
  refine ⟨S', e_opF (ds := ys) (S1 := S') ?_ ?_, p⟩
  · exact (lcS_src (own := [3]) (t := (Tg.nm 3).den G43) (c := Bo.yes.den G43) (sf := itR1 ((Ex.int 5).den G43)) (r1_src (n := 5) rfl (by omega)) (by omega)).trans e
  · rw [e2]; exact all_true (List.range 5) S'
theorem F43_ok (ns : List Int) (hn : ns.length ≤ 63) : ∃ S, F43 [.p (.list (ns.map .int))] Sto.new = .ok (.bl true) S := by
  obtain ⟨S0, kk, e0, e1, hk3⟩ := F33_ok ns
  have hmx : (O.lst (rgs 0 kk)).mx = 0 := by
    show mxs (rgs 0 kk) = 0
    rw [rgs0]; exact mxs_n _
  have c36 := frame_new (F := F33) (ds := [.p (.list (ns.map .int)), .int 3]) rfl ⟨S0, e0, e1⟩ hmx Sto.new
  refine F_ex rfl (s_forR (rgs 0 kk) 0 ⟨[.lst (rgs 0 kk)], false⟩ (fun i ρ S => S.nt = false ∧ S.objs[0]? = some (.lst (rgs 0 kk)) ∧ ∃ o1 o2, ρ = [some (.p (.list (ns.map .int))), o1, o2, none]) (e_call (G := G43) (j := 36) rfl (a_2 (e_var rfl) e_int) a_nil rfl rfl c36) ⟨rfl, rfl, none, none, rfl⟩ (fun i ρ S z => z.2.1) ?_ ?_)
  · rintro j ρ S hj ⟨hnt, h0, o1, o2, rfl⟩
    have hj' : j < kk := by simpa [rgs] using hj
    obtain ⟨S2, a, b, e2, e3, b0, b1⟩ := F30_ok ns j (by omega)
    have c33 := frame_new (F := F30) (ds := [.p (.list (ns.map .int)), nD j]) rfl ⟨S2, e2, e3⟩ (by rfl) S
    refine ⟨[some (.p (.list (ns.map .int))), some (nD j), o2, none], by simp only [rgs, List.getElem_map, List.getElem_range, Int.zero_add]; rfl, ?_⟩
    refine Runs.asg (e_call (G := G43) (j := 33) rfl (a_2 (e_var rfl) (e_var rfl)) a_nil rfl rfl c33) ?_
    have hS0 : 0 < S.objs.length := (List.getElem?_eq_some_iff.mp h0).1
    have p : PS (S.objs ++ [potL a b 0]) S.objs.length 0 ⟨S.objs ++ [potL a b 0], S.nt⟩ := by
      refine ⟨by simp, hnt, a, b, 0, ?_, b0, b1, by omega, by omega⟩
      show S.objs ++ [potL a b 0] = _
      rw [List.set_append_right _ _ (Nat.le_refl _), Nat.sub_self]
      rfl
    obtain ⟨S3, e4, p3⟩ := laps (d0 := .p (.list (ns.map .int))) (o1 := some (nD j)) (o3 := none) p
    refine s_unless (b_not (p := true) (b_tru e4)) (s_nil ⟨_, rfl, p3.nt, ?_, _, _, rfl⟩)
    rw [p3.at_ (by omega), List.getElem?_append_left hS0, h0]
  · rintro ρ S ⟨hnt, h0, o1, o2, rfl⟩
    exact s_ret e_bl rfl
theorem lawF : ∀ ns : List Int, ns.length ≤ 63 → ∃ S, F43 [.p (.list (ns.map .int))] Sto.new = .ok (.bl true) S := F43_ok
end K87

namespace K87
open PySem PySem.Spec PyProof.Rows L2 Den
theorem run (w : World) : HandSHeadRun.RunEq R (PySem.W.view R.prog [61]) hk ob 3000 loo w := by
  intro os
  kernel_rfl
end K87

namespace K87
open PySem PySem.Spec PyProof.Rows L2 Den
end K87
open PySem PySem.W PySem.Calls PyProof.Rows
theorem PySem.Challenge.cw_whatanswerstell_k87_whole_strata_and_spr_holds : PySem.Challenge.rw_whatanswerstell_k87_whole_strata_and_spr.Holds := by
  w_on; o_law
  refine HandSHeadRun.head_any (r := OpenLaw.row PySem.Challenge.rw_whatanswerstell_k87_whole_strata_and_spr) (q := view (OpenLaw.row PySem.Challenge.rw_whatanswerstell_k87_whole_strata_and_spr).prog [61]) (H := K87.hk) (ob := K87.ob) (M := 3000) (loose := K87.loo) (d := HandSHeadRun.topDef (OpenLaw.row PySem.Challenge.rw_whatanswerstell_k87_whole_strata_and_spr).prog 61) (kwd := []) K87.ob_eq
    (by kernel_rfl) (fun s => by kernel_rfl) K87.run (by kernel_rfl) (by kernel_rfl) (by kernel_rfl) (by rfl) (by first | assumption | decide +kernel) (by decide +kernel) ⟨rfl, rfl, rfl, rfl, rfl, by decide +kernel⟩ ?hw ?hc
  case hw => w_witness2
  case hc =>
    refine Den.walk_den (l := PySem.Challenge.rw_whatanswerstell_k87_whole_strata_and_spr) (n := 63) (k := 44) (x := "script") (F := K87.F43) (CX := fun _ => L2.CX0) rfl (by decide) (by kernel_rfl) ⟨rfl, by decide, by decide⟩ ?F (fun _ _ _ _ _ z => z) K87.lawF
    intro w mg fa h Y G hmg0
    obtain ⟨K, KX, c⟩ := Y
    have hmg : mg ("law" : PySem.Str) = some (.ref fa) := by
      have e : (HandSHeadRun.topDef (OpenLaw.row PySem.Challenge.rw_whatanswerstell_k87_whole_strata_and_spr).prog 61).name = ("law" : PySem.Str) := by kernel_rfl
      rw [← e]
      exact hmg0
    obtain ⟨fd, hb, hF⟩ := K87.facts (P := (PySem.Challenge.rw_whatanswerstell_k87_whole_strata_and_spr).prog) (w := w) (CT := fun _ => .none) KX G hmg c
    exact ⟨K, fd, fun _ => .none, KX, hb, hF⟩

