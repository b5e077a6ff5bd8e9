import PyProof.Rows.All
import Wide.All
import OpenK.AllK
import Wide.FinOn
import HandS.ForSpec
import HandS.ForMost
import HandS.More
import HandS.IsInst
import HandS.Wide
import HandS.HeadHook4
import HandS.Head2
import HandS.Flow
import HandS.TupAny
import HandS.Deep
import HandS.SortInts
import HandS.ExcOwn
import HandS.Text
import HandS.StrMore
import HandS.Zip
import HandS.TryOnly
import HandS.DictComp
import HandS.WordsDict
import HandS.Style
import HandS.TryMany
import HandS.ExcIs
import HandS.HeadEnd
import HandS.EndBits
import HandS.HeadWalk
import HandS.Codes
import PySem.Challenge.RW_screenspoken_k10_what_are_things
import KE.KStateDown
set_option Elab.async false
set_option linter.all false
set_option autoImplicit false
set_option maxRecDepth 100000
/-! Hv, part 1: data without a heap, and how the abstract heap bears it. -/
namespace Hv
open PySem PySem.Spec PyProof.Rows L2

abbrev AS := Addr → Prop
/-- what the top has written, and the world's numbers -/
structure KW where
  k : PySem.W.Frag
  p : Params
  x : Option Value

/-- a value as a def's body holds it: v: scalar, or not to be changed, wherever it comes from; n: not to be changed, all new since the entry;
isl: nobody else's, but perhaps shared within; ol, ot, od: a list, a tuple, a dict of one's own -/
inductive D where
  | v (d : PyData)
  | n (d : PyData)
  | isl (d : PyData)
  | ol (ds : List D)
  | ot (ds : List D)
  | od (kvs : List (PyData × D))
  | dead
  | exn

def pyK : Key → PyData
  | .inl i => .int i
  | .inr x => .str x

def LitL (K : PySem.W.Frag) (a : Addr) (xs : List V) : Prop :=
  ∃ (o : Obj) (its : Array Value) (n : Nat), K.lookup a = some o ∧ o.cls = .type "list" ∧ o.dict = none ∧ o.data = .seq its n ∧ its.size ≤ sizeLine ∧ Vals xs its.toList
theorem LitL.sq {K : PySem.W.Frag} {H : Hp} {a : Addr} {xs : List V} (h : LitL K a xs) : SqL K H a xs := .inr h
/-- a list that is read -/
def LL (K : PySem.W.Frag) (H : Hp) (a : Addr) (xs : List V) : Prop := Rd H a (.lst xs) ∨ LitL K a xs
theorem LL.sq {K : PySem.W.Frag} {H : Hp} {a : Addr} {xs : List V} (h : LL K H a xs) : SqL K H a xs := h.elim .inl LitL.sq

/-- a dict with text keys that the top has written -/
def LitD (K : KW) (a : Addr) (ks : List Str) (vs : List V) : Prop :=
  ∃ (es : Array DictEntry) (n : Nat), K.k.lookup a = some ⟨.type "dict", none, .dict es n, #[]⟩ ∧ PySem.W.KeysLit K.p es.toList ∧ (a == sysModules) = false ∧
    Paired (fun k v => ∃ u, PySem.W.nsIn K.k a k = some (some u) ∧ RelV v u) ks vs ∧ ∀ k, k ∉ ks → PySem.W.nsIn K.k a k = some none

mutual
/-- the data d at the value x; every list and dict of it lies in S (or is written) -/
inductive Rp (K : KW) (S : AS) (H : Hp) : V → PyData → Prop
  | non : Rp K S H .non .none
  | bl (b : Bool) : Rp K S H (.bl b) (.bool b)
  | int (i : Int) : Rp K S H (.int i) (.int i)
  | str {x : Str} (ok : PyData.strOk x = true) : Rp K S H (.str x) (.str x)
  | lst {a : Addr} {xs : List V} {ds : List PyData} : S a → Rd H a (.lst xs) → Rps K S H xs ds → Rp K S H (.ref a) (.list ds)
  | lsk {a : Addr} {xs : List V} {ds : List PyData} : LitL K.k a xs → Rps K S H xs ds → Rp K S H (.ref a) (.list ds)
  | tup {a : Addr} {xs : List V} {ds : List PyData} : SqT K.k H a xs → Rps K S H xs ds → Rp K S H (.ref a) (.tuple ds)
  | dk {a : Addr} {kvs : List (Key × V)} {ds : List PyData} : S a → Rd H a (.dK kvs) → Rps K S H (kvs.map (·.2)) ds → Rp K S H (.ref a) (.dict ((kvs.map fun p => pyK p.1).zip ds))
  | dt {a : Addr} {kvs : List (List Key × V)} {ds : List PyData} : S a → H a = some (.dT kvs) → Rps K S H (kvs.map (·.2)) ds → Rp K S H (.ref a) (.dict ((kvs.map fun p => PyData.tuple (p.1.map pyK)).zip ds))
  | dlk {a : Addr} {ks : List Str} {xs : List V} {ds : List PyData} : LitD K a ks xs → Rps K S H xs ds → Rp K S H (.ref a) (.dict ((ks.map PyData.str).zip ds))
inductive Rps (K : KW) (S : AS) (H : Hp) : List V → List PyData → Prop
  | nil : Rps K S H [] []
  | cons {x : V} {xs : List V} {d : PyData} {ds : List PyData} : Rp K S H x d → Rps K S H xs ds → Rps K S H (x :: xs) (d :: ds)
end

/-- what is tracked stays as it is -/
def Ext (H H' : Hp) : Prop := ∀ a o, H a = some o → H' a = some o
theorem Ext.refl {H : Hp} : Ext H H := fun _ _ h => h
theorem Ext.trans {H H1 H2 : Hp} (a : Ext H H1) (b : Ext H1 H2) : Ext H H2 := fun x o h => b x o (a x o h)
theorem Ext.new {H : Hp} {p : Addr} {o : HO} (h : H p = none) : Ext H (upd H p o) := fun b x e => by
  rw [upd_ne (ne_of_none e h)]; exact e
theorem Ext.ne {H H' : Hp} (e : Ext H H') {a : Addr} (h : H a ≠ none) : H' a ≠ none := by
  cases q : H a with
  | none => exact absurd q h
  | some o => rw [e a o q]; exact fun z => nomatch z

/-- what is tracked stays, but at the addresses of Z -/
def Kp (Z : AS) (H H' : Hp) : Prop := ∀ a o, ¬ Z a → H a = some o → H' a = some o
theorem Ext.kp {Z : AS} {H H' : Hp} (e : Ext H H') : Kp Z H H' := fun a o _ h => e a o h

section
variable {K : KW} {S S' Z : AS} {H H' : Hp}
theorem Rd.kp {a : Addr} {u : HO} (h : Rd H a u) (e : Kp Z H H') (hz : ¬ Z a) : Rd H' a u := by
  rcases h with h | ⟨o, h⟩
  · exact .inl (e a _ hz h)
  · exact .inr ⟨o, e a _ hz h⟩
theorem SqT.kp {a : Addr} {xs : List V} (h : SqT K.k H a xs) (e : Kp Z H H') (ht : ∀ b ys, Z b → ¬ Rd H b (.tup ys)) : SqT K.k H' a xs := by
  rcases h with h | h
  · exact .inl (Rd.kp h e fun z => ht _ _ z h)
  · exact .inr h
mutual
/-- the data stays where only addresses outside of it change -/
theorem Rp.kp (e : Kp Z H H') (hs : ∀ a, S a → S' a) (hz : ∀ a, S a → ¬ Z a) (ht : ∀ b ys, Z b → ¬ Rd H b (.tup ys)) : ∀ {x : V} {d : PyData}, Rp K S H x d → Rp K S' H' x d
  | _, _, .non => .non
  | _, _, .bl b => .bl b
  | _, _, .int i => .int i
  | _, _, .str k => .str k
  | _, _, .lst s r q => .lst (hs _ s) (Rd.kp r e (hz _ s)) (Rps.kp e hs hz ht q)
  | _, _, .lsk l q => .lsk l (Rps.kp e hs hz ht q)
  | _, _, .tup r q => .tup (SqT.kp r e ht) (Rps.kp e hs hz ht q)
  | _, _, .dk s r q => .dk (hs _ s) (Rd.kp r e (hz _ s)) (Rps.kp e hs hz ht q)
  | _, _, .dt s r q => .dt (hs _ s) (e _ _ (hz _ s) r) (Rps.kp e hs hz ht q)
  | _, _, .dlk l q => .dlk l (Rps.kp e hs hz ht q)
theorem Rps.kp (e : Kp Z H H') (hs : ∀ a, S a → S' a) (hz : ∀ a, S a → ¬ Z a) (ht : ∀ b ys, Z b → ¬ Rd H b (.tup ys)) : ∀ {xs : List V} {ds : List PyData}, Rps K S H xs ds → Rps K S' H' xs ds
  | _, _, .nil => .nil
  | _, _, .cons h t => .cons (Rp.kp e hs hz ht h) (Rps.kp e hs hz ht t)
end
theorem Rp.ext {x : V} {d : PyData} (h : Rp K S H x d) (e : Ext H H') (hs : ∀ a, S a → S' a) : Rp K S' H' x d :=
  Rp.kp (Z := fun _ => False) e.kp hs (fun _ _ z => z) (fun _ _ z => z.elim) h
theorem Rps.ext {x : List V} {d : List PyData} (h : Rps K S H x d) (e : Ext H H') (hs : ∀ a, S a → S' a) : Rps K S' H' x d :=
  Rps.kp (Z := fun _ => False) e.kp hs (fun _ _ z => z) (fun _ _ z => z.elim) h
theorem Rp.mono {x : V} {d : PyData} (h : Rp K S H x d) (hs : ∀ a, S a → S' a) : Rp K S' H x d := h.ext Ext.refl hs
theorem Rps.mono {x : List V} {d : List PyData} (h : Rps K S H x d) (hs : ∀ a, S a → S' a) : Rps K S' H x d := h.ext Ext.refl hs
theorem Rps.len : ∀ {xs : List V} {ds : List PyData}, Rps K S H xs ds → xs.length = ds.length
  | _, _, .nil => rfl
  | _, _, .cons _ t => by rw [List.length_cons, List.length_cons, Rps.len t]
theorem Rps.get : ∀ {xs : List V} {ds : List PyData} {i : Nat} {d : PyData}, Rps K S H xs ds → ds[i]? = some d → ∃ x, xs[i]? = some x ∧ Rp K S H x d
  | _, _, _, _, .nil, e => by simp at e
  | _, _, 0, _, .cons h _, e => ⟨_, rfl, by simp at e; exact e ▸ h⟩
  | _, _, i + 1, _, .cons _ t, e => by
    obtain ⟨x, e1, h⟩ := Rps.get (i := i) t (by simpa using e)
    exact ⟨x, by simpa using e1, h⟩
theorem Rps.append : ∀ {xs ys : List V} {ds es : List PyData}, Rps K S H xs ds → Rps K S H ys es → Rps K S H (xs ++ ys) (ds ++ es)
  | _, _, _, _, .nil, q => q
  | _, _, _, _, .cons h t, q => .cons h (Rps.append t q)
theorem Rps.take : ∀ {xs : List V} {ds : List PyData} (n : Nat), Rps K S H xs ds → Rps K S H (xs.take n) (ds.take n)
  | _, _, 0, _ => .nil
  | _, _, _ + 1, .nil => .nil
  | _, _, n + 1, .cons h t => .cons h (Rps.take n t)
theorem Rps.drop : ∀ {xs : List V} {ds : List PyData} (n : Nat), Rps K S H xs ds → Rps K S H (xs.drop n) (ds.drop n)
  | _, _, 0, h => h
  | _, _, _ + 1, .nil => .nil
  | _, _, n + 1, .cons _ t => Rps.drop n t
theorem Rps.ints : ∀ {xs : List V} {ns : List Int}, Rps K S H xs (ns.map PyData.int) → xs = ns.map V.int
  | _, [], h => by cases h; rfl
  | _, n :: ns, h => by cases h with | cons a t => cases a; rw [Rps.ints t]; rfl
theorem Rps.strs : ∀ {xs : List V} {ns : List Str}, Rps K S H xs (ns.map PyData.str) → xs = ns.map V.str
  | _, [], h => by cases h; rfl
  | _, n :: ns, h => by cases h with | cons a t => cases a; rw [Rps.strs t]; rfl
theorem Rps.bools : ∀ {xs : List V} {ns : List Bool}, Rps K S H xs (ns.map PyData.bool) → xs = ns.map V.bl
  | _, [], h => by cases h; rfl
  | _, n :: ns, h => by cases h with | cons a t => cases a; rw [Rps.bools t]; rfl
theorem Rps.of_ints : ∀ (ns : List Int), Rps K S H (ns.map V.int) (ns.map PyData.int)
  | [] => .nil
  | n :: ns => .cons (.int n) (Rps.of_ints ns)
theorem Rps.of_strs : ∀ (ns : List Str), (∀ x ∈ ns, PyData.strOk x = true) → Rps K S H (ns.map V.str) (ns.map PyData.str)
  | [], _ => .nil
  | n :: ns, h => .cons (.str (h n List.mem_cons_self)) (Rps.of_strs ns fun x hx => h x (List.mem_cons_of_mem _ hx))
theorem Rp.ll {a : V} {ds : List PyData} (h : Rp K S H a (.list ds)) : ∃ p xs, a = .ref p ∧ LL K.k H p xs ∧ Rps K S H xs ds := by
  cases h with
  | lst s r q => exact ⟨_, _, rfl, .inl r, q⟩
  | lsk l q => exact ⟨_, _, rfl, .inr l, q⟩
theorem Rp.sqt {a : V} {ds : List PyData} (h : Rp K S H a (.tuple ds)) : ∃ p xs, a = .ref p ∧ SqT K.k H p xs ∧ Rps K S H xs ds := by
  cases h with
  | tup r q => exact ⟨_, _, rfl, r, q⟩
end

/-! ### to the library's own reading of data -/
mutual
theorem Rp.dp {K : KW} {S : AS} {H : Hp} : ∀ {x : V} {d : PyData}, Rp K S H x d → d.canLay0 = true → Dp K.k H x d
  | _, _, .non, _ => .non
  | _, _, .bl b, _ => .bl b
  | _, _, .int i, _ => .int i
  | _, _, .str _, _ => .str _
  | _, _, .lst _ r q, c => .lst (.inl r) (Rps.dp q (by simpa [PyData.canLay0] using c))
  | _, _, .lsk l q, c => .lst l.sq (Rps.dp q (by simpa [PyData.canLay0] using c))
  | _, _, .tup r q, c => .tup r (Rps.dp q (by simpa [PyData.canLay0] using c))
  | _, _, .dk _ _ _, c => by simp [PyData.canLay0] at c
  | _, _, .dt _ _ _, c => by simp [PyData.canLay0] at c
  | _, _, .dlk _ _, c => by simp [PyData.canLay0] at c
theorem Rps.dp {K : KW} {S : AS} {H : Hp} : ∀ {xs : List V} {ds : List PyData}, Rps K S H xs ds → PyData.canLayAll0 ds = true → DpAll K.k H xs ds
  | _, _, .nil, _ => .nil
  | _, _, .cons h t, c => .cons (Rp.dp h (by simp [PyData.canLayAll0] at c; exact c.1)) (Rps.dp t (by simp [PyData.canLayAll0] at c; exact c.2))
end
end Hv

/-! Hv, part 2: the evaluator. No heap; no Python's objects. -/
namespace Hv
open PySem PySem.Spec PyProof.Rows L2

/-! ### data -/
mutual
/-- has a list or a dict -/
def mutD : PyData → Bool
  | .list _ => true
  | .dict _ => true
  | .tuple ds => mutDs ds
  | _ => false
def mutDs : List PyData → Bool
  | [] => false
  | d :: ds => mutD d || mutDs ds
end
/-- a value that is not to be changed -/
def fz (b : Bool) (d : PyData) : D := if b && mutD d then .n d else .v d
mutual
def data : D → Option PyData
  | .v d => some d
  | .n d => some d
  | .isl d => some d
  | .ol ds => (datas ds).map .list
  | .ot ds => (datas ds).map .tuple
  | .od kvs => (dataK kvs).map .dict
  | .dead => none
  | .exn => none
def datas : List D → Option (List PyData)
  | [] => some []
  | d :: ds => match data d, datas ds with
    | some p, some ps => some (p :: ps)
    | _, _ => none
def dataK : List (PyData × D) → Option (List (PyData × PyData))
  | [] => some []
  | (k, d) :: ds => match data d, dataK ds with
    | some p, some ps => some ((k, p) :: ps)
    | _, _ => none
end
mutual
/-- all its lists and dicts are new since the entry -/
def isNew : D → Bool
  | .v d => !mutD d
  | .n _ => true
  | .isl _ => true
  | .ol ds => isNews ds
  | .ot ds => isNews ds
  | .od kvs => isNewK kvs
  | .dead => true
  | .exn => true
def isNews : List D → Bool
  | [] => true
  | d :: ds => isNew d && isNews ds
def isNewK : List (PyData × D) → Bool
  | [] => true
  | (_, d) :: ds => isNew d && isNewK ds
end
def view (d : D) : Option D := (data d).map (fz (isNew d))
def isFz : D → Bool
  | .v _ => true
  | .n _ => true
  | _ => false
mutual
/-- no part of it is the exception that is handled -/
def noX : D → Bool
  | .exn => false
  | .ol ds => noXs ds
  | .ot ds => noXs ds
  | .od kvs => noXK kvs
  | _ => true
def noXs : List D → Bool
  | [] => true
  | d :: ds => noX d && noXs ds
def noXK : List (PyData × D) → Bool
  | [] => true
  | (_, d) :: ds => noX d && noXK ds
end
mutual
/-- has a part that may be old -/
def hasV : D → Bool
  | .v d => mutD d
  | .ol ds => hasVs ds
  | .ot ds => hasVs ds
  | .od kvs => hasVK kvs
  | _ => false
def hasVs : List D → Bool
  | [] => false
  | d :: ds => hasV d || hasVs ds
def hasVK : List (PyData × D) → Bool
  | [] => false
  | (_, d) :: ds => hasV d || hasVK ds
end
mutual
/-- a callee's new things are the caller's own -/
def own : D → D
  | .n d => .isl d
  | .ol ds => .ol (owns ds)
  | .ot ds => .ot (owns ds)
  | .od kvs => .od (ownK kvs)
  | d => d
def owns : List D → List D
  | [] => []
  | d :: ds => own d :: owns ds
def ownK : List (PyData × D) → List (PyData × D)
  | [] => []
  | (k, d) :: ds => (k, own d) :: ownK ds
end
/-- a list of one's own with such items -/
def oL (ds : List PyData) : D := .ol (ds.map .v)

abbrev Env := List (Option D)
/-- the slots that may be shared with the value -/
abbrev Al := List Nat
inductive R where
  | ok (d : D) (al : Al)
  | exc (c : Str)
  | stuck
inductive Rl where
  | ok (ds : List D) (al : Al)
  | exc (c : Str)
  | stuck
inductive CR where
  | ok (d : D)
  | exc (c : Str)
  | stuck
abbrev Cal := Nat → List PyData → CR
abbrev Glo := Str → Option PyData
def SZ : Nat := 16777216

/-! ### operators -/
inductive BOp where
  | add | sub | mul | div | mod | pow
  deriving DecidableEq
inductive COp where
  | eq | ne | lt | le | gt | ge | in_ | nin | isn | notn
  deriving DecidableEq
def mkL (b : Bool) (ds : List PyData) (al : Al) : R := if mutDs ds then .ok (.ol (ds.map (fz b))) al else .ok (oL ds) []
def mkT (b : Bool) (ds : List PyData) (al : Al) : R := if mutDs ds then .ok (fz b (.tuple ds)) al else .ok (.v (.tuple ds)) []
def divOk (j : Int) : Bool := decide (0 < j) && decide (j.natAbs < 1606938044258990275541962092341162602522202993782792835301376)
def mulOk (i j : Int) : Bool := decide (i.natAbs < 18446744073709551616) || decide (j.natAbs < 18446744073709551616)
def powOk (i j : Int) : Bool := decide (0 ≤ j) && decide (j ≤ 1000000) && decide (i.natAbs < 18446744073709551616)
/-- a text n times -/
def repS (z : Str) (n : Nat) : Str := ⟨(List.replicate n z.cps.toList).flatten.toArray⟩
def repOk (n : Nat) (j : Int) : Bool := decide (0 ≤ j) && (decide (j ≤ 16777216) && decide (n * j.toNat ≤ 16777216))
def okS (x : Str) : R := if PyData.strOk x then .ok (.v (.str x)) [] else .stuck
def binP (o : BOp) (b : Bool) (al : Al) (x y : PyData) : R :=
  match o with
  | .add => match x with
    | .int i => match y with
      | .int j => .ok (.v (.int (i + j))) []
      | _ => .stuck
    | .str i => match y with
      | .str j => if i.length + j.length ≤ SZ then .ok (.v (.str (i ++ j))) [] else .stuck
      | _ => .stuck
    | .list i => match y with
      | .list j => if i.length + j.length ≤ SZ then mkL b (i ++ j) al else .stuck
      | _ => .stuck
    | .tuple i => match y with
      | .tuple j => if i.length + j.length ≤ SZ then mkT b (i ++ j) al else .stuck
      | _ => .stuck
    | _ => .stuck
  | .sub => match x with
    | .int i => match y with
      | .int j => .ok (.v (.int (i - j))) []
      | _ => .stuck
    | _ => .stuck
  | .mul => match x with
    | .int i => match y with
      | .int j => if mulOk i j then .ok (.v (.int (i * j))) [] else .stuck
      | _ => .stuck
    | .str z => match y with
      | .int j => if repOk z.length j then okS (repS z j.toNat) else .stuck
      | _ => .stuck
    | _ => .stuck
  | .div => match x with
    | .int i => match y with
      | .int j => if divOk j then .ok (.v (.int (i / j))) [] else .stuck
      | _ => .stuck
    | _ => .stuck
  | .mod => match x with
    | .int i => match y with
      | .int j => if decide (0 < j) then .ok (.v (.int (i % j))) [] else .stuck
      | _ => .stuck
    | _ => .stuck
  | .pow => match x with
    | .int i => match y with
      | .int j => if powOk i j then .ok (.v (.int (i ^ j.toNat))) [] else .stuck
      | _ => .stuck
    | _ => .stuck
mutual
def noDict : PyData → Bool
  | .dict _ => false
  | .list ds => noDicts ds
  | .tuple ds => noDicts ds
  | _ => true
def noDicts : List PyData → Bool
  | [] => true
  | d :: ds => noDict d && noDicts ds
end
/-- may be compared by == -/
def cmpOk (d : PyData) : Bool := noDict d && decide (d.depth ≤ 64)
def strIn (c z : Str) : Bool := !(Builtin.Str.occurrences z c 0 z.length 1).isEmpty
/-- an answer True or False -/
inductive BR where
  | ok (b : Bool)
  | stuck
def flatP : PyData → Bool
  | .none => true
  | .bool _ => true
  | .int _ => true
  | .str _ => true
  | _ => false
def keyOf (d : PyData) : Option PyData := match d with
  | .int i => some (.int i)
  | .str x => some (.str x)
  | _ => none
def dlook (kvs : List (PyData × PyData)) (k : PyData) : Option PyData := (kvs.find? fun p => PyData.eqv p.1 k).map (·.2)
def inP (x y : PyData) : BR := match y with
  | .list ds => if cmpOk x && cmpOk (.list ds) then .ok (ds.any fun z => PyData.eqv z x) else .stuck
  | .tuple ds => if flatP x && ds.all flatP then .ok (ds.any fun z => PyData.eqv z x) else .stuck
  | .str z => match x with
    | .str c => .ok (strIn c z)
    | _ => .stuck
  | _ => .stuck
def cmpP (o : COp) (x y : PyData) : BR := match o with
  | .eq => if cmpOk x && cmpOk y then .ok (PyData.eqv x y) else .stuck
  | .ne => if cmpOk x && cmpOk y then .ok (!PyData.eqv x y) else .stuck
  | .lt => match x with
    | .int i => match y with
      | .int j => .ok (decide (i < j))
      | _ => .stuck
    | .str i => match y with
      | .str j => .ok (decide (i.cps.toList < j.cps.toList))
      | _ => .stuck
    | _ => .stuck
  | .le => match x with
    | .int i => match y with
      | .int j => .ok (decide (i ≤ j))
      | _ => .stuck
    | .str i => match y with
      | .str j => .ok (!decide (j.cps.toList < i.cps.toList))
      | _ => .stuck
    | _ => .stuck
  | .gt => match x with
    | .int i => match y with
      | .int j => .ok (decide (j < i))
      | _ => .stuck
    | .str i => match y with
      | .str j => .ok (decide (j.cps.toList < i.cps.toList))
      | _ => .stuck
    | _ => .stuck
  | .ge => match x with
    | .int i => match y with
      | .int j => .ok (decide (j ≤ i))
      | _ => .stuck
    | .str i => match y with
      | .str j => .ok (!decide (i.cps.toList < j.cps.toList))
      | _ => .stuck
    | _ => .stuck
  | .in_ => inP x y
  | .nin => match inP x y with
    | .ok b => .ok (!b)
    | .stuck => .stuck
  | .isn => match y with
    | .none => .ok (match x with | .none => true | _ => false)
    | _ => .stuck
  | .notn => match y with
    | .none => .ok (match x with | .none => false | _ => true)
    | _ => .stuck
/-- truth -/
def truP (d : PyData) : BR := match d with
  | .none => .ok false
  | .bool b => .ok b
  | .int i => .ok (i != 0)
  | .str x => if x.length ≤ SZ then .ok ((x.length : Int) != 0) else .stuck
  | .list ds => .ok (!ds.isEmpty)
  | .tuple ds => .ok (!ds.isEmpty)
  | .dict _ => .stuck

/-! ### the small language -/
inductive Ty where
  | int | bool | str | list | tuple | dict
  deriving DecidableEq
inductive Bi where
  | len | int | abs | max2 | min2 | sum | maxL | minL | sorted | list | tuple | any | all | divmod | str | ord
  deriving DecidableEq
inductive Mt where
  | join | startswith | endswith | find | count | upper | lower | isdigit | isalpha | isupper | islower | zfill | strip | split | partition
  deriving DecidableEq
inductive Sk where
  | seq | range | enum | rev | zip | items
  deriving DecidableEq
inductive Tg where
  | name (i : Nat)
  | tup (ts : List Nat)
inductive E where
  | non
  | bl (b : Bool)
  | int (i : Int)
  | str (x : Str)
  | var (i : Nat)
  | glob (g : Str)
  | bin (o : BOp) (a b : E)
  | neg (a : E)
  | cmp (o : COp) (a b : E)
  | chn (o p : COp) (a b c : E)
  | and (es : List E)
  | or (es : List E)
  | not (a : E)
  | ifx (c a b : E)
  | call (f : Nat) (es : List E)
  | bi (b : Bi) (es : List E)
  | isi (a : E) (t : Ty)
  | ise (i : Nat) (cs : List (Str × Bool))
  | mth (m : Mt) (o : E) (es : List E)
  | ix (a b : E)
  | sl (a : E) (lo hi : Option E)
  | lst (es : List E)
  | tup (es : List E)
  | lc (own : List Nat) (k : Sk) (args : List E) (tg : Tg) (cs : List E) (elt : E)
  | dkl (own : List Nat) (k : Sk) (args : List E) (tg : Tg) (kx : E)
  | rev (a : E)


/-! ### the evaluator -/
inductive TR where
  | ok (b : Bool)
  | exc (c : Str)
  | stuck
def R.bind (r : R) (f : D → Al → R) : R := match r with
  | .ok d al => f d al
  | .exc c => .exc c
  | .stuck => .stuck
def R.bindT (r : R) (f : D → Al → TR) : TR := match r with
  | .ok d al => f d al
  | .exc c => .exc c
  | .stuck => .stuck
def R.bindL (r : R) (f : D → Al → Rl) : Rl := match r with
  | .ok d al => f d al
  | .exc c => .exc c
  | .stuck => .stuck
def Rl.bind (r : Rl) (f : List D → Al → R) : R := match r with
  | .ok d al => f d al
  | .exc c => .exc c
  | .stuck => .stuck
def Rl.bindL (r : Rl) (f : List D → Al → Rl) : Rl := match r with
  | .ok d al => f d al
  | .exc c => .exc c
  | .stuck => .stuck
def TR.bind (r : TR) (f : Bool → R) : R := match r with
  | .ok b => f b
  | .exc c => .exc c
  | .stuck => .stuck
def TR.bindT (r : TR) (f : Bool → TR) : TR := match r with
  | .ok b => f b
  | .exc c => .exc c
  | .stuck => .stuck
def BR.t (r : BR) : TR := match r with
  | .ok b => .ok b
  | .stuck => .stuck
def BR.r (r : BR) : R := match r with
  | .ok b => .ok (.v (.bool b)) []
  | .stuck => .stuck
/-- with the data -/
def dat (d : D) (f : PyData → R) : R := match data d with
  | some p => f p
  | none => .stuck
def dat2 (d e : D) (f : PyData → PyData → R) : R := match data d with
  | some p => match data e with
    | some q => f p q
    | none => .stuck
  | none => .stuck
def datT (d : D) (f : PyData → TR) : TR := match data d with
  | some p => f p
  | none => .stuck
def varR (i : Nat) (ρ : Env) : R := match ρ[i]? with
  | some (some (.v p)) => .ok (.v p) []
  | some (some (.n p)) => .ok (.n p) []
  | some (some d) => match view d with
    | some e => .ok e [i]
    | none => .stuck
  | _ => .stuck
/-- the class of the exception that is handled -/
def xk : Str := ""
def setX (G : Glo) (c : Str) : Glo := fun x => if x = xk then some (.str c) else G x
/-- is the exception in slot i one of those? -/
def iseR (G : Glo) (i : Nat) (cs : List (Str × Bool)) (ρ : Env) : R := match ρ[i]? with
  | some (some .exn) => match G xk with
    | some (.str c) => match cs.lookup c with
      | some b => .ok (.v (.bool b)) []
      | none => .stuck
    | _ => .stuck
  | _ => .stuck
def truR (r : R) : TR := r.bindT fun d _ => datT d fun p => (truP p).t
def tyP : PyData → Ty → Bool
  | .bool _, .bool => true
  | .bool _, .int => true
  | .int _, .int => true
  | .str _, .str => true
  | .list _, .list => true
  | .tuple _, .tuple => true
  | .dict _, .dict => true
  | _, _ => false
/-- the items of a list, a tuple, a text -/
def elems (d : D) (al : Al) : Option (List PyData × Bool × Al) := match data d with
  | some (.list ps) => some (ps, isNew d, if mutDs ps then al else [])
  | some (.tuple ps) => some (ps, isNew d, if mutDs ps then al else [])
  | some (.str x) => if x.length ≤ SZ then some (x.cps.toList.map fun c => .str ⟨#[c]⟩, true, []) else none
  | _ => none
def cutP {α : Type} (xs : List α) (lo hi : Option Int) : List α := (xs.drop (HT.sIx xs.length 0 lo)).take (HT.sIx xs.length xs.length hi - HT.sIx xs.length 0 lo)
/-- an item as a value -/
def itR (b : Bool) (p : PyData) (al : Al) : R := if mutD p then .ok (fz b p) al else .ok (.v p) []
/-- x[i] by the data -/
def ixP (b : Bool) (al : Al) (p q : PyData) : R := match p with
  | .list ps => match q with
    | .int i => match atI ps i with
      | some p => itR b p al
      | none => .stuck
    | _ => .stuck
  | .tuple ps => match q with
    | .int i => match atI ps i with
      | some p => itR b p al
      | none => .stuck
    | _ => .stuck
  | .str z => match q with
    | .int i => if z.length ≤ SZ then (match atI z.cps.toList i with
      | some c => .ok (.v (.str ⟨#[c]⟩)) []
      | none => .stuck) else .stuck
    | _ => .stuck
  | .dict kvs => match keyOf q with
    | some _ => match dlook kvs q with
      | some p => itR b p al
      | none => .stuck
    | none => .stuck
  | _ => .stuck
def varOf : E → Option Nat
  | .var i => some i
  | _ => none
/-- an item of a name's own list -/
def ixO (i : Nat) (ds : List D) (q : PyData) : R := match q with
  | .int j => match atI ds j with
    | some e => match view e with
      | some w => .ok w (if isFz e then [] else [i])
      | none => .stuck
    | none => .stuck
  | _ => .stuck
/-- x[i] of a name: its own list's parts are seen one by one -/
def ixV (i : Nat) (ρ : Env) (rb : R) : R := match ρ[i]? with
  | some (some (.ol ds)) => rb.bind fun y _ => dat y (ixO i ds)
  | _ => (varR i ρ).bind fun x al => rb.bind fun y _ => dat2 x y fun p q => ixP (isNew x) al p q
def slR (d : D) (al : Al) (lo hi : Option Int) : R := match data d with
  | some (.list ps) => mkL (isNew d) (cutP ps lo hi) al
  | some (.tuple ps) => mkT (isNew d) (cutP ps lo hi) al
  | some (.str z) => if z.length ≤ SZ then .ok (.v (.str (cutS z lo hi))) [] else .stuck
  | _ => .stuck
def intsOf : List PyData → Option (List Int)
  | [] => some []
  | .int i :: r => (intsOf r).map (i :: ·)
  | _ => none
def boolsOf : List PyData → Option (List Bool)
  | [] => some []
  | .bool i :: r => (boolsOf r).map (i :: ·)
  | _ => none
def strsOf : List PyData → Option (List Str)
  | [] => some []
  | .str i :: r => (strsOf r).map (i :: ·)
  | _ => none
def isort (ns : List Int) : List Int := ns.mergeSort (fun a b => decide (a ≤ b))
def maxI : List Int → Option Int
  | [] => none
  | i :: r => some (r.foldl max i)
def minI : List Int → Option Int
  | [] => none
  | i :: r => some (r.foldl min i)
/-- a built-in function of one value -/
def bi1 (b : Bi) (d : D) (al : Al) : R := match b with
  | .len => match data d with
    | some (.list ps) => .ok (.v (.int ps.length)) []
    | some (.tuple ps) => .ok (.v (.int ps.length)) []
    | some (.str x) => if x.length ≤ SZ then .ok (.v (.int x.length)) [] else .stuck
    | _ => .stuck
  | .int => match data d with
    | some (.int i) => .ok (.v (.int i)) []
    | some (.bool k) => .ok (.v (.int (if k then 1 else 0))) []
    | _ => .stuck
  | .abs => match data d with
    | some (.int i) => .ok (.v (.int (if i < 0 then -i else i))) []
    | _ => .stuck
  | .sum => match data d with
    | some (.list ps) => match intsOf ps with
      | some ns => .ok (.v (.int ns.sum)) []
      | none => .stuck
    | _ => .stuck
  | .maxL => match data d with
    | some (.list ps) => match (intsOf ps).bind maxI with
      | some m => .ok (.v (.int m)) []
      | none => .stuck
    | _ => .stuck
  | .minL => match data d with
    | some (.list ps) => match (intsOf ps).bind minI with
      | some m => .ok (.v (.int m)) []
      | none => .stuck
    | _ => .stuck
  | .sorted => match data d with
    | some (.list ps) => match intsOf ps with
      | some ns => .ok (oL ((isort ns).map .int)) []
      | none => .stuck
    | _ => .stuck
  | .ord => match data d with
    | some (.str x) => if x.length = 1 then .ok (.v (.int (x.cps.getD 0 0 : Nat))) [] else .stuck
    | _ => .stuck
  | .any => match data d with
    | some (.list ps) => match boolsOf ps with
      | some ns => .ok (.v (.bool (ns.any id))) []
      | none => .stuck
    | _ => .stuck
  | .all => match data d with
    | some (.list ps) => match boolsOf ps with
      | some ns => .ok (.v (.bool (ns.all id))) []
      | none => .stuck
    | _ => .stuck
  | .list => match data d with
    | some (.list ps) => mkL (isNew d) ps al
    | some (.tuple ps) => mkL (isNew d) ps al
    | _ => .stuck
  | .tuple => match data d with
    | some (.list ps) => mkT (isNew d) ps al
    | some (.tuple ps) => mkT (isNew d) ps al
    | _ => .stuck
  | _ => .stuck
def bi2 (b : Bi) (p q : PyData) : R := match b with
  | .max2 => match p with
    | .int i => match q with
      | .int j => .ok (.v (.int (if j > i then j else i))) []
      | _ => .stuck
    | _ => .stuck
  | .min2 => match p with
    | .int i => match q with
      | .int j => .ok (.v (.int (if j < i then j else i))) []
      | _ => .stuck
    | _ => .stuck
  | _ => .stuck
def biR (b : Bi) (ds : List D) (al : Al) : R := match ds with
  | [d] => bi1 b d al
  | [d, e] => dat2 d e (bi2 b)
  | _ => .stuck
/-- a text's method -/
def mt0R (m : Mt) (a : Str) : R := match m with
  | .upper => if a.length ≤ 5592405 then okS (Txt.upper a) else .stuck
  | .lower => if a.length ≤ 5592405 then okS (Txt.lower a) else .stuck
  | .isdigit => .ok (.v (.bool (Txt.isdigit a))) []
  | .isalpha => .ok (.v (.bool (Txt.isalpha a))) []
  | .isupper => .ok (.v (.bool (Txt.isupper a))) []
  | .islower => .ok (.v (.bool (Txt.islower a))) []
  | .strip => if a.length ≤ SZ then okS (Txt.strip a) else .stuck
  | _ => .stuck
def joinR (a : Str) (ps : List PyData) : R := match strsOf ps with
  | some zs => if (zs.map (·.length)).sum + zs.length * a.length ≤ SZ then okS (Txt.join a zs) else .stuck
  | none => .stuck
def mt1R (m : Mt) (a : Str) (q : PyData) : R := match m with
  | .join => match q with
    | .list ps => joinR a ps
    | .tuple ps => joinR a ps
    | _ => .stuck
  | .startswith => match q with
    | .str b => .ok (.v (.bool (Txt.startswith a b))) []
    | _ => .stuck
  | .endswith => match q with
    | .str b => .ok (.v (.bool (Txt.endswith a b))) []
    | _ => .stuck
  | .find => match q with
    | .str b => .ok (.v (.int (Txt.find a b))) []
    | _ => .stuck
  | .count => match q with
    | .str b => .ok (.v (.int (Txt.count a b))) []
    | _ => .stuck
  | .zfill => match q with
    | .int i => if PadOk i then okS (Txt.zfill a i) else .stuck
    | _ => .stuck
  | .split => match q with
    | .str b => if (b.length == 0) = false ∧ a.length + 2 ≤ SZ ∧ (Txt.split a b).all PyData.strOk = true then .ok (oL ((Txt.split a b).map .str)) [] else .stuck
    | _ => .stuck
  | .partition => match q with
    | .str b => if (b.length == 0) = false ∧ a.length ≤ SZ ∧ PyData.strOk (Txt.partition a b).1 = true ∧ PyData.strOk (Txt.partition a b).2.1 = true ∧ PyData.strOk (Txt.partition a b).2.2 = true then
        .ok (.v (.tuple [.str (Txt.partition a b).1, .str (Txt.partition a b).2.1, .str (Txt.partition a b).2.2])) [] else .stuck
    | _ => .stuck
  | _ => .stuck
def mtR (m : Mt) (a : Str) (ds : List D) : R := match ds with
  | [] => mt0R m a
  | [d] => match data d with
    | some q => mt1R m a q
    | none => .stuck
  | _ => .stuck
def strR (d : D) (f : Str → R) : R := match data d with
  | some (.str a) => f a
  | _ => .stuck
def callR (r : CR) (al : Al) : R := match r with
  | .ok d => if hasV d then .ok d al else .ok (own d) []
  | .exc c => .exc c
  | .stuck => .stuck
/-- the items that a loop goes over -/
def rgI (a b : Int) : List Int := (List.range (b - a).toNat).map fun (k : Nat) => a + k
def rgOk (a b : Int) : Bool := decide (a.natAbs < 4611686018427387904) && decide (b.natAbs < 4611686018427387904) && decide ((b - a).toNat ≤ 16777216)
def enumP (ps : List PyData) : List PyData := ps.mapIdx fun k p => .tuple [.int k, p]
def zipP (ps qs : List PyData) : List PyData := ps.zipWith (fun p q => .tuple [p, q]) qs
def itemsR (k : Sk) (ds : List D) (al : Al) : Option (List PyData × Bool × Al) := match k with
  | .seq => match ds with
    | [d] => elems d al
    | _ => none
  | .range => match ds with
    | [d] => match data d with
      | some (.int j) => if rgOk 0 j then some ((rgI 0 j).map .int, true, []) else none
      | _ => none
    | [d, e] => match data d with
      | some (.int i) => match data e with
        | some (.int j) => if rgOk i j then some ((rgI i j).map .int, true, []) else none
        | _ => none
      | _ => none
    | _ => none
  | .enum => match ds with
    | [d] => match data d with
      | some (.list _) => (elems d al).map fun (ps, b, al) => (enumP ps, b, al)
      | _ => none
    | _ => none
  | .zip => match ds with
    | [d, e] => match data d with
      | some (.list ps) => match data e with
        | some (.list qs) => if mutDs ps || mutDs qs then none else some (zipP ps qs, isNews [d, e], [])
        | _ => none
      | _ => none
    | _ => none
  | _ => none
/-- a target -/
def setTs (b : Bool) : List Nat → List PyData → Env → Option Env
  | [], [], ρ => some ρ
  | i :: is, p :: ps, ρ => setTs b is ps (ρ.set i (some (fz b p)))
  | _, _, _ => none
def setT (t : Tg) (b : Bool) (p : PyData) (ρ : Env) : Option Env := match t with
  | .name i => some (ρ.set i (some (fz b p)))
  | .tup is => match p with
    | .tuple ps => setTs b is ps ρ
    | .list ps => setTs b is ps ρ
    | _ => none
def wipeE (ρ : Env) : List Nat → Env
  | [] => ρ
  | i :: is => (wipeE ρ is).set i none
def plainD : D → Bool
  | .v p => !mutD p
  | _ => false
/-- the turns of a comprehension; nothing may be raised in it -/
def lcR (st : PyData → Option Env) (cd : Env → TR) (el : Env → R) : List PyData → Rl
  | [] => .ok [] []
  | p :: ps => match st p with
    | none => .stuck
    | some ρ => match cd ρ with
      | .ok true => match el ρ with
        | .ok d al => match lcR st cd el ps with
          | .ok ds bl => .ok (d :: ds) (al ++ bl)
          | _ => .stuck
        | _ => .stuck
      | .ok false => lcR st cd el ps
      | _ => .stuck
def keyP : PyData → Option Key
  | .int i => some (.inl i)
  | .str x => some (.inr x)
  | _ => none
def addK (ks : List Key) (k : Key) : List Key := if (ks.any fun j => decide (j = k)) = true then ks else ks ++ [k]
/-- the keys of a dict comprehension; nothing may be raised in it -/
def dkR (st : PyData → Option Env) (kx : Env → R) : List PyData → List Key → Option (List Key)
  | [], acc => some acc
  | p :: ps, acc => match st p with
    | none => none
    | some ρ => match kx ρ with
      | .ok d _ => match (data d).bind keyP with
        | some k => dkR st kx ps (addK acc k)
        | none => none
      | _ => none
/-- a list from its end -/
def revD (d : D) (al : Al) : R := match data d with
  | some (.list ps) => mkL (isNew d) ps.reverse al
  | _ => .stuck
inductive OR where
  | ok (o : Option Int)
  | exc (c : Str)
  | stuck
def OR.bind (r : OR) (f : Option Int → R) : R := match r with
  | .ok o => f o
  | .exc c => .exc c
  | .stuck => .stuck
def optR (r : R) : OR := match r with
  | .ok d _ => match data d with
    | some (.int i) => .ok (some i)
    | _ => .stuck
  | .exc c => .exc c
  | .stuck => .stuck
/-- a value and a test at once -/
structure VT where
  e : R
  t : TR
def vt (r : R) : VT := ⟨r, truR r⟩
def andR : List VT → R
  | [] => .stuck
  | [e] => e.e
  | e :: es => e.e.bind fun d al => (datT d fun p => (truP p).t).bind fun b => if b then andR es else .ok d al
def orR : List VT → R
  | [] => .stuck
  | [e] => e.e
  | e :: es => e.e.bind fun d al => (datT d fun p => (truP p).t).bind fun b => if b then .ok d al else orR es
def andT : List VT → TR
  | [] => .stuck
  | [e] => e.t
  | e :: es => e.t.bindT fun b => if b then andT es else .ok false
def orT : List VT → TR
  | [] => .stuck
  | [e] => e.t
  | e :: es => e.t.bindT fun b => if b then .ok true else orT es
/-- all of some conditions -/
def allT : List VT → TR
  | [] => .ok true
  | e :: es => e.t.bindT fun b => if b then allT es else .ok false
def seqR : List VT → Rl
  | [] => .ok [] []
  | e :: es => e.e.bindL fun d al => (seqR es).bindL fun ds bl => .ok (d :: ds) (al ++ bl)
mutual
def ev (C : Cal) (G : Glo) : E → Env → VT
  | .non, _ => vt (.ok (.v .none) [])
  | .bl b, _ => vt (.ok (.v (.bool b)) [])
  | .int i, _ => vt (.ok (.v (.int i)) [])
  | .str x, _ => vt (.ok (.v (.str x)) [])
  | .var i, ρ => vt (varR i ρ)
  | .glob g, _ => vt (match G g with
    | some d => .ok (.v d) []
    | none => .stuck)
  | .bin o a b, ρ => vt ((ev C G a ρ).e.bind fun x al => (ev C G b ρ).e.bind fun y bl => dat2 x y (binP o (isNew x && isNew y) (al ++ bl)))
  | .neg a, ρ => vt ((ev C G a ρ).e.bind fun x _ => dat x fun p => match p with
    | .int i => .ok (.v (.int (-i))) []
    | _ => .stuck)
  | .cmp o a b, ρ => vt ((ev C G a ρ).e.bind fun x _ => (ev C G b ρ).e.bind fun y _ => dat2 x y fun p q => (cmpP o p q).r)
  | .chn o o' a b c, ρ => vt ((ev C G a ρ).e.bind fun x _ => (ev C G b ρ).e.bind fun y _ => dat2 x y fun p q => match cmpP o p q with
    | .ok true => (ev C G c ρ).e.bind fun z _ => dat z fun r => (cmpP o' q r).r
    | .ok false => .ok (.v (.bool false)) []
    | .stuck => .stuck)
  | .and es, ρ => ⟨andR (evs C G es ρ), andT (evs C G es ρ)⟩
  | .or es, ρ => ⟨orR (evs C G es ρ), orT (evs C G es ρ)⟩
  | .not a, ρ => ⟨(truR (ev C G a ρ).e).bind fun b => .ok (.v (.bool (!b))) [], (ev C G a ρ).t.bindT fun b => .ok (!b)⟩
  | .ifx c a b, ρ => ⟨(ev C G c ρ).t.bind fun k => if k then (ev C G a ρ).e else (ev C G b ρ).e, (ev C G c ρ).t.bindT fun k => if k then (ev C G a ρ).t else (ev C G b ρ).t⟩
  | .call f es, ρ => vt ((seqR (evs C G es ρ)).bind fun ds al => match datas ds with
    | some ps => callR (C f ps) al
    | none => .stuck)
  | .bi b es, ρ => vt ((seqR (evs C G es ρ)).bind fun ds al => biR b ds al)
  | .isi a t, ρ => vt ((ev C G a ρ).e.bind fun x _ => dat x fun p => .ok (.v (.bool (tyP p t))) [])
  | .ise i cs, ρ => vt (iseR G i cs ρ)
  | .mth m o es, ρ => vt ((ev C G o ρ).e.bind fun x _ => strR x fun a => (seqR (evs C G es ρ)).bind fun ds _ => mtR m a ds)
  | .ix a b, ρ => vt (match varOf a with
    | some i => ixV i ρ (ev C G b ρ).e
    | none => (ev C G a ρ).e.bind fun x al => (ev C G b ρ).e.bind fun y _ => dat2 x y fun p q => ixP (isNew x) al p q)
  | .dkl own k args tg kx, ρ => vt ((seqR (evs C G args ρ)).bind fun ds al => match itemsR k ds al with
    | some (ps, b, _) => match dkR (fun p => setT tg b p (wipeE ρ own)) (fun ρ => (ev C G kx ρ).e) ps [] with
      | some ks => .ok (.v (.int ks.length)) []
      | none => .stuck
    | none => .stuck)
  | .rev a, ρ => vt ((ev C G a ρ).e.bind fun x al => revD x al)
  | .sl a lo hi, ρ => vt ((ev C G a ρ).e.bind fun x al => (evO C G lo ρ).bind fun l => (evO C G hi ρ).bind fun h => slR x al l h)
  | .lst es, ρ => vt ((seqR (evs C G es ρ)).bind fun ds al => .ok (.ol ds) al)
  | .tup es, ρ => vt ((seqR (evs C G es ρ)).bind fun ds al => if ds.all isFz then (match datas ds with
    | some ps => mkT (isNews ds) ps al
    | none => .stuck) else .ok (.ot ds) al)
  | .lc own k args tg cs elt, ρ => vt ((seqR (evs C G args ρ)).bind fun ds al => match itemsR k ds al with
    | some (ps, b, al) => match lcR (fun p => setT tg b p (wipeE ρ own)) (fun ρ => allT (evs C G cs ρ)) (fun ρ => (ev C G elt ρ).e) ps with
      | .ok ds bl => .ok (.ol ds) (if ds.all plainD then [] else al ++ bl)
      | _ => .stuck
    | none => .stuck)
def evs (C : Cal) (G : Glo) : List E → Env → List VT
  | [], _ => []
  | e :: es, ρ => ev C G e ρ :: evs C G es ρ
def evO (C : Cal) (G : Glo) : Option E → Env → OR
  | none, _ => .ok none
  | some e, ρ => optR (ev C G e ρ).e
end
abbrev evE (C : Cal) (G : Glo) (e : E) (ρ : Env) : R := (ev C G e ρ).e
abbrev evT (C : Cal) (G : Glo) (e : E) (ρ : Env) : TR := (ev C G e ρ).t
abbrev evEs (C : Cal) (G : Glo) (es : List E) (ρ : Env) : Rl := seqR (evs C G es ρ)
end Hv

/-! Hv, part 3: how slots and values bear the data. -/
namespace Hv
open PySem PySem.Spec PyProof.Rows L2

mutual
theorem Rp.imm {K : KW} {S S' : AS} {H : Hp} : ∀ {x : V} {d : PyData}, Rp K S H x d → mutD d = false → Rp K S' H x d
  | _, _, .non, _ => .non
  | _, _, .bl b, _ => .bl b
  | _, _, .int i, _ => .int i
  | _, _, .str k, _ => .str k
  | _, _, .lst _ _ _, h => by simp [mutD] at h
  | _, _, .lsk _ _, h => by simp [mutD] at h
  | _, _, .tup r q, h => .tup r (Rps.imm q (by simpa [mutD] using h))
  | _, _, .dk _ _ _, h => by simp [mutD] at h
  | _, _, .dt _ _ _, h => by simp [mutD] at h
  | _, _, .dlk _ _, h => by simp [mutD] at h
theorem Rps.imm {K : KW} {S S' : AS} {H : Hp} : ∀ {xs : List V} {ds : List PyData}, Rps K S H xs ds → mutDs ds = false → Rps K S' H xs ds
  | _, _, .nil, _ => .nil
  | _, _, .cons h t, e => by
    simp only [mutDs, Bool.or_eq_false_iff] at e
    exact .cons (Rp.imm h e.1) (Rps.imm t e.2)
end

mutual
/-- the value x is d: old things in F or N, new ones in N, an island's in I, its own ones in P -/
inductive RD (K : KW) (F N I : AS) (H : Hp) : AS → V → D → Prop
  | v {P : AS} {x : V} {d : PyData} : Rp K (fun a => F a ∨ N a) H x d → RD K F N I H P x (.v d)
  | n {P : AS} {x : V} {d : PyData} : Rp K N H x d → RD K F N I H P x (.n d)
  | isl {P : AS} {x : V} {d : PyData} : Rp K I H x d → RD K F N I H P x (.isl d)
  | ol {P Q : AS} {a : Addr} {xs : List V} {ds : List D} : P a → H a = some (.lst xs) → RDs K F N I H Q xs ds → (∀ b, Q b → P b) → ¬ Q a → RD K F N I H P (.ref a) (.ol ds)
  | ot {P : AS} {a : Addr} {xs : List V} {ds : List D} : SqT K.k H a xs → RDs K F N I H P xs ds → RD K F N I H P (.ref a) (.ot ds)
  | dead {P : AS} {x : V} : RD K F N I H P x .dead
  | exn {P : AS} {a : Addr} : K.x = some (.ref a) → RD K F N I H P (.ref a) .exn
inductive RDs (K : KW) (F N I : AS) (H : Hp) : AS → List V → List D → Prop
  | nil {P : AS} : RDs K F N I H P [] []
  | cons {P P1 P2 : AS} {x : V} {xs : List V} {d : D} {ds : List D} : RD K F N I H P1 x d → RDs K F N I H P2 xs ds → (∀ a, P1 a → P a) → (∀ a, P2 a → P a) → (∀ a, P1 a → ¬ P2 a) → RDs K F N I H P (x :: xs) (d :: ds)
end

section
variable {K : KW} {F N I F' N' I' Z P P' : AS} {H H' : Hp}
mutual
theorem RD.kp (e : Kp Z H H') (hF : ∀ a, F a → F' a ∨ N' a) (hN : ∀ a, N a → N' a) (hI : ∀ a, I a → I' a) (zF : ∀ a, F a → ¬ Z a) (zN : ∀ a, N a → ¬ Z a) (zI : ∀ a, I a → ¬ Z a) (ht : ∀ b ys, Z b → ¬ Rd H b (.tup ys)) :
    ∀ {P P' : AS} {x : V} {d : D}, RD K F N I H P x d → (∀ a, P a → P' a) → (∀ a, P a → ¬ Z a) → RD K F' N' I' H' P' x d
  | _, _, _, _, .v r, _, _ => .v (r.kp e (fun a h => h.elim (hF a) fun z => .inr (hN a z)) (fun a h => h.elim (zF a) (zN a)) ht)
  | _, _, _, _, .n r, _, _ => .n (r.kp e hN zN ht)
  | _, _, _, _, .isl r, _, _ => .isl (r.kp e hI zI ht)
  | _, _, _, _, .ol p h r s q, hP, zP => .ol (hP _ p) (e _ _ (zP _ p) h) (RDs.kp e hF hN hI zF zN zI ht r (fun _ h => h) fun a h => zP a (s a h)) (fun b h => hP _ (s b h)) q
  | _, _, _, _, .ot h r, hP, zP => .ot (SqT.kp h e ht) (RDs.kp e hF hN hI zF zN zI ht r hP zP)
  | _, _, _, _, .dead, _, _ => .dead
  | _, _, _, _, .exn e, _, _ => .exn e
theorem RDs.kp (e : Kp Z H H') (hF : ∀ a, F a → F' a ∨ N' a) (hN : ∀ a, N a → N' a) (hI : ∀ a, I a → I' a) (zF : ∀ a, F a → ¬ Z a) (zN : ∀ a, N a → ¬ Z a) (zI : ∀ a, I a → ¬ Z a) (ht : ∀ b ys, Z b → ¬ Rd H b (.tup ys)) :
    ∀ {P P' : AS} {xs : List V} {ds : List D}, RDs K F N I H P xs ds → (∀ a, P a → P' a) → (∀ a, P a → ¬ Z a) → RDs K F' N' I' H' P' xs ds
  | _, _, _, _, .nil, _, _ => .nil
  | _, _, _, _, .cons h t a b c, hP, zP => .cons (RD.kp e hF hN hI zF zN zI ht h (fun _ h => h) fun _ h => zP _ (a _ h)) (RDs.kp e hF hN hI zF zN zI ht t (fun _ h => h) fun _ h => zP _ (b _ h)) (fun _ h => hP _ (a _ h)) (fun _ h => hP _ (b _ h)) c
end
theorem RD.ext {x : V} {d : D} (h : RD K F N I H P x d) (e : Ext H H') (hF : ∀ a, F a → F' a ∨ N' a) (hN : ∀ a, N a → N' a) (hI : ∀ a, I a → I' a) (hP : ∀ a, P a → P' a) : RD K F' N' I' H' P' x d :=
  RD.kp (Z := fun _ => False) e.kp hF hN hI (fun _ _ z => z) (fun _ _ z => z) (fun _ _ z => z) (fun _ _ z => z.elim) h hP fun _ _ z => z
theorem RDs.ext {x : List V} {d : List D} (h : RDs K F N I H P x d) (e : Ext H H') (hF : ∀ a, F a → F' a ∨ N' a) (hN : ∀ a, N a → N' a) (hI : ∀ a, I a → I' a) (hP : ∀ a, P a → P' a) : RDs K F' N' I' H' P' x d :=
  RDs.kp (Z := fun _ => False) e.kp hF hN hI (fun _ _ z => z) (fun _ _ z => z) (fun _ _ z => z) (fun _ _ z => z.elim) h hP fun _ _ z => z

/-- in NN, and in F too unless b -/
def SB (b : Bool) (F NN : AS) : AS := fun a => (b = false ∧ F a) ∨ NN a
theorem SB.mono {b b' : Bool} {F NN NN' : AS} (h : b' = true → b = true) (hn : ∀ a, NN a → NN' a) : ∀ a, SB b F NN a → SB b' F NN' a := fun a z => by
  rcases z with ⟨z1, z2⟩ | z
  · refine .inl ⟨?_, z2⟩
    cases b' with
    | false => rfl
    | true => rw [h rfl] at z1; cases z1
  · exact .inr (hn a z)
mutual
/-- its data -/
theorem RD.data : ∀ {P : AS} {x : V} {d : D} {p : PyData}, RD K F N I H P x d → data d = some p → Rp K (SB (isNew d) F fun a => N a ∨ (I a ∨ P a)) H x p
  | _, _, _, _, .v (d := d) r, e => by
    simp only [Hv.data, Option.some.injEq] at e; subst e
    cases h : mutD d with
    | false => exact r.imm h
    | true => exact r.mono fun a z => z.elim (fun z => .inl ⟨by simp [isNew, h], z⟩) fun z => .inr (.inl z)
  | _, _, _, _, .n r, e => by
    simp only [Hv.data, Option.some.injEq] at e; subst e
    exact r.mono fun a h => .inr (.inl h)
  | _, _, _, _, .isl r, e => by
    simp only [Hv.data, Option.some.injEq] at e; subst e
    exact r.mono fun a h => .inr (.inr (.inl h))
  | _, _, _, _, .ol (ds := ds) p h r s q, e => by
    simp only [Hv.data] at e
    cases h2 : datas ds with
    | none => rw [h2] at e; cases e
    | some ps =>
      rw [h2] at e
      simp only [Option.map_some, Option.some.injEq] at e
      subst e
      exact .lst (.inr (.inr (.inr p))) (.inl h) ((RDs.datas r h2).mono (SB.mono (fun z => by simpa [isNew] using z) fun a z => z.elim .inl fun z => .inr (z.elim .inl fun z => .inr (s _ z))))
  | _, _, _, _, .ot (ds := ds) h r, e => by
    simp only [Hv.data] at e
    cases h2 : datas ds with
    | none => rw [h2] at e; cases e
    | some ps =>
      rw [h2] at e
      simp only [Option.map_some, Option.some.injEq] at e
      subst e
      exact .tup h ((RDs.datas r h2).mono (SB.mono (fun z => by simpa [isNew] using z) fun a z => z))
  | _, _, _, _, .dead, e => by simp [Hv.data] at e
  | _, _, _, _, .exn _, e => by simp [Hv.data] at e
theorem RDs.datas : ∀ {P : AS} {xs : List V} {ds : List D} {ps : List PyData}, RDs K F N I H P xs ds → datas ds = some ps → Rps K (SB (isNews ds) F fun a => N a ∨ (I a ∨ P a)) H xs ps
  | _, _, _, _, .nil, e => by simp only [Hv.datas, Option.some.injEq] at e; subst e; exact .nil
  | _, _, _, _, .cons (d := d) (ds := ds) h t a b c, e => by
    simp only [Hv.datas] at e
    cases h1 : Hv.data d with
    | none => rw [h1] at e; cases e
    | some p =>
      cases h2 : Hv.datas ds with
      | none => rw [h1, h2] at e; cases e
      | some ps =>
        rw [h1, h2] at e
        simp only [Option.some.injEq] at e
        subst e
        exact .cons ((RD.data h h1).mono (SB.mono (fun z => by simp [isNews] at z; exact z.1) fun _ z => z.elim .inl fun z => .inr (z.elim .inl fun z => .inr (a _ z))))
          ((RDs.datas t h2).mono (SB.mono (fun z => by simp [isNews] at z; exact z.2) fun _ z => z.elim .inl fun z => .inr (z.elim .inl fun z => .inr (b _ z))))
end
mutual
/-- a callee's new things are the caller's own, where nothing old is in it -/
theorem RD.own (hI : ∀ a, I a → I' a) (hN : ∀ a, N a → I' a) : ∀ {P : AS} {x : V} {d : D}, RD K F N I H P x d → hasV d = false → RD K F' N' I' H P x (Hv.own d)
  | _, _, _, .v r, h => .v (r.imm (by simpa [hasV] using h))
  | _, _, _, .n r, _ => .isl (r.mono hN)
  | _, _, _, .isl r, _ => .isl (r.mono hI)
  | _, _, _, .ol p h r s q, hv => .ol p h (RDs.own hI hN r (by simpa [hasV] using hv)) s q
  | _, _, _, .ot h r, hv => .ot h (RDs.own hI hN r (by simpa [hasV] using hv))
  | _, _, _, .dead, _ => .dead
  | _, _, _, .exn e, _ => .exn e
theorem RDs.own (hI : ∀ a, I a → I' a) (hN : ∀ a, N a → I' a) : ∀ {P : AS} {xs : List V} {ds : List D}, RDs K F N I H P xs ds → hasVs ds = false → RDs K F' N' I' H P xs (Hv.owns ds)
  | _, _, _, .nil, _ => .nil
  | _, _, _, .cons h t a b c, hv => by
    simp only [hasVs, Bool.or_eq_false_iff] at hv
    exact .cons (RD.own hI hN h hv.1) (RDs.own hI hN t hv.2) a b c
end
/-- with another exception in hand, or none -/
theorem KW.eta {K K' : KW} (h1 : K'.k = K.k) (h2 : K'.p = K.p) : K' = ⟨K.k, K.p, K'.x⟩ := by
  cases K; cases K'; simp only at h1 h2; subst h1 h2; rfl
mutual
theorem Rp.kx {k : PySem.W.Frag} {p : Params} {u v : Option Value} {S : AS} : ∀ {x : V} {d : PyData}, Rp ⟨k, p, u⟩ S H x d → Rp ⟨k, p, v⟩ S H x d
  | _, _, .non => .non
  | _, _, .bl b => .bl b
  | _, _, .int i => .int i
  | _, _, .str k => .str k
  | _, _, .lst s r q => .lst s r (Rps.kx q)
  | _, _, .lsk l q => .lsk l (Rps.kx q)
  | _, _, .tup r q => .tup r (Rps.kx q)
  | _, _, .dk s r q => .dk s r (Rps.kx q)
  | _, _, .dt s r q => .dt s r (Rps.kx q)
  | _, _, .dlk l q => .dlk l (Rps.kx q)
theorem Rps.kx {k : PySem.W.Frag} {p : Params} {u v : Option Value} {S : AS} : ∀ {x : List V} {d : List PyData}, Rps ⟨k, p, u⟩ S H x d → Rps ⟨k, p, v⟩ S H x d
  | _, _, .nil => .nil
  | _, _, .cons h t => .cons (Rp.kx h) (Rps.kx t)
end
mutual
theorem RD.kx {k : PySem.W.Frag} {p : Params} {u v : Option Value} : ∀ {P : AS} {x : V} {d : D}, RD ⟨k, p, u⟩ F N I H P x d → (noX d = true ∨ u = none) → RD ⟨k, p, v⟩ F N I H P x d
  | _, _, _, .v r, _ => .v r.kx
  | _, _, _, .n r, _ => .n r.kx
  | _, _, _, .isl r, _ => .isl r.kx
  | _, _, _, .ol p h r s q, hv => .ol p h (RDs.kx r (hv.imp (fun z => by simpa [noX] using z) id)) s q
  | _, _, _, .ot h r, hv => .ot h (RDs.kx r (hv.imp (fun z => by simpa [noX] using z) id))
  | _, _, _, .dead, _ => .dead
  | _, _, _, .exn e, hv => by
    rcases hv with hv | hv
    · simp [noX] at hv
    · subst hv; cases e
theorem RDs.kx {k : PySem.W.Frag} {p : Params} {u v : Option Value} : ∀ {P : AS} {x : List V} {d : List D}, RDs ⟨k, p, u⟩ F N I H P x d → (noXs d = true ∨ u = none) → RDs ⟨k, p, v⟩ F N I H P x d
  | _, _, _, .nil, _ => .nil
  | _, _, _, .cons h t a b c, hv => .cons (RD.kx h (hv.imp (fun z => by simp [noXs] at z; exact z.1) id)) (RDs.kx t (hv.imp (fun z => by simp [noXs] at z; exact z.2) id)) a b c
end
/-- not to be changed any more -/
theorem RD.fz {b : Bool} {x : V} {p : PyData} (h : Rp K (SB b F N) H x p) : RD K F N I H P x (fz b p) := by
  unfold Hv.fz
  split
  · rename_i e
    simp only [Bool.and_eq_true] at e
    exact .n (h.mono fun a z => z.elim (fun z => by rw [e.1] at z; cases z.1) fun z => z)
  · exact .v (h.mono fun a z => z.elim (fun z => .inl z.2) .inr)
theorem RD.view {x : V} {d e : D} (h : RD K F N I H P x d) (hv : view d = some e) : RD K F (fun a => N a ∨ (I a ∨ P a)) I' H P' x e := by
  unfold Hv.view at hv
  cases h1 : Hv.data d with
  | none => rw [h1] at hv; cases hv
  | some p =>
    rw [h1] at hv
    simp only [Option.map_some, Option.some.injEq] at hv
    subst hv
    exact RD.fz (h.data h1)
theorem RDs.len : ∀ {P : AS} {xs : List V} {ds : List D}, RDs K F N I H P xs ds → xs.length = ds.length
  | _, _, _, .nil => rfl
  | _, _, _, .cons _ t _ _ _ => by rw [List.length_cons, List.length_cons, RDs.len t]
theorem RDs.get : ∀ {P : AS} {xs : List V} {ds : List D} {i : Nat} {d : D}, RDs K F N I H P xs ds → ds[i]? = some d → ∃ x, xs[i]? = some x ∧ RD K F N I H P x d
  | _, _, _, _, _, .nil, e => by simp at e
  | _, _, _, 0, _, .cons h _ a _ _, e => ⟨_, rfl, by simp at e; exact e ▸ h.ext Ext.refl (fun _ z => .inl z) (fun _ z => z) (fun _ z => z) a⟩
  | _, _, _, i + 1, _, .cons _ t _ b _, e => by
    obtain ⟨x, e1, h⟩ := RDs.get (i := i) t (by simpa using e)
    exact ⟨x, by simpa using e1, h.ext Ext.refl (fun _ z => .inl z) (fun _ z => z) (fun _ z => z) b⟩
theorem RDs.of_v : ∀ {xs : List V} {ps : List PyData}, Rps K (fun a => F a ∨ N a) H xs ps → RDs K F N I H (fun _ => False) xs (ps.map .v)
  | _, _, .nil => .nil
  | _, _, .cons h t => .cons (P1 := fun _ => False) (.v h) (RDs.of_v t) (fun _ z => z) (fun _ z => z) (fun _ z => z.elim)
theorem RDs.of_fz {b : Bool} : ∀ {xs : List V} {ps : List PyData}, Rps K (SB b F N) H xs ps → RDs K F N I H (fun _ => False) xs (ps.map (Hv.fz b))
  | _, _, .nil => .nil
  | _, _, .cons h t => .cons (P1 := fun _ => False) (RD.fz h) (RDs.of_fz t) (fun _ z => z) (fun _ z => z) (fun _ z => z.elim)
theorem RD.oL {a : Addr} {xs : List V} {ps : List PyData} (h : H a = some (.lst xs)) (r : Rps K (fun a => F a ∨ N a) H xs ps) (hp : P a) : RD K F N I H P (.ref a) (oL ps) :=
  .ol (Q := fun _ => False) hp h (RDs.of_v r) (fun _ z => z.elim) fun z => z
end

/-- .. with all that nobody else has in P -/
def RW (K : KW) (F N : AS) (H : Hp) (P : AS) (x : V) (d : D) : Prop := ∃ I Q, RD K F N I H Q x d ∧ (∀ a, I a → P a) ∧ (∀ a, Q a → P a) ∧ ∀ a, I a → ¬ Q a
def RWs (K : KW) (F N : AS) (H : Hp) (P : AS) (x : List V) (d : List D) : Prop := ∃ I Q, RDs K F N I H Q x d ∧ (∀ a, I a → P a) ∧ (∀ a, Q a → P a) ∧ ∀ a, I a → ¬ Q a
section
variable {K : KW} {F N I F' N' I' Z P P' : AS} {H H' : Hp}
theorem RW.mk {x : V} {d : D} (h : RD K F N (fun _ => False) H P x d) : RW K F N H P x d := ⟨_, P, h, fun _ z => z.elim, fun _ z => z, fun _ z => z.elim⟩
theorem RW.kp {x : V} {d : D} (h : RW K F N H P x d) (e : Kp Z H H') (hF : ∀ a, F a → F' a ∨ N' a) (hN : ∀ a, N a → N' a) (zF : ∀ a, F a → ¬ Z a) (zN : ∀ a, N a → ¬ Z a) (ht : ∀ b ys, Z b → ¬ Rd H b (.tup ys)) (hP : ∀ a, P a → P' a) (zP : ∀ a, P a → ¬ Z a) : RW K F' N' H' P' x d :=
  let ⟨I, Q, r, hi, hq, hd⟩ := h
  ⟨I, Q, r.kp e hF hN (fun _ z => z) zF zN (fun a z => zP a (hi a z)) ht (fun _ z => z) fun a z => zP a (hq a z), fun a z => hP a (hi a z), fun a z => hP a (hq a z), hd⟩
theorem RW.ext {x : V} {d : D} (h : RW K F N H P x d) (e : Ext H H') (hF : ∀ a, F a → F' a ∨ N' a) (hN : ∀ a, N a → N' a) (hP : ∀ a, P a → P' a) : RW K F' N' H' P' x d :=
  RW.kp (Z := fun _ => False) h e.kp hF hN (fun _ _ z => z) (fun _ _ z => z) (fun _ _ z => z.elim) hP fun _ _ z => z
theorem RWs.ext {x : List V} {d : List D} (h : RWs K F N H P x d) (e : Ext H H') (hF : ∀ a, F a → F' a ∨ N' a) (hN : ∀ a, N a → N' a) (hP : ∀ a, P a → P' a) : RWs K F' N' H' P' x d :=
  let ⟨I, Q, r, hi, hq, hd⟩ := h
  ⟨I, Q, r.ext e hF hN (fun _ z => z) (fun _ z => z), fun a z => hP a (hi a z), fun a z => hP a (hq a z), hd⟩
theorem RW.data {x : V} {d : D} {p : PyData} (h : RW K F N H P x d) (e : data d = some p) : Rp K (SB (isNew d) F fun a => N a ∨ P a) H x p :=
  let ⟨I, Q, r, hi, hq, hd⟩ := h
  (r.data e).mono (SB.mono (fun z => z) fun a z => z.elim .inl fun z => .inr (z.elim (hi a) (hq a)))
theorem RWs.datas {x : List V} {d : List D} {p : List PyData} (h : RWs K F N H P x d) (e : datas d = some p) : Rps K (SB (isNews d) F fun a => N a ∨ P a) H x p :=
  let ⟨I, Q, r, hi, hq, hd⟩ := h
  (r.datas e).mono (SB.mono (fun z => z) fun a z => z.elim .inl fun z => .inr (z.elim (hi a) (hq a)))
theorem RW.view {x : V} {d e : D} (h : RW K F N H P x d) (hv : view d = some e) : RW K F (fun a => N a ∨ P a) H P' x e := by
  unfold Hv.view at hv
  cases h1 : Hv.data d with
  | none => rw [h1] at hv; cases hv
  | some p =>
    rw [h1] at hv
    simp only [Option.map_some, Option.some.injEq] at hv
    subst hv
    exact .mk (RD.fz (h.data h1))
end

/-! ### the slots -/
structure Stt (K : KW) (E0 : Hp) (F N : AS) (Pf : Nat → AS) (H : Hp) (σ : L2.St) (ρ : Env) : Prop where
  len : σ.length = ρ.length
  rep : ∀ i d, ρ[i]? = some (some d) → ∃ x, σ[i]? = some (some x) ∧ RW K F N H (Pf i) x d
  dis : ∀ i j a, Pf i a → Pf j a → i = j
  prv : ∀ i a, Pf i a → ¬ N a ∧ E0 a = none ∧ H a ≠ none
  new : ∀ a, N a → E0 a = none ∧ H a ≠ none
  old : ∀ a, F a → E0 a ≠ none
  ext : Ext E0 H
/-- what an expression needs of the slots -/
structure StE (K : KW) (F N : AS) (Pf : Nat → AS) (H : Hp) (σ : L2.St) (ρ : Env) : Prop where
  len : σ.length = ρ.length
  rep : ∀ i d, ρ[i]? = some (some d) → ∃ x, σ[i]? = some (some x) ∧ RW K F N H (Pf i) x d
  tF : ∀ a, F a → H a ≠ none
  tN : ∀ a, N a → H a ≠ none
  tP : ∀ i a, Pf i a → H a ≠ none
/-- an expression's value -/
structure Res (K : KW) (F N : AS) (Pf : Nat → AS) (H : Hp) (al : Al) (H' : Hp) (Nv Pv : AS) (x : V) (d : D) : Prop where
  ext : Ext H H'
  rd : RW K F (fun a => N a ∨ (∃ i, i ∈ al ∧ Pf i a) ∨ Nv a) H' Pv x d
  nv : ∀ a, Nv a → H a = none ∧ H' a ≠ none ∧ ¬ Pv a
  pv : ∀ a, Pv a → H a = none ∧ H' a ≠ none
structure Resl (K : KW) (F N : AS) (Pf : Nat → AS) (H : Hp) (al : Al) (H' : Hp) (Nv Pv : AS) (x : List V) (d : List D) : Prop where
  ext : Ext H H'
  rd : RWs K F (fun a => N a ∨ (∃ i, i ∈ al ∧ Pf i a) ∨ Nv a) H' Pv x d
  nv : ∀ a, Nv a → H a = none ∧ H' a ≠ none ∧ ¬ Pv a
  pv : ∀ a, Pv a → H a = none ∧ H' a ≠ none
section
variable {K : KW} {E0 : Hp} {F N : AS} {Pf : Nat → AS} {H H' H1 H2 : Hp} {σ : L2.St} {ρ : Env} {al bl : Al} {Nv Pv : AS}
theorem Stt.e (S : Stt K E0 F N Pf H σ ρ) : StE K F N Pf H σ ρ := ⟨S.len, S.rep, fun a h => S.ext.ne (S.old a h), fun a h => (S.new a h).2, fun i a h => (S.prv i a h).2.2⟩
theorem StE.more (S : StE K F N Pf H σ ρ) (e : Ext H H') : StE K F N Pf H' σ ρ where
  len := S.len
  rep := fun i d h => by
    obtain ⟨x, e1, r⟩ := S.rep i d h
    exact ⟨x, e1, r.ext e (fun _ z => .inl z) (fun _ z => z) (fun _ z => z)⟩
  tF := fun a h => e.ne (S.tF a h)
  tN := fun a h => e.ne (S.tN a h)
  tP := fun i a h => e.ne (S.tP i a h)
theorem Stt.more (S : Stt K E0 F N Pf H σ ρ) (e : Ext H H') : Stt K E0 F N Pf H' σ ρ where
  len := S.len
  rep := fun i d h => by
    obtain ⟨x, e1, r⟩ := S.rep i d h
    exact ⟨x, e1, r.ext e (fun _ z => .inl z) (fun _ z => z) (fun _ z => z)⟩
  dis := S.dis
  prv := fun i a h => let ⟨p, q, r⟩ := S.prv i a h; ⟨p, q, e.ne r⟩
  new := fun a h => let ⟨p, q⟩ := S.new a h; ⟨p, e.ne q⟩
  old := S.old
  ext := S.ext.trans e
theorem Ext.none (e : Ext H H1) {a : Addr} (h : H1 a = none) : H a = none := by
  cases q : H a with
  | none => rfl
  | some o => rw [e a o q] at h; cases h
/-- a value without parts of its own -/
theorem Res.imm {x : V} {p : PyData} (h : Rp K (fun _ => False) H x p) : Res K F N Pf H [] H (fun _ => False) (fun _ => False) x (.v p) :=
  ⟨Ext.refl, .mk (.v (h.mono fun _ z => z.elim)), fun _ z => z.elim, fun _ z => z.elim⟩
theorem Res.scal {x : V} {p : PyData} {S : AS} (e : Ext H H') (h : Rp K S H' x p) (m : mutD p = false) : Res K F N Pf H [] H' (fun _ => False) (fun _ => False) x (.v p) :=
  ⟨e, .mk (.v (h.imm m)), fun _ z => z.elim, fun _ z => z.elim⟩
theorem Resl.nil : Resl K F N Pf H [] H (fun _ => False) (fun _ => False) [] [] :=
  ⟨Ext.refl, ⟨fun _ => False, fun _ => False, .nil, fun _ z => z.elim, fun _ z => z.elim, fun _ z => z.elim⟩, fun _ z => z.elim, fun _ z => z.elim⟩
theorem Resl.cons {N1 P1 N2 P2 : AS} {x : V} {xs : List V} {d : D} {ds : List D} (a : Res K F N Pf H al H1 N1 P1 x d) (b : Resl K F N Pf H1 bl H2 N2 P2 xs ds) :
    Resl K F N Pf H (al ++ bl) H2 (fun a => N1 a ∨ N2 a) (fun a => P1 a ∨ P2 a) (x :: xs) (d :: ds) where
  ext := a.ext.trans b.ext
  rd := by
    obtain ⟨I1, Q1, r1, hi1, hq1, hd1⟩ := a.rd
    obtain ⟨I2, Q2, r2, hi2, hq2, hd2⟩ := b.rd
    refine ⟨fun c => I1 c ∨ I2 c, fun c => Q1 c ∨ Q2 c, .cons (r1.ext b.ext (fun _ z => .inl z) (fun c z => z.elim .inl fun z => .inr (z.elim (fun ⟨i, m, p⟩ => .inl ⟨i, List.mem_append_left _ m, p⟩) fun z => .inr (.inl z))) (fun _ z => .inl z) fun _ z => z)
      (r2.ext Ext.refl (fun _ z => .inl z) (fun c z => z.elim .inl fun z => .inr (z.elim (fun ⟨i, m, p⟩ => .inl ⟨i, List.mem_append_right _ m, p⟩) fun z => .inr (.inr z))) (fun _ z => .inr z) fun _ z => z)
      (fun _ z => .inl z) (fun _ z => .inr z) (fun c h1 h2 => (a.pv c (hq1 c h1)).2 (b.pv c (hq2 c h2)).1), fun c z => z.elim (fun z => .inl (hi1 c z)) fun z => .inr (hi2 c z), fun c z => z.elim (fun z => .inl (hq1 c z)) fun z => .inr (hq2 c z), fun c z => ?_⟩
    rintro (w | w)
    · rcases z with z | z
      · exact hd1 c z w
      · exact (a.pv c (hq1 c w)).2 (b.pv c (hi2 c z)).1
    · rcases z with z | z
      · exact (a.pv c (hi1 c z)).2 (b.pv c (hq2 c w)).1
      · exact hd2 c z w
  nv := fun c z => by
    rcases z with z | z
    · obtain ⟨p, q, r⟩ := a.nv c z
      exact ⟨p, b.ext.ne q, fun w => w.elim r fun w => q (b.pv c w).1⟩
    · obtain ⟨p, q, r⟩ := b.nv c z
      exact ⟨a.ext.none p, q, fun w => w.elim (fun w => (a.pv c w).2 p) r⟩
  pv := fun c z => by
    rcases z with z | z
    · obtain ⟨p, q⟩ := a.pv c z
      exact ⟨p, b.ext.ne q⟩
    · obtain ⟨p, q⟩ := b.pv c z
      exact ⟨a.ext.none p, q⟩
end
end Hv

/-! Hv, part 4: expressions. -/
namespace Hv
open PySem PySem.Spec PyProof.Rows L2

/-! ### wishes and the context -/
def _root_.L2.Cx.kw (X : Cx) : KW := ⟨X.K, X.w.params, X.A.handled⟩
/-- an exception of an own class -/
def ExcV (K : PySem.W.Frag) (c : Str) (cl : Value) (od : Option Addr) : Prop := cl = .ref (He.ga K c) ∧ od = none
/-- what an expression's end owes -/
def PR (K : KW) (W : WX) (F N : AS) (Pf : Nat → AS) (σ : L2.St) (H : Hp) (Q : VK) (r : R) : Prop := match r with
  | .ok d al => ∀ x H' Nv Pv, Res K F N Pf H al H' Nv Pv x d → Q x H'
  | .exc c => ∀ H' cl od, Ext H H' → ExcV K.k c cl od → W cl od σ H'
  | .stuck => False
def PT' (K : KW) (W : WX) (σ : L2.St) (H : Hp) (Q : Bool → Hp → Prop) (r : TR) : Prop := match r with
  | .ok b => ∀ H', Ext H H' → Q b H'
  | .exc c => ∀ H' cl od, Ext H H' → ExcV K.k c cl od → W cl od σ H'
  | .stuck => False
def PL (K : KW) (W : WX) (F N : AS) (Pf : Nat → AS) (σ : L2.St) (H : Hp) (Q : List V → Hp → Prop) (r : Rl) : Prop := match r with
  | .ok d al => ∀ x H' Nv Pv, Resl K F N Pf H al H' Nv Pv x d → Q x H'
  | .exc c => ∀ H' cl od, Ext H H' → ExcV K.k c cl od → W cl od σ H'
  | .stuck => False
/-- readings by the evaluator -/
def tE (K : KW) (W : WX) (f : Env → R) : TE := fun σ H Q => ∃ F N Pf ρ, StE K F N Pf H σ ρ ∧ PR K W F N Pf σ H Q (f ρ)
def tT (K : KW) (W : WX) (f : Env → TR) : TT := fun σ H Q => ∃ F N Pf ρ, StE K F N Pf H σ ρ ∧ PT' K W σ H Q (f ρ)
def tA (K : KW) (W : WX) (f : Env → Rl) : TA := fun σ H Q => ∃ F N Pf ρ, StE K F N Pf H σ ρ ∧ PL K W F N Pf σ H Q (f ρ)

theorem PE_imp {X : Cx} {e : Expr} {t t' : TE} (h : PE X e t) (i : ∀ σ H Q, t' σ H Q → t σ H Q) : PE X e t' :=
  ⟨fun pins s σ H Q I q => h.run pins s σ H Q I (i σ H Q q)⟩
theorem PT_imp {X : Cx} {e : Expr} {t t' : TT} (h : PT X e t) (i : ∀ σ H Q, t' σ H Q → t σ H Q) : PT X e t' :=
  ⟨fun pins s σ H Q I q => h.run pins s σ H Q I (i σ H Q q)⟩
theorem PA_imp {X : Cx} {e : List Expr} {t t' : TA} (h : PA X e t) (i : ∀ σ H Q, t' σ H Q → t σ H Q) : PA X e t' :=
  ⟨fun pos pins s σ H Q I q => h.run pos pins s σ H Q I (i σ H Q q)⟩
theorem PE_or {X : Cx} {e : Expr} {t t' : TE} (h : PE X e t) (h' : PE X e t') : PE X e (fun σ H Q => t σ H Q ∨ t' σ H Q) :=
  ⟨fun pins s σ H Q I q => q.elim (h.run pins s σ H Q I) (h'.run pins s σ H Q I)⟩
/-- lists and the like are not too long -/
def Wf (H : Hp) : Prop := (∀ a xs, Rd H a (.lst xs) → xs.length ≤ sizeLine) ∧ (∀ a xs, Rd H a (.tup xs) → xs.length ≤ sizeLine)
theorem wf_of {X : Cx} {pins : List (Addr × Obj)} {σ : L2.St} {H : Hp} {s : Shared} (I : Inv X pins σ H s) : Wf H :=
  ⟨fun a xs h => let ⟨z, _⟩ := h.ok I.hok; z, fun a xs h => let ⟨z, _⟩ := h.ok I.hok; z⟩
theorem PE_wf {X : Cx} {e : Expr} {t : TE} (h : PE X e t) : PE X e (fun σ H Q => Wf H → t σ H fun x H' => Wf H' → Q x H') :=
  ⟨fun pins s σ H Q I q => thn (h.run pins s σ H _ I (q (wf_of I))) fun u s' ⟨x, H', I', r, k⟩ => ⟨x, H', I', r, k (wf_of I')⟩⟩

section
variable {K : KW} {W : WX} {E0 : Hp} {F N : AS} {Pf : Nat → AS} {σ : L2.St} {H H1 H2 : Hp} {ρ : Env} {Q : VK}
theorem Res.later {al : Al} {Nv Pv : AS} {x : V} {d : D} (e : Ext H H1) (R : Res K F N Pf H1 al H2 Nv Pv x d) : Res K F N Pf H al H2 Nv Pv x d :=
  ⟨e.trans R.ext, R.rd, fun a h => let ⟨p, q⟩ := R.nv a h; ⟨e.none p, q⟩, fun a h => let ⟨p, q⟩ := R.pv a h; ⟨e.none p, q⟩⟩
/-- behind an expression's part -/
theorem PR.later {r : R} (e : Ext H H1) (h : PR K W F N Pf σ H Q r) : PR K W F N Pf σ H1 Q r := by
  cases r with
  | ok d al => exact fun x H' Nv Pv R => h x H' Nv Pv (R.later e)
  | exc c => exact fun H' cl od he hx => h H' cl od (e.trans he) hx
  | stuck => exact h
theorem PT'.later {r : TR} {QT : Bool → Hp → Prop} (e : Ext H H1) (h : PT' K W σ H QT r) : PT' K W σ H1 QT r := by
  cases r with
  | ok d => exact fun H' he => h H' (e.trans he)
  | exc c => exact fun H' cl od he hx => h H' cl od (e.trans he) hx
  | stuck => exact h
/-- one part -/
theorem tE_one {fa : Env → R} {g : Env → D → Al → R} (h : tE K W (fun ρ => (fa ρ).bind (g ρ)) σ H Q) {r : V → Hp → VK → Prop}
    (hr : ∀ F N Pf ρ x d al H1 N1 P1, StE K F N Pf H σ ρ → Res K F N Pf H al H1 N1 P1 x d → PR K W F N Pf σ H Q (g ρ d al) → r x H1 Q) : tE K W fa σ H fun x H1 => r x H1 Q := by
  obtain ⟨F, N, Pf, ρ, S, h⟩ := h
  refine ⟨F, N, Pf, ρ, S, ?_⟩
  cases e : fa ρ with
  | ok d al =>
    simp only [R.bind, e] at h
    intro x H1 N1 P1 R
    exact hr _ _ _ _ _ _ _ _ _ _ S R h
  | exc c => simp only [R.bind, e] at h; exact h
  | stuck => simp only [R.bind, e] at h; exact h
/-- two parts -/
theorem tE_two {fa fb : Env → R} {g : Env → D → Al → D → Al → R} (h : tE K W (fun ρ => (fa ρ).bind fun x al => (fb ρ).bind fun y bl => g ρ x al y bl) σ H Q) {r : V → V → Hp → VK → Prop}
    (hr : ∀ F N Pf ρ x d al H1 N1 P1 y e bl H2 N2 P2, StE K F N Pf H σ ρ → Res K F N Pf H al H1 N1 P1 x d → Res K F N Pf H1 bl H2 N2 P2 y e → PR K W F N Pf σ H Q (g ρ d al e bl) → r x y H2 Q) :
    tE K W fa σ H fun x H1 => tE K W fb σ H1 fun y H2 => r x y H2 Q := by
  obtain ⟨F, N, Pf, ρ, S, h⟩ := h
  refine ⟨F, N, Pf, ρ, S, ?_⟩
  cases e : fa ρ with
  | ok d al =>
    simp only [R.bind, e] at h
    intro x H1 N1 P1 R
    refine ⟨F, N, Pf, ρ, S.more R.ext, ?_⟩
    cases e2 : fb ρ with
    | ok d2 bl =>
      intro y H2 N2 P2 R2
      simp only [e2] at h
      exact hr _ _ _ _ _ _ _ _ _ _ _ _ _ _ _ _ S R R2 h
    | exc c =>
      simp only [e2] at h
      intro H' cl od he hx
      exact h H' cl od (R.ext.trans he) hx
    | stuck => simp only [e2] at h; exact h
  | exc c => simp only [R.bind, e] at h; exact h
  | stuck => simp only [R.bind, e] at h; exact h
/-- what a value may lie in -/
def S1 (N : AS) (Pf : Nat → AS) (al : Al) (A : AS) : AS := fun a => N a ∨ (∃ i, i ∈ al ∧ Pf i a) ∨ A a
/-- the data of a value, as it lies then -/
theorem Res.dat {al : Al} {Nv Pv : AS} {x : V} {d : D} {p : PyData} (R : Res K F N Pf H al H1 Nv Pv x d) (e : data d = some p) (ex : Ext H1 H2) :
    Rp K (SB (isNew d) F (S1 N Pf al fun a => Nv a ∨ Pv a)) H2 x p :=
  (R.rd.data e).ext ex (SB.mono (fun z => z) fun a h => by
    rcases h with (h | h | h) | h
    · exact .inl h
    · exact .inr (.inl h)
    · exact .inr (.inr (.inl h))
    · exact .inr (.inr (.inr h)))
theorem Resl.dat {al : Al} {Nv Pv : AS} {x : List V} {d : List D} {p : List PyData} (R : Resl K F N Pf H al H1 Nv Pv x d) (e : datas d = some p) (ex : Ext H1 H2) :
    Rps K (SB (isNews d) F (S1 N Pf al fun a => Nv a ∨ Pv a)) H2 x p :=
  (R.rd.datas e).ext ex (SB.mono (fun z => z) fun a h => by
    rcases h with (h | h | h) | h
    · exact .inl h
    · exact .inr (.inl h)
    · exact .inr (.inr (.inl h))
    · exact .inr (.inr (.inr h)))
/-- a value without lists -/
theorem PR.scal {p : PyData} {x : V} {S : AS} (h : PR K W F N Pf σ H Q (.ok (.v p) [])) (e : Ext H H1) (r : Rp K S H1 x p) (m : mutD p = false) : Q x H1 :=
  h x H1 _ _ (Res.scal e r m)
theorem PR.int {i : Int} (h : PR K W F N Pf σ H Q (.ok (.v (.int i)) [])) (e : Ext H H1) : Q (.int i) H1 := h.scal (S := fun _ => False) e (.int i) rfl
theorem PR.bool {i : Bool} (h : PR K W F N Pf σ H Q (.ok (.v (.bool i)) [])) (e : Ext H H1) : Q (.bl i) H1 := h.scal (S := fun _ => False) e (.bl i) rfl
theorem PR.str {i : Str} (h : PR K W F N Pf σ H Q (.ok (.v (.str i)) [])) (e : Ext H H1) (k : PyData.strOk i = true) : Q (.str i) H1 := h.scal (S := fun _ => False) e (.str k) rfl
/-- a new list -/
theorem PR.mkL {b : Bool} {ps : List PyData} {al : Al} {zs : List V} {Nv : AS} {p : Addr} (h : PR K W F N Pf σ H Q (mkL b ps al)) (e : Ext H H2)
    (r : Rps K (SB b F (S1 N Pf al Nv)) H2 zs ps)
    (nv : ∀ a, Nv a → H a = none ∧ H2 a ≠ none) (hp : H2 p = none) : Q (.ref p) (upd H2 p (.lst zs)) := by
  have e2 : Ext H2 (upd H2 p (.lst zs)) := Ext.new hp
  have hp0 : H p = none := by
    cases q : H p with
    | none => rfl
    | some o => rw [e p o q] at hp; cases hp
  unfold Hv.mkL at h
  split at h
  · refine h _ _ Nv (fun a => a = p) ⟨e.trans e2, ?_, fun a q => ?_, fun a q => ?_⟩
    · exact .mk <| .ol (Q := fun _ => False) rfl upd_same (RDs.of_fz (r.ext e2 fun _ z => z)) (fun _ z => z.elim) fun z => z
    · refine ⟨(nv a q).1, e2.ne (nv a q).2, fun z => ?_⟩
      subst z
      exact (nv _ q).2 hp
    · subst q
      exact ⟨hp0, by rw [upd_same]; exact fun z => nomatch z⟩
  · rename_i m
    refine h _ _ (fun _ => False) (fun a => a = p) ⟨e.trans e2, ?_, fun a q => q.elim, fun a q => ?_⟩
    · exact .mk <| RD.oL upd_same ((r.ext e2 fun _ z => z).imm (by simpa using m)) rfl
    · subst q
      exact ⟨hp0, by rw [upd_same]; exact fun z => nomatch z⟩
/-- a tuple -/
theorem PR.mkT {b : Bool} {ps : List PyData} {al : Al} {zs : List V} {Nv : AS} {p : Addr} (h : PR K W F N Pf σ H Q (mkT b ps al)) (e : Ext H H2) (ht : SqT K.k H2 p zs)
    (r : Rps K (SB b F (S1 N Pf al Nv)) H2 zs ps)
    (nv : ∀ a, Nv a → H a = none ∧ H2 a ≠ none) : Q (.ref p) H2 := by
  unfold Hv.mkT at h
  split at h
  · refine h _ _ Nv (fun _ => False) ⟨e, ?_, fun a q => ⟨(nv a q).1, (nv a q).2, fun z => z⟩, fun a q => q.elim⟩
    exact .mk (RD.fz (.tup ht r))
  · rename_i m
    exact h _ _ (fun _ => False) (fun _ => False) ⟨e, .mk <| .v ((Rp.tup ht r).imm (by simpa [mutD] using m)), fun a q => q.elim, fun a q => q.elim⟩
end

/-! ### names and constants -/
section
variable {X : Cx} {W : WX} {pos : Pos}
theorem he_c {e : Expr} {v : V} {p : PyData} (h : PE X e (tC v)) (r : ∀ H, Rp X.kw (fun _ => False) H v p) : PE X e (tE X.kw W fun _ => .ok (.v p) []) :=
  PE_imp h fun σ H Q ⟨F, N, Pf, ρ, S, q⟩ => q _ _ _ _ (Res.imm (r H))
theorem he_var {i : Nat} {x : Str} (hN : X.N[i]? = some x) (hv : Vis X.env.scope x) (hd : (x == ("__debug__" : Str)) = false) (hc : (x == ("__classdict__" : Str)) = false) : PE X (.Name x pos) (tE X.kw W (varR i)) := by
  refine PE_imp (pe_var hN hv hd hc) fun σ H Q ⟨F, N, Pf, ρ, S, q⟩ => ?_
  unfold varR at q
  cases e : ρ[i]? with
  | none => rw [e] at q; exact q.elim
  | some o =>
    rw [e] at q
    cases o with
    | none => exact q.elim
    | some d =>
      obtain ⟨x, e1, r⟩ := S.rep i d e
      have gen : ∀ w, view d = some w → PR X.kw W F N Pf σ H Q (.ok w [i]) → tVar i σ H Q := fun w hw q => by
        refine ⟨x, e1, q _ _ (fun _ => False) (fun _ => False) ⟨Ext.refl, ?_, fun _ z => z.elim, fun _ z => z.elim⟩⟩
        exact (r.view (P' := fun _ => False) hw).ext Ext.refl (fun _ z => .inl z) (fun a z => z.elim .inl fun z => .inr (.inl ⟨i, by simp, z⟩)) fun _ z => z
      cases d with
      | v p =>
        obtain ⟨I, Q', r, _, _, _⟩ := r
        cases r with
        | v r => exact ⟨x, e1, q _ _ (fun _ => False) (fun _ => False) ⟨Ext.refl, .mk (.v (r.mono fun _ z => z.elim .inl fun z => .inr (.inl z))), fun _ z => z.elim, fun _ z => z.elim⟩⟩
      | n p =>
        obtain ⟨I, Q', r, _, _, _⟩ := r
        cases r with
        | n r => exact ⟨x, e1, q _ _ (fun _ => False) (fun _ => False) ⟨Ext.refl, .mk (.n (r.mono fun _ z => .inl z)), fun _ z => z.elim, fun _ z => z.elim⟩⟩
      | isl p => cases hw : view (.isl p) with
        | none => simp only [hw] at q; exact q.elim
        | some w => simp only [hw] at q; exact gen w hw q
      | ol p => cases hw : view (.ol p) with
        | none => simp only [hw] at q; exact q.elim
        | some w => simp only [hw] at q; exact gen w hw q
      | ot p => cases hw : view (.ot p) with
        | none => simp only [hw] at q; exact q.elim
        | some w => simp only [hw] at q; exact gen w hw q
      | od p => cases hw : view (.od p) with
        | none => simp only [hw] at q; exact q.elim
        | some w => simp only [hw] at q; exact gen w hw q
      | dead => cases hw : view .dead with
        | none => simp only [hw] at q; exact q.elim
        | some w => simp only [hw] at q; exact gen w hw q
      | exn => cases hw : view .exn with
        | none => simp only [hw] at q; exact q.elim
        | some w => simp only [hw] at q; exact gen w hw q
end

/-! ### operators -/
section
variable {K : KW} {W : WX} {E0 : Hp} {F N : AS} {Pf : Nat → AS} {σ : L2.St} {H H1 H2 : Hp} {ρ : Env} {Q : VK}
theorem PR.dat2 {d e : D} {f : PyData → PyData → R} (h : PR K W F N Pf σ H Q (dat2 d e f)) : ∃ p q, data d = some p ∧ data e = some q ∧ PR K W F N Pf σ H Q (f p q) := by
  unfold Hv.dat2 at h
  cases e1 : data d with
  | none => rw [e1] at h; exact h.elim
  | some p =>
    cases e2 : data e with
    | none => rw [e1, e2] at h; exact h.elim
    | some q => rw [e1, e2] at h; exact ⟨p, q, rfl, rfl, h⟩
theorem PR.dat {d : D} {f : PyData → R} (h : PR K W F N Pf σ H Q (dat d f)) : ∃ p, data d = some p ∧ PR K W F N Pf σ H Q (f p) := by
  unfold Hv.dat at h
  cases e1 : data d with
  | none => rw [e1] at h; exact h.elim
  | some p => rw [e1] at h; exact ⟨p, rfl, h⟩
theorem s2l {al bl : Al} {A B : AS} {b b' : Bool} : ∀ a, SB b F (S1 N Pf al A) a → SB (b && b') F (S1 N Pf (al ++ bl) fun a => A a ∨ B a) a :=
  SB.mono (fun z => by simp at z; exact z.1) fun a h => by
  rcases h with h | ⟨i, m, h⟩ | h
  · exact .inl h
  · exact .inr (.inl ⟨i, List.mem_append_left _ m, h⟩)
  · exact .inr (.inr (.inl h))
theorem s2r {al bl : Al} {A B : AS} {b b' : Bool} : ∀ a, SB b' F (S1 N Pf bl B) a → SB (b && b') F (S1 N Pf (al ++ bl) fun a => A a ∨ B a) a :=
  SB.mono (fun z => by simp at z; exact z.2) fun a h => by
  rcases h with h | ⟨i, m, h⟩ | h
  · exact .inl h
  · exact .inr (.inl ⟨i, List.mem_append_right _ m, h⟩)
  · exact .inr (.inr (.inr h))
theorem two_nv {al bl : Al} {N1 P1 N2 P2 : AS} {x y : V} {d e : D} (R1 : Res K F N Pf H al H1 N1 P1 x d) (R2 : Res K F N Pf H1 bl H2 N2 P2 y e) :
    ∀ a, ((N1 a ∨ P1 a) ∨ (N2 a ∨ P2 a)) → H a = none ∧ H2 a ≠ none := by
  rintro a ((h | h) | (h | h))
  · exact ⟨(R1.nv a h).1, R2.ext.ne (R1.nv a h).2.1⟩
  · exact ⟨(R1.pv a h).1, R2.ext.ne (R1.pv a h).2⟩
  · exact ⟨R1.ext.none (R2.nv a h).1, (R2.nv a h).2.1⟩
  · exact ⟨R1.ext.none (R2.pv a h).1, (R2.pv a h).2⟩
theorem one_nv {al : Al} {N1 P1 : AS} {x : V} {d : D} (R1 : Res K F N Pf H al H1 N1 P1 x d) (e : Ext H1 H2) : ∀ a, (N1 a ∨ P1 a) → H a = none ∧ H2 a ≠ none := by
  rintro a (h | h)
  · exact ⟨(R1.nv a h).1, e.ne (R1.nv a h).2.1⟩
  · exact ⟨(R1.pv a h).1, e.ne (R1.pv a h).2⟩
end
theorem strOk_iff {x : Str} : PyData.strOk x = true ↔ ∀ c ∈ x.cps.toList, c < 0x110000 := by
  unfold PyData.strOk
  rw [← Array.all_toList, List.all_eq_true]
  exact ⟨fun h c hc => by simpa using h c hc, fun h c hc => by simpa using h c hc⟩
theorem strOk_append {x y : Str} (hx : PyData.strOk x = true) (hy : PyData.strOk y = true) : PyData.strOk (x ++ y) = true := by
  rw [strOk_iff] at *
  intro c hc
  have : c ∈ x.cps.toList ++ y.cps.toList := by
    have e : (x ++ y).cps = x.cps ++ y.cps := rfl
    rw [e] at hc
    simpa using hc
  rcases List.mem_append.mp this with h | h
  · exact hx c h
  · exact hy c h
theorem Rp.strok {K : KW} {S : AS} {H : Hp} {v : V} {x : Str} (h : Rp K S H v (.str x)) : v = .str x ∧ PyData.strOk x = true := by
  cases h with
  | str k => exact ⟨rfl, k⟩
theorem Rp.int_eq {K : KW} {S : AS} {H : Hp} {v : V} {x : Int} (h : Rp K S H v (.int x)) : v = .int x := by cases h; rfl
theorem Rp.bool_eq {K : KW} {S : AS} {H : Hp} {v : V} {x : Bool} (h : Rp K S H v (.bool x)) : v = .bl x := by cases h; rfl
theorem Rp.non_eq {K : KW} {S : AS} {H : Hp} {v : V} (h : Rp K S H v .none) : v = .non := by cases h; rfl
section
variable {X : Cx} {W : WX} {pos : Pos} {pins : List (Addr × Obj)} {σ : L2.St} {H : Hp} {s : Shared}
theorem ll_at (I : Inv X pins σ H s) {a : Addr} {xs : List V} (h : LL X.K H a xs) : ∃ (its : List Value) (n : Nat) (sl : Array (Option Value)), Vals xs its ∧ s.heap.get? a = some { cls := .type "list", dict := none, data := .seq its.toArray n, slots := sl } ∧ xs.length ≤ sizeLine := by
  rcases h with h | ⟨⟨oc, od, dt, sl⟩, its, n, e, c, d, dd, l, v⟩
  · obtain ⟨z, its, n, r, e⟩ := h.ok I.hok
    exact ⟨its, n, _, r, e, z⟩
  · simp only at c d dd
    subst c d dd
    exact ⟨its.toList, n, sl, v, I.kIn a _ e, by rw [v.length]; simpa using l⟩
def rCatL (K : PySem.W.Frag) : R2 := fun x y H Q => ∃ l b xs zs, x = .ref l ∧ y = .ref b ∧ LL K H l xs ∧ LL K H b zs ∧ xs.length + zs.length ≤ sizeLine ∧ ∀ p, H p = none → Q (.ref p) (upd H p (.lst (xs ++ zs)))
theorem op_catL : OpR X (binaryOp .Add) (rCatL X.K) := by
  intro pins s σ H x y v u Q I rx ry h
  obtain ⟨l, b, xs, zs, rfl, rfl, hH, hB, hz, q⟩ := h
  cases rx
  cases ry
  obtain ⟨its, n, sl, r, e, z⟩ := ll_at I hH
  obtain ⟨its2, n2, sl2, r2, e2, z2⟩ := ll_at I hB
  have hl := r.length
  have hl2 := r2.length
  refine concat_meets ⟨_, e, rfl⟩ ⟨_, e2, rfl⟩ noFill_list_add seq_list_add PySem.F.slot_list_add PySem.F.entry_list_add (PySem.F.args_list_add_2 _ _) (list_addW l b its.toArray its2.toArray n n2 none none sl sl2 (by rw [List.size_toArray, List.size_toArray]; omega)) ⟨e, e2, ?_⟩
  have ea : its.toArray ++ its2.toArray = (its ++ its2).toArray := by simp
  rw [ea]
  exact ⟨.ref _, _, I.lnew (t' := s.toks) (r.append r2) (by rw [List.length_append]; omega), rfl, q _ I.fresh⟩
theorem rep_arr {α : Type} (a : Array α) : ∀ (n : Nat) (acc : Array α), (List.replicate n a).foldl (fun x1 x2 => x1 ++ x2) acc = acc ++ (List.replicate n a.toList).flatten.toArray
  | 0, acc => by simp
  | n + 1, acc => by
    rw [List.replicate_succ, List.foldl_cons, rep_arr a n, List.replicate_succ, List.flatten_cons]
    apply Array.ext'
    simp
theorem repS_0 (z : Str) : repS z 0 = Str.empty := rfl
theorem repS_1 (z : Str) : repS z 1 = z := by
  unfold repS
  simp
theorem repS_e (z : Str) (n : Nat) (h : z.length = 0) : repS z n = z := by
  have : z.cps.toList = [] := by
    have : z.cps.size = 0 := h
    simpa using this
  obtain ⟨a⟩ := z
  have ha : a = #[] := by simpa using this
  subst ha
  show (⟨(List.replicate n ([] : List Nat)).flatten.toArray⟩ : Str) = _
  have : (List.replicate n ([] : List Nat)).flatten = [] := by induction n with
    | zero => rfl
    | succ n ih => rw [List.replicate_succ, List.flatten_cons, ih]; rfl
  rw [this]
theorem repS_len (z : Str) (n : Nat) : (repS z n).length = z.length * n := by
  show (List.replicate n z.cps.toList).flatten.toArray.size = z.cps.size * n
  simp [Nat.mul_comm]
theorem op_mulS : OpR X (binaryOp .Mult) (fun x y H Q => ∃ z n, x = .str z ∧ y = .int n ∧ repOk z.length n = true ∧ Q (.str (repS z n.toNat)) H) := by
  intro pins s σ H x y v u Q I rx ry h
  obtain ⟨z, n, rfl, rfl, c, q⟩ := h
  obtain ⟨t, rfl⟩ := rx
  obtain ⟨t', rfl⟩ := ry
  unfold repOk at c
  simp only [Bool.and_eq_true, decide_eq_true_eq] at c
  obtain ⟨c1, c2, c3⟩ := c
  have q' : ∀ (w : Str) (k : Nat) (tk : Tok), w = repS z n.toNat → EP X pins σ Q (.str w tk) { s with toks := k } := fun w k tk e => by
    subst e
    exact ⟨.str _, H, I.tok k, ⟨tk, rfl⟩, q⟩
  have hlen : ¬ n < 1 → z.length ≤ 16777216 := fun h => by
    have : z.length * 1 ≤ z.length * n.toNat := Nat.mul_le_mul_left _ (by omega)
    omega
  refine PySem.P.mul_str ?_ (fun h1 _ => ?_) (fun h1 _ => ?_) ?_
  · rw [Bool.or_eq_false_iff]
    exact ⟨decide_eq_false (by omega), decide_eq_false (by omega)⟩
  · have h2 := hlen h1
    have h3 : (16777216 : Int) ≤ (2 ^ 63 - 1) / n := by
      rw [Int.le_ediv_iff_mul_le (by omega)]
      omega
    omega
  · exact PyProof.Rows.short24 c3
  · by_cases h1 : n < 1
    · rw [if_pos h1]
      exact ⟨by decide, q' _ _ _ (by have : n.toNat = 0 := by omega
                                     rw [this, repS_0])⟩
    · rw [if_neg h1]
      by_cases h2 : (n == 1 || z.length == 0) = true
      · rw [if_pos h2]
        refine q' z _ t ?_
        rcases Bool.or_eq_true_iff.mp h2 with h2 | h2
        · have : n.toNat = 1 := by have := eq_of_beq h2; omega
          rw [this, repS_1]
        · rw [repS_e z _ (by simpa using h2)]
      · rw [if_neg h2]
        have e : (⟨(List.replicate n.toNat z.cps).foldl (fun x1 x2 => x1 ++ x2) #[]⟩ : Str) = repS z n.toNat := by
          rw [rep_arr]
          unfold repS
          simp
        exact ⟨by rw [e, repS_len]; exact c3, q' _ _ _ e⟩
def rMulAll : R2 := fun x y H Q => rI CMul (fun i j => .int (i * j)) x y H Q ∨ ∃ z n, x = .str z ∧ y = .int n ∧ repOk z.length n = true ∧ Q (.str (repS z n.toNat)) H
theorem op_mulAll : OpR X (binaryOp .Mult) rMulAll := OpR.or op_mul op_mulS
def bop : BOp → Operator
  | .add => .Add
  | .sub => .Sub
  | .mul => .Mult
  | .div => .FloorDiv
  | .mod => .Mod
  | .pow => .Pow
theorem mulOk_iff {i j : Int} (h : mulOk i j = true) : CMul i j := by
  unfold mulOk at h
  simp only [Bool.or_eq_true, Bool.and_eq_true, decide_eq_true_eq] at h
  unfold CMul
  have e : (2 : Int) ^ 64 = 18446744073709551616 := by decide
  rw [e]
  omega
theorem divOk_iff {i j : Int} (h : divOk j = true) : CDivW i j := by
  unfold divOk at h
  simp only [Bool.and_eq_true, decide_eq_true_eq] at h
  refine wide_div (b := 200) h.1 ?_ (by decide) (by decide)
  have e : (2 : Nat) ^ 200 = 1606938044258990275541962092341162602522202993782792835301376 := by decide
  rw [e]
  omega
theorem powOk_iff {i j : Int} (h : powOk i j = true) : CPow i j := by
  unfold powOk at h
  simp only [Bool.and_eq_true, decide_eq_true_eq] at h
  unfold CPow
  have e : (2 : Nat) ^ 64 = 18446744073709551616 := by decide
  rw [e]
  exact ⟨h.1.1, h.1.2, h.2⟩
def rAddAll (K : PySem.W.Frag) : R2 := fun x y H Q => rI0 (fun i j => .int (i + j)) x y H Q ∨ (∃ i j, x = .str i ∧ y = .str j ∧ i.length + j.length ≤ sizeLine ∧ Q (.str (i ++ j)) H) ∨ rCatL K x y H Q ∨ rCatA K x y H Q
theorem op_addAll : OpR X (binaryOp .Add) (rAddAll X.K) := OpR.or op_add (OpR.or op_add_str (OpR.or op_catL op_catA))
theorem he_bin {o : BOp} {a b : Expr} {fa fb : Env → R} (ha : PE X a (tE X.kw W fa)) (hb : PE X b (tE X.kw W fb)) :
    PE X (.BinOp a (bop o) b pos) (tE X.kw W fun ρ => (fa ρ).bind fun x al => (fb ρ).bind fun y bl => dat2 x y (binP o (isNew x && isNew y) (al ++ bl))) := by
  cases o with
  | add =>
    refine PE_imp (pe_op op_addAll ha hb) fun σ H Q h => tE_two h ?_
    intro F N Pf ρ x d al H1 N1 P1 y e bl H2 N2 P2 S R1 R2 h
    obtain ⟨p, q, e1, e2, h⟩ := h.dat2
    have r1 := R1.dat e1 R2.ext
    have r2 := R2.dat e2 Ext.refl
    cases p with
    | int i =>
      cases q with
      | int j =>
        cases r1; cases r2
        exact .inl ⟨i, j, rfl, rfl, h.int (R1.ext.trans R2.ext)⟩
      | _ => exact h.elim
    | str i =>
      cases q with
      | str j =>
        obtain ⟨rfl, k1⟩ := r1.strok
        obtain ⟨rfl, k2⟩ := r2.strok
        simp only [binP] at h
        split at h
        · rename_i hl
          exact .inr (.inl ⟨i, j, rfl, rfl, by simpa [SZ, sizeLine_eq] using hl, h.str (R1.ext.trans R2.ext) (strOk_append k1 k2)⟩)
        · exact h.elim
      | _ => exact h.elim
    | list i =>
      cases q with
      | list j =>
        obtain ⟨a1, xs, rfl, l1, s1⟩ := r1.ll
        obtain ⟨a2, ys, rfl, l2, s2⟩ := r2.ll
        simp only [binP] at h
        split at h
        · rename_i hl
          refine .inr (.inr (.inl ⟨a1, a2, xs, ys, rfl, rfl, l1, l2, by rw [s1.len, s2.len]; simpa [SZ, sizeLine_eq] using hl, fun p hp => ?_⟩))
          exact h.mkL (Nv := fun a => (N1 a ∨ P1 a) ∨ (N2 a ∨ P2 a)) (R1.ext.trans R2.ext) ((s1.mono s2l).append (s2.mono s2r)) (two_nv R1 R2) hp
        · exact h.elim
      | _ => exact h.elim
    | tuple i =>
      cases q with
      | tuple j =>
        obtain ⟨a1, xs, rfl, l1, s1⟩ := r1.sqt
        obtain ⟨a2, ys, rfl, l2, s2⟩ := r2.sqt
        simp only [binP] at h
        split at h
        · rename_i hl
          have s12 : Rps X.kw (SB (isNew d && isNew e) F (S1 N Pf (al ++ bl) fun a => (N1 a ∨ P1 a) ∨ (N2 a ∨ P2 a))) H2 (xs ++ ys) (i ++ j) := (s1.mono s2l).append (s2.mono s2r)
          refine .inr (.inr (.inr ⟨a1, a2, xs, ys, rfl, rfl, l1, l2, by rw [s1.len, s2.len]; simpa [SZ, sizeLine_eq] using hl, fun z => ?_, fun z z2 => ?_, fun z z2 p hp => ?_⟩))
          · subst z
            exact h.mkT (Nv := fun a => (N1 a ∨ P1 a) ∨ (N2 a ∨ P2 a)) (R1.ext.trans R2.ext) l2 s12 (two_nv R1 R2)
          · subst z2
            rw [List.append_nil] at s12
            exact h.mkT (Nv := fun a => (N1 a ∨ P1 a) ∨ (N2 a ∨ P2 a)) (R1.ext.trans R2.ext) l1 s12 (two_nv R1 R2)
          · have e3 : Ext H2 (upd H2 p (.tup (xs ++ ys))) := Ext.new hp
            exact h.mkT (Nv := fun a => (N1 a ∨ P1 a) ∨ (N2 a ∨ P2 a)) ((R1.ext.trans R2.ext).trans e3) (.inl (.inl upd_same)) (s12.ext e3 fun _ z => z) (fun a z => ⟨(two_nv R1 R2 a z).1, e3.ne (two_nv R1 R2 a z).2⟩)
        · exact h.elim
      | _ => exact h.elim
    | _ => exact h.elim
  | sub =>
    refine PE_imp (pe_op op_sub ha hb) fun σ H Q h => tE_two h ?_
    intro F N Pf ρ x d al H1 N1 P1 y e bl H2 N2 P2 S R1 R2 h
    obtain ⟨p, q, e1, e2, h⟩ := h.dat2
    have r1 := R1.dat e1 R2.ext
    have r2 := R2.dat e2 Ext.refl
    cases p with
    | int i =>
      cases q with
      | int j => cases r1; cases r2; exact ⟨i, j, rfl, rfl, h.int (R1.ext.trans R2.ext)⟩
      | _ => exact h.elim
    | _ => exact h.elim
  | mul =>
    refine PE_imp (pe_op op_mulAll ha hb) fun σ H Q h => tE_two (r := rMulAll) h ?_
    intro F N Pf ρ x d al H1 N1 P1 y e bl H2 N2 P2 S R1 R2 h
    obtain ⟨p, q, e1, e2, h⟩ := h.dat2
    have r1 := R1.dat e1 R2.ext
    have r2 := R2.dat e2 Ext.refl
    cases p with
    | int i =>
      cases q with
      | int j =>
        cases r1; cases r2
        simp only [binP] at h
        split at h
        · rename_i c; exact .inl ⟨i, j, rfl, rfl, mulOk_iff c, h.int (R1.ext.trans R2.ext)⟩
        · exact h.elim
      | _ => exact h.elim
    | str z =>
      cases q with
      | int j =>
        obtain ⟨rfl, k1⟩ := r1.strok
        cases r2
        simp only [binP] at h
        split at h
        · rename_i c
          unfold okS at h
          split at h
          · rename_i k; exact .inr ⟨z, j, rfl, rfl, c, h.str (R1.ext.trans R2.ext) k⟩
          · exact h.elim
        · exact h.elim
      | _ => exact h.elim
    | _ => exact h.elim
  | div =>
    refine PE_imp (pe_op op_fdivW ha hb) fun σ H Q h => tE_two h ?_
    intro F N Pf ρ x d al H1 N1 P1 y e bl H2 N2 P2 S R1 R2 h
    obtain ⟨p, q, e1, e2, h⟩ := h.dat2
    have r1 := R1.dat e1 R2.ext
    have r2 := R2.dat e2 Ext.refl
    cases p with
    | int i =>
      cases q with
      | int j =>
        cases r1; cases r2
        simp only [binP] at h
        split at h
        · rename_i c; exact ⟨i, j, rfl, rfl, divOk_iff c, h.int (R1.ext.trans R2.ext)⟩
        · exact h.elim
      | _ => exact h.elim
    | _ => exact h.elim
  | mod =>
    refine PE_imp (pe_op op_mod ha hb) fun σ H Q h => tE_two h ?_
    intro F N Pf ρ x d al H1 N1 P1 y e bl H2 N2 P2 S R1 R2 h
    obtain ⟨p, q, e1, e2, h⟩ := h.dat2
    have r1 := R1.dat e1 R2.ext
    have r2 := R2.dat e2 Ext.refl
    cases p with
    | int i =>
      cases q with
      | int j =>
        cases r1; cases r2
        simp only [binP] at h
        split at h
        · rename_i c; exact ⟨i, j, rfl, rfl, by simpa using c, h.int (R1.ext.trans R2.ext)⟩
        · exact h.elim
      | _ => exact h.elim
    | _ => exact h.elim
  | pow =>
    refine PE_imp (pe_op op_pow ha hb) fun σ H Q h => tE_two h ?_
    intro F N Pf ρ x d al H1 N1 P1 y e bl H2 N2 P2 S R1 R2 h
    obtain ⟨p, q, e1, e2, h⟩ := h.dat2
    have r1 := R1.dat e1 R2.ext
    have r2 := R2.dat e2 Ext.refl
    cases p with
    | int i =>
      cases q with
      | int j =>
        cases r1; cases r2
        simp only [binP] at h
        split at h
        · rename_i c; exact ⟨i, j, rfl, rfl, powOk_iff c, h.int (R1.ext.trans R2.ext)⟩
        · exact h.elim
      | _ => exact h.elim
    | _ => exact h.elim
end

/-! ### comparisons -/
mutual
theorem Rp.canLay {K : KW} {S : AS} {H : Hp} : ∀ {x : V} {d : PyData}, Rp K S H x d → noDict d = true → d.canLay0 = true
  | _, _, .non, _ => rfl
  | _, _, .bl b, _ => rfl
  | _, _, .int i, _ => rfl
  | _, _, .str k, _ => k
  | _, _, .lst _ _ q, h => Rps.canLay q h
  | _, _, .lsk _ q, h => Rps.canLay q h
  | _, _, .tup _ q, h => Rps.canLay q h
  | _, _, .dk _ _ _, h => by simp [noDict] at h
  | _, _, .dt _ _ _, h => by simp [noDict] at h
  | _, _, .dlk _ _, h => by simp [noDict] at h
theorem Rps.canLay {K : KW} {S : AS} {H : Hp} : ∀ {xs : List V} {ds : List PyData}, Rps K S H xs ds → noDicts ds = true → PyData.canLayAll0 ds = true
  | _, _, .nil, _ => rfl
  | _, _, .cons h t, e => by
    simp only [noDicts, Bool.and_eq_true] at e
    simp only [PyData.canLayAll0, Bool.and_eq_true]
    exact ⟨Rp.canLay h e.1, Rps.canLay t e.2⟩
end
theorem Rp.shaped {K : KW} {S : AS} {H : Hp} {x : V} {d : PyData} (h : Rp K S H x d) (c : cmpOk d = true) : Dp K.k H x d ∧ SeqAt.shaped d = true := by
  unfold cmpOk at c
  simp only [Bool.and_eq_true, decide_eq_true_eq] at c
  have l := h.canLay c.1
  exact ⟨h.dp l, by unfold SeqAt.shaped; simp [l, c.2]⟩
theorem Rp.flat {K : KW} {S : AS} {H : Hp} {x : V} {d : PyData} (h : Rp K S H x d) (c : flatP d = true) : flatV x = true := by
  cases h <;> first | rfl | (simp [flatP] at c)
theorem Rps.flat {K : KW} {S : AS} {H : Hp} : ∀ {x : List V} {d : List PyData}, Rps K S H x d → d.all flatP = true → x.all flatV = true
  | _, _, .nil, _ => rfl
  | _, _, .cons h t, c => by
    simp only [List.all_cons, Bool.and_eq_true] at c ⊢
    exact ⟨h.flat c.1, Rps.flat t c.2⟩
theorem eqv_flat {K : KW} {S S' : AS} {H H' : Hp} {x y : V} {d e : PyData} (h : Rp K S H x d) (h' : Rp K S' H' y e) (c : flatP d = true) (c' : flatP e = true) : eqV x y = PyData.eqv d e := by
  cases h with
  | non => cases h' <;> first | rfl | (simp [flatP] at c')
  | bl _ => cases h' <;> first | rfl | (simp [flatP] at c')
  | int _ => cases h' <;> first | rfl | (simp [flatP] at c')
  | str _ => cases h' <;> first | rfl | (simp [flatP] at c')
  | _ => simp [flatP] at c
theorem inV_flat {K : KW} {S S' : AS} {H H' : Hp} {x : V} {d : PyData} (h : Rp K S H x d) (c : flatP d = true) : ∀ {ys : List V} {es : List PyData}, Rps K S' H' ys es → es.all flatP = true → inV x ys = es.any fun z => PyData.eqv z d
  | _, _, .nil, _ => rfl
  | _, _, .cons h1 t, e => by
    simp only [List.all_cons, Bool.and_eq_true] at e
    have ih := inV_flat h c t e.2
    unfold inV at ih ⊢
    simp only [List.any_cons]
    rw [ih, eqv_flat h1 h e.1 c]
section
variable {X : Cx} {W : WX} {pos : Pos}
def copE : COp → CmpOp
  | .eq => .Eq
  | .ne => .NotEq
  | .lt => .Lt
  | .le => .LtE
  | .gt => .Gt
  | .ge => .GtE
  | .in_ => .In
  | .nin => .NotIn
  | .isn => .Is
  | .notn => .IsNot
def rCmp (K : KW) (o : COp) : R2 := fun x y H Q => ∃ S S' p q b, Rp K S H x p ∧ Rp K S' H y q ∧ cmpP o p q = .ok b ∧ Q (.bl b) H
theorem OpR_imp {f : Value → Value → Sem Value} {r r' : R2} (h : OpR X f r) (i : ∀ x y H Q, r' x y H Q → r x y H Q) : OpR X f r' := fun pins s σ H x y v u Q I rx ry q => h pins s σ H x y v u Q I rx ry (i x y H Q q)
theorem inP_ok {K : KW} {S S' : AS} {H : Hp} {x y : V} {p q : PyData} {b : Bool} (h1 : Rp K S H x p) (h2 : Rp K S' H y q) (e : inP p q = .ok b) :
    (∃ d ds, Dp K.k H x d ∧ Dp K.k H y (.list ds) ∧ SeqAt.shaped d = true ∧ SeqAt.shaped (.list ds) = true ∧ b = ds.any fun z => PyData.eqv z d) ∨
    (∃ i j, x = .str i ∧ y = .str j ∧ b = !(Builtin.Str.occurrences j i 0 j.length 1).isEmpty) ∨
    (∃ p xs, y = .ref p ∧ (SqL K.k H p xs ∨ SqT K.k H p xs) ∧ flatV x = true ∧ xs.all flatV = true ∧ b = inV x xs) := by
  unfold inP at e
  cases q with
  | list ds =>
    simp only at e
    split at e
    · rename_i c
      simp only [Bool.and_eq_true] at c
      injection e with e
      exact .inl ⟨p, ds, (h1.shaped c.1).1, (h2.shaped c.2).1, (h1.shaped c.1).2, (h2.shaped c.2).2, e.symm⟩
    · cases e
  | tuple ds =>
    simp only at e
    split at e
    · rename_i c
      simp only [Bool.and_eq_true] at c
      injection e with e
      obtain ⟨a, xs, rfl, l, s⟩ := h2.sqt
      exact .inr (.inr ⟨a, xs, rfl, .inr l, h1.flat c.1, s.flat c.2, by rw [inV_flat h1 c.1 s c.2]; exact e.symm⟩)
    · cases e
  | str z =>
    cases p with
    | str c =>
      simp only at e
      injection e with e
      obtain ⟨rfl, _⟩ := h1.strok
      obtain ⟨rfl, _⟩ := h2.strok
      exact .inr (.inl ⟨c, z, rfl, rfl, e.symm⟩)
    | _ => cases e
  | _ => cases e
theorem op_cmp (hu : X.A.units + 65 < cLine) (o : COp) : OpR X (compareOp (copE o)) (rCmp X.kw o) := by
  cases o with
  | eq =>
    refine OpR_imp (op_eqD (by omega)) fun x y H Q ⟨S, S', p, q, b, h1, h2, e, h⟩ => ?_
    simp only [cmpP] at e
    split at e
    · rename_i c
      simp only [Bool.and_eq_true] at c
      injection e with e
      exact ⟨p, q, (h1.shaped c.1).1, (h2.shaped c.2).1, (h1.shaped c.1).2, (h2.shaped c.2).2, e ▸ h⟩
    · cases e
  | ne =>
    refine OpR_imp (op_neD (by omega)) fun x y H Q ⟨S, S', p, q, b, h1, h2, e, h⟩ => ?_
    simp only [cmpP] at e
    split at e
    · rename_i c
      simp only [Bool.and_eq_true] at c
      injection e with e
      exact ⟨p, q, (h1.shaped c.1).1, (h2.shaped c.2).1, (h1.shaped c.1).2, (h2.shaped c.2).2, e ▸ h⟩
    · cases e
  | lt =>
    refine OpR_imp (OpR.or op_lt op_lt_str) fun x y H Q ⟨S, S', p, q, b, h1, h2, e, h⟩ => ?_
    cases p with
    | int i => cases q with
      | int j => cases h1; cases h2; injection e with e; subst e; exact .inl ⟨i, j, rfl, rfl, h⟩
      | _ => cases e
    | str i => cases q with
      | str j => cases h1; cases h2; injection e with e; subst e; exact .inr ⟨i, j, rfl, rfl, h⟩
      | _ => cases e
    | _ => cases e
  | le =>
    refine OpR_imp (OpR.or op_le op_le_str) fun x y H Q ⟨S, S', p, q, b, h1, h2, e, h⟩ => ?_
    cases p with
    | int i => cases q with
      | int j => cases h1; cases h2; injection e with e; subst e; exact .inl ⟨i, j, rfl, rfl, h⟩
      | _ => cases e
    | str i => cases q with
      | str j => cases h1; cases h2; injection e with e; subst e; exact .inr ⟨i, j, rfl, rfl, h⟩
      | _ => cases e
    | _ => cases e
  | gt =>
    refine OpR_imp (OpR.or op_gt op_gt_str) fun x y H Q ⟨S, S', p, q, b, h1, h2, e, h⟩ => ?_
    cases p with
    | int i => cases q with
      | int j => cases h1; cases h2; injection e with e; subst e; exact .inl ⟨i, j, rfl, rfl, h⟩
      | _ => cases e
    | str i => cases q with
      | str j => cases h1; cases h2; injection e with e; subst e; exact .inr ⟨i, j, rfl, rfl, h⟩
      | _ => cases e
    | _ => cases e
  | ge =>
    refine OpR_imp (OpR.or op_ge op_ge_str) fun x y H Q ⟨S, S', p, q, b, h1, h2, e, h⟩ => ?_
    cases p with
    | int i => cases q with
      | int j => cases h1; cases h2; injection e with e; subst e; exact .inl ⟨i, j, rfl, rfl, h⟩
      | _ => cases e
    | str i => cases q with
      | str j => cases h1; cases h2; injection e with e; subst e; exact .inr ⟨i, j, rfl, rfl, h⟩
      | _ => cases e
    | _ => cases e
  | in_ =>
    refine OpR_imp (OpR.or (op_inD (by omega)) (OpR.or op_in_str op_in_seq)) fun x y H Q ⟨S, S', p, q, b, h1, h2, e, h⟩ => ?_
    rcases inP_ok h1 h2 e with ⟨d, ds, a1, a2, a3, a4, rfl⟩ | ⟨i, j, a1, a2, rfl⟩ | ⟨a, xs, a1, a2, a3, a4, rfl⟩
    · exact .inl ⟨d, ds, a1, a2, a3, a4, h⟩
    · exact .inr (.inl ⟨i, j, a1, a2, h⟩)
    · exact .inr (.inr ⟨a, xs, a1, a2, a3, a4, h⟩)
  | nin =>
    refine OpR_imp (OpR.or (op_notInD (by omega)) (OpR.or op_notIn_str op_notIn_seq)) fun x y H Q ⟨S, S', p, q, b, h1, h2, e, h⟩ => ?_
    simp only [cmpP] at e
    split at e
    · rename_i b' e'
      injection e with e
      subst e
      rcases inP_ok h1 h2 e' with ⟨d, ds, a1, a2, a3, a4, rfl⟩ | ⟨i, j, a1, a2, rfl⟩ | ⟨a, xs, a1, a2, a3, a4, rfl⟩
      · exact .inl ⟨d, ds, a1, a2, a3, a4, h⟩
      · exact .inr (.inl ⟨i, j, a1, a2, h⟩)
      · exact .inr (.inr ⟨a, xs, a1, a2, a3, a4, h⟩)
    · cases e
  | isn =>
    refine OpR_imp op_isN fun x y H Q ⟨S, S', p, q, b, h1, h2, e, h⟩ => ?_
    cases q with
    | none =>
      cases h2
      refine ⟨rfl, ?_⟩
      have : b = decide (x = .non) := by
        cases h1 <;> (injection e with e; rw [← e]; simp)
      rw [← this]; exact h
    | _ => cases e
  | notn =>
    refine OpR_imp op_notN fun x y H Q ⟨S, S', p, q, b, h1, h2, e, h⟩ => ?_
    cases q with
    | none =>
      cases h2
      refine ⟨rfl, ?_⟩
      have : b = !decide (x = .non) := by
        cases h1 <;> (injection e with e; rw [← e]; simp)
      rw [← this]; exact h
    | _ => cases e
theorem PR.br {K : KW} {W : WX} {F N : AS} {Pf : Nat → AS} {σ : L2.St} {H H1 : Hp} {Q : VK} {r : BR} (h : PR K W F N Pf σ H Q r.r) (e : Ext H H1) : ∃ b, r = .ok b ∧ Q (.bl b) H1 := by
  cases r with
  | ok b => exact ⟨b, rfl, h.bool e⟩
  | stuck => exact h.elim
theorem he_cmp (hu : X.A.units + 65 < cLine) {o : COp} {a b : Expr} {fa fb : Env → R} (ha : PE X a (tE X.kw W fa)) (hb : PE X b (tE X.kw W fb)) (hm : behindInMarks (copE o) b = false) :
    PE X (.Compare a [copE o] [b] pos) (tE X.kw W fun ρ => (fa ρ).bind fun x _ => (fb ρ).bind fun y _ => dat2 x y fun p q => (cmpP o p q).r) := by
  refine PE_imp (pe_cmpR (op_cmp hu o) ha hb hm) fun σ H Q h => tE_two h ?_
  intro F N Pf ρ x d al H1 N1 P1 y e bl H2 N2 P2 S R1 R2 h
  obtain ⟨p, q, e1, e2, h⟩ := h.dat2
  obtain ⟨b, eb, h⟩ := h.br (R1.ext.trans R2.ext)
  exact ⟨_, _, p, q, b, R1.dat e1 R2.ext, R2.dat e2 Ext.refl, eb, h⟩
theorem he_chn (hu : X.A.units + 65 < cLine) {o o' : COp} {a b c : Expr} {fa fb fc : Env → R} (ha : PE X a (tE X.kw W fa)) (hb : PE X b (tE X.kw W fb)) (hc : PE X c (tE X.kw W fc)) (hm : behindInMarks (copE o') c = false) :
    PE X (.Compare a [copE o, copE o'] [b, c] pos) (tE X.kw W fun ρ => (fa ρ).bind fun x _ => (fb ρ).bind fun y _ => dat2 x y fun p q => match cmpP o p q with
    | .ok true => (fc ρ).bind fun z _ => dat z fun r => (cmpP o' q r).r
    | .ok false => .ok (.v (.bool false)) []
    | .stuck => .stuck) := by
  refine PE_imp (pe_chain (op_cmp hu o) (op_cmp hu o') ha hb hc hm) fun σ H Q h => tE_two (r := fun x y H2 Q => rCmp X.kw o x y H2 fun z H3 => ∃ k, z = .bl k ∧ (if k = true then tE X.kw W fc σ H3 fun w' H4 => rCmp X.kw o' y w' H4 Q else Q (.bl false) H3)) h ?_
  intro F N Pf ρ x d al H1 N1 P1 y e bl H2 N2 P2 S R1 R2 h
  obtain ⟨p, q, e1, e2, h⟩ := h.dat2
  cases eb : cmpP o p q with
  | stuck => rw [eb] at h; exact h.elim
  | ok k =>
    rw [eb] at h
    refine ⟨_, _, p, q, k, R1.dat e1 R2.ext, R2.dat e2 Ext.refl, eb, k, rfl, ?_⟩
    cases k with
    | false => rw [if_neg Bool.false_ne_true]; exact h.bool (R1.ext.trans R2.ext)
    | true =>
      rw [if_pos rfl]
      refine ⟨F, N, Pf, ρ, (S.more R1.ext).more R2.ext, ?_⟩
      cases e3 : fc ρ with
      | ok d3 cl =>
        simp only [R.bind, e3] at h
        intro z H3 N3 P3 R3
        obtain ⟨r, e4, h⟩ := h.dat
        obtain ⟨b, eb2, h⟩ := h.br ((R1.ext.trans R2.ext).trans R3.ext)
        exact ⟨_, _, q, r, b, R2.dat e2 R3.ext, R3.dat e4 Ext.refl, eb2, h⟩
      | exc c =>
        simp only [R.bind, e3] at h
        intro H' cl od he hx
        exact h H' cl od ((R1.ext.trans R2.ext).trans he) hx
      | stuck => simp only [R.bind, e3] at h; exact h
end
end Hv

/-! Hv, part 5: tests, calls, built-ins, subscripts, displays. -/
namespace Hv
open PySem PySem.Spec PyProof.Rows L2

/-- what the form of an expression gives: no star, no display of a set, no slice -/
structure Plain (ex : Expr) : Prop where
  st : ∀ (es : List Expr) (env : PySem.Env), starEach (ex :: es) env = (false, eval ex env) :: starEach es env
  bm : ∀ op, behindInMarks op ex = false
  px : PlainIx ex
structure HV (X : Cx) (W : WX) (ex : Expr) (f : Env → VT) : Prop where
  e : PE X ex (tE X.kw W fun ρ => (f ρ).e)
  t : PT X ex (tT X.kw W fun ρ => (f ρ).t)
  p : Plain ex
inductive HVs (X : Cx) (W : WX) : List Expr → (Env → List VT) → Prop
  | nil : HVs X W [] (fun _ => [])
  | cons {e : Expr} {es : List Expr} {f : Env → VT} {fs : Env → List VT} : HV X W e f → HVs X W es fs → HVs X W (e :: es) (fun ρ => f ρ :: fs ρ)

section
variable {K : KW} {W : WX} {E0 : Hp} {F N : AS} {Pf : Nat → AS} {σ : L2.St} {H H1 H2 : Hp} {ρ : Env} {Q : Bool → Hp → Prop} {QV : VK}
theorem tru_of {S : AS} {x : V} {p : PyData} {b : Bool} (h : Rp K S H x p) (e : truP p = .ok b) : TruV K.k x H b := by
  cases h with
  | non => injection e with e; exact e.symm
  | bl k => injection e with e; exact e.symm
  | int i => injection e with e; exact e.symm
  | str k =>
    rename_i z
    simp only [truP] at e
    split at e
    · rename_i hl
      injection e with e
      exact ⟨by simpa [SZ, sizeLine_eq] using hl, e.symm⟩
    · cases e
  | lst s r q =>
    injection e with e
    refine .inl ⟨_, .inl r, ?_⟩
    rw [← e]
    cases q <;> rfl
  | lsk l q =>
    injection e with e
    refine .inl ⟨_, l.sq, ?_⟩
    rw [← e]
    cases q <;> rfl
  | tup l q =>
    injection e with e
    refine .inr (.inl ⟨_, l, ?_⟩)
    rw [← e]
    cases q <;> rfl
  | _ => cases e
/-- the truth of a value -/
theorem PT'.tru {al : Al} {N1 P1 : AS} {x : V} {d : D} (R : Res K F N Pf H al H1 N1 P1 x d) (h : PT' K W σ H Q (datT d fun p => (truP p).t)) : ∃ b, TruV K.k x H1 b ∧ Q b H1 := by
  unfold datT at h
  cases e : data d with
  | none => rw [e] at h; exact h.elim
  | some p =>
    rw [e] at h
    cases e2 : truP p with
    | stuck => simp only [e2, BR.t] at h; exact h.elim
    | ok b =>
      simp only [e2, BR.t] at h
      exact ⟨b, tru_of (R.dat e Ext.refl) e2, h H1 R.ext⟩
end
section
variable {X : Cx} {W : WX} {pos : Pos}
theorem isT_plain {e : Expr} {f : Env → R} (h : PE X e (tE X.kw W f)) (he : ∀ whole, isTrue e X.env whole = (do let v ← whole; standAt e.pos; holding [v] (truthy v))) : PT X e (tT X.kw W fun ρ => truR (f ρ)) := by
  refine PT_imp (pt_truth h he) fun σ H Q ⟨F, N, Pf, ρ, S, q⟩ => ⟨F, N, Pf, ρ, S, ?_⟩
  cases e : f ρ with
  | ok d al =>
    simp only [truR, e, R.bindT] at q
    intro x H1 N1 P1 R
    exact PT'.tru R q
  | exc c => simp only [truR, e, R.bindT] at q; exact q
  | stuck => simp only [truR, e, R.bindT] at q; exact q
theorem hv_plain {e : Expr} {f : Env → R} (h : PE X e (tE X.kw W f)) (he : ∀ whole, isTrue e X.env whole = (do let v ← whole; standAt e.pos; holding [v] (truthy v)) := by intro _; rfl)
    (p : Plain e := by exact ⟨fun _ _ => rfl, fun _ => rfl, fun _ _ => rfl⟩) : HV X W e fun ρ => vt (f ρ) :=
  ⟨h, isT_plain h he, p⟩
/-- a comparison as a test: by its value, a bool -/
theorem ht_bool {e : Expr} {f : Env → R} (h : PT X e (fun σ H Q => (tE X.kw W f) σ H fun x H1 => ∃ k, x = .bl k ∧ Q k H1)) (hb : ∀ ρ d al, f ρ = .ok d al → ∃ b, d = .v (.bool b)) : PT X e (tT X.kw W fun ρ => truR (f ρ)) := by
  refine PT_imp h fun σ H Q ⟨F, N, Pf, ρ, S, q⟩ => ⟨F, N, Pf, ρ, S, ?_⟩
  cases e : f ρ with
  | ok d al =>
    simp only [truR, e, R.bindT] at q
    intro x H1 N1 P1 R
    obtain ⟨b, rfl⟩ := hb ρ d al e
    have r := R.dat (p := .bool b) rfl Ext.refl
    cases r
    exact ⟨b, rfl, q H1 R.ext⟩
  | exc c => simp only [truR, e, R.bindT] at q; exact q
  | stuck => simp only [truR, e, R.bindT] at q; exact q
theorem br_bool {p q : PyData} {o : COp} {d : D} {al : Al} (h : (cmpP o p q).r = .ok d al) : ∃ b, d = .v (.bool b) := by
  cases e : cmpP o p q with
  | ok b => rw [e] at h; injection h with h; exact ⟨b, h.symm⟩
  | stuck => rw [e] at h; cases h
theorem R.bind_ok {r : R} {f : D → Al → R} {d : D} {al : Al} (h : r.bind f = .ok d al) : ∃ x bl, r = .ok x bl ∧ f x bl = .ok d al := by
  cases r with
  | ok x bl => exact ⟨x, bl, rfl, h⟩
  | exc c => cases h
  | stuck => cases h
theorem dat2_ok {x y : D} {f : PyData → PyData → R} {d : D} {al : Al} (h : dat2 x y f = .ok d al) : ∃ p q, f p q = .ok d al := by
  unfold dat2 at h
  split at h
  · split at h
    · exact ⟨_, _, h⟩
    · cases h
  · cases h
theorem dat_ok {x : D} {f : PyData → R} {d : D} {al : Al} (h : dat x f = .ok d al) : ∃ p, f p = .ok d al := by
  unfold dat at h
  split at h
  · exact ⟨_, h⟩
  · cases h
theorem pt_of_cmp {op : CmpOp} {r : R2} {a b : Expr} {ta tb : TE} {t : TE} (ho : OpR X (compareOp op) r) (ha : PE X a ta) (hb : PE X b tb) (hm : behindInMarks op b = false) (i : ∀ σ H Q, t σ H Q → tOp r ta tb σ H Q) :
    PT X (.Compare a [op] [b] pos) (fun σ H Q => t σ H fun x H1 => ∃ k, x = .bl k ∧ Q k H1) :=
  PT_imp (pt_cmpR ho ha hb hm) fun σ H Q h => i σ H _ h
theorem hv_cmp (hu : X.A.units + 65 < cLine) {o : COp} {a b : Expr} {fa fb : Env → VT} (ha : HV X W a fa) (hb : HV X W b fb) :
    HV X W (.Compare a [copE o] [b] pos) fun ρ => vt ((fa ρ).e.bind fun x _ => (fb ρ).e.bind fun y _ => dat2 x y fun p q => (cmpP o p q).r) := by
  have hm := hb.p.bm (copE o)
  refine ⟨he_cmp hu ha.e hb.e hm, ?_, ⟨fun _ _ => rfl, fun _ => rfl, fun _ _ => rfl⟩⟩
  refine ht_bool (PT_imp (pt_cmpR (op_cmp hu o) ha.e hb.e hm) fun σ H Q h => ?_) ?_
  · exact tE_two (r := rCmp X.kw o) h fun F N Pf ρ x d al H1 N1 P1 y e bl H2 N2 P2 S R1 R2 h => by
      obtain ⟨p, q, e1, e2, h⟩ := h.dat2
      obtain ⟨b, eb, h⟩ := h.br (R1.ext.trans R2.ext)
      exact ⟨_, _, p, q, b, R1.dat e1 R2.ext, R2.dat e2 Ext.refl, eb, h⟩
  · intro ρ d al h
    obtain ⟨_, _, _, h⟩ := R.bind_ok h
    obtain ⟨_, _, _, h⟩ := R.bind_ok h
    obtain ⟨_, _, h⟩ := dat2_ok h
    exact br_bool h
theorem hv_not {a : Expr} {fa : Env → VT} (ha : HV X W a fa) : HV X W (.UnaryOp .Not a pos) fun ρ => ⟨(truR (fa ρ).e).bind fun b => .ok (.v (.bool (!b))) [], (fa ρ).t.bindT fun b => .ok (!b)⟩ := by
  refine ⟨PE_imp (pe_notT ha.e) fun σ H Q ⟨F, N, Pf, ρ, S, q⟩ => ⟨F, N, Pf, ρ, S, ?_⟩, PT_imp (pt_not ha.t) fun σ H Q ⟨F, N, Pf, ρ, S, q⟩ => ⟨F, N, Pf, ρ, S, ?_⟩, ⟨fun _ _ => rfl, fun _ => rfl, fun _ _ => rfl⟩⟩
  · try dsimp only
    cases e : (fa ρ).e with
    | ok d al =>
      simp only [truR, e, R.bindT] at q
      intro x H1 N1 P1 R
      unfold datT at q
      cases e1 : data d with
      | none => rw [e1] at q; exact q.elim
      | some p =>
        rw [e1] at q
        cases e2 : truP p with
        | stuck => simp only [e2, BR.t, TR.bind] at q; exact q.elim
        | ok b =>
          simp only [e2, BR.t, TR.bind] at q
          exact ⟨b, tru_of (R.dat e1 Ext.refl) e2, q.bool R.ext⟩
    | exc c => simp only [truR, e, R.bindT, TR.bind] at q; exact q
    | stuck => simp only [truR, e, R.bindT, TR.bind] at q; exact q
  · try dsimp only
    cases e : (fa ρ).t with
    | ok b => simp only [e, TR.bindT] at q; exact q
    | exc c => simp only [e, TR.bindT] at q; exact q
    | stuck => simp only [e, TR.bindT] at q; exact q
/-! ### and, or -/
/-- the data and its truth -/
theorem truth_of {K : KW} {W : WX} {F N : AS} {Pf : Nat → AS} {σ : L2.St} {H H1 : Hp} {Q : VK} {al : Al} {N1 P1 : AS} {x : V} {d : D} {g : Bool → R} (R : Res K F N Pf H al H1 N1 P1 x d)
    (q : PR K W F N Pf σ H Q ((datT d fun p => (truP p).t).bind g)) : ∃ b, TruV K.k x H1 b ∧ PR K W F N Pf σ H Q (g b) := by
  unfold datT at q
  cases e1 : data d with
  | none => rw [e1] at q; exact q.elim
  | some p =>
    rw [e1] at q
    cases e2 : truP p with
    | stuck => simp only [e2, BR.t, TR.bind] at q; exact q.elim
    | ok b => simp only [e2, BR.t, TR.bind] at q; exact ⟨b, tru_of (R.dat e1 Ext.refl) e2, q⟩
theorem he_and : ∀ {es : List Expr} {fs : Env → List VT}, HVs X W es fs → es ≠ [] → PE X (.BoolOp .And es pos) (tE X.kw W fun ρ => andR (fs ρ)) ∧ PW X (.BoolOp .And es pos) (tT X.kw W fun ρ => andT (fs ρ))
  | _, _, .nil, h => absurd rfl h
  | _, _, .cons ha .nil, _ => ⟨pe_one ha.e, pw_and1 ha.t⟩
  | _, _, .cons (f := f) ha (.cons (f := g) (fs := gs) hb hs), _ => by
    obtain ⟨h1, h2⟩ := he_and (.cons hb hs) (List.cons_ne_nil _ _)
    refine ⟨PE_imp (pe_andT ha.e h1) fun σ H Q ⟨F, N, Pf, ρ, S, q⟩ => ⟨F, N, Pf, ρ, S, ?_⟩, ⟨fun wh pins s σ H Q I q => (pw_and ha.t h2).run wh pins s σ H Q I ?_⟩⟩
    · have q : PR X.kw W F N Pf σ H Q ((f ρ).e.bind fun d al => (datT d fun p => (truP p).t).bind fun b => if b then andR (g ρ :: gs ρ) else .ok d al) := q
      try dsimp only
      cases e : (f ρ).e with
      | ok d al =>
        simp only [e, R.bind] at q
        intro x H1 N1 P1 R
        obtain ⟨b, t, q⟩ := truth_of R q
        refine ⟨b, t, ?_⟩
        cases b with
        | true => exact ⟨F, N, Pf, ρ, S.more R.ext, PR.later R.ext q⟩
        | false => exact q _ _ _ _ R
      | exc c => simp only [e, R.bind] at q; exact q
      | stuck => simp only [e, R.bind] at q; exact q
    · obtain ⟨F, N, Pf, ρ, S, q⟩ := q
      refine ⟨F, N, Pf, ρ, S, ?_⟩
      have q : PT' X.kw W σ H Q ((f ρ).t.bindT fun b => if b then andT (g ρ :: gs ρ) else .ok false) := q
      try dsimp only
      cases e : (f ρ).t with
      | ok b =>
        simp only [e, TR.bindT] at q
        intro H1 he
        cases b with
        | true => exact ⟨F, N, Pf, ρ, S.more he, PT'.later he q⟩
        | false => exact q _ he
      | exc c => simp only [e, TR.bindT] at q; exact q
      | stuck => simp only [e, TR.bindT] at q; exact q
theorem he_or : ∀ {es : List Expr} {fs : Env → List VT}, HVs X W es fs → es ≠ [] → PE X (.BoolOp .Or es pos) (tE X.kw W fun ρ => orR (fs ρ)) ∧ PW X (.BoolOp .Or es pos) (tT X.kw W fun ρ => orT (fs ρ))
  | _, _, .nil, h => absurd rfl h
  | _, _, .cons ha .nil, _ => ⟨pe_one ha.e, pw_or1 ha.t⟩
  | _, _, .cons (f := f) ha (.cons (f := g) (fs := gs) hb hs), _ => by
    obtain ⟨h1, h2⟩ := he_or (.cons hb hs) (List.cons_ne_nil _ _)
    refine ⟨PE_imp (pe_orT ha.e h1) fun σ H Q ⟨F, N, Pf, ρ, S, q⟩ => ⟨F, N, Pf, ρ, S, ?_⟩, ⟨fun wh pins s σ H Q I q => (pw_or ha.t h2).run wh pins s σ H Q I ?_⟩⟩
    · have q : PR X.kw W F N Pf σ H Q ((f ρ).e.bind fun d al => (datT d fun p => (truP p).t).bind fun b => if b then .ok d al else orR (g ρ :: gs ρ)) := q
      try dsimp only
      cases e : (f ρ).e with
      | ok d al =>
        simp only [e, R.bind] at q
        intro x H1 N1 P1 R
        obtain ⟨b, t, q⟩ := truth_of R q
        refine ⟨b, t, ?_⟩
        cases b with
        | false => exact ⟨F, N, Pf, ρ, S.more R.ext, PR.later R.ext q⟩
        | true => exact q _ _ _ _ R
      | exc c => simp only [e, R.bind] at q; exact q
      | stuck => simp only [e, R.bind] at q; exact q
    · obtain ⟨F, N, Pf, ρ, S, q⟩ := q
      refine ⟨F, N, Pf, ρ, S, ?_⟩
      have q : PT' X.kw W σ H Q ((f ρ).t.bindT fun b => if b then .ok true else orT (g ρ :: gs ρ)) := q
      try dsimp only
      cases e : (f ρ).t with
      | ok b =>
        simp only [e, TR.bindT] at q
        intro H1 he
        cases b with
        | false => exact ⟨F, N, Pf, ρ, S.more he, PT'.later he q⟩
        | true => exact q _ he
      | exc c => simp only [e, TR.bindT] at q; exact q
      | stuck => simp only [e, TR.bindT] at q; exact q
theorem hv_and {es : List Expr} {fs : Env → List VT} (h : HVs X W es fs) (ne : es ≠ []) : HV X W (.BoolOp .And es pos) fun ρ => ⟨andR (fs ρ), andT (fs ρ)⟩ :=
  ⟨(he_and h ne).1, (he_and h ne).2.pt, ⟨fun _ _ => rfl, fun _ => rfl, fun _ _ => rfl⟩⟩
theorem hv_or {es : List Expr} {fs : Env → List VT} (h : HVs X W es fs) (ne : es ≠ []) : HV X W (.BoolOp .Or es pos) fun ρ => ⟨orR (fs ρ), orT (fs ρ)⟩ :=
  ⟨(he_or h ne).1, (he_or h ne).2.pt, ⟨fun _ _ => rfl, fun _ => rfl, fun _ _ => rfl⟩⟩
theorem hv_chn (hu : X.A.units + 65 < cLine) {o o' : COp} {a b c : Expr} {fa fb fc : Env → VT} (ha : HV X W a fa) (hb : HV X W b fb) (hc : HV X W c fc) :
    HV X W (.Compare a [copE o, copE o'] [b, c] pos) fun ρ => vt ((fa ρ).e.bind fun x _ => (fb ρ).e.bind fun y _ => dat2 x y fun p q => match cmpP o p q with
    | .ok true => (fc ρ).e.bind fun z _ => dat z fun r => (cmpP o' q r).r
    | .ok false => .ok (.v (.bool false)) []
    | .stuck => .stuck) := by
  have hm := hc.p.bm (copE o')
  refine ⟨he_chn hu ha.e hb.e hc.e hm, ?_, ⟨fun _ _ => rfl, fun _ => rfl, fun _ _ => rfl⟩⟩
  refine ht_bool (PT_imp (pt_chain (op_cmp hu o) (op_cmp hu o') ha.e hb.e hc.e hm) fun σ H Q h => ?_) ?_
  · refine tE_two (r := fun x y H2 Q => rCmp X.kw o x y H2 fun z H3 => ∃ k, z = .bl k ∧ (if k = true then tE X.kw W (fun ρ => (fc ρ).e) σ H3 fun w' H4 => rCmp X.kw o' y w' H4 Q else Q (.bl false) H3)) h ?_
    intro F N Pf ρ x d al H1 N1 P1 y e bl H2 N2 P2 S R1 R2 h
    obtain ⟨p, q, e1, e2, h⟩ := h.dat2
    cases eb : cmpP o p q with
    | stuck => rw [eb] at h; exact h.elim
    | ok k =>
      rw [eb] at h
      refine ⟨_, _, p, q, k, R1.dat e1 R2.ext, R2.dat e2 Ext.refl, eb, k, rfl, ?_⟩
      cases k with
      | false => rw [if_neg Bool.false_ne_true]; exact h.bool (R1.ext.trans R2.ext)
      | true =>
        rw [if_pos rfl]
        refine ⟨F, N, Pf, ρ, (S.more R1.ext).more R2.ext, ?_⟩
        show PR _ _ _ _ _ _ _ _ (fc ρ).e
        cases e3 : (fc ρ).e with
        | ok d3 cl =>
          simp only [R.bind, e3] at h
          intro z H3 N3 P3 R3
          obtain ⟨r, e4, h⟩ := h.dat
          obtain ⟨b, eb2, h⟩ := h.br ((R1.ext.trans R2.ext).trans R3.ext)
          exact ⟨_, _, q, r, b, R2.dat e2 R3.ext, R3.dat e4 Ext.refl, eb2, h⟩
        | exc c =>
          simp only [R.bind, e3] at h
          intro H' cl od he hx
          exact h H' cl od ((R1.ext.trans R2.ext).trans he) hx
        | stuck => simp only [R.bind, e3] at h; exact h
  · intro ρ d al h
    obtain ⟨_, _, _, h⟩ := R.bind_ok h
    obtain ⟨_, _, _, h⟩ := R.bind_ok h
    obtain ⟨_, _, h⟩ := dat2_ok h
    split at h
    · obtain ⟨_, _, _, h⟩ := R.bind_ok h
      obtain ⟨_, h⟩ := dat_ok h
      exact br_bool h
    · injection h with h; exact ⟨false, h.symm⟩
    · cases h
/-- a if c else b -/
theorem hv_ifx {c a b : Expr} {fc fa fb : Env → VT} (hc : HV X W c fc) (ha : HV X W a fa) (hb : HV X W b fb) :
    HV X W (.IfExp c a b pos) fun ρ => ⟨(fc ρ).t.bind fun k => if k then (fa ρ).e else (fb ρ).e, (fc ρ).t.bindT fun k => if k then (fa ρ).t else (fb ρ).t⟩ := by
  refine ⟨PE_imp (pe_ifExp hc.t ha.e hb.e) fun σ H Q ⟨F, N, Pf, ρ, S, q⟩ => ⟨F, N, Pf, ρ, S, ?_⟩, ⟨fun pins s σ H Q I ⟨F, N, Pf, ρ, S, q⟩ => ?_⟩, ⟨fun _ _ => rfl, fun _ => rfl, fun _ _ => rfl⟩⟩
  · try dsimp only
    cases e : (fc ρ).t with
    | ok k =>
      simp only [e, TR.bind] at q
      intro H1 he
      cases k with
      | true => exact ⟨F, N, Pf, ρ, S.more he, PR.later he q⟩
      | false => exact ⟨F, N, Pf, ρ, S.more he, PR.later he q⟩
    | exc c => simp only [e, TR.bind] at q; exact q
    | stuck => simp only [e, TR.bind] at q; exact q
  · have hq : tT X.kw W (fun ρ => (fc ρ).t) σ H fun k H1 => if k = true then tT X.kw W (fun ρ => (fa ρ).t) σ H1 Q else tT X.kw W (fun ρ => (fb ρ).t) σ H1 Q := by
      refine ⟨F, N, Pf, ρ, S, ?_⟩
      try dsimp only
      cases e : (fc ρ).t with
      | ok k =>
        simp only [e, TR.bindT] at q
        intro H1 he
        cases k with
        | true => rw [if_pos rfl] at q ⊢; exact ⟨F, N, Pf, ρ, S.more he, PT'.later he q⟩
        | false => rw [if_neg Bool.false_ne_true] at q ⊢; exact ⟨F, N, Pf, ρ, S.more he, PT'.later he q⟩
      | exc c => simp only [e, TR.bindT] at q; exact q
      | stuck => simp only [e, TR.bindT] at q; exact q
    show wpAny (model X.prog X.w) X.A (do if ← isTrue c X.env (eval c X.env) then isTrue a X.env (eval a X.env) else isTrue b X.env (eval b X.env)) _ _ _
    refine wpAny_bind (thn (hc.t.run pins s σ H _ I hq) fun k s1 ⟨H1, I1, q1⟩ => ?_)
    cases k with
    | true => exact ha.t.run pins s1 σ H1 Q I1 q1
    | false => exact hb.t.run pins s1 σ H1 Q I1 q1
end
end Hv

/-! Hv, part 6: calls, built-ins, subscripts, displays. -/
namespace Hv
open PySem PySem.Spec PyProof.Rows L2

section
variable {X : Cx} {W : WX} {pos : Pos}
theorem pa_of : ∀ {es : List Expr} {fs : Env → List VT}, HVs X W es fs → PA X es (tA X.kw W fun ρ => seqR (fs ρ))
  | _, _, .nil => PA_imp pa_nil fun σ H Q ⟨F, N, Pf, ρ, S, q⟩ => q _ _ _ _ Resl.nil
  | _, _, .cons (f := f) (fs := fs) ha hs => by
    refine PA_imp (pa_cons ha.e (pa_of hs) (ha.p.st _ _)) fun σ H Q ⟨F, N, Pf, ρ, S, q⟩ => ⟨F, N, Pf, ρ, S, ?_⟩
    have q : PL X.kw W F N Pf σ H Q ((f ρ).e.bindL fun d al => (seqR (fs ρ)).bindL fun ds bl => .ok (d :: ds) (al ++ bl)) := q
    try dsimp only
    cases e : (f ρ).e with
    | ok d al =>
      simp only [e, R.bindL] at q
      intro x H1 N1 P1 R
      refine ⟨F, N, Pf, ρ, S.more R.ext, ?_⟩
      try dsimp only
      cases e2 : seqR (fs ρ) with
      | ok ds bl =>
        simp only [e2, Rl.bindL] at q
        intro xs H2 N2 P2 R2
        exact q _ _ _ _ (Resl.cons R R2)
      | exc c =>
        simp only [e2, Rl.bindL] at q
        exact fun H' cl od he hx => q H' cl od (R.ext.trans he) hx
      | stuck => simp only [e2, Rl.bindL] at q; exact q
    | exc c => simp only [e, R.bindL] at q; exact q
    | stuck => simp only [e, R.bindL] at q; exact q

/-- arguments, then something of their values -/
theorem tA_then {σ : L2.St} {H : Hp} {Q : VK} {fa : Env → Rl} {g : Env → List D → Al → R} (h : tE X.kw W (fun ρ => (fa ρ).bind (g ρ)) σ H Q) {r : List V → Hp → Prop}
    (hr : ∀ F N Pf ρ x d al H1 N1 P1, fa ρ = .ok d al → StE X.kw F N Pf H σ ρ → Resl X.kw F N Pf H al H1 N1 P1 x d → PR X.kw W F N Pf σ H Q (g ρ d al) → r x H1) : tA X.kw W fa σ H r := by
  obtain ⟨F, N, Pf, ρ, S, h⟩ := h
  refine ⟨F, N, Pf, ρ, S, ?_⟩
  cases e : fa ρ with
  | ok d al =>
    simp only [Rl.bind, e] at h
    intro x H1 N1 P1 R
    exact hr _ _ _ _ _ _ _ _ _ _ e S R h
  | exc c => simp only [Rl.bind, e] at h; exact h
  | stuck => simp only [Rl.bind, e] at h; exact h

theorem HVs.len : ∀ {es : List Expr} {fs : Env → List VT}, HVs X W es fs → ∀ ρ, (fs ρ).length = es.length
  | _, _, .nil, _ => rfl
  | _, _, .cons _ t, ρ => by simp only [List.length_cons, HVs.len t ρ]
theorem seqR_len : ∀ {vs : List VT} {ds : List D} {al : Al}, seqR vs = .ok ds al → ds.length = vs.length
  | [], ds, al, h => by injection h with h; subst h; rfl
  | v :: vs, ds, al, h => by
    have h : (v.e.bindL fun d al => (seqR vs).bindL fun ds bl => .ok (d :: ds) (al ++ bl)) = Rl.ok ds al := h
    cases e : v.e with
    | ok d al =>
      simp only [e, R.bindL] at h
      cases e2 : seqR vs with
      | ok ds2 bl =>
        simp only [e2, Rl.bindL] at h
        injection h with h
        subst h
        simp only [List.length_cons, seqR_len e2]
      | exc c => simp only [e2, Rl.bindL] at h; cases h
      | stuck => simp only [e2, Rl.bindL] at h; cases h
    | exc c => simp only [e, R.bindL] at h; cases h
    | stuck => simp only [e, R.bindL] at h; cases h
theorem Rps.len' {K : KW} {F N : AS} {H : Hp} {P : AS} {xs : List V} {ds : List D} (h : RWs K F N H P xs ds) : xs.length = ds.length := let ⟨_, _, r, _, _, _⟩ := h; r.len

/-! ### calls of defs -/
/-- a def's promise by the evaluator -/
def spF (K : KW) (n : Nat) (f : List PyData → CR) : Sp := fun vs H Q E => vs.length = n ∧ ∃ (F : AS) (ps : List PyData), Rps K F H vs ps ∧ (∀ a, F a → H a ≠ none) ∧ (match f ps with
  | .ok d => ∀ x H' N' P', Ext H H' → RW K F N' H' P' x d → (∀ a, N' a → H a = none ∧ H' a ≠ none ∧ ¬ P' a) → (∀ a, P' a → H a = none ∧ H' a ≠ none) → Q x H'
  | .exc c => ∀ H' cl od, Ext H H' → ExcV K.k c cl od → E cl od H'
  | .stuck => False)
theorem call_sp {F N : AS} {Pf : Nat → AS} {σ : L2.St} {H H1 : Hp} {ρ : Env} {Q : VK} {vs : List V} {ds : List D} {al : Al} {Nv Pv : AS} {n : Nat} {f : List PyData → CR}
    (S : StE X.kw F N Pf H σ ρ) (R : Resl X.kw F N Pf H al H1 Nv Pv vs ds) (hn : ds.length = n) (h : PR X.kw W F N Pf σ H Q (match datas ds with
    | some ps => callR (f ps) al
    | none => .stuck)) : spF X.kw n f vs H1 Q (WE W σ) := by
  refine ⟨(Rps.len' R.rd).trans hn, ?_⟩
  cases e : datas ds with
  | none => rw [e] at h; exact h.elim
  | some ps =>
    rw [e] at h
    have S1' := S.more R.ext
    refine ⟨_, ps, R.dat e Ext.refl, fun a z => ?_, ?_⟩
    · rcases z with ⟨_, z⟩ | z | ⟨i, _, z⟩ | z | z
      · exact S1'.tF a z
      · exact S1'.tN a z
      · exact S1'.tP i a z
      · exact (R.nv a z).2.1
      · exact (R.pv a z).2
    · cases e2 : f ps with
      | stuck => simp only [e2, callR] at h; exact h.elim
      | exc c =>
        simp only [e2, callR] at h
        exact fun H' cl od he hx => h H' cl od (R.ext.trans he) hx
      | ok d =>
        simp only [e2, callR] at h
        intro x H' N' P' he r nv pv
        split at h
        · refine h x H' (fun a => (Nv a ∨ Pv a) ∨ N' a) P' ⟨R.ext.trans he, r.ext Ext.refl (fun a z => ?_) (fun a z => .inr (.inr (.inr z))) fun _ z => z, fun a z => ?_, fun a z => ⟨R.ext.none (pv a z).1, (pv a z).2⟩⟩
          · rcases z with ⟨_, z⟩ | z | z | z
            · exact .inl z
            · exact .inr (.inl z)
            · exact .inr (.inr (.inl z))
            · exact .inr (.inr (.inr (.inl z)))
          · rcases z with (z | z) | z
            · exact ⟨(R.nv a z).1, he.ne (R.nv a z).2.1, fun w => (R.nv a z).2.1 (pv a w).1⟩
            · exact ⟨(R.pv a z).1, he.ne (R.pv a z).2, fun w => (R.pv a z).2 (pv a w).1⟩
            · exact ⟨R.ext.none (nv a z).1, (nv a z).2.1, (nv a z).2.2⟩
        · rename_i hv
          obtain ⟨I, Q', r, hi, hq, hd⟩ := r
          refine h x H' (fun _ => False) (fun a => P' a ∨ N' a) ⟨R.ext.trans he, ⟨fun a => I a ∨ N' a, Q', (RD.own (F' := F) (N' := fun _ => False) (fun _ z => .inl z) (fun _ z => .inr z) r (by simpa using hv)).ext Ext.refl (fun _ z => .inl z) (fun _ z => z.elim) (fun _ z => z) (fun _ z => z), fun a z => z.elim (fun z => .inl (hi a z)) .inr, fun a z => .inl (hq a z), fun a z w => ?_⟩, fun _ z => z.elim, fun a z => ?_⟩
          · rcases z with z | z
            · exact hd a z w
            · exact (nv a z).2.2 (hq a w)
          · rcases z with z | z
            · exact ⟨R.ext.none (pv a z).1, (pv a z).2⟩
            · exact ⟨R.ext.none (nv a z).1, (nv a z).2.1⟩
variable {k : Nat} {fa : Addr} {fd : FuncData} {ps : List Str} {x : Str} {p : Pos} {e : Expr} {es : List Expr} {fs : Env → List VT} {C : List PyData → CR}
theorem he_call (tk : Takes X W) (F : FnOk X.prog X.w X.K X.mg X.base (L2.CX X.prog X.w) k fa fd ps (spF X.kw (e :: es).length C)) (hr : Room k X.A) (hg : Gl X x) (hm : X.mg x = some (.ref fa)) (hk : PySem.W.keepIn X.K (.ref fa) = true) (hb : Binds X.K fd ps [])
    (ha : HVs X W (e :: es) fs) (hdb : (x == ("__debug__" : Str)) = false) : PE X (.Call (.Name x p) (e :: es) [] pos) (tE X.kw W fun ρ => (seqR (fs ρ)).bind fun ds al => match datas ds with
    | some ps => callR (C ps) al
    | none => .stuck) := by
  have hst : starEach (e :: es) X.env = (false, eval e X.env) :: starEach es X.env := by cases ha with | cons h _ => exact h.p.st _ _
  have hpl : (backTo pos (starEach es X.env)).any (·.1) = false := by
    cases ha with
    | cons _ t =>
      clear hst F hb
      induction t with
      | nil => rfl
      | cons h t ih => rw [h.p.st]; exact ih
  refine PE_imp (pe_callS F hr hg hm hk hb (fun σ => passAt tk σ) (pa_of ha) hdb hst hpl) fun σ H Q h => ?_
  refine tA_then h fun F N Pf ρ x d al H1 N1 P1 ee S R h => ?_
  exact call_sp S R ((seqR_len ee).trans (ha.len ρ)) h
theorem pe_call0S {CX : CXT} {sp : Sp} {E : L2.St → XK} (F : FnOk X.prog X.w X.K X.mg X.base CX k fa fd ps sp) (hr : Room k X.A) (hg : Gl X x) (hm : X.mg x = some (.ref fa)) (hk : PySem.W.keepIn X.K (.ref fa) = true) (hb : Binds X.K fd ps []) (hx : ∀ σ, PassesAt CX X σ (E σ))
    (hdb : (x == ("__debug__" : Str)) = false) : PE X (.Call (.Name x p) [] [] pos) (tCallS sp E tNil) := by
  refine ⟨fun pins s σ H Q I h => ?_⟩
  refine wpAny_Call_Name_kw (ld_glob I hg hm ?_ hdb)
  exact PySem.W.callWith_K0 I.kIn hk (run_fnS (us := []) F hr hb (hx σ) I .nil h)
theorem he_call0 (tk : Takes X W) (F : FnOk X.prog X.w X.K X.mg X.base (L2.CX X.prog X.w) k fa fd ps (spF X.kw 0 C)) (hr : Room k X.A) (hg : Gl X x) (hm : X.mg x = some (.ref fa)) (hk : PySem.W.keepIn X.K (.ref fa) = true) (hb : Binds X.K fd ps [])
    (hdb : (x == ("__debug__" : Str)) = false) : PE X (.Call (.Name x p) [] [] pos) (tE X.kw W fun ρ => (seqR []).bind fun ds al => match datas ds with
    | some ps => callR (C ps) al
    | none => .stuck) := by
  refine PE_imp (pe_call0S F hr hg hm hk hb (fun σ => passAt tk σ) hdb) fun σ H Q ⟨F, N, Pf, ρ, S, h⟩ => ?_
  exact call_sp S (Resl.nil) rfl h

/-! ### isinstance with a built-in type -/
def tyN : Ty → String
  | .int => "int"
  | .bool => "bool"
  | .str => "str"
  | .list => "list"
  | .tuple => "tuple"
  | .dict => "dict"
end
inductive Tag where
  | non | bool | int | str | list | tuple | dict
def tagP : PyData → Tag
  | .none => .non
  | .bool _ => .bool
  | .int _ => .int
  | .str _ => .str
  | .list _ => .list
  | .tuple _ => .tuple
  | .dict _ => .dict
def tagN : Tag → String
  | .non => "NoneType"
  | .bool => "bool"
  | .int => "int"
  | .str => "str"
  | .list => "list"
  | .tuple => "tuple"
  | .dict => "dict"
def tyT : Tag → Ty → Bool
  | .bool, .bool => true
  | .bool, .int => true
  | .int, .int => true
  | .str, .str => true
  | .list, .list => true
  | .tuple, .tuple => true
  | .dict, .dict => true
  | _, _ => false
theorem kit_tag (a : Tag) (t : Ty) : kitB (tagN a) (tyN t) = some (tyT a t) := by cases a <;> cases t <;> decide +kernel
theorem tyP_tag (p : PyData) (t : Ty) : tyP p t = tyT (tagP p) t := by cases p <;> cases t <;> rfl
theorem tyx_of {K : KW} {S : AS} {H : Hp} {x : V} {p : PyData} (h : Rp K S H x p) : TyX K.k H x (.type (tagN (tagP p))) := by
  cases h with
  | non => exact .base .non
  | bl b => exact .base (.bl b)
  | int i => exact .base (.int i)
  | str k => exact .base (.str _)
  | lst s r q =>
    rcases r with r | ⟨o, r⟩
    · exact .base (.lst r)
    · exact .base (.frz r)
  | lsk l q =>
    obtain ⟨o, its, n, e, c, _⟩ := l
    exact .kList e c
  | tup l q =>
    rcases l with (r | ⟨o, r⟩) | ⟨o, its, n, e, c, _⟩
    · exact .base (.tup r)
    · exact .fTuple r
    · exact .kTuple e c
  | dk s r q =>
    rcases r with r | ⟨o, r⟩
    · exact .base (.dK r)
    · exact .fDict r
  | dt s r q => exact .base (.dT r)
  | dlk l q =>
    obtain ⟨es, n, e, _⟩ := l
    exact .kDict e rfl
theorem isi_ok {K : KW} {S : AS} {H : Hp} {x : V} {p : PyData} {t : Ty} (h : Rp K S H x p) : ∃ ty, TyX K.k H x ty ∧ PySem.W.kitOne K.k ty (.type (tyN t)) = some (tyP p t) :=
  ⟨_, tyx_of h, by rw [tyP_tag]; exact kit_ty (kit_tag _ t)⟩
section
variable {X : Cx} {W : WX} {pos : Pos}
theorem boot_ty (t : Ty) : bootBuiltins (Str.ofString (tyN t)) = some (.type (tyN t)) := by cases t <;> decide +kernel
theorem hv_isi {a : Expr} {fa : Env → VT} {t : Ty} {p p2 : Pos} (hg : Gl X "isinstance") (hm : X.mg "isinstance" = none) (hg2 : Gl X (Str.ofString (tyN t))) (hm2 : X.mg (Str.ofString (tyN t)) = none) (ha : HV X W a fa) :
    HV X W (.Call (.Name "isinstance" p) [a, .Name (Str.ofString (tyN t)) p2] [] pos) fun ρ => vt ((fa ρ).e.bind fun x _ => dat x fun p => .ok (.v (.bool (tyP p t))) []) := by
  have h2 : PE X (.Name (Str.ofString (tyN t)) p2) (tC (.ty (tyN t))) := pe_bltn hg2 hm2 (boot_ty t) rfl (by cases t <;> decide) (by cases t <;> decide)
  have hst : starEach [a, .Name (Str.ofString (tyN t)) p2] X.env = (false, eval a X.env) :: starEach [.Name (Str.ofString (tyN t)) p2] X.env := ha.p.st _ _
  refine hv_plain (PE_imp (pe_callB call_isi hg hm boot_isinstance (pa_cons ha.e (pa_cons h2 pa_nil) hst) (by decide) (by decide) hst rfl) fun σ H Q h => ?_)
  refine tE_one (r := fun x H1 Q => rIsi X.K [x, .ty (tyN t)] H1 Q) h fun F N Pf ρ x d al H1 N1 P1 S R h => ?_
  obtain ⟨p, e, h⟩ := h.dat
  obtain ⟨ty, t1, t2⟩ := isi_ok (t := t) (R.dat e Ext.refl)
  exact ⟨x, .ty (tyN t), ty, _, _, rfl, .ty _, t1, t2, h.bool R.ext⟩
end
end Hv

/-! Hv, part 7: built-in functions, subscripts, displays. -/
namespace Hv
open PySem PySem.Spec PyProof.Rows L2

theorem intsOf_eq : ∀ {ps : List PyData} {ns : List Int}, intsOf ps = some ns → ps = ns.map .int
  | [], ns, h => by injection h with h; subst h; rfl
  | .int i :: r, ns, h => by
    simp only [intsOf] at h
    cases e : intsOf r with
    | none => rw [e] at h; cases h
    | some m => rw [e] at h; injection h with h; subst h; rw [List.map_cons, ← intsOf_eq e]
  | .none :: r, _, h => by cases h
  | .bool _ :: r, _, h => by cases h
  | .str _ :: r, _, h => by cases h
  | .list _ :: r, _, h => by cases h
  | .tuple _ :: r, _, h => by cases h
  | .dict _ :: r, _, h => by cases h
theorem boolsOf_eq : ∀ {ps : List PyData} {ns : List Bool}, boolsOf ps = some ns → ps = ns.map .bool
  | [], ns, h => by injection h with h; subst h; rfl
  | .bool i :: r, ns, h => by
    simp only [boolsOf] at h
    cases e : boolsOf r with
    | none => rw [e] at h; cases h
    | some m => rw [e] at h; injection h with h; subst h; rw [List.map_cons, ← boolsOf_eq e]
  | .none :: r, _, h => by cases h
  | .int _ :: r, _, h => by cases h
  | .str _ :: r, _, h => by cases h
  | .list _ :: r, _, h => by cases h
  | .tuple _ :: r, _, h => by cases h
  | .dict _ :: r, _, h => by cases h
theorem maxI_ok {ns : List Int} {m : Int} (h : maxI ns = some m) : m ∈ ns ∧ ∀ y ∈ ns, y ≤ m := by
  cases ns with
  | nil => cases h
  | cons i r =>
    injection h with h
    subst h
    induction r generalizing i with
    | nil => simp
    | cons j r ih =>
      rw [List.foldl_cons]
      obtain ⟨h1, h2⟩ := ih (max i j)
      refine ⟨?_, fun y hy => ?_⟩
      · rcases List.mem_cons.mp h1 with h | h
        · rw [h]
          rcases Int.le_total i j with q | q
          · rw [Int.max_eq_right q]; simp
          · rw [Int.max_eq_left q]; simp
        · exact List.mem_cons_of_mem _ (List.mem_cons_of_mem _ h)
      · have h3 := h2 (max i j) List.mem_cons_self
        rcases List.mem_cons.mp hy with rfl | hy
        · exact Int.le_trans (Int.le_max_left _ _) h3
        · rcases List.mem_cons.mp hy with rfl | hy
          · exact Int.le_trans (Int.le_max_right _ _) h3
          · exact h2 y (List.mem_cons_of_mem _ hy)
theorem minI_ok {ns : List Int} {m : Int} (h : minI ns = some m) : m ∈ ns ∧ ∀ y ∈ ns, m ≤ y := by
  cases ns with
  | nil => cases h
  | cons i r =>
    injection h with h
    subst h
    induction r generalizing i with
    | nil => simp
    | cons j r ih =>
      rw [List.foldl_cons]
      obtain ⟨h1, h2⟩ := ih (min i j)
      refine ⟨?_, fun y hy => ?_⟩
      · rcases List.mem_cons.mp h1 with h | h
        · rw [h]
          rcases Int.le_total i j with q | q
          · rw [Int.min_eq_left q]; simp
          · rw [Int.min_eq_right q]; simp
        · exact List.mem_cons_of_mem _ (List.mem_cons_of_mem _ h)
      · have h3 := h2 (min i j) List.mem_cons_self
        rcases List.mem_cons.mp hy with rfl | hy
        · exact Int.le_trans h3 (Int.min_le_left _ _)
        · rcases List.mem_cons.mp hy with rfl | hy
          · exact Int.le_trans h3 (Int.min_le_right _ _)
          · exact h2 y (List.mem_cons_of_mem _ hy)
theorem isort_perm (ns : List Int) : (isort ns).Perm ns := List.mergeSort_perm ns _
theorem isort_pw (ns : List Int) : (isort ns).Pairwise (· ≤ ·) := by
  have h := List.pairwise_mergeSort (le := fun a b : Int => decide (a ≤ b)) (fun a b c h1 h2 => by simp at *; omega) (fun a b => by simp; omega) ns
  exact h.imp fun h => by simpa using h
theorem sorted_uniq : ∀ {xs ys : List Int}, xs.Perm ys → xs.Pairwise (· ≤ ·) → ys.Pairwise (· ≤ ·) → xs = ys := by
  intro xs ys h h1 h2
  exact h.eq_of_pairwise (fun a b _ _ h3 h4 => Int.le_antisymm h3 h4) h1 h2

def biN : Bi → String
  | .len => "len"
  | .int => "int"
  | .abs => "abs"
  | .max2 => "max"
  | .min2 => "min"
  | .sum => "sum"
  | .maxL => "max"
  | .minL => "min"
  | .sorted => "sorted"
  | .list => "list"
  | .tuple => "tuple"
  | .any => "any"
  | .all => "all"
  | .divmod => "divmod"
  | .str => "str"
  | .ord => "ord"
/-- is it a type (or a function) -/
def biT : Bi → Bool
  | .int => true
  | .list => true
  | .tuple => true
  | .str => true
  | _ => false
def biV (b : Bi) : Value := if biT b then .type (biN b) else .builtin (biN b)
theorem boot_bi (b : Bi) : bootBuiltins (Str.ofString (biN b)) = some (biV b) := by cases b <;> decide +kernel
section
variable {X : Cx} {W : WX} {pos : Pos}
/-- a built-in by name, whatever it is -/
theorem he_bi {b : Bi} {r : List V → Hp → VK → Prop} {p : Pos} {e : Expr} {es : List Expr} {fs : Env → List VT} {g : List D → Al → R} (hc : CallR X (biV b) r) (hg : Gl X (Str.ofString (biN b))) (hm : X.mg (Str.ofString (biN b)) = none) (ha : HVs X W (e :: es) fs)
    (hr : ∀ F N Pf ρ σ H Q vs ds al H1 N1 P1, StE X.kw F N Pf H σ ρ → Resl X.kw F N Pf H al H1 N1 P1 vs ds → PR X.kw W F N Pf σ H Q (g ds al) → r vs H1 Q) :
    PE X (.Call (.Name (Str.ofString (biN b)) p) (e :: es) [] pos) (tE X.kw W fun ρ => (seqR (fs ρ)).bind g) := by
  have hst : starEach (e :: es) X.env = (false, eval e X.env) :: starEach es X.env := by cases ha with | cons h _ => exact h.p.st _ _
  have hpl : (backTo pos (starEach es X.env)).any (·.1) = false := by
    cases ha with
    | cons _ t =>
      clear hst
      induction t with
      | nil => rfl
      | cons h t ih => rw [h.p.st]; exact ih
  have main : PE X (.Call (.Name (Str.ofString (biN b)) p) (e :: es) [] pos) (tCB r (tA X.kw W fun ρ => seqR (fs ρ))) := by
    have hv := boot_bi b
    unfold biV at hc hv
    by_cases t : biT b = true
    · rw [if_pos t] at hc hv
      exact pe_callTy hc hg hm hv (pa_of ha) (by cases b <;> decide) (by cases b <;> decide) hst hpl
    · rw [if_neg t] at hc hv
      exact pe_callB hc hg hm hv (pa_of ha) (by cases b <;> decide) (by cases b <;> decide) hst hpl
  refine PE_imp main fun σ H Q h => ?_
  exact tA_then h fun F N Pf ρ x d al H1 N1 P1 _ S R h => hr _ _ _ _ _ _ _ _ _ _ _ _ _ S R h
/-- one argument's data -/
theorem Resl.one {K : KW} {F N : AS} {Pf : Nat → AS} {H H1 : Hp} {al : Al} {Nv Pv : AS} {vs : List V} {d : D} {p : PyData} (R : Resl K F N Pf H al H1 Nv Pv vs [d]) (e : data d = some p) :
    ∃ x, vs = [x] ∧ Rp K (SB (isNew d) F (S1 N Pf al fun a => Nv a ∨ Pv a)) H1 x p := by
  have r := R.dat (p := [p]) (by simp [datas, e]) Ext.refl
  cases r with
  | cons a t =>
    cases t
    exact ⟨_, rfl, a.mono (SB.mono (fun z => by simp [isNews, z]) fun _ z => z)⟩
theorem Resl.two {K : KW} {F N : AS} {Pf : Nat → AS} {H H1 : Hp} {al : Al} {Nv Pv : AS} {vs : List V} {d e : D} {p q : PyData} (R : Resl K F N Pf H al H1 Nv Pv vs [d, e]) (e1 : data d = some p) (e2 : data e = some q) :
    ∃ x y S, vs = [x, y] ∧ Rp K S H1 x p ∧ Rp K S H1 y q := by
  have r := R.dat (p := [p, q]) (by simp [datas, e1, e2]) Ext.refl
  cases r with
  | cons a t =>
    cases t with
    | cons b t =>
      cases t
      exact ⟨_, _, _, rfl, a, b⟩
theorem Resl.fresh {K : KW} {F N : AS} {Pf : Nat → AS} {H H1 : Hp} {al : Al} {Nv Pv : AS} {vs : List V} {ds : List D} (R : Resl K F N Pf H al H1 Nv Pv vs ds) : ∀ a, (Nv a ∨ Pv a) → H a = none ∧ H1 a ≠ none := by
  rintro a (h | h)
  · exact ⟨(R.nv a h).1, (R.nv a h).2.1⟩
  · exact R.pv a h
def rBi (K : PySem.W.Frag) : Bi → List V → Hp → VK → Prop
  | .len => fun xs H Q => ∃ x n, xs = [x] ∧ LenV K x H n ∧ Q (.int n) H
  | .int => fun xs H Q => (∃ i, xs = [.int i] ∧ Q (.int i) H) ∨ ∃ k, xs = [.bl k] ∧ Q (.int (if k then 1 else 0)) H
  | .abs => fun xs H Q => ∃ i, xs = [.int i] ∧ Q (.int (if i < 0 then -i else i)) H
  | .max2 => fun xs H Q => ∃ i j, xs = [.int i, .int j] ∧ Q (.int (if j > i then j else i)) H
  | .min2 => fun xs H Q => ∃ i j, xs = [.int i, .int j] ∧ Q (.int (if j < i then j else i)) H
  | .sum => rSum K
  | .maxL => rMax K
  | .minL => rMin K
  | .sorted => rSortedI K
  | .any => rAny K
  | .ord => fun xs H Q => ∃ x, xs = [.str x] ∧ x.length = 1 ∧ Q (.int (x.cps.getD 0 0 : Nat)) H
  | .all => rAll K
  | .list => fun xs H Q => ∃ p ys, xs = [.ref p] ∧ (SqL K H p ys ∨ SqT K H p ys) ∧ ∀ l, H l = none → Q (.ref l) (upd H l (.lst ys))
  | .tuple => fun xs H Q => ∃ p ys, xs = [.ref p] ∧ ((SqL K H p ys ∧ ∀ l, H l = none → Q (.ref l) (upd H l (.tup ys))) ∨ (SqT K H p ys ∧ Q (.ref p) H))
  | _ => fun _ _ _ => False
/-- a built-in that calls back -/
def biC : Bi → Bool
  | .max2 => true
  | .min2 => true
  | .sum => true
  | .maxL => true
  | .minL => true
  | .any => true
  | .all => true
  | _ => false
theorem callR_bi (b : Bi) (hc : biC b = true → X.calm = true) : CallR X (biV b) (rBi X.K b) := by
  cases b with
  | len => exact call_len
  | int => exact call_int1
  | abs => exact call_abs
  | max2 => exact call_max2 (hc rfl)
  | min2 => exact call_min2 (hc rfl)
  | sum => exact cr_sum (hc rfl)
  | maxL => exact cr_max (hc rfl)
  | minL => exact cr_min (hc rfl)
  | sorted => exact cr_sortedI
  | list => exact call_list_of
  | tuple => exact call_tuple_of
  | any => exact cr_any (hc rfl)
  | all => exact cr_all (hc rfl)
  | ord => exact call_ord
  | divmod => exact fun _ _ _ _ _ _ _ _ _ h => h.elim
  | str => exact fun _ _ _ _ _ _ _ _ _ h => h.elim
theorem bi_ok {b : Bi} {F N : AS} {Pf : Nat → AS} {σ : L2.St} {H H1 : Hp} {ρ : Env} {Q : VK} {vs : List V} {ds : List D} {al : Al} {N1 P1 : AS}
    (S : StE X.kw F N Pf H σ ρ) (R : Resl X.kw F N Pf H al H1 N1 P1 vs ds) (h : PR X.kw W F N Pf σ H Q (biR b ds al)) : rBi X.K b vs H1 Q := by
  match ds, R, h with
  | [], _, h => exact h.elim
  | [d], R, h =>
    have h : PR X.kw W F N Pf σ H Q (bi1 b d al) := h
    cases e : data d with
    | none => cases b <;> (simp only [bi1, e] at h; exact h.elim)
    | some p =>
      obtain ⟨x, rfl, r⟩ := R.one e
      cases b with
      | len =>
        simp only [bi1, e] at h
        cases p with
        | list ps => obtain ⟨a, xs, rfl, l, s⟩ := r.ll; exact ⟨_, xs.length, rfl, .inl ⟨xs, l.sq, rfl⟩, by rw [s.len]; exact h.int R.ext⟩
        | tuple ps => obtain ⟨a, xs, rfl, l, s⟩ := r.sqt; exact ⟨_, xs.length, rfl, .inr ⟨xs, l, rfl⟩, by rw [s.len]; exact h.int R.ext⟩
        | str z =>
          obtain ⟨rfl, k⟩ := r.strok
          simp only at h
          split at h
          · rename_i hl; exact ⟨_, z.length, rfl, ⟨by simpa [SZ, sizeLine_eq] using hl, rfl⟩, h.int R.ext⟩
          · exact h.elim
        | _ => exact h.elim
      | int =>
        simp only [bi1, e] at h
        cases p with
        | int i => cases r; exact .inl ⟨i, rfl, h.int R.ext⟩
        | bool i => cases r; exact .inr ⟨i, rfl, h.int R.ext⟩
        | _ => exact h.elim
      | abs =>
        simp only [bi1, e] at h
        cases p with
        | int i => cases r; exact ⟨i, rfl, h.int R.ext⟩
        | _ => exact h.elim
      | sum =>
        simp only [bi1, e] at h
        cases p with
        | list ps =>
          obtain ⟨a, xs, rfl, l, s⟩ := r.ll
          simp only at h
          split at h
          · rename_i ns hn
            have e2 := intsOf_eq hn
            subst e2
            have e3 := s.ints
            subst e3
            exact ⟨a, ns, rfl, l.sq, h.int R.ext⟩
          · exact h.elim
        | _ => exact h.elim
      | maxL =>
        simp only [bi1, e] at h
        cases p with
        | list ps =>
          obtain ⟨a, xs, rfl, l, s⟩ := r.ll
          simp only at h
          split at h
          · rename_i m hn
            cases e1 : intsOf ps with
            | none => rw [e1] at hn; cases hn
            | some ns =>
              rw [e1] at hn
              have e2 := intsOf_eq e1
              subst e2
              have e3 := s.ints
              subst e3
              obtain ⟨m1, m2⟩ := maxI_ok hn
              refine ⟨a, ns, rfl, l.sq, List.length_pos_of_mem m1, fun m' h1 h2 => ?_⟩
              rw [show m' = m from Int.le_antisymm (m2 _ h1) (h2 _ m1)]
              exact h.int R.ext
          · exact h.elim
        | _ => exact h.elim
      | minL =>
        simp only [bi1, e] at h
        cases p with
        | list ps =>
          obtain ⟨a, xs, rfl, l, s⟩ := r.ll
          simp only at h
          split at h
          · rename_i m hn
            cases e1 : intsOf ps with
            | none => rw [e1] at hn; cases hn
            | some ns =>
              rw [e1] at hn
              have e2 := intsOf_eq e1
              subst e2
              have e3 := s.ints
              subst e3
              obtain ⟨m1, m2⟩ := minI_ok hn
              refine ⟨a, ns, rfl, l.sq, List.length_pos_of_mem m1, fun m' h1 h2 => ?_⟩
              rw [show m' = m from Int.le_antisymm (h2 _ m1) (m2 _ h1)]
              exact h.int R.ext
          · exact h.elim
        | _ => exact h.elim
      | sorted =>
        simp only [bi1, e] at h
        cases p with
        | list ps =>
          obtain ⟨a, xs, rfl, l, s⟩ := r.ll
          simp only at h
          split at h
          · rename_i ns hn
            have e2 := intsOf_eq hn
            subst e2
            have e3 := s.ints
            subst e3
            refine ⟨a, ns, rfl, l.sq, fun ns' p q1 q2 hp => ?_⟩
            rw [sorted_uniq (q1.trans (isort_perm ns).symm) q2 (isort_pw ns)]
            have e4 : Ext H1 (upd H1 p (.lst ((isort ns).map V.int))) := Ext.new hp
            refine h _ _ (fun _ => False) (fun a => a = p) ⟨R.ext.trans e4, .mk (RD.oL upd_same ((Rps.of_ints _)) rfl), fun _ z => z.elim, fun a z => ?_⟩
            subst z
            exact ⟨R.ext.none hp, by rw [upd_same]; exact fun z => nomatch z⟩
          · exact h.elim
        | _ => exact h.elim
      | ord =>
        simp only [bi1, e] at h
        cases p with
        | str z =>
          obtain ⟨rfl, k⟩ := r.strok
          simp only at h
          split at h
          · rename_i hl; exact ⟨_, rfl, hl, h.int R.ext⟩
          · exact h.elim
        | _ => exact h.elim
      | any =>
        simp only [bi1, e] at h
        cases p with
        | list ps =>
          obtain ⟨a, xs, rfl, l, s⟩ := r.ll
          simp only at h
          split at h
          · rename_i ns hn
            have e2 := boolsOf_eq hn
            subst e2
            have e3 := s.bools
            subst e3
            exact ⟨a, ns, rfl, l.sq, h.bool R.ext⟩
          · exact h.elim
        | _ => exact h.elim
      | all =>
        simp only [bi1, e] at h
        cases p with
        | list ps =>
          obtain ⟨a, xs, rfl, l, s⟩ := r.ll
          simp only at h
          split at h
          · rename_i ns hn
            have e2 := boolsOf_eq hn
            subst e2
            have e3 := s.bools
            subst e3
            exact ⟨a, ns, rfl, l.sq, h.bool R.ext⟩
          · exact h.elim
        | _ => exact h.elim
      | list =>
        simp only [bi1, e] at h
        cases p with
        | list ps =>
          obtain ⟨a, xs, rfl, l, s⟩ := r.ll
          exact ⟨a, xs, rfl, .inl l.sq, fun q hq => h.mkL R.ext s R.fresh hq⟩
        | tuple ps =>
          obtain ⟨a, xs, rfl, l, s⟩ := r.sqt
          exact ⟨a, xs, rfl, .inr l, fun q hq => h.mkL R.ext s R.fresh hq⟩
        | _ => exact h.elim
      | tuple =>
        simp only [bi1, e] at h
        cases p with
        | list ps =>
          obtain ⟨a, xs, rfl, l, s⟩ := r.ll
          refine ⟨a, xs, rfl, .inl ⟨l.sq, fun q hq => ?_⟩⟩
          have e3 : Ext H1 (upd H1 q (.tup xs)) := Ext.new hq
          exact h.mkT (R.ext.trans e3) (.inl (.inl upd_same)) (s.ext e3 fun _ z => z) fun a z => ⟨(R.fresh a z).1, e3.ne (R.fresh a z).2⟩
        | tuple ps =>
          obtain ⟨a, xs, rfl, l, s⟩ := r.sqt
          exact ⟨a, xs, rfl, .inr ⟨l, h.mkT R.ext l s R.fresh⟩⟩
        | _ => exact h.elim
      | _ => exact h.elim
  | [d, e], R, h =>
    have h : PR X.kw W F N Pf σ H Q (dat2 d e (bi2 b)) := h
    obtain ⟨p, q, e1, e2, h⟩ := h.dat2
    obtain ⟨x, y, S', rfl, r1, r2⟩ := R.two e1 e2
    cases b with
    | max2 =>
      cases p with
      | int i => cases q with
        | int j => cases r1; cases r2; exact ⟨i, j, rfl, h.int R.ext⟩
        | _ => exact h.elim
      | _ => exact h.elim
    | min2 =>
      cases p with
      | int i => cases q with
        | int j => cases r1; cases r2; exact ⟨i, j, rfl, h.int R.ext⟩
        | _ => exact h.elim
      | _ => exact h.elim
    | _ => exact h.elim
  | _ :: _ :: _ :: _, _, h => exact h.elim
theorem hv_bi {b : Bi} {p : Pos} {e : Expr} {es : List Expr} {fs : Env → List VT} (hc : biC b = true → X.calm = true) (hg : Gl X (Str.ofString (biN b))) (hm : X.mg (Str.ofString (biN b)) = none) (ha : HVs X W (e :: es) fs) :
    HV X W (.Call (.Name (Str.ofString (biN b)) p) (e :: es) [] pos) fun ρ => vt ((seqR (fs ρ)).bind fun ds al => biR b ds al) :=
  hv_plain (he_bi (callR_bi b hc) hg hm ha fun _ _ _ _ _ _ _ _ _ _ _ _ _ S R h => bi_ok S R h)
end
end Hv

/-! Hv, part 8: subscripts, slices, displays, comprehensions. -/
namespace Hv
open PySem PySem.Spec PyProof.Rows L2

theorem atI_map {α β : Type} (f : α → β) (xs : List α) (i : Int) : atI (xs.map f) i = (atI xs i).map f := by
  unfold atI
  rw [List.length_map]
  cases ixN xs.length i with
  | none => rfl
  | some j => simp
theorem Rps.at {K : KW} {S : AS} {H : Hp} {xs : List V} {ds : List PyData} {i : Int} {d : PyData} (h : Rps K S H xs ds) (e : atI ds i = some d) : ∃ x, atI xs i = some x ∧ Rp K S H x d := by
  unfold atI at e ⊢
  rw [h.len]
  cases e2 : ixN ds.length i with
  | none => rw [e2] at e; cases e
  | some j =>
    rw [e2] at e
    exact h.get e
theorem RDs.at {K : KW} {F N I P : AS} {H : Hp} {xs : List V} {ds : List D} {i : Int} {d : D} (h : RDs K F N I H P xs ds) (e : atI ds i = some d) : ∃ x, atI xs i = some x ∧ RD K F N I H P x d := by
  unfold atI at e ⊢
  rw [h.len]
  cases e2 : ixN ds.length i with
  | none => rw [e2] at e; cases e
  | some j =>
    rw [e2] at e
    exact h.get e
section
variable {K : KW} {W : WX} {E0 : Hp} {F N : AS} {Pf : Nat → AS} {σ : L2.St} {H H1 H2 : Hp} {ρ : Env} {Q : VK}
/-- a part of something, as it lies -/
theorem PR.itR {b : Bool} {p : PyData} {al : Al} {x : V} {Nv : AS} (h : PR K W F N Pf σ H Q (itR b p al)) (e : Ext H H2) (r : Rp K (SB b F (S1 N Pf al Nv)) H2 x p) (nv : ∀ a, Nv a → H a = none ∧ H2 a ≠ none) : Q x H2 := by
  unfold Hv.itR at h
  split at h
  · exact h x H2 Nv (fun _ => False) ⟨e, .mk (RD.fz r), fun a z => ⟨(nv a z).1, (nv a z).2, fun z => z⟩, fun _ z => z.elim⟩
  · rename_i m
    exact h.scal e r (by simpa using m)
/-- a list, a tuple, a text, a dict, at an item -/
def rIxA (K : KW) : R2 := fun x y H Q => rIxL K.k x y H Q ∨ rIxT K.k x y H Q ∨ rIxS x y H Q ∨ (∃ p z v, x = .ref p ∧ y = .str z ∧ (∃ es n u, K.k.lookup p = some ⟨.type "dict", none, .dict es n, #[]⟩ ∧ PySem.W.KeysLit K.p es.toList ∧ PySem.W.nsIn K.k p z = some (some u) ∧ RelV v u) ∧ Q v H) ∨
  ∃ a v, x = .ref a ∧ DGet H a y (some v) ∧ Q v H
theorem strOk_one {z : Str} {c : Nat} (h : PyData.strOk z = true) (m : c ∈ z.cps.toList) : PyData.strOk ⟨#[c]⟩ = true := by
  rw [strOk_iff] at *
  intro d hd
  have : d = c := by simpa using hd
  exact this ▸ h c m
theorem atI_mem {α : Type} {xs : List α} {i : Int} {v : α} (h : atI xs i = some v) : v ∈ xs := by
  unfold atI at h
  cases e : ixN xs.length i with
  | none => rw [e] at h; cases h
  | some j =>
    rw [e] at h
    exact List.mem_of_getElem? h
theorem zip_find {K : KW} {S : AS} {H : Hp} {a : Addr} {z : Str} {p : PyData} : ∀ {ks : List Str} {xs : List V} {ds : List PyData}, Paired (fun k v => ∃ u, PySem.W.nsIn K.k a k = some (some u) ∧ RelV v u) ks xs → Rps K S H xs ds →
    dlook ((ks.map PyData.str).zip ds) (.str z) = some p → ∃ v u, PySem.W.nsIn K.k a z = some (some u) ∧ RelV v u ∧ Rp K S H v p
  | _, _, _, .nil, .nil, h => by cases h
  | k :: ks, _, _, .cons h1 t1, .cons (d := d) h2 t2, h => by
    unfold dlook at h
    simp only [List.map_cons, List.zip_cons_cons, List.find?_cons] at h
    cases e : PyData.eqv (.str k) (.str z) with
    | true =>
      rw [e] at h
      have h : some d = some p := h
      have h : d = p := Option.some.inj h
      have ek : k = z := by
        have e : (k == z) = true := e
        exact eq_of_beq e
      obtain ⟨u, q1, q2⟩ := h1
      exact ⟨_, u, ek ▸ q1, q2, h ▸ h2⟩
    | false =>
      rw [e] at h
      exact zip_find t1 t2 h
theorem eqv_key (a b : Key) : PyData.eqv (pyK a) (pyK b) = decide (a = b) := by
  cases a with
  | inl i => cases b with
    | inl j => rw [key_ll]; rfl
    | inr y => rw [key_lr]; rfl
  | inr x => cases b with
    | inl j => rw [key_rl]; rfl
    | inr y => rw [key_rr]; exact Bool.beq_eq_decide_eq x y
theorem zip_findK {K : KW} {S : AS} {H : Hp} {k : Key} {p : PyData} : ∀ {kvs : List (Key × V)} {ds : List PyData}, Rps K S H (kvs.map (·.2)) ds →
    dlook ((kvs.map fun q => pyK q.1).zip ds) (pyK k) = some p → ∃ v, valV kvs k = some v ∧ Rp K S H v p
  | [], _, _, h => by cases h
  | q :: kvs, _, .cons (d := d) h2 t2, h => by
    unfold dlook at h
    simp only [List.map_cons, List.zip_cons_cons, List.find?_cons, eqv_key] at h
    unfold valV
    simp only [List.find?_cons]
    cases e : decide (q.1 = k) with
    | true =>
      rw [e] at h
      have h : some d = some p := h
      exact ⟨q.2, rfl, Option.some.inj h ▸ h2⟩
    | false =>
      rw [e] at h
      exact zip_findK t2 h
theorem zip_findT {z : PyData} (hz : keyOf z ≠ none) : ∀ {ks : List (List PyData)} {ds : List PyData}, dlook ((ks.map PyData.tuple).zip ds) z = none
  | [], _ => rfl
  | _ :: _, [] => rfl
  | k :: ks, d :: ds => by
    unfold dlook
    simp only [List.map_cons, List.zip_cons_cons, List.find?_cons]
    have e : PyData.eqv (.tuple k) z = false := by
      cases z <;> first | rfl | exact absurd rfl hz
    rw [e]
    exact zip_findT hz
theorem zip_findS {i : Int} : ∀ {ks : List Str} {ds : List PyData}, dlook ((ks.map PyData.str).zip ds) (.int i) = none
  | [], _ => rfl
  | _ :: _, [] => rfl
  | k :: ks, d :: ds => by
    unfold dlook
    simp only [List.map_cons, List.zip_cons_cons, List.find?_cons]
    exact zip_findS
theorem keyOf_some {z w : PyData} (h : keyOf z = some w) : ∃ k, z = pyK k := by
  cases z with
  | int i => exact ⟨.inl i, rfl⟩
  | str x => exact ⟨.inr x, rfl⟩
  | _ => cases h
theorem Rp.key {K : KW} {S : AS} {H : Hp} {y : V} {k : Key} (h : Rp K S H y (pyK k)) : y = kV k := by
  cases k with
  | inl i => cases h; rfl
  | inr x => cases h; rfl
theorem ixP_ok {b : Bool} {p q : PyData} {al : Al} {x y : V} {Nv S' : AS} (h : PR K W F N Pf σ H Q (ixP b al p q)) (e : Ext H H2) (r : Rp K (SB b F (S1 N Pf al Nv)) H2 x p) (r2 : Rp K S' H2 y q) (nv : ∀ a, Nv a → H a = none ∧ H2 a ≠ none) : rIxA K x y H2 Q := by
  cases p with
  | list ps =>
    cases q with
    | int i =>
      cases r2
      obtain ⟨a, xs, rfl, l, s⟩ := r.ll
      simp only [ixP] at h
      split at h
      · rename_i w hw
        obtain ⟨v, e1, e2⟩ := s.at hw
        exact .inl ⟨a, xs, i, v, rfl, rfl, l.sq, e1, h.itR e e2 nv⟩
      · exact h.elim
    | _ => exact h.elim
  | tuple ps =>
    cases q with
    | int i =>
      cases r2
      obtain ⟨a, xs, rfl, l, s⟩ := r.sqt
      simp only [ixP] at h
      split at h
      · rename_i w hw
        obtain ⟨v, e1, e2⟩ := s.at hw
        exact .inr (.inl ⟨a, xs, i, v, rfl, rfl, l, e1, h.itR e e2 nv⟩)
      · exact h.elim
    | _ => exact h.elim
  | str z =>
    cases q with
    | int i =>
      cases r2
      obtain ⟨rfl, k⟩ := r.strok
      simp only [ixP] at h
      split at h
      · rename_i hl
        split at h
        · rename_i c hc
          exact .inr (.inr (.inl ⟨z, i, c, rfl, rfl, by simpa [SZ, sizeLine_eq] using hl, hc, h.str e (strOk_one k (atI_mem hc))⟩))
        · exact h.elim
      · exact h.elim
    | _ => exact h.elim
  | dict kvs =>
    simp only [ixP] at h
    split at h
    · rename_i w hk
      split at h
      · rename_i w hw
        cases r with
        | dlk l q =>
          obtain ⟨es, n, e1, e2, e3, e4, e5⟩ := l
          obtain ⟨k, rfl⟩ := keyOf_some hk
          have ey := r2.key
          subst ey
          cases k with
          | inl i =>
            rw [show pyK (.inl i) = PyData.int i from rfl, zip_findS] at hw
            cases hw
          | inr z =>
            obtain ⟨v, u, q1, q2, q3⟩ := zip_find e4 q hw
            exact .inr (.inr (.inr (.inl ⟨_, z, v, rfl, rfl, ⟨es, n, u, e1, e2, q1, q2⟩, h.itR e q3 nv⟩)))
        | dk s r q =>
          obtain ⟨k, rfl⟩ := keyOf_some hk
          have ey := r2.key
          subst ey
          obtain ⟨v, q1, q2⟩ := zip_findK q hw
          exact .inr (.inr (.inr (.inr ⟨_, v, rfl, .inl ⟨_, k, r, rfl, q1.symm⟩, h.itR e q2 nv⟩)))
        | dt s r q =>
          rename_i a kvs2 ds2
          have z := zip_findT (z := _) (by rw [hk]; exact fun z => nomatch z) (ks := kvs2.map fun p => p.1.map pyK) (ds := ds2)
          rw [List.map_map] at z
          rw [show (kvs2.map fun p => PyData.tuple (p.1.map pyK)) = kvs2.map (PyData.tuple ∘ fun p => p.1.map pyK) from rfl, z] at hw
          cases hw
      · exact h.elim
    · exact h.elim
  | _ => exact h.elim
end
section
variable {X : Cx} {W : WX} {pos : Pos}
theorem ix_dget (hu : X.A.units + 65 < cLine) : IxR X (fun x y H Q => ∃ a v, x = .ref a ∧ DGet H a y (some v) ∧ Q v H) := by
  intro value slice pins s σ H x y v u Q I rx ry h hs
  obtain ⟨a, w, rfl, g, q⟩ := h
  obtain rfl : v = Value.ref a := rx
  exact tail_any (dict_typeIs I g) PySem.F.slot_dict_getitem.lookup (d_getItem (by omega) I g ry fun w' s3 I3 rw' => ⟨w, H, I3, rw', q⟩) hs
theorem ixR_all (hu : X.A.units + 65 < cLine) : IxR X (rIxA X.kw) := IxR.or ix_list (IxR.or ix_tup (IxR.or ix_str (IxR.or ix_kdict (ix_dget hu))))
theorem hv_ix (hu : X.A.units + 65 < cLine) {a b : Expr} {fa fb : Env → VT} (ha : HV X W a fa) (hb : HV X W b fb) :
    HV X W (.Subscript a b pos) fun ρ => vt ((fa ρ).e.bind fun x al => (fb ρ).e.bind fun y _ => dat2 x y fun p q => ixP (isNew x) al p q) := by
  refine hv_plain (PE_imp (pe_ix (ixR_all hu) ha.e hb.e hb.p.px) fun σ H Q h => tE_two (r := rIxA X.kw) h ?_)
  intro F N Pf ρ x d al H1 N1 P1 y e bl H2 N2 P2 S R1 R2 h
  obtain ⟨p, q, e1, e2, h⟩ := h.dat2
  exact ixP_ok h (R1.ext.trans R2.ext) (R1.dat e1 R2.ext) (R2.dat e2 Ext.refl) (one_nv R1 R2.ext)
theorem hv_ixv (hu : X.A.units + 65 < cLine) {i : Nat} {x : Str} {p : Pos} {b : Expr} {fb : Env → VT} (hN : X.N[i]? = some x) (hv : Vis X.env.scope x) (hd : (x == ("__debug__" : Str)) = false) (hc : (x == ("__classdict__" : Str)) = false) (hb : HV X W b fb) :
    HV X W (.Subscript (.Name x p) b pos) fun ρ => vt (ixV i ρ (fb ρ).e) := by
  refine hv_plain ⟨fun pins s σ H Q I h => ?_⟩
  obtain ⟨F, N, Pf, ρ, S, h⟩ := h
  have h : PR X.kw W F N Pf σ H Q (ixV i ρ (fb ρ).e) := h
  -- either a list of one's own, or by the data
  by_cases own : ∃ ds, ρ[i]? = some (some (.ol ds))
  · obtain ⟨ds, eo⟩ := own
    refine (pe_ix (ixR_all hu) (pe_var hN hv hd hc) hb.e hb.p.px).run pins s σ H Q I ?_
    obtain ⟨v, e1, rd⟩ := S.rep i _ eo
    refine ⟨v, e1, F, N, Pf, ρ, S, ?_⟩
    try dsimp only
    unfold ixV at h
    rw [eo] at h
    simp only at h
    cases e : (fb ρ).e with
    | exc c => simp only [e, R.bind] at h; exact h
    | stuck => simp only [e, R.bind] at h; exact h
    | ok d al =>
      simp only [e, R.bind] at h
      intro y H1 N1 P1 R1
      obtain ⟨q, e2, h⟩ := h.dat
      have r2 := R1.dat e2 Ext.refl
      unfold ixO at h
      cases q with
      | int j =>
        cases r2
        simp only at h
        cases e3 : atI ds j with
        | none => rw [e3] at h; exact h.elim
        | some w =>
          rw [e3] at h
          simp only at h
          cases e4 : view w with
          | none => rw [e4] at h; exact h.elim
          | some w' =>
            rw [e4] at h
            simp only at h
            obtain ⟨I', Q', r, hi, hq, hdd⟩ := rd
            cases r with
            | ol pa hH rs sub nq =>
              obtain ⟨z, e5, e6⟩ := rs.at e3
              refine .inl ⟨_, _, j, z, rfl, rfl, .inl (.inl (R1.ext _ _ hH)), e5, ?_⟩
              have ee : Ext H H1 := R1.ext
              cases fzz : isFz w with
              | true =>
                rw [fzz, if_pos rfl] at h
                have hw : w' = w ∨ (∃ p, w = .n p ∧ w' = .v p) := by
                  cases w with
                  | v p =>
                    simp only [view, Hv.data, Option.map_some, Option.some.injEq] at e4
                    left; rw [← e4]; unfold fz; simp [isNew]
                  | n p =>
                    simp only [view, Hv.data, Option.map_some, Option.some.injEq] at e4
                    unfold fz at e4
                    split at e4
                    · left; exact e4.symm
                    · right; exact ⟨p, rfl, e4.symm⟩
                  | _ => cases fzz
                refine h z H1 (fun _ => False) (fun _ => False) ⟨ee, ?_, fun _ z => z.elim, fun _ z => z.elim⟩
                rcases hw with rfl | ⟨p, rfl, rfl⟩
                · cases w' with
                  | v p => cases e6 with | v e6 => exact .mk (.v ((e6.ext ee fun _ z => z).mono fun a z => z.elim .inl fun z => .inr (.inl z)))
                  | n p => cases e6 with | n e6 => exact .mk (.n ((e6.ext ee fun _ z => z).mono fun a z => .inl z))
                  | _ => cases fzz
                · cases e6 with | n e6 => exact .mk (.v ((e6.ext ee fun _ z => z).mono fun a z => .inr (.inl z)))
              | false =>
                rw [fzz, if_neg Bool.false_ne_true] at h
                refine h z H1 (fun _ => False) (fun _ => False) ⟨ee, ?_, fun _ z => z.elim, fun _ z => z.elim⟩
                exact .mk ((e6.view (I' := fun _ => False) (P' := fun _ => False) e4).ext ee (fun _ z => .inl z) (fun a z => z.elim .inl fun z => .inr (.inl ⟨i, by simp, z.elim (hi a) fun z => hq a (sub a z)⟩)) (fun _ z => z) fun _ z => z)
      | _ => exact h.elim
  · refine (PE_imp (pe_ix (ixR_all hu) (he_var (W := W) hN hv hd hc) hb.e hb.p.px) fun σ H Q h => tE_two (r := rIxA X.kw) (g := fun _ x al y _ => dat2 x y fun p q => ixP (isNew x) al p q) h ?_).run pins s σ H Q I ⟨F, N, Pf, ρ, S, ?_⟩
    · intro F N Pf ρ x d al H1 N1 P1 y e bl H2 N2 P2 S R1 R2 h
      obtain ⟨p, q, e1, e2, h⟩ := h.dat2
      exact ixP_ok h (R1.ext.trans R2.ext) (R1.dat e1 R2.ext) (R2.dat e2 Ext.refl) (one_nv R1 R2.ext)
    · have e : ixV i ρ (fb ρ).e = (varR i ρ).bind fun x al => (fb ρ).e.bind fun y _ => dat2 x y fun p q => ixP (isNew x) al p q := by
        unfold ixV
        split
        · rename_i ds e; exact absurd ⟨ds, e⟩ own
        · rfl
      rw [e] at h
      exact h
end

/-! ### slices -/
def PO' (K : KW) (W : WX) (σ : L2.St) (H : Hp) (Q : Option Int → Hp → Prop) (r : OR) : Prop := match r with
  | .ok b => ∀ H', Ext H H' → Q b H'
  | .exc c => ∀ H' cl od, Ext H H' → ExcV K.k c cl od → W cl od σ H'
  | .stuck => False
def tO (K : KW) (W : WX) (f : Env → OR) : TO := fun σ H Q => ∃ F N Pf ρ, StE K F N Pf H σ ρ ∧ PO' K W σ H Q (f ρ)
theorem cutP_map {K : KW} {S : AS} {H : Hp} {xs : List V} {ds : List PyData} (h : Rps K S H xs ds) (lo hi : Option Int) : Rps K S H (cutV xs lo hi) (cutP ds lo hi) := by
  unfold cutV cutP
  rw [h.len]
  exact (h.drop _).take _
theorem strOk_cut {z : Str} (h : PyData.strOk z = true) (lo hi : Option Int) : PyData.strOk (cutS z lo hi) = true := by
  rw [strOk_iff] at *
  intro c hc
  unfold cutS at hc
  exact h c (List.mem_of_mem_drop (List.mem_of_mem_take (by simpa using hc)))
section
variable {X : Cx} {W : WX} {pos : Pos}
def PO_imp {e : Option Expr} {t t' : TO} (h : PO X e t) (i : ∀ σ H Q, t' σ H Q → t σ H Q) : PO X e t' :=
  ⟨fun pins s σ H Q I q => h.run pins s σ H Q I (i σ H Q q)⟩
theorem ho_none : PO X none (tO X.kw W fun _ => .ok none) := PO_imp po_none fun σ H Q ⟨F, N, Pf, ρ, S, q⟩ => q H Ext.refl
theorem ho_some {e : Expr} {f : Env → VT} (h : HV X W e f) : PO X (some e) (tO X.kw W fun ρ => optR (f ρ).e) := by
  refine PO_imp (po_some h.e) fun σ H Q ⟨F, N, Pf, ρ, S, q⟩ => ⟨F, N, Pf, ρ, S, ?_⟩
  try dsimp only at q ⊢
  cases e : (f ρ).e with
  | ok d al =>
    simp only [e, optR] at q
    intro x H1 N1 P1 R
    cases e1 : data d with
    | none => rw [e1] at q; exact q.elim
    | some p =>
      rw [e1] at q
      cases p with
      | int i =>
        have r := R.dat e1 Ext.refl
        cases r
        exact ⟨i, rfl, q H1 R.ext⟩
      | _ => exact q.elim
  | exc c => simp only [e, optR] at q; exact q
  | stuck => simp only [e, optR] at q; exact q
def rSlAll (K : PySem.W.Frag) : V → Option Int → Option Int → Hp → VK → Prop := fun x lo hi H Q => rSlL K x lo hi H Q ∨ rSlA K x lo hi H Q ∨ rSlS x lo hi H Q
theorem slR_all : SlR X (rSlAll X.K) := SlR.or sl_list (SlR.or sl_tupA sl_str)
theorem hv_sl {a : Expr} {lo hi : Option Expr} {fa : Env → VT} {fl fh : Env → OR} {p2 : Pos} (ha : HV X W a fa) (hl : PO X lo (tO X.kw W fl)) (hh : PO X hi (tO X.kw W fh)) :
    HV X W (.Subscript a (.Slice lo hi none p2) pos) fun ρ => vt ((fa ρ).e.bind fun x al => (fl ρ).bind fun l => (fh ρ).bind fun h => slR x al l h) := by
  refine hv_plain (PE_imp (pe_slice slR_all ha.e hl hh) fun σ H Q h => ?_)
  refine tE_one (r := fun x H1 Q => tO X.kw W fl σ H1 fun l H2 => tO X.kw W fh σ H2 fun u H3 => rSlAll X.K x l u H3 Q) h ?_
  intro F N Pf ρ x d al H1 N1 P1 S R h
  refine ⟨F, N, Pf, ρ, S.more R.ext, ?_⟩
  cases e : fl ρ with
  | exc c => simp only [e, OR.bind] at h; exact fun H' cl od he hx => h H' cl od (R.ext.trans he) hx
  | stuck => simp only [e, OR.bind] at h; exact h
  | ok l =>
    simp only [e, OR.bind] at h
    intro H2 e2
    refine ⟨F, N, Pf, ρ, (S.more R.ext).more e2, ?_⟩
    cases e' : fh ρ with
    | exc c => simp only [e', OR.bind] at h; exact fun H' cl od he hx => h H' cl od ((R.ext.trans e2).trans he) hx
    | stuck => simp only [e', OR.bind] at h; exact h
    | ok u =>
      simp only [e', OR.bind] at h
      intro H3 e3
      have ee := e2.trans e3
      unfold slR at h
      cases ed : data d with
      | none => rw [ed] at h; exact h.elim
      | some p =>
        rw [ed] at h
        have r := R.dat ed ee
        cases p with
        | list ps =>
          obtain ⟨a, xs, rfl, l1, s⟩ := r.ll
          exact .inl ⟨a, xs, rfl, l1.sq, fun p hp => h.mkL (R.ext.trans ee) (cutP_map s _ _) (one_nv R ee) hp⟩
        | tuple ps =>
          obtain ⟨a, xs, rfl, l1, s⟩ := r.sqt
          refine .inr (.inl ⟨a, xs, rfl, l1, fun w => ?_, fun w p hp => ?_⟩)
          · have e4 : cutP ps l u = ps := by
              unfold cutP
              rw [← s.len, w.1, w.2, List.drop_zero, Nat.sub_zero, s.len]
              exact List.take_length
            simp only [e4] at h
            exact h.mkT (R.ext.trans ee) l1 s (one_nv R ee)
          · have e3 : Ext H3 (upd H3 p (.tup (cutV xs l u))) := Ext.new hp
            exact h.mkT ((R.ext.trans ee).trans e3) (.inl (.inl upd_same)) ((cutP_map s _ _).ext e3 fun _ z => z) fun a z => ⟨(one_nv R ee a z).1, e3.ne (one_nv R ee a z).2⟩
        | str z =>
          obtain ⟨rfl, k⟩ := r.strok
          simp only at h
          split at h
          · rename_i hl
            exact .inr (.inr ⟨z, rfl, by simpa [SZ, sizeLine_eq] using hl, h.str (R.ext.trans ee) (strOk_cut k _ _)⟩)
          · exact h.elim
        | _ => exact h.elim

/-! ### displays -/
theorem hv_lst {es : List Expr} {fs : Env → List VT} (hl : es.length ≤ 1000) (ha : HVs X W es fs) : HV X W (.List es pos) fun ρ => vt ((seqR (fs ρ)).bind fun ds al => .ok (.ol ds) al) := by
  refine hv_plain (PE_imp (pe_lst (pa_of ha)) fun σ H Q h => ?_)
  refine tA_then h fun F N Pf ρ x d al H1 N1 P1 ee S R h => ?_
  have hx : x.length = es.length := ((Rps.len' R.rd).trans (seqR_len ee)).trans (ha.len ρ)
  refine ⟨by rw [hx, sizeLine_eq]; omega, fun p hp => ?_⟩
  have e2 : Ext H1 (upd H1 p (.lst x)) := Ext.new hp
  obtain ⟨I, Q', r, hi, hq, hd⟩ := R.rd
  refine h _ _ N1 (fun a => P1 a ∨ a = p) ⟨R.ext.trans e2, ⟨I, fun a => Q' a ∨ a = p, .ol (.inr rfl) upd_same (r.ext e2 (fun _ z => .inl z) (fun _ z => z) (fun _ z => z) fun _ z => z) (fun _ z => .inl z) ?_, fun a z => .inl (hi a z), fun a z => z.elim (fun z => .inl (hq a z)) .inr, fun a z w => ?_⟩, fun a z => ?_, fun a z => ?_⟩
  · exact fun z => (R.pv p (hq p z)).2 hp
  · rcases w with w | w
    · exact hd a z w
    · subst w; exact (R.pv _ (hi _ z)).2 hp
  · obtain ⟨q1, q2, q3⟩ := R.nv a z
    exact ⟨q1, e2.ne q2, fun w => w.elim q3 fun w => by subst w; exact q2 hp⟩
  · rcases z with z | z
    · exact ⟨(R.pv a z).1, e2.ne (R.pv a z).2⟩
    · subst z; exact ⟨R.ext.none hp, by rw [upd_same]; exact fun z => nomatch z⟩
theorem hv_tup {es : List Expr} {fs : Env → List VT} {k : Nat} (hl : es.length ≤ 1000) (ha : HVs X W es fs) : HV X W (.Tuple es k pos) fun ρ => vt ((seqR (fs ρ)).bind fun ds al => if ds.all isFz then (match datas ds with
    | some ps => mkT (isNews ds) ps al
    | none => .stuck) else .ok (.ot ds) al) := by
  refine hv_plain (PE_imp (pe_tup (pa_of ha)) fun σ H Q h => ?_)
  refine tA_then h fun F N Pf ρ x d al H1 N1 P1 ee S R h => ?_
  have hx : x.length = es.length := ((Rps.len' R.rd).trans (seqR_len ee)).trans (ha.len ρ)
  refine ⟨by rw [hx, sizeLine_eq]; omega, fun p hp => ?_⟩
  have e2 : Ext H1 (upd H1 p (.tup x)) := Ext.new hp
  split at h
  · cases ed : datas d with
    | none => rw [ed] at h; exact h.elim
    | some ps =>
      rw [ed] at h
      exact h.mkT (R.ext.trans e2) (.inl (.inl upd_same)) ((R.dat ed Ext.refl).ext e2 fun _ z => z) fun a z => ⟨(R.fresh a z).1, e2.ne (R.fresh a z).2⟩
  · obtain ⟨I, Q', r, hi, hq, hd⟩ := R.rd
    exact h _ _ N1 P1 ⟨R.ext.trans e2, ⟨I, Q', .ot (.inl (.inl upd_same)) (r.ext e2 (fun _ z => .inl z) (fun _ z => z) (fun _ z => z) fun _ z => z), hi, hq, hd⟩, fun a z => let ⟨q1, q2, q3⟩ := R.nv a z; ⟨q1, e2.ne q2, q3⟩, fun a z => ⟨(R.pv a z).1, e2.ne (R.pv a z).2⟩⟩
theorem hv_neg {a : Expr} {fa : Env → VT} (ha : HV X W a fa) : HV X W (.UnaryOp .USub a pos) fun ρ => vt ((fa ρ).e.bind fun x _ => dat x fun p => match p with
    | .int i => .ok (.v (.int (-i))) []
    | _ => .stuck) := by
  refine hv_plain (PE_imp (pe_un un_neg ha.e) fun σ H Q h => tE_one (r := rU fun i => .int (-i)) h ?_)
  intro F N Pf ρ x d al H1 N1 P1 S R h
  obtain ⟨p, e, h⟩ := h.dat
  have r := R.dat e Ext.refl
  cases p with
  | int i => cases r; exact ⟨i, rfl, h.int R.ext⟩
  | _ => exact h.elim
theorem hv_var {i : Nat} {x : Str} (hN : X.N[i]? = some x) (hv : Vis X.env.scope x) (hd : (x == ("__debug__" : Str)) = false) (hc : (x == ("__classdict__" : Str)) = false) : HV X W (.Name x pos) fun ρ => vt (varR i ρ) := hv_plain (he_var hN hv hd hc)
theorem hv_int {i : Int} {j : Nat} : HV X W (.Constant (.int i) j pos) fun _ => vt (.ok (.v (.int i)) []) := hv_plain (he_c pe_int fun _ => .int i)
theorem hv_bl {i : Bool} {j : Nat} : HV X W (.Constant (.bool i) j pos) fun _ => vt (.ok (.v (.bool i)) []) := hv_plain (he_c pe_bl fun _ => .bl i)
theorem hv_non {j : Nat} : HV X W (.Constant .none j pos) fun _ => vt (.ok (.v .none) []) := hv_plain (he_c pe_non fun _ => .non)
theorem hv_str {x : Str} {j : Nat} (k : PyData.strOk x = true) : HV X W (.Constant (.str x) j pos) fun _ => vt (.ok (.v (.str x)) []) := hv_plain (he_c pe_str fun _ => .str k)
theorem hv_glob {x : Str} {v : V} {u : Value} {p : PyData} (hg : Gl X x) (hm : X.mg x = some u) (r : RelV v u) (hd : (x == ("__debug__" : Str)) = false) (hp : ∀ H, Rp X.kw (fun _ => False) H v p) : HV X W (.Name x pos) fun _ => vt (.ok (.v p) []) := hv_plain (he_c (pe_glob hg hm r hd) hp)
theorem hv_bin {o : BOp} {a b : Expr} {fa fb : Env → VT} (ha : HV X W a fa) (hb : HV X W b fb) :
    HV X W (.BinOp a (bop o) b pos) fun ρ => vt ((fa ρ).e.bind fun x al => (fb ρ).e.bind fun y bl => dat2 x y (binP o (isNew x && isNew y) (al ++ bl))) := hv_plain (he_bin ha.e hb.e)
end
end Hv

/-! Hv, part 8m: a text's methods. -/
namespace Hv
open PySem PySem.Spec PyProof.Rows L2

def mtN : Mt → String
  | .join => "join"
  | .startswith => "startswith"
  | .endswith => "endswith"
  | .find => "find"
  | .count => "count"
  | .upper => "upper"
  | .lower => "lower"
  | .isdigit => "isdigit"
  | .isalpha => "isalpha"
  | .isupper => "isupper"
  | .islower => "islower"
  | .zfill => "zfill"
  | .strip => "strip"
  | .split => "split"
  | .partition => "partition"
def mtI : Mt → String
  | .join => "str.join"
  | .startswith => "str.startswith"
  | .endswith => "str.endswith"
  | .find => "str.find"
  | .count => "str.count"
  | .upper => "str.upper"
  | .lower => "str.lower"
  | .isdigit => "str.isdigit"
  | .isalpha => "str.isalpha"
  | .isupper => "str.isupper"
  | .islower => "str.islower"
  | .zfill => "str.zfill"
  | .strip => "str.strip"
  | .split => "str.split"
  | .partition => "str.partition"
theorem mt_slot (m : Mt) : Slot "str" (Str.ofString (mtN m)) (mtI m) := by
  cases m
  · exact F.slot_str_join
  · exact F.slot_str_startswith
  · exact F.slot_str_endswith
  · exact F.slot_str_find
  · exact F.slot_str_count
  · exact F.slot_str_upper
  · exact F.slot_str_lower
  · exact F.slot_str_isdigit
  · exact F.slot_str_isalpha
  · exact F.slot_str_isupper
  · exact F.slot_str_islower
  · exact F.slot_str_zfill
  · exact F.slot_str_strip
  · exact F.slot_str_split
  · exact F.slot_str_partition
theorem mt_ty (m : Mt) : typeOf (.builtin (mtI m)) = pure (.type "method_descriptor") := by
  cases m
  · exact F.type_str_join
  · exact F.type_str_startswith
  · exact F.type_str_endswith
  · exact F.type_str_find
  · exact F.type_str_count
  · exact F.type_str_upper
  · exact F.type_str_lower
  · exact F.type_str_isdigit
  · exact F.type_str_isalpha
  · exact F.type_str_isupper
  · exact F.type_str_islower
  · exact F.type_str_zfill
  · exact F.type_str_strip
  · exact F.type_str_split
  · exact F.type_str_partition
def rMt (K : PySem.W.Frag) : Mt → V → List V → Hp → VK → Prop
  | .join => fun x xs H Q => ∃ a p, ∃ ys : List Str, x = .str a ∧ xs = [.ref p] ∧ (SqL K H p (ys.map V.str) ∨ SqT K H p (ys.map V.str)) ∧
    (ys.map (·.length)).sum + ys.length * a.length ≤ 16777216 ∧ Q (.str (Txt.join a ys)) H
  | .startswith => fun x xs H Q => ∃ a b, x = .str a ∧ xs = [.str b] ∧ Q (.bl (Txt.startswith a b)) H
  | .endswith => fun x xs H Q => ∃ a b, x = .str a ∧ xs = [.str b] ∧ Q (.bl (Txt.endswith a b)) H
  | .find => fun x xs H Q => ∃ a b, x = .str a ∧ xs = [.str b] ∧ Q (.int (Txt.find a b)) H
  | .count => fun x xs H Q => ∃ a b, x = .str a ∧ xs = [.str b] ∧ Q (.int (Txt.count a b)) H
  | .upper => fun x xs H Q => ∃ a, x = .str a ∧ xs = [] ∧ a.length ≤ 5592405 ∧ Q (.str (Txt.upper a)) H
  | .lower => fun x xs H Q => ∃ a, x = .str a ∧ xs = [] ∧ a.length ≤ 5592405 ∧ Q (.str (Txt.lower a)) H
  | .isdigit => fun x xs H Q => ∃ a, x = .str a ∧ xs = [] ∧ True ∧ Q (.bl (Txt.isdigit a)) H
  | .isalpha => fun x xs H Q => ∃ a, x = .str a ∧ xs = [] ∧ True ∧ Q (.bl (Txt.isalpha a)) H
  | .isupper => fun x xs H Q => ∃ a, x = .str a ∧ xs = [] ∧ True ∧ Q (.bl (Txt.isupper a)) H
  | .islower => fun x xs H Q => ∃ a, x = .str a ∧ xs = [] ∧ True ∧ Q (.bl (Txt.islower a)) H
  | .zfill => fun x xs H Q => ∃ (a : Str) (i : Int), x = .str a ∧ xs = [.int i] ∧ PadOk i = true ∧ Q (.str (Txt.zfill a i)) H
  | .strip => fun x xs H Q => ∃ a, x = .str a ∧ xs = [] ∧ a.length ≤ sizeLine ∧ Q (.str (Txt.strip a)) H
  | .split => fun x xs H Q => ∃ a b, x = .str a ∧ xs = [.str b] ∧ (b.length == 0) = false ∧ a.length + 2 ≤ sizeLine ∧ rNewStrs (Txt.split a b) H Q
  | .partition => fun x xs H Q => ∃ a b, x = .str a ∧ xs = [.str b] ∧ (b.length == 0) = false ∧ a.length ≤ sizeLine ∧
    ∀ p, H p = none → Q (.ref p) (upd H p (.tup [.str (Txt.partition a b).1, .str (Txt.partition a b).2.1, .str (Txt.partition a b).2.2]))
theorem mt_all {X : Cx} (m : Mt) : MtR X (mtI m) (rMt X.K m) := by
  cases m
  · exact mt_join
  · exact mt_startswith
  · exact mt_endswith
  · exact mt_find
  · exact mt_count
  · exact mt_upper
  · exact mt_lower
  · exact mt_isdigit
  · exact mt_isalpha
  · exact mt_isupper
  · exact mt_islower
  · exact mt_zfill
  · exact mt_strip
  · exact mt_split
  · exact mt_partition
theorem strsOf_eq : ∀ {ps : List PyData} {ns : List Str}, strsOf ps = some ns → ps = ns.map .str
  | [], ns, h => by simp only [strsOf, Option.some.injEq] at h; subst h; rfl
  | .str i :: r, ns, h => by
    simp only [strsOf] at h
    cases e : strsOf r with
    | none => rw [e] at h; cases h
    | some q =>
      rw [e] at h
      simp only [Option.map_some, Option.some.injEq] at h
      subst h
      rw [strsOf_eq e]; rfl
  | .none :: _, _, h => by cases h
  | .bool _ :: _, _, h => by cases h
  | .int _ :: _, _, h => by cases h
  | .list _ :: _, _, h => by cases h
  | .tuple _ :: _, _, h => by cases h
  | .dict _ :: _, _, h => by cases h
section
variable {K : KW} {W : WX} {F N : AS} {Pf : Nat → AS} {σ : L2.St} {H H1 H2 : Hp} {Q : VK}
theorem PR.okS {x : Str} (h : PR K W F N Pf σ H Q (okS x)) (e : Ext H H1) : Q (.str x) H1 := by
  unfold Hv.okS at h
  split at h
  · rename_i c; exact h.str e c
  · exact h.elim
theorem mt_ok {m : Mt} {a : Str} {vs : List V} {ds : List D} {al : Al} {N1 P1 : AS} (R : Resl K F N Pf H1 al H2 N1 P1 vs ds) (ex : Ext H H1) (h : PR K W F N Pf σ H Q (mtR m a ds)) : rMt K.k m (.str a) vs H2 Q := by
  have e2 : Ext H H2 := ex.trans R.ext
  match ds, R, h with
  | [], R, h =>
    have hv : vs = [] := by
      have := Rps.len' R.rd
      cases vs with
      | nil => rfl
      | cons _ _ => simp at this
    subst hv
    have h : PR K W F N Pf σ H Q (mt0R m a) := h
    cases m with
    | upper =>
      simp only [mt0R] at h
      split at h
      · rename_i c; exact ⟨a, rfl, rfl, c, h.okS e2⟩
      · exact h.elim
    | lower =>
      simp only [mt0R] at h
      split at h
      · rename_i c; exact ⟨a, rfl, rfl, c, h.okS e2⟩
      · exact h.elim
    | strip =>
      simp only [mt0R] at h
      split at h
      · rename_i c; exact ⟨a, rfl, rfl, by simpa [SZ, sizeLine_eq] using c, h.okS e2⟩
      · exact h.elim
    | isdigit => exact ⟨a, rfl, rfl, trivial, PR.bool h e2⟩
    | isalpha => exact ⟨a, rfl, rfl, trivial, PR.bool h e2⟩
    | isupper => exact ⟨a, rfl, rfl, trivial, PR.bool h e2⟩
    | islower => exact ⟨a, rfl, rfl, trivial, PR.bool h e2⟩
    | _ => exact h.elim
  | [d], R, h =>
    cases ed : data d with
    | none => simp only [mtR, ed] at h; exact h.elim
    | some q =>
      simp only [mtR, ed] at h
      obtain ⟨x, rfl, r⟩ := R.one ed
      cases m with
      | join =>
        cases q with
        | list ps =>
          obtain ⟨p, xs, rfl, l, s⟩ := r.ll
          simp only [mt1R, joinR] at h
          split at h
          · rename_i zs hz
            have e3 := strsOf_eq hz
            subst e3
            have e4 := s.strs
            subst e4
            split at h
            · rename_i c; exact ⟨a, p, zs, rfl, rfl, .inl l.sq, c, h.okS e2⟩
            · exact h.elim
          · exact h.elim
        | tuple ps =>
          obtain ⟨p, xs, rfl, l, s⟩ := r.sqt
          simp only [mt1R, joinR] at h
          split at h
          · rename_i zs hz
            have e3 := strsOf_eq hz
            subst e3
            have e4 := s.strs
            subst e4
            split at h
            · rename_i c; exact ⟨a, p, zs, rfl, rfl, .inr l, c, h.okS e2⟩
            · exact h.elim
          · exact h.elim
        | _ => exact h.elim
      | startswith =>
        cases q with
        | str b => obtain ⟨rfl, k⟩ := r.strok; exact ⟨a, b, rfl, rfl, PR.bool h e2⟩
        | _ => exact h.elim
      | endswith =>
        cases q with
        | str b => obtain ⟨rfl, k⟩ := r.strok; exact ⟨a, b, rfl, rfl, PR.bool h e2⟩
        | _ => exact h.elim
      | find =>
        cases q with
        | str b => obtain ⟨rfl, k⟩ := r.strok; exact ⟨a, b, rfl, rfl, PR.int h e2⟩
        | _ => exact h.elim
      | count =>
        cases q with
        | str b => obtain ⟨rfl, k⟩ := r.strok; exact ⟨a, b, rfl, rfl, PR.int h e2⟩
        | _ => exact h.elim
      | zfill =>
        cases q with
        | int i =>
          cases r.int_eq
          simp only [mt1R] at h
          split at h
          · rename_i c; exact ⟨a, i, rfl, rfl, c, h.okS e2⟩
          · exact h.elim
        | _ => exact h.elim
      | split =>
        cases q with
        | str b =>
          obtain ⟨rfl, k⟩ := r.strok
          simp only [mt1R] at h
          split at h
          · rename_i c
            refine ⟨a, b, rfl, rfl, c.1, by simpa [SZ, sizeLine_eq] using c.2.1, fun p hp => ?_⟩
            have e4 : Ext H2 (upd H2 p (.lst ((Txt.split a b).map V.str))) := Ext.new hp
            refine h _ _ (fun _ => False) (fun a => a = p) ⟨e2.trans e4, .mk (RD.oL upd_same ((Rps.of_strs _ fun x hx => ?_)) rfl), fun _ z => z.elim, fun a z => ?_⟩
            · exact List.all_eq_true.mp c.2.2 x hx
            · subst z
              exact ⟨e2.none hp, by rw [upd_same]; exact fun z => nomatch z⟩
          · exact h.elim
        | _ => exact h.elim
      | partition =>
        cases q with
        | str b =>
          obtain ⟨rfl, k⟩ := r.strok
          simp only [mt1R] at h
          split at h
          · rename_i c
            refine ⟨a, b, rfl, rfl, c.1, by simpa [SZ, sizeLine_eq] using c.2.1, fun p hp => ?_⟩
            have e4 : Ext H2 (upd H2 p (.tup [.str (Txt.partition a b).1, .str (Txt.partition a b).2.1, .str (Txt.partition a b).2.2])) := Ext.new hp
            exact h.scal (S := fun _ => False) (e2.trans e4) (.tup (.inl (.inl upd_same)) (.cons (.str c.2.2.1) (.cons (.str c.2.2.2.1) (.cons (.str c.2.2.2.2) .nil)))) rfl
          · exact h.elim
        | _ => exact h.elim
      | _ => exact h.elim
  | _ :: _ :: _, _, h => exact h.elim
end
/-- no call of super -/
def notSup : Expr → Bool
  | .Call (.Name _ _) [] [] _ => false
  | _ => true
theorem base_of {o : Expr} (h : notSup o = true) (name : Str) (env : PySem.Env) (w : Sem Value) : attributeBase o name env w = w := by
  unfold attributeBase
  split
  · simp [notSup] at h
  · rfl
section
variable {X : Cx} {W : WX}
theorem strR_ok {K : KW} {F N : AS} {Pf : Nat → AS} {σ : L2.St} {H : Hp} {Q : VK} {d : D} {f : Str → R} (h : PR K W F N Pf σ H Q (strR d f)) : ∃ a, data d = some (.str a) ∧ PR K W F N Pf σ H Q (f a) := by
  unfold strR at h
  split at h
  · rename_i a e; exact ⟨a, e, h⟩
  · exact h.elim
theorem hv_mth0 {m : Mt} {o : Expr} {fo : Env → VT} {apos cpos : Pos} (ho : HV X W o fo) (hb : notSup o = true) (hl : (apos.endLine == cpos.line) = true) :
    HV X W (.Call (.Attribute o (Str.ofString (mtN m)) apos) [] [] cpos) fun ρ => vt ((fo ρ).e.bind fun x _ => strR x fun a => (seqR []).bind fun ds _ => mtR m a ds) := by
  refine hv_plain (PE_imp (pe_bm0 F.plainAttrs_str (mt_slot m) (mt_ty m) (mt_all m) ho.e (base_of hb _ _ _) hl) fun σ H Q h => ?_)
  show (tE X.kw W fun ρ => (fo ρ).e) σ H fun x H1 => tyV X.K "str" x H1 ∧ rMt X.K m x [] H1 Q
  refine tE_one (r := fun x H1 Q => tyV X.K "str" x H1 ∧ rMt X.K m x [] H1 Q) h fun F N Pf ρ x d al H1 N1 P1 S R h => ?_
  obtain ⟨a, ed, h⟩ := strR_ok h
  obtain ⟨rfl, k⟩ := (R.dat ed Ext.refl).strok
  exact ⟨rfl, mt_ok (al := []) Resl.nil R.ext h⟩
theorem hv_mth1 {m : Mt} {o e : Expr} {fo : Env → VT} {fs : Env → List VT} {apos cpos : Pos} (ho : HV X W o fo) (ha : HVs X W [e] fs) (hb : notSup o = true) (hl : (apos.endLine == cpos.line) = true) :
    HV X W (.Call (.Attribute o (Str.ofString (mtN m)) apos) [e] [] cpos) fun ρ => vt ((fo ρ).e.bind fun x _ => strR x fun a => (seqR (fs ρ)).bind fun ds _ => mtR m a ds) := by
  have hst : starEach [e] X.env = (false, eval e X.env) :: starEach [] X.env := by cases ha with | cons h _ => exact h.p.st _ _
  refine hv_plain (PE_imp (pe_bm F.plainAttrs_str (mt_slot m) (mt_ty m) (mt_all m) ho.e (pa_of ha) (base_of hb _ _ _) (by rw [hst]; rfl) hl hst rfl) fun σ H Q h => ?_)
  show (tE X.kw W fun ρ => (fo ρ).e) σ H fun x H1 => tyV X.K "str" x H1 ∧ (tA X.kw W fun ρ => seqR (fs ρ)) σ H1 fun xs H2 => rMt X.K m x xs H2 Q
  obtain ⟨F, N, Pf, ρ, S, h⟩ := h
  refine ⟨F, N, Pf, ρ, S, ?_⟩
  have h : PR X.kw W F N Pf σ H Q ((fo ρ).e.bind fun x _ => strR x fun a => (seqR (fs ρ)).bind fun ds _ => mtR m a ds) := h
  show PR X.kw W F N Pf σ H _ (fo ρ).e
  cases e1 : (fo ρ).e with
  | ok d al =>
    simp only [R.bind, e1] at h
    intro x H1 N1 P1 R
    obtain ⟨a, ed, h⟩ := strR_ok h
    obtain ⟨rfl, k⟩ := (R.dat ed Ext.refl).strok
    refine ⟨rfl, F, N, Pf, ρ, S.more R.ext, ?_⟩
    show PL X.kw W F N Pf σ H1 _ (seqR (fs ρ))
    cases e2 : seqR (fs ρ) with
    | ok ds bl =>
      intro y H2 N2 P2 R2
      simp only [e2, Rl.bind] at h
      exact mt_ok R2 R.ext h
    | exc c =>
      simp only [e2, Rl.bind] at h
      intro H' cl od he hx
      exact h H' cl od (R.ext.trans he) hx
    | stuck => simp only [e2, Rl.bind] at h; exact h
  | exc c => simp only [R.bind, e1] at h; exact h
  | stuck => simp only [R.bind, e1] at h; exact h
end
end Hv

/-! Hv, part 9: what loops go over; comprehensions. -/
namespace Hv
open PySem PySem.Spec PyProof.Rows L2

/-- at turn i the i-th item, then the end; whatever changes within Z -/
def Walks (K : KW) (S Z : AS) (H0 : Hp) (J : It) (ps : List PyData) : Prop := ∀ i H, Kp Z H0 H →
  (∀ p, ps[i]? = some p → J.go i H ∧ ∀ x H', J.yld i H x H' → Ext H H' ∧ Rp K S H' x p) ∧ (ps.length ≤ i → J.stop i H)
/-- what may change meanwhile: nothing of S, no tuple -/
def Far (S Z : AS) (H0 : Hp) : Prop := (∀ a, S a → ¬ Z a) ∧ ∀ b ys, Z b → ¬ Rd H0 b (.tup ys)
section
variable {K : KW} {S Z : AS} {H0 : Hp}
theorem LL.kp {a : Addr} {xs : List V} {H : Hp} (h : LL K.k H0 a xs) (e : Kp Z H0 H) (z : (∃ xs', Rd H0 a (.lst xs')) → ¬ Z a) : LL K.k H a xs := by
  rcases h with h | h
  · exact .inl (Rd.kp h e (z ⟨_, h⟩))
  · exact .inr h
/-- a list that lies in S, or is written -/
theorem Rp.llS {a : V} {H : Hp} {ds : List PyData} (h : Rp K S H a (.list ds)) : ∃ p xs, a = .ref p ∧ ((S p ∧ Rd H p (.lst xs)) ∨ LitL K.k p xs) ∧ Rps K S H xs ds := by
  cases h with
  | lst s r q => exact ⟨_, _, rfl, .inl ⟨s, r⟩, q⟩
  | lsk l q => exact ⟨_, _, rfl, .inr l, q⟩
theorem Rd.inj {H : Hp} {a : Addr} {u v : HO} (h : Rd H a u) (h' : Rd H a v) : (∃ o, u = .frz o v) ∨ (∃ o, v = .frz o u) ∨ u = v := by
  rcases h with h | ⟨o, h⟩ <;> rcases h' with h' | ⟨o', h'⟩ <;> (rw [h] at h'; injection h' with h')
  · exact .inr (.inr h')
  · exact .inl ⟨_, h'⟩
  · exact .inr (.inl ⟨_, h'.symm⟩)
  · injection h' with h1 h2; exact .inr (.inr h2)
theorem walks_list {x : V} {ps : List PyData} (h : Rp K S H0 x (.list ps)) : ∃ a xs, x = .ref a ∧ SqL K.k H0 a xs ∧ xs.length = ps.length ∧ ∀ Z, Far S Z H0 → Walks K S Z H0 (Itl K.k a) ps := by
  obtain ⟨a, xs, rfl, l, q⟩ := h.llS
  have l0 : LL K.k H0 a xs := l.elim (fun z => .inl z.2) .inr
  refine ⟨a, xs, rfl, l0.sq, q.len, fun Z hz i H e => ?_⟩
  have l1 : LL K.k H a xs := l.elim (fun z => .inl (Rd.kp z.2 e (hz.1 a z.1))) .inr
  have q1 : Rps K S H xs ps := q.kp e (fun _ z => z) hz.1 hz.2
  refine ⟨fun p hp => ?_, fun hl => ⟨xs, l1.sq, by rw [q.len]; exact hl⟩⟩
  obtain ⟨y, e1, r⟩ := q1.get hp
  refine ⟨⟨xs, y, l1.sq, e1⟩, fun x H' hy => ?_⟩
  obtain ⟨rfl, f⟩ := hy
  have e2 := f xs l1.sq
  rw [e1] at e2
  injection e2 with e2
  subst e2
  exact ⟨Ext.refl, r⟩
theorem walks_tuple {x : V} {ps : List PyData} (h : Rp K S H0 x (.tuple ps)) : ∃ a xs, x = .ref a ∧ SqT K.k H0 a xs ∧ xs.length = ps.length ∧ ∀ Z, Far S Z H0 → Walks K S Z H0 (Itt K.k a) ps := by
  obtain ⟨a, xs, rfl, l, q⟩ := h.sqt
  refine ⟨a, xs, rfl, l, q.len, fun Z hz i H e => ?_⟩
  have l1 : SqT K.k H a xs := SqT.kp l e hz.2
  have q1 : Rps K S H xs ps := q.kp e (fun _ z => z) hz.1 hz.2
  refine ⟨fun p hp => ?_, fun hl => ⟨xs, l1, by rw [q.len]; exact hl⟩⟩
  obtain ⟨y, e1, r⟩ := q1.get hp
  refine ⟨⟨xs, y, l1, e1⟩, fun x H' hy => ?_⟩
  obtain ⟨rfl, f⟩ := hy
  have e2 := f xs l1
  rw [e1] at e2
  injection e2 with e2
  subst e2
  exact ⟨Ext.refl, r⟩
theorem walks_str {z : Str} (k : PyData.strOk z = true) : Walks K S Z H0 (Its z) (z.cps.toList.map fun c => .str ⟨#[c]⟩) := by
  intro i H e
  refine ⟨fun p hp => ?_, fun hl => ?_⟩
  · rw [List.getElem?_map] at hp
    cases e1 : z.cps.toList[i]? with
    | none => rw [e1] at hp; cases hp
    | some c =>
      rw [e1] at hp
      injection hp with hp
      subst hp
      have hi : i < z.cps.size := by
        have := (List.getElem?_eq_some_iff.mp e1).1
        simpa using this
      refine ⟨hi, fun x H' hy => ?_⟩
      obtain ⟨rfl, d, hd, rfl⟩ := hy
      have : c = d := by
        have h2 : z.cps.toList[i]? = z.cps[i]? := by simp
        rw [h2, hd] at e1
        exact (Option.some.inj e1).symm
      subst this
      exact ⟨Ext.refl, .str (strOk_one k (List.mem_of_getElem? e1))⟩
  · show z.cps.size ≤ i
    simpa using hl
theorem walks_range {lo : Int} {n : Nat} : Walks K S Z H0 (Itr lo n) (((List.range n).map fun (k : Nat) => lo + k).map .int) := by
  intro i H e
  refine ⟨fun p hp => ?_, fun hl => ?_⟩
  · rw [List.getElem?_map, List.getElem?_map] at hp
    cases e1 : (List.range n)[i]? with
    | none => rw [e1] at hp; cases hp
    | some c =>
      rw [e1] at hp
      injection hp with hp
      subst hp
      obtain ⟨h1, h2⟩ := List.getElem?_eq_some_iff.mp e1
      rw [List.getElem_range] at h2
      subst h2
      rw [List.length_range] at h1
      refine ⟨h1, fun x H' hy => ?_⟩
      obtain ⟨rfl, rfl⟩ := hy
      exact ⟨Ext.refl, .int _⟩
  · show n ≤ i
    simpa using hl
theorem walks_enum {x : V} {ps : List PyData} (h : Rp K S H0 x (.list ps)) : ∃ a xs, x = .ref a ∧ SqL K.k H0 a xs ∧ xs.length = ps.length ∧ ∀ Z, Far S Z H0 → Walks K S Z H0 (Ite K.k a) (enumP ps) := by
  obtain ⟨a, xs, rfl, l, q⟩ := h.llS
  have l0 : LL K.k H0 a xs := l.elim (fun z => .inl z.2) .inr
  refine ⟨a, xs, rfl, l0.sq, q.len, fun Z hz i H e => ?_⟩
  have l1 : LL K.k H a xs := l.elim (fun z => .inl (Rd.kp z.2 e (hz.1 a z.1))) .inr
  have q1 : Rps K S H xs ps := q.kp e (fun _ z => z) hz.1 hz.2
  have hlen : (enumP ps).length = ps.length := by unfold enumP; simp
  refine ⟨fun p hp => ?_, fun hl => ⟨xs, l1.sq, by rw [q.len, ← hlen]; exact hl⟩⟩
  unfold enumP at hp
  rw [List.getElem?_mapIdx] at hp
  cases e0 : ps[i]? with
  | none => rw [e0] at hp; cases hp
  | some p0 =>
    rw [e0] at hp
    injection hp with hp
    subst hp
    obtain ⟨y, e1, r⟩ := q1.get e0
    refine ⟨⟨xs, y, l1.sq, e1⟩, fun x H' hy => ?_⟩
    obtain ⟨T, x', rfl, hT, rfl, f⟩ := hy
    have e2 := f xs l1.sq
    rw [e1] at e2
    injection e2 with e2
    subst e2
    have e3 : Ext H (upd H T (.tup [.int i, y])) := Ext.new hT
    exact ⟨e3, .tup (.inl (.inl upd_same)) (.cons (.int _) (.cons (r.ext e3 fun _ z => z) .nil))⟩
end

section
variable {K : KW} {S Z : AS} {H0 : Hp}
theorem zipP_get {ps qs : List PyData} {i : Nat} {p : PyData} (h : (zipP ps qs)[i]? = some p) : ∃ a b, ps[i]? = some a ∧ qs[i]? = some b ∧ p = .tuple [a, b] := by
  unfold zipP at h
  rw [List.getElem?_zipWith] at h
  cases e1 : ps[i]? with
  | none => rw [e1] at h; cases h
  | some a =>
    cases e2 : qs[i]? with
    | none => rw [e1, e2] at h; cases h
    | some b =>
      rw [e1, e2] at h
      injection h with h
      exact ⟨a, b, rfl, rfl, h.symm⟩
theorem walks_zip {x y : V} {ps qs : List PyData} (h : Rp K S H0 x (.list ps)) (h' : Rp K S H0 y (.list qs)) : ∃ a b xs ys, x = .ref a ∧ y = .ref b ∧ SqL K.k H0 a xs ∧ SqL K.k H0 b ys ∧ xs.length = ps.length ∧ ∀ Z, Far S Z H0 → Walks K S Z H0 (Itz K.k a b) (zipP ps qs) := by
  obtain ⟨a, xs, rfl, l, q⟩ := h.llS
  obtain ⟨b, ys, rfl, l', q'⟩ := h'.llS
  have l0 : LL K.k H0 a xs := l.elim (fun z => .inl z.2) .inr
  have l0' : LL K.k H0 b ys := l'.elim (fun z => .inl z.2) .inr
  refine ⟨a, b, xs, ys, rfl, rfl, l0.sq, l0'.sq, q.len, fun Z hz i H e => ?_⟩
  have l1 : LL K.k H a xs := l.elim (fun z => .inl (Rd.kp z.2 e (hz.1 a z.1))) .inr
  have l1' : LL K.k H b ys := l'.elim (fun z => .inl (Rd.kp z.2 e (hz.1 b z.1))) .inr
  have q1 : Rps K S H xs ps := q.kp e (fun _ z => z) hz.1 hz.2
  have q1' : Rps K S H ys qs := q'.kp e (fun _ z => z) hz.1 hz.2
  refine ⟨fun p hp => ?_, fun hl => ⟨xs, ys, l1.sq, l1'.sq, ?_⟩⟩
  · obtain ⟨p1, p2, g1, g2, rfl⟩ := zipP_get hp
    obtain ⟨y1, e1, r1⟩ := q1.get g1
    obtain ⟨y2, e2, r2⟩ := q1'.get g2
    refine ⟨⟨xs, ys, y1, y2, l1.sq, l1'.sq, e1, e2⟩, fun x H' hy => ?_⟩
    obtain ⟨T, u1, u2, rfl, hT, rfl, f1, f2⟩ := hy
    have e3 := f1 xs l1.sq
    have e4 := f2 ys l1'.sq
    rw [e1] at e3
    rw [e2] at e4
    injection e3 with e3
    injection e4 with e4
    subst e3 e4
    have e5 : Ext H (upd H T (.tup [y1, y2])) := Ext.new hT
    exact ⟨e5, .tup (.inl (.inl upd_same)) (.cons (r1.ext e5 fun _ z => z) (.cons (r2.ext e5 fun _ z => z) .nil))⟩
  · unfold zipP at hl
    rw [List.length_zipWith] at hl
    rw [q.len, q'.len]
    omega
end

/-! ### the iterables -/
theorem PI_or {X : Cx} {tg e : Expr} {t t' : TI} (h : PI X tg e t) (h' : PI X tg e t') : PI X tg e (fun σ H R => t σ H R ∨ t' σ H R) :=
  ⟨fun pins s σ H R I q => q.elim (h.run pins s σ H R I) (h'.run pins s σ H R I)⟩
theorem PI_imp {X : Cx} {tg e : Expr} {t t' : TI} (h : PI X tg e t) (i : ∀ σ H R, t' σ H R → t σ H R) : PI X tg e t' :=
  ⟨fun pins s σ H R I q => h.run pins s σ H R I (i σ H R q)⟩
/-- what is owed where an iterable's parts have come -/
def PW' (K : KW) (W : WX) (F N : AS) (Pf : Nat → AS) (σ : L2.St) (H : Hp) (R : It → Hp → Prop) (k : Sk) (r : Rl) : Prop := match r with
  | .ok ds al => match itemsR k ds al with
    | some (ps, b, _) => ∀ xs H1 Nv Pv J, Resl K F N Pf H al H1 Nv Pv xs ds → ps.length ≤ sizeLine → (∀ Z, Far (SB b F (S1 N Pf al fun a => Nv a ∨ Pv a)) Z H1 → Walks K (SB b F (S1 N Pf al fun a => Nv a ∨ Pv a)) Z H1 J ps) → R J H1
    | none => False
  | .exc c => ∀ H' cl od, Ext H H' → ExcV K.k c cl od → W cl od σ H'
  | .stuck => False
def tI (K : KW) (W : WX) (k : Sk) (f : Env → Rl) : TI := fun σ H R => ∃ F N Pf ρ, StE K F N Pf H σ ρ ∧ PW' K W F N Pf σ H R k (f ρ)
section
variable {X : Cx} {W : WX} {pos : Pos} {tg : Expr}
theorem Res.toL {K : KW} {F N : AS} {Pf : Nat → AS} {H H1 : Hp} {al : Al} {Nv Pv : AS} {x : V} {d : D} (R : Res K F N Pf H al H1 Nv Pv x d) : Resl K F N Pf H al H1 Nv Pv [x] [d] := by
  refine ⟨R.ext, ?_, R.nv, R.pv⟩
  obtain ⟨I, Q, r, hi, hq, hd⟩ := R.rd
  exact ⟨I, Q, .cons (P2 := fun _ => False) r .nil (fun _ z => z) (fun _ z => z.elim) fun _ _ z => z, hi, hq, hd⟩
theorem isNews_one {d : D} : isNews [d] = isNew d := by simp [isNews]
theorem hi_seq {e : Expr} {f : Env → VT} (h : HV X W e f) : PI X tg e (tI X.kw W .seq fun ρ => seqR [f ρ]) := by
  refine PI_imp (PI_or (pi_list (PE_wf h.e)) (PI_or (pi_tup (PE_wf h.e)) (pi_str h.e))) fun σ H RR ⟨F, N, Pf, ρ, S, q⟩ => ?_
  have q : PW' X.kw W F N Pf σ H RR .seq ((f ρ).e.bindL fun d al => .ok [d] (al ++ [])) := q
  cases e1 : (f ρ).e with
  | exc c =>
    simp only [e1, R.bindL] at q
    refine .inr (.inr ⟨F, N, Pf, ρ, S, ?_⟩)
    try dsimp only
    rw [e1]
    exact q
  | stuck => simp only [e1, R.bindL] at q; exact q.elim
  | ok d al =>
    simp only [e1, R.bindL, List.append_nil, PW', itemsR] at q
    unfold elems at q
    cases e2 : data d with
    | none => rw [e2] at q; exact q.elim
    | some p =>
      rw [e2] at q
      cases p with
      | list ps =>
        refine .inl fun wf => ⟨F, N, Pf, ρ, S, ?_⟩
        try dsimp only
        rw [e1]
        intro x H1 N1 P1 R1 wf1
        have r := R1.dat e2 Ext.refl
        obtain ⟨a, xs, rfl, l, hl, w⟩ := walks_list r
        refine ⟨a, rfl, ⟨xs, l⟩, q _ H1 N1 P1 _ R1.toL ?_ w⟩
        rw [← hl]
        rcases l with l | ⟨o, its, n, _, _, _, _, hz, v⟩
        · exact wf1.1 a xs l
        · rw [v.length]; simpa using hz
      | tuple ps =>
        refine .inr (.inl fun wf => ⟨F, N, Pf, ρ, S, ?_⟩)
        try dsimp only
        rw [e1]
        intro x H1 N1 P1 R1 wf1
        have r := R1.dat e2 Ext.refl
        obtain ⟨a, xs, rfl, l, hl, w⟩ := walks_tuple r
        refine ⟨a, rfl, ⟨xs, l⟩, q _ H1 N1 P1 _ R1.toL ?_ w⟩
        rw [← hl]
        rcases l with l | ⟨o, its, n, _, _, _, hz, v⟩
        · exact wf1.2 a xs l
        · rw [v.length]; simpa using hz
      | str z =>
        refine .inr (.inr ⟨F, N, Pf, ρ, S, ?_⟩)
        try dsimp only
        rw [e1]
        intro x H1 N1 P1 R1
        obtain ⟨rfl, k⟩ := (R1.dat e2 Ext.refl).strok
        simp only at q
        split at q
        · rename_i ps b al2 e3
          split at e3
          · rename_i hl
            simp only [Option.some.injEq, Prod.mk.injEq] at e3
            obtain ⟨rfl, rfl, rfl⟩ := e3
            refine ⟨z, rfl, q _ H1 N1 P1 _ R1.toL (by rw [List.length_map, sizeLine_eq, Array.length_toList]; exact hl) fun Z _ => walks_str k⟩
          · cases e3
        · exact q.elim
      | _ => exact q.elim
theorem rgI_eq (a b : Int) : (rgI a b).map PyData.int = ((List.range (b - a).toNat).map fun (k : Nat) => a + k).map .int := rfl
theorem rgOk_iff {a b : Int} (h : rgOk a b = true) : (-(2 ^ 62) ≤ a ∧ a < 2 ^ 62 ∧ -(2 ^ 62) ≤ b ∧ b < 2 ^ 62) ∧ b - a ≤ 16777216 := by
  unfold rgOk at h
  simp only [Bool.and_eq_true, decide_eq_true_eq] at h
  have e : (2 : Int) ^ 62 = 4611686018427387904 := by decide
  rw [e]
  omega
theorem rg_len (a b : Int) : ((rgI a b).map PyData.int).length = (b - a).toNat := by unfold rgI; simp
theorem tI_then {σ : L2.St} {H : Hp} {RR : It → Hp → Prop} {k : Sk} {fs : Env → Rl} (h : tI X.kw W k fs σ H RR) {r : List V → Hp → Prop}
    (hr : ∀ (F N : AS) (Pf : Nat → AS) (ρ : Env) (xs : List V) (ds : List D) (al : Al) (ps : List PyData) (b : Bool) (al2 : Al) (H1 : Hp) (N1 P1 : AS), fs ρ = .ok ds al → itemsR k ds al = some (ps, b, al2) → Resl X.kw F N Pf H al H1 N1 P1 xs ds →
      (∀ J, ps.length ≤ sizeLine → (∀ Z, Far (SB b F (S1 N Pf al fun a => N1 a ∨ P1 a)) Z H1 → Walks X.kw (SB b F (S1 N Pf al fun a => N1 a ∨ P1 a)) Z H1 J ps) → RR J H1) → r xs H1) : tA X.kw W fs σ H r := by
  obtain ⟨F, N, Pf, ρ, S, q⟩ := h
  refine ⟨F, N, Pf, ρ, S, ?_⟩
  cases e : fs ρ with
  | exc c => rw [e] at q; exact q
  | stuck => rw [e] at q; exact q
  | ok ds al =>
    rw [e] at q
    intro xs H1 N1 P1 R1
    simp only [PW'] at q
    cases e2 : itemsR k ds al with
    | none => rw [e2] at q; exact q.elim
    | some w =>
      obtain ⟨ps, b, al2⟩ := w
      rw [e2] at q
      exact hr _ _ _ _ _ _ _ _ _ _ _ _ _ e e2 R1 fun J => q xs H1 N1 P1 J R1
theorem hi_range1 {e : Expr} {fs : Env → List VT} {p : Pos} (hg : Gl X "range") (hm : X.mg "range" = none) (ha : HVs X W [e] fs) : PI X tg (.Call (.Name "range" p) [e] [] pos) (tI X.kw W .range fun ρ => seqR (fs ρ)) := by
  have hst : starEach [e] X.env = [(false, eval e X.env)] := by cases ha with | cons h _ => exact h.p.st _ _
  refine PI_imp (pi_range1 hg hm (pa_of ha) hst) fun σ H RR h => tI_then h ?_
  intro F N Pf ρ xs ds al ps b al2 H1 N1 P1 e0 e1 R1 q
  have hlen := (seqR_len e0).trans (ha.len ρ)
  simp only [itemsR] at e1
  match ds, e1, R1, hlen with
  | [d], e1, R1, _ =>
    simp only at e1
    split at e1
    · rename_i j e2
      obtain ⟨x, rfl, r⟩ := R1.one e2
      cases r
      split at e1
      · rename_i c
        simp only [Option.some.injEq, Prod.mk.injEq] at e1
        obtain ⟨rfl, rfl, rfl⟩ := e1
        obtain ⟨⟨_, _, c1, c2⟩, c3⟩ := rgOk_iff c
        refine ⟨j, rfl, c1, c2, q _ (by rw [rg_len, sizeLine_eq]; omega) fun Z _ => ?_⟩
        have := walks_range (K := X.kw) (S := SB true F (S1 N Pf al fun a => N1 a ∨ P1 a)) (Z := Z) (H0 := H1) (lo := 0) (n := j.toNat)
        rw [rgI_eq, Int.sub_zero]
        exact this
      · cases e1
    · cases e1
  | [d, d2], e1, R1, hlen => simp at hlen
theorem hi_range2 {e e' : Expr} {fs : Env → List VT} {p : Pos} (hg : Gl X "range") (hm : X.mg "range" = none) (ha : HVs X W [e, e'] fs) : PI X tg (.Call (.Name "range" p) [e, e'] [] pos) (tI X.kw W .range fun ρ => seqR (fs ρ)) := by
  have hst : starEach [e, e'] X.env = [(false, eval e X.env), (false, eval e' X.env)] := by
    cases ha with
    | cons h t => cases t with
      | cons h2 t2 => rw [h.p.st, h2.p.st]; rfl
  have hst2 : starEach [e'] X.env = [(false, eval e' X.env)] := by
    cases ha with
    | cons h t => cases t with
      | cons h2 t2 => rw [h2.p.st]; rfl
  refine PI_imp (pi_range2 hg hm (pa_of ha) hst hst2) fun σ H RR h => tI_then h ?_
  intro F N Pf ρ xs ds al ps b al2 H1 N1 P1 e0 e1 R1 q
  have hlen := (seqR_len e0).trans (ha.len ρ)
  simp only [itemsR] at e1
  match ds, e1, R1, hlen with
  | [d], e1, R1, hlen => simp at hlen
  | [d, d2], e1, R1, hlen =>
    simp only at e1
    split at e1
    · rename_i i e2
      split at e1
      · rename_i j e3
        obtain ⟨x, y, S', rfl, r, r'⟩ := R1.two e2 e3
        cases r; cases r'
        split at e1
        · rename_i c
          simp only [Option.some.injEq, Prod.mk.injEq] at e1
          obtain ⟨rfl, rfl, rfl⟩ := e1
          obtain ⟨c1, c3⟩ := rgOk_iff c
          refine ⟨i, j, rfl, c1, q _ (by rw [rg_len, sizeLine_eq]; omega) fun Z _ => ?_⟩
          rw [rgI_eq]
          exact walks_range
        · cases e1
      · cases e1
    · cases e1
theorem PA_wf {es : List Expr} {t : TA} (h : PA X es t) : PA X es (fun σ H Q => Wf H → t σ H fun x H' => Wf H' → Q x H') :=
  ⟨fun pos pins s σ H Q I q => thn (h.run pos pins s σ H _ I (q (wf_of I))) fun u s' ⟨x, H', I', r, k⟩ => ⟨x, H', I', r, k (wf_of I')⟩⟩
theorem hi_enum {e : Expr} {fs : Env → List VT} {p tpos : Pos} {elts : List Expr} {kk : Nat} (hg : Gl X "enumerate") (hm : X.mg "enumerate" = none) (ha : HVs X W [e] fs) :
    PI X (.Tuple elts kk tpos) (.Call (.Name "enumerate" p) [e] [] pos) (tI X.kw W .enum fun ρ => seqR (fs ρ)) := by
  have hst : starEach [e] X.env = [(false, eval e X.env)] := by cases ha with | cons h _ => exact h.p.st _ _
  refine PI_imp (pi_enum hg hm (PA_wf (pa_of ha)) hst) fun σ H RR h wf => tI_then h ?_
  intro F N Pf ρ xs ds al ps b al2 H1 N1 P1 e0 e1 R1 q wf1
  simp only [itemsR] at e1
  have hlen := (seqR_len e0).trans (ha.len ρ)
  match ds, e1, R1, hlen with
  | [d], e1, R1, _ =>
    simp only at e1
    split at e1
    · rename_i ps0 e2
      unfold elems at e1
      rw [e2] at e1
      simp only [Option.map_some, Option.some.injEq, Prod.mk.injEq] at e1
      obtain ⟨rfl, rfl, _⟩ := e1
      obtain ⟨x, rfl, r⟩ := R1.one e2
      obtain ⟨a, xs, rfl, l, hl, w⟩ := walks_enum r
      refine ⟨a, xs, rfl, l, q _ ?_ w⟩
      have : (enumP ps0).length = ps0.length := by unfold enumP; simp
      rw [this, ← hl]
      rcases l with l | ⟨o, its, n, _, _, _, _, hz, v⟩
      · exact wf1.1 a xs l
      · rw [v.length]; simpa using hz
    · cases e1
theorem Resl.twoS {K : KW} {F N : AS} {Pf : Nat → AS} {H H1 : Hp} {al : Al} {Nv Pv : AS} {vs : List V} {d e : D} {p q : PyData} (R : Resl K F N Pf H al H1 Nv Pv vs [d, e]) (e1 : data d = some p) (e2 : data e = some q) :
    ∃ x y, vs = [x, y] ∧ Rp K (SB (isNews [d, e]) F (S1 N Pf al fun a => Nv a ∨ Pv a)) H1 x p ∧ Rp K (SB (isNews [d, e]) F (S1 N Pf al fun a => Nv a ∨ Pv a)) H1 y q := by
  have r := R.dat (p := [p, q]) (by simp [datas, e1, e2]) Ext.refl
  cases r with
  | cons a t =>
    cases t with
    | cons b t =>
      cases t
      exact ⟨_, _, rfl, a, b⟩
theorem zip_al {K : KW} {b : Bool} {F N A : AS} {Pf : Nat → AS} {al : Al} {H : Hp} {J : It} {Z : AS} {ps qs : List PyData} (hp : mutDs ps = false) (hq : mutDs qs = false) (w : Walks K (SB b F (S1 N Pf al A)) Z H J (zipP ps qs)) : Walks K (SB b F (S1 N Pf al A)) Z H J (zipP ps qs) := w
theorem hi_zip {e e2 : Expr} {fs : Env → List VT} {p tpos : Pos} {elts : List Expr} {kk : Nat} (hg : Gl X "zip") (hm : X.mg "zip" = none) (ha : HVs X W [e, e2] fs) :
    PI X (.Tuple elts kk tpos) (.Call (.Name "zip" p) [e, e2] [] pos) (tI X.kw W .zip fun ρ => seqR (fs ρ)) := by
  have hst : starEach [e, e2] X.env = (false, eval e X.env) :: starEach [e2] X.env := by cases ha with | cons h _ => exact h.p.st _ _
  have hst2 : (backTo pos (starEach [e2] X.env)).any (·.1) = false := by
    cases ha with
    | cons h t => cases t with
      | cons h2 t2 => rw [h2.p.st]; rfl
  refine PI_imp (RZ.pi_zipA hg hm (PA_wf (pa_of ha)) hst hst2) fun σ H RR h wf => tI_then h ?_
  intro F N Pf ρ xs ds al ps b al2 H1 N1 P1 e0 e1 R1 q wf1
  simp only [itemsR] at e1
  have hlen := (seqR_len e0).trans (ha.len ρ)
  match ds, e1, R1, hlen with
  | [d], e1, R1, hlen => simp at hlen
  | [d, d2], e1, R1, _ =>
    simp only at e1
    split at e1
    · rename_i ps0 e2
      split at e1
      · rename_i qs0 e3
        split at e1
        · cases e1
        · rename_i hmu
          simp only [Option.some.injEq, Prod.mk.injEq] at e1
          obtain ⟨rfl, rfl, rfl⟩ := e1
          obtain ⟨x, y, rfl, r, r'⟩ := R1.twoS e2 e3
          obtain ⟨a, b, xs, ys, rfl, rfl, l, l', hl, w⟩ := walks_zip r r'
          refine ⟨a, b, xs, ys, rfl, .inl ⟨l, l', q _ ?_ w⟩⟩
          have : (zipP ps0 qs0).length ≤ ps0.length := by
            unfold zipP
            rw [List.length_zipWith]
            omega
          refine Nat.le_trans this ?_
          rw [← hl]
          rcases l with l | ⟨o, its, n, _, _, _, _, hz, v⟩
          · exact wf1.1 a xs l
          · rw [v.length]; simpa using hz
      · cases e1
    · cases e1
end
end Hv

/-! Hv, part 10: targets; comprehensions. -/
namespace Hv
open PySem PySem.Spec PyProof.Rows L2

def tgs : Tg → List Nat
  | .name i => [i]
  | .tup is => is
def gList : List Nat → TGs
  | [] => gNil
  | i :: is => gCons (gName i) (gList is)
def gT (K : PySem.W.Frag) : Tg → TG
  | .name i => gName i
  | .tup is => fun v σ H Q => gTup K is.length (gList is) v σ H Q ∨ gLst K is.length (gList is) v σ H Q

section
variable {K : KW} {F N : AS} {Pf : Nat → AS} {H : Hp} {σ : L2.St} {ρ ρ' : Env}
theorem StE.set {i : Nat} {x : V} {d : D} {P : AS} (S : StE K F N Pf H σ ρ) (r : RW K F N H P x d) (tp : ∀ a, P a → H a ≠ none) : StE K F N (fun j a => (j = i ∧ P a) ∨ (j ≠ i ∧ Pf j a)) H (σ.set i (some x)) (ρ.set i (some d)) where
  len := by rw [List.length_set, List.length_set]; exact S.len
  rep := fun j e h => by
    by_cases hj : i = j
    · subst hj
      have hi : i < ρ.length := by
        have := (List.getElem?_eq_some_iff.mp h).1
        simpa using this
      rw [List.getElem?_set_self hi] at h
      injection h with h; injection h with h
      subst h
      refine ⟨x, by rw [List.getElem?_set_self (by rw [S.len]; exact hi)], ?_⟩
      exact r.ext Ext.refl (fun _ z => .inl z) (fun _ z => z) fun a z => .inl ⟨rfl, z⟩
    · rw [List.getElem?_set_ne hj] at h
      obtain ⟨y, e1, r1⟩ := S.rep j e h
      exact ⟨y, by rw [List.getElem?_set_ne hj]; exact e1, r1.ext Ext.refl (fun _ z => .inl z) (fun _ z => z) fun a z => .inr ⟨Ne.symm hj, z⟩⟩
  tF := S.tF
  tN := S.tN
  tP := fun j a z => z.elim (fun z => tp a z.2) fun z => S.tP j a z.2
theorem wipe_set {i : Nat} {o : Option V} : ∀ {vs : List Nat}, i ∈ vs → wipe (σ.set i o) vs = wipe σ vs
  | v :: vs, h => by
    unfold wipe
    by_cases hi : i ∈ vs
    · rw [wipe_set hi]
    · rcases List.mem_cons.mp h with rfl | h
      · have : ∀ (vs : List Nat) (τ : L2.St), i ∉ vs → wipe (τ.set i o) vs = (wipe τ vs).set i o := by
          intro vs
          induction vs with
          | nil => intro τ _; rfl
          | cons w ws ih =>
            intro τ hn
            unfold wipe
            rw [ih τ fun z => hn (List.mem_cons_of_mem _ z), List.set_comm]
            exact fun z => hn (by rw [z]; exact List.mem_cons_self)
        rw [this vs σ hi, List.set_set]
      · exact absurd h hi
theorem wipe_wipe : ∀ {vs : List Nat}, wipe (wipe σ vs) vs = wipe σ vs := by
  intro vs
  have : ∀ (ws : List Nat), (∀ v ∈ ws, v ∈ vs) → wipe (wipe σ ws) vs = wipe σ vs := by
    intro ws
    induction ws with
    | nil => intro _; rfl
    | cons w ws ih =>
      intro h
      show wipe ((wipe σ ws).set w none) vs = _
      rw [wipe_set (h w List.mem_cons_self), ih fun v hv => h v (List.mem_cons_of_mem _ hv)]
  exact this vs fun _ h => h
theorem StE.wipe (S : StE K F N Pf H σ ρ) : ∀ (vs : List Nat), StE K F N Pf H (L2.wipe σ vs) (wipeE ρ vs)
  | [] => S
  | v :: vs => by
    have ih := S.wipe vs
    unfold L2.wipe wipeE
    refine ⟨by rw [List.length_set, List.length_set]; exact ih.len, fun j d h => ?_, ih.tF, ih.tN, ih.tP⟩
    by_cases hj : v = j
    · subst hj
      have hi : v < (wipeE ρ vs).length := by
        have := (List.getElem?_eq_some_iff.mp h).1
        simpa using this
      rw [List.getElem?_set_self hi] at h
      cases h
    · rw [List.getElem?_set_ne hj] at h ⊢
      exact ih.rep j d h
theorem gList_ok {b : Bool} : ∀ {is : List Nat} {ps : List PyData} {xs : List V} {σ : L2.St} {ρ : Env} {Pf : Nat → AS} {Q : L2.St → Hp → Prop}, StE K F N Pf H σ ρ → Rps K (SB b F N) H xs ps → setTs b is ps ρ = some ρ' →
    (∀ σ' Pf', (∀ j a, Pf' j a → Pf j a) → StE K F N Pf' H σ' ρ' → (∀ vs, (∀ i ∈ is, i ∈ vs) → wipe σ' vs = wipe σ vs) → (∀ j, j ∉ is → σ'[j]? = σ[j]?) → Q σ' H) → gList is xs σ H Q
  | [], [], _, σ, ρ, Pf, Q, S, .nil, e, q => by
    injection e with e
    subst e
    exact ⟨rfl, q σ Pf (fun _ _ z => z) S (fun _ _ => rfl) fun _ _ => rfl⟩
  | i :: is, p :: ps, _, σ, ρ, Pf, Q, S, .cons (x := x) (xs := xs) h t, e, q => by
    have e : setTs b is ps (ρ.set i (some (fz b p))) = some ρ' := e
    refine ⟨x, xs, rfl, ?_⟩
    refine gList_ok (S.set (i := i) (.mk (RD.fz (P := fun _ => False) h)) fun _ z => z.elim) t e fun σ' Pf' hp S' hw hn => q σ' Pf' (fun j a z => ?_) S' (fun vs hv => ?_) fun j hj => ?_
    · rcases hp j a z with ⟨_, z⟩ | ⟨_, z⟩
      · exact z.elim
      · exact z
    · rw [hw vs fun j hj => hv j (List.mem_cons_of_mem _ hj), wipe_set (hv i List.mem_cons_self)]
    · rw [hn j fun z => hj (List.mem_cons_of_mem _ z), List.getElem?_set_ne fun z => hj (by rw [← z]; exact List.mem_cons_self)]
  | [], _ :: _, _, _, _, _, _, _, _, e, _ => by cases e
  | _ :: _, [], _, _, _, _, _, _, _, e, _ => by cases e
theorem setTs_len {b : Bool} : ∀ {is : List Nat} {ps : List PyData} {ρ : Env}, setTs b is ps ρ = some ρ' → ps.length = is.length
  | [], [], _, _ => rfl
  | i :: is, p :: ps, ρ, e => by
    have e : setTs b is ps (ρ.set i (some (fz b p))) = some ρ' := e
    rw [List.length_cons, List.length_cons, setTs_len e]
  | [], _ :: _, _, e => by cases e
  | _ :: _, [], _, e => by cases e
/-- an item into its target -/
theorem gT_ok {t : Tg} {b : Bool} {p : PyData} {x : V} {Q : L2.St → Hp → Prop} (S : StE K F N Pf H σ ρ) (r : Rp K (SB b F N) H x p) (e : setT t b p ρ = some ρ')
    (q : ∀ σ' Pf', (∀ j a, Pf' j a → Pf j a) → StE K F N Pf' H σ' ρ' → (∀ vs, (∀ i ∈ tgs t, i ∈ vs) → wipe σ' vs = wipe σ vs) → (∀ j, j ∉ tgs t → σ'[j]? = σ[j]?) → Q σ' H) : gT K.k t x σ H Q := by
  cases t with
  | name i =>
    have e : some (ρ.set i (some (fz b p))) = some ρ' := e
    injection e with e
    subst e
    refine q (σ.set i (some x)) _ ?_ (S.set (i := i) (.mk (RD.fz (P := fun _ => False) r)) fun _ z => z.elim) (fun vs hv => wipe_set (hv i (by simp [tgs]))) fun j hj => List.getElem?_set_ne fun z => hj (by simp [tgs, z])
    rintro j a (⟨_, z⟩ | ⟨_, z⟩)
    · exact z.elim
    · exact z
  | tup is =>
    cases p with
    | tuple ps =>
      have e : setTs b is ps ρ = some ρ' := e
      obtain ⟨a, xs, rfl, l, s⟩ := r.sqt
      exact .inl ⟨a, xs, rfl, l, by rw [s.len, setTs_len e], gList_ok S s e q⟩
    | list ps =>
      have e : setTs b is ps ρ = some ρ' := e
      obtain ⟨a, xs, rfl, l, s⟩ := r.ll
      exact .inr ⟨a, xs, rfl, l.sq, by rw [s.len, setTs_len e], gList_ok S s e q⟩
    | _ => cases e
theorem RDs.append {I : AS} : ∀ {xs ys : List V} {ds es : List D} {P1 P2 : AS}, RDs K F N I H P1 xs ds → RDs K F N I H P2 ys es → (∀ a, P1 a → ¬ P2 a) → RDs K F N I H (fun a => P1 a ∨ P2 a) (xs ++ ys) (ds ++ es)
  | _, _, _, _, _, _, .nil, q, _ => q.ext Ext.refl (fun _ z => .inl z) (fun _ z => z) (fun _ z => z) fun _ z => .inr z
  | _, _, _, _, P1, P2, .cons (P1 := A) (P2 := B) h t a b c, q, d =>
    .cons (P1 := A) (P2 := fun x => B x ∨ P2 x) h (RDs.append t q fun x z => d x (b x z)) (fun x z => .inl (a x z)) (fun x z => z.elim (fun z => .inl (b x z)) .inr) fun x z w => w.elim (c x z) (d x (a x z))
theorem RWs.snoc {xs : List V} {ds : List D} {y : V} {d : D} {P1 P2 : AS} (h : RWs K F N H P1 xs ds) (q : RW K F N H P2 y d) (dj : ∀ a, P1 a → ¬ P2 a) : RWs K F N H (fun a => P1 a ∨ P2 a) (xs ++ [y]) (ds ++ [d]) := by
  obtain ⟨I1, Q1, r1, i1, q1, d1⟩ := h
  obtain ⟨I2, Q2, r2, i2, q2, d2⟩ := q
  have s2 : RDs K F N I2 H Q2 [y] [d] := .cons (P2 := fun _ => False) r2 .nil (fun _ z => z) (fun _ z => z.elim) fun _ _ z => z
  refine ⟨fun a => I1 a ∨ I2 a, fun a => Q1 a ∨ Q2 a, RDs.append (r1.ext Ext.refl (fun _ z => .inl z) (fun _ z => z) (fun _ z => .inl z) fun _ z => z) (s2.ext Ext.refl (fun _ z => .inl z) (fun _ z => z) (fun _ z => .inr z) fun _ z => z) (fun a z w => dj a (q1 a z) (q2 a w)),
    fun a z => z.elim (fun z => .inl (i1 a z)) fun z => .inr (i2 a z), fun a z => z.elim (fun z => .inl (q1 a z)) fun z => .inr (q2 a z), fun a z w => ?_⟩
  rcases z with z | z <;> rcases w with w | w
  · exact d1 a z w
  · exact dj a (i1 a z) (q2 a w)
  · exact dj a (q1 a w) (i2 a z)
  · exact d2 a z w
theorem RDs.plain {I F' N' I' : AS} {H' : Hp} (ex : Ext H H') : ∀ {xs : List V} {ds : List D} {P : AS}, RDs K F N I H P xs ds → ds.all plainD = true → RDs K F' N' I' H' (fun _ => False) xs ds
  | _, _, _, .nil, _ => .nil
  | _, _, _, .cons h t a b c, e => by
    simp only [List.all_cons, Bool.and_eq_true] at e
    refine .cons (P1 := fun _ => False) ?_ (RDs.plain ex t e.2) (fun _ z => z) (fun _ z => z) fun _ z => z.elim
    cases h with
    | v r => exact .v ((r.imm (S' := fun _ => False) (by simpa [plainD] using e.1)).ext ex fun _ z => z.elim)
    | _ => simp [plainD] at e
theorem mutDs_map_enum : ∀ (ps : List PyData) (f : Nat → Nat), mutDs (ps.mapIdx fun k p => .tuple [.int (f k : Nat), p]) = mutDs ps
  | [], _ => rfl
  | p :: ps, f => by
    rw [List.mapIdx_cons]
    simp only [mutDs, mutD, Bool.or_false, Bool.false_or]
    rw [mutDs_map_enum ps fun k => f (k + 1)]
theorem mutDs_enum (ps : List PyData) : mutDs (enumP ps) = mutDs ps := mutDs_map_enum ps id
theorem mutDs_ints : ∀ ns : List Int, mutDs (ns.map .int) = false
  | [] => rfl
  | n :: ns => by simp [mutDs, mutD, mutDs_ints ns]
theorem elems_al {d : D} {al al2 : Al} {ps : List PyData} {b : Bool} (h : elems d al = some (ps, b, al2)) (m : mutDs ps = true) : al2 = al := by
  unfold elems at h
  split at h
  · simp only [Option.some.injEq, Prod.mk.injEq] at h
    obtain ⟨rfl, _, h⟩ := h
    rw [← h, if_pos m]
  · simp only [Option.some.injEq, Prod.mk.injEq] at h
    obtain ⟨rfl, _, h⟩ := h
    rw [← h, if_pos m]
  · split at h
    · simp only [Option.some.injEq, Prod.mk.injEq] at h
      obtain ⟨rfl, _, _⟩ := h
      exfalso
      have : ∀ l : List Nat, mutDs (l.map fun c => PyData.str ⟨#[c]⟩) = false := by
        intro l
        induction l with
        | nil => rfl
        | cons a l ih => simp [mutDs, mutD, ih]
      rw [this] at m
      cases m
    · cases h
  · cases h
theorem mutDs_zip : ∀ {ps qs : List PyData}, mutDs ps = false → mutDs qs = false → mutDs (zipP ps qs) = false
  | [], _, _, _ => by simp [zipP, mutDs]
  | _ :: _, [], _, _ => by simp [zipP, mutDs]
  | p :: ps, q :: qs, h, h' => by
    simp only [mutDs, Bool.or_eq_false_iff] at h h'
    have := mutDs_zip h.2 h'.2
    simp only [zipP, List.zipWith_cons_cons, mutDs, mutD, h.1, h'.1, Bool.or_self, Bool.false_or] at this ⊢
    exact this
theorem itemsR_al {k : Sk} {ds : List D} {al al2 : Al} {ps : List PyData} {b : Bool} (h : itemsR k ds al = some (ps, b, al2)) (m : mutDs ps = true) : al2 = al := by
  cases k with
  | seq =>
    match ds, h with
    | [d], h => exact elems_al h m
  | range =>
    match ds, h with
    | [d], h =>
      simp only [itemsR] at h
      split at h
      · split at h
        · simp only [Option.some.injEq, Prod.mk.injEq] at h
          obtain ⟨rfl, _⟩ := h
          rw [mutDs_ints] at m
          cases m
        · cases h
      · cases h
    | [d, e], h =>
      simp only [itemsR] at h
      split at h
      · split at h
        · split at h
          · simp only [Option.some.injEq, Prod.mk.injEq] at h
            obtain ⟨rfl, _⟩ := h
            rw [mutDs_ints] at m
            cases m
          · cases h
        · cases h
      · cases h
  | enum =>
    match ds, h with
    | [d], h =>
      simp only [itemsR] at h
      split at h
      · cases e : elems d al with
        | none => rw [e] at h; cases h
        | some w =>
          obtain ⟨ps0, b0, al0⟩ := w
          rw [e] at h
          simp only [Option.map_some, Option.some.injEq, Prod.mk.injEq] at h
          obtain ⟨rfl, _, rfl⟩ := h
          rw [mutDs_enum] at m
          exact elems_al e m
      · cases h
  | rev => cases h
  | zip =>
    match ds, h with
    | [d, e], h =>
      simp only [itemsR] at h
      split at h
      · split at h
        · split at h
          · cases h
          · rename_i hm
            simp only [Option.some.injEq, Prod.mk.injEq] at h
            obtain ⟨rfl, _⟩ := h
            simp only [Bool.or_eq_true, not_or, Bool.not_eq_true] at hm
            rw [mutDs_zip hm.1 hm.2] at m
            cases m
        · cases h
      · cases h
  | items => cases h
end
end Hv

/-! Hv, part 11: list comprehensions. -/
namespace Hv
open PySem PySem.Spec PyProof.Rows L2

section
variable {K : KW} {F N N' F' : AS} {Pf : Nat → AS} {H H1 : Hp} {σ : L2.St} {ρ ρ' : Env}
theorem StE.moreN (S : StE K F N Pf H σ ρ) (h : ∀ a, N a → N' a) (t : ∀ a, N' a → H a ≠ none) : StE K F N' Pf H σ ρ where
  len := S.len
  rep := fun i d e => let ⟨x, e1, r⟩ := S.rep i d e; ⟨x, e1, r.ext Ext.refl (fun _ z => .inl z) h fun _ z => z⟩
  tF := S.tF
  tN := t
  tP := S.tP
theorem mutDs_mem {p : PyData} : ∀ {ps : List PyData}, p ∈ ps → mutDs ps = false → mutD p = false
  | q :: qs, h, m => by
    simp only [mutDs, Bool.or_eq_false_iff] at m
    rcases List.mem_cons.mp h with rfl | h
    · exact m.1
    · exact mutDs_mem h m.2
/-- an item, by the set that it may really lie in -/
theorem item_al {k : Sk} {ds : List D} {al al2 : Al} {ps : List PyData} {b : Bool} {p : PyData} {A : AS} {x : V} (h : itemsR k ds al = some (ps, b, al2)) (hp : p ∈ ps) (r : Rp K (SB b F (S1 N Pf al A)) H x p) : Rp K (SB b F (S1 N Pf al2 A)) H x p := by
  cases m : mutDs ps with
  | true => rw [itemsR_al h m]; exact r
  | false => exact r.imm (mutDs_mem hp m)
end
def WN : WX := fun _ _ _ _ => False
section
variable {X : Cx} {W : WX} {pos : Pos}
theorem RWs.kp {K : KW} {F N F' N' Z P P' : AS} {H H' : Hp} {x : List V} {d : List D} (h : RWs K F N H P x d) (e : Kp Z H H') (hF : ∀ a, F a → F' a ∨ N' a) (hN : ∀ a, N a → N' a) (zF : ∀ a, F a → ¬ Z a) (zN : ∀ a, N a → ¬ Z a) (ht : ∀ b ys, Z b → ¬ Rd H b (.tup ys)) (hP : ∀ a, P a → P' a) (zP : ∀ a, P a → ¬ Z a) : RWs K F' N' H' P' x d :=
  let ⟨I, Q, r, hi, hq, hd⟩ := h
  ⟨I, Q, r.kp e hF hN (fun _ z => z) zF zN (fun a z => zP a (hi a z)) ht (fun _ z => z) fun a z => zP a (hq a z), fun a z => hP a (hi a z), fun a z => hP a (hq a z), hd⟩
/-- a comprehension's turns -/
def lcV (k : Sk) (b : Bool) (own : List Nat) (tg : Tg) (cd : Env → TR) (el : Env → R) (ds : List D) (al : Al) (ρ : Env) : R := match itemsR k ds al with
  | some (ps, b, al) => match lcR (fun p => setT tg b p (wipeE ρ own)) cd el ps with
    | .ok ds bl => .ok (.ol ds) (if ds.all plainD then [] else al ++ bl)
    | _ => .stuck
  | none => .stuck
theorem lcR_step {st : PyData → Option Env} {cd : Env → TR} {el : Env → R} {p : PyData} {ps : List PyData} {ds : List D} {bl : Al} (h : lcR st cd el (p :: ps) = .ok ds bl) : ∃ ρ, st p = some ρ ∧ ((cd ρ = .ok true ∧ ∃ d al ds' bl', el ρ = .ok d al ∧ lcR st cd el ps = .ok ds' bl' ∧ ds = d :: ds' ∧ bl = al ++ bl') ∨ (cd ρ = .ok false ∧ lcR st cd el ps = .ok ds bl)) := by
  unfold lcR at h
  cases e : st p with
  | none => rw [e] at h; cases h
  | some ρ =>
    rw [e] at h
    refine ⟨ρ, rfl, ?_⟩
    simp only at h
    cases e2 : cd ρ with
    | ok b =>
      rw [e2] at h
      cases b with
      | true =>
        simp only at h
        cases e3 : el ρ with
        | ok d al =>
          rw [e3] at h
          simp only at h
          cases e4 : lcR st cd el ps with
          | ok ds' bl' =>
            rw [e4] at h
            simp only [Rl.ok.injEq] at h
            exact .inl ⟨rfl, d, al, ds', bl', rfl, rfl, h.1.symm, h.2.symm⟩
          | exc c => rw [e4] at h; cases h
          | stuck => rw [e4] at h; cases h
        | exc c => rw [e3] at h; cases h
        | stuck => rw [e3] at h; cases h
      | false => exact .inr ⟨rfl, h⟩
    | exc c => rw [e2] at h; cases h
    | stuck => rw [e2] at h; cases h
/-- what is known of the new list between two turns -/
structure LcI (K : KW) (F N : AS) (Pf : Nat → AS) (H0 H1 : Hp) (L : Addr) (A : AS) (al2 : Al) (st : PyData → Option Env) (cd : Env → TR) (el : Env → R) (ps : List PyData) (ds : List D) (bl : Al) (i : Nat) (H : Hp) (acc : List V) (dsA dsR : List D) (blA blR : Al) (Na Pa : AS) : Prop where
  ext : Ext H1 H
  hac : H L = some (.lst acc)
  rest : lcR st cd el (ps.drop i) = .ok dsR blR
  ds : dsA ++ dsR = ds
  bl : blA ++ blR = bl
  len : acc.length ≤ i
  rw : RWs K F (S1 N Pf (al2 ++ blA) Na) H Pa acc dsA
  sub : ∀ a, A a → Na a
  nv : ∀ a, Na a → H0 a = none ∧ H a ≠ none ∧ ¬ Pa a ∧ a ≠ L
  pv : ∀ a, Pa a → H0 a = none ∧ H a ≠ none ∧ a ≠ L
theorem lc_run {F N : AS} {Pf : Nat → AS} {σ : L2.St} {H0 H1 : Hp} {ρ : Env} {Q : VK} {k : Sk} {ds0 : List D} {al al2 : Al} {ps : List PyData} {b : Bool} {N1 P1 : AS} {xs : List V} {J : It} {tg : Tg} {own : List Nat} {cd : Env → TR} {el : Env → R} {ds : List D} {bl : Al}
    (S : StE X.kw F N Pf H0 σ ρ) (R1 : Resl X.kw F N Pf H0 al H1 N1 P1 xs ds0) (e1 : itemsR k ds0 al = some (ps, b, al2)) (hl : ps.length ≤ sizeLine)
    (w : ∀ Z, Far (SB b F (S1 N Pf al fun a => N1 a ∨ P1 a)) Z H1 → Walks X.kw (SB b F (S1 N Pf al fun a => N1 a ∨ P1 a)) Z H1 J ps)
    (hw : ∀ i ∈ tgs tg, i ∈ own) (e2 : lcR (fun p => setT tg b p (wipeE ρ own)) cd el ps = .ok ds bl)
    (h : PR X.kw W F N Pf σ H0 Q (.ok (.ol ds) (if ds.all plainD then [] else al2 ++ bl))) (L : Addr) (hL : H1 L = none) :
    ∃ W : Nat → Nat → Hp → Prop, (∃ m, W 0 m (upd H1 L (.lst []))) ∧ ∀ i m H, W i m H →
      (J.stop i H ∧ Q (.ref L) H) ∨ (J.go i H ∧ ∃ Nx : Hp → Prop, (∀ H', Nx H' → ∃ m', m' < m ∧ W (i + 1) m' H') ∧ ∀ x H', J.yld i H x H' → gT X.K tg x (wipe σ own) H' fun σ2 H2 => wipe σ2 own = wipe σ own ∧ tT X.kw WN cd σ2 H2 fun b H3 =>
        if b = true then tE X.kw WN el σ2 H3 fun y H4 => ∃ acc, H4 L = some (.lst acc) ∧ acc.length < sizeLine ∧ Nx (upd H4 L (.lst (acc ++ [y]))) else Nx H3) := by
  generalize hst : (fun p => setT tg b p (wipeE ρ own)) = st at e2
  refine ⟨fun i m H => m = ps.length - i ∧ i ≤ ps.length ∧ ∃ acc dsA dsR blA blR Na Pa, LcI X.kw F N Pf H0 H1 L (fun a => N1 a ∨ P1 a) al2 st cd el ps ds bl i H acc dsA dsR blA blR Na Pa, ⟨_, rfl, Nat.zero_le _, [], [], ds, [], bl, fun a => N1 a ∨ P1 a, fun _ => False, Ext.new hL, upd_same, e2, rfl, rfl, Nat.le_refl _, ⟨fun _ => False, fun _ => False, .nil, fun _ z => z, fun _ z => z, fun _ z => z.elim⟩, fun _ z => z, fun a z => ?_, fun _ z => z.elim⟩, ?_⟩
  · have q : H0 a = none ∧ H1 a ≠ none := z.elim (fun z => ⟨(R1.nv a z).1, (R1.nv a z).2.1⟩) fun z => R1.pv a z
    refine ⟨q.1, (Ext.new hL).ne q.2, fun z => z, fun z => ?_⟩
    subst z
    exact q.2 hL
  rintro i m H ⟨rfl, hi, acc, dsA, dsR, blA, blR, Na, Pa, I⟩
  have far : Far (SB b F (S1 N Pf al fun a => N1 a ∨ P1 a)) (fun _ => False) H1 := ⟨fun _ _ z => z, fun _ _ z => z.elim⟩
  obtain ⟨wgo, wstop⟩ := w _ far i H I.ext.kp
  have e0 : Ext H0 H := R1.ext.trans I.ext
  have tF : ∀ a, F a → a ≠ L := fun a z e => by subst e; exact R1.ext.ne (S.tF a z) hL
  have tN : ∀ a, N a → a ≠ L := fun a z e => by subst e; exact R1.ext.ne (S.tN a z) hL
  have tP : ∀ i a, Pf i a → a ≠ L := fun i a z e => by subst e; exact R1.ext.ne (S.tP i a z) hL
  by_cases hlt : i < ps.length
  · have hd : ps.drop i = ps[i] :: ps.drop (i + 1) := List.drop_eq_getElem_cons hlt
    have hp : ps[i]? = some ps[i] := by simp [hlt]
    obtain ⟨go, yld⟩ := wgo _ hp
    have hmem : ps[i] ∈ ps := List.getElem_mem hlt
    generalize ps[i] = p at hd hp yld hmem
    refine .inr ⟨go, fun H' => i + 1 ≤ ps.length ∧ ∃ acc dsA dsR blA blR Na Pa, LcI X.kw F N Pf H0 H1 L (fun a => N1 a ∨ P1 a) al2 st cd el ps ds bl (i + 1) H' acc dsA dsR blA blR Na Pa, fun H' z => ⟨_, by omega, rfl, z⟩, fun x H2 hy => ?_⟩
    obtain ⟨ex, r⟩ := yld x H2 hy
    have r := item_al e1 hmem r
    have hrest := I.rest
    rw [hd] at hrest
    obtain ⟨ρ', hst', alt⟩ := lcR_step hrest
    have e02 : Ext H0 H2 := e0.trans ex
    -- the state
    have S2 : StE X.kw F (S1 N Pf al2 fun a => N1 a ∨ P1 a) Pf H2 (wipe σ own) (wipeE ρ own) := ((S.wipe own).more e02).moreN (fun a z => .inl z) fun a z => by
      rcases z with z | ⟨j, _, z⟩ | z
      · exact e02.ne (S.tN a z)
      · exact e02.ne (S.tP j a z)
      · exact (I.ext.trans ex).ne (z.elim (fun z => (R1.nv a z).2.1) fun z => (R1.pv a z).2)
    have hst' : setT tg b p (wipeE ρ own) = some ρ' := by rw [← hst] at hst'; exact hst'
    refine gT_ok (K := X.kw) S2 r hst' fun σ3 Pf' hpf S3 hwp _ => ⟨(hwp own hw).trans wipe_wipe, ?_⟩
    have I' : ∀ H3, Ext H H3 → H3 L = some (.lst acc) ∧ RWs X.kw F (S1 N Pf (al2 ++ blA) Na) H3 Pa acc dsA := fun H3 e => ⟨e _ _ I.hac, I.rw.ext e (fun _ z => .inl z) (fun _ z => z) fun _ z => z⟩
    refine ⟨F, _, Pf', ρ', S3, ?_⟩
    rcases alt with ⟨c1, d, ald, ds', bl', c2, c3, c4, c5⟩ | ⟨c1, c3⟩
    · rw [c1]
      intro H3 ex3
      simp only [if_true]
      refine ⟨F, _, Pf', ρ', S3.more ex3, ?_⟩
      try dsimp only
      rw [c2]
      intro y H4 Nv Pv R4
      have exH : Ext H H4 := ex.trans (ex3.trans R4.ext)
      obtain ⟨a1, a2⟩ := I' H4 exH
      refine ⟨acc, a1, by have := I.len; omega, hlt, acc ++ [y], dsA ++ [d], ds', blA ++ ald, bl', fun a => Na a ∨ Nv a, fun a => Pa a ∨ Pv a, ?_, upd_same, c3, ?_, ?_, ?_, ?_, fun a z => .inl (I.sub a z), ?_, ?_⟩
      · intro a o e
        have hne : a ≠ L := fun z => by subst z; rw [hL] at e; cases e
        rw [upd_ne hne]
        exact exH _ _ (I.ext _ _ e)
      · rw [← I.ds, c4]; simp
      · rw [← I.bl, c5]; simp
      · rw [List.length_append]
        show acc.length + 1 ≤ i + 1
        exact Nat.succ_le_succ I.len
      · have kp : Kp (fun a => a = L) H4 (upd H4 L (.lst (acc ++ [y]))) := fun a o hz e => by rw [upd_ne hz]; exact e
        have nt : ∀ b ys, b = L → ¬ Rd H4 b (.tup ys) := fun b ys hb z => by
          subst hb
          rcases z with z | ⟨o, z⟩ <;> (rw [a1] at z; cases z)
        have fr : ∀ a, Nv a ∨ Pv a → a ≠ L ∧ H a = none := fun a z => by
          have : H3 a = none := z.elim (fun z => (R4.nv a z).1) fun z => (R4.pv a z).1
          have h3 : H a = none := (ex.trans ex3).none this
          exact ⟨fun z => (by subst z; rw [I.hac] at h3; cases h3), h3⟩
        have q1 : RWs X.kw F (S1 N Pf (al2 ++ (blA ++ ald)) fun a => Na a ∨ Nv a) (upd H4 L (.lst (acc ++ [y]))) Pa acc dsA := by
          refine a2.kp kp (fun _ z => .inl z) (fun a z => ?_) (fun a z => tF a z) (fun a z => ?_) nt (fun _ z => z) fun a z => (I.pv a z).2.2
          · rcases z with z | ⟨j, m, z⟩ | z
            · exact .inl z
            · refine .inr (.inl ⟨j, ?_, z⟩)
              simp only [List.mem_append] at m ⊢
              rcases m with m | m
              · exact .inl m
              · exact .inr (.inl m)
            · exact .inr (.inr (.inl z))
          · rcases z with z | ⟨j, m, z⟩ | z
            · exact tN a z
            · exact tP j a z
            · exact (I.nv a z).2.2.2
        have q2 : RW X.kw F (S1 N Pf (al2 ++ (blA ++ ald)) fun a => Na a ∨ Nv a) (upd H4 L (.lst (acc ++ [y]))) Pv y d := by
          refine R4.rd.kp kp (fun _ z => .inl z) (fun a z => ?_) (fun a z => tF a z) (fun a z => ?_) nt (fun _ z => z) fun a z => (fr a (.inr z)).1
          · rcases z with (z | ⟨j, m, z⟩ | z) | ⟨j, m, z⟩ | z
            · exact .inl z
            · exact .inr (.inl ⟨j, List.mem_append_left _ m, z⟩)
            · exact .inr (.inr (.inl (I.sub a z)))
            · exact .inr (.inl ⟨j, List.mem_append_right _ (List.mem_append_right _ m), hpf j a z⟩)
            · exact .inr (.inr (.inr z))
          · rcases z with (z | ⟨j, m, z⟩ | z) | ⟨j, m, z⟩ | z
            · exact tN a z
            · exact tP j a z
            · exact (I.nv a (I.sub a z)).2.2.2
            · exact tP j a (hpf j a z)
            · exact (fr a (.inl z)).1
        refine RWs.snoc q1 q2 fun a z w => (I.pv a z).2.1 (fr a (.inr w)).2
      · have fr : ∀ a, Nv a ∨ Pv a → a ≠ L ∧ H a = none := fun a z => by
          have : H3 a = none := z.elim (fun z => (R4.nv a z).1) fun z => (R4.pv a z).1
          have h3 : H a = none := (ex.trans ex3).none this
          exact ⟨fun z => (by subst z; rw [I.hac] at h3; cases h3), h3⟩
        intro a z
        rcases z with z | z
        · obtain ⟨n1, n2, n3, n4⟩ := I.nv a z
          refine ⟨n1, by rw [upd_ne n4]; exact exH.ne n2, fun w => w.elim n3 fun w => n2 (fr a (.inr w)).2, n4⟩
        · obtain ⟨n1, n2⟩ := fr a (.inl z)
          refine ⟨e0.none n2, by rw [upd_ne n1]; exact (R4.nv a z).2.1, fun w => w.elim (fun w => (I.pv a w).2.1 n2) (R4.nv a z).2.2, n1⟩
      · have fr : ∀ a, Nv a ∨ Pv a → a ≠ L ∧ H a = none := fun a z => by
          have : H3 a = none := z.elim (fun z => (R4.nv a z).1) fun z => (R4.pv a z).1
          have h3 : H a = none := (ex.trans ex3).none this
          exact ⟨fun z => (by subst z; rw [I.hac] at h3; cases h3), h3⟩
        intro a z
        rcases z with z | z
        · obtain ⟨n1, n2, n4⟩ := I.pv a z
          exact ⟨n1, by rw [upd_ne n4]; exact exH.ne n2, n4⟩
        · obtain ⟨n1, n2⟩ := fr a (.inr z)
          exact ⟨e0.none n2, by rw [upd_ne n1]; exact (R4.pv a z).2, n1⟩
    · rw [c1]
      intro H3 ex3
      have exH : Ext H H3 := ex.trans ex3
      obtain ⟨a1, a2⟩ := I' H3 exH
      simp only [Bool.false_eq_true, if_false]
      refine ⟨hlt, acc, dsA, dsR, blA, blR, Na, Pa, I.ext.trans exH, a1, c3, I.ds, I.bl, Nat.le_succ_of_le I.len, a2, I.sub, fun a z => ?_, fun a z => ?_⟩
      · obtain ⟨n1, n2, n3, n4⟩ := I.nv a z
        exact ⟨n1, exH.ne n2, n3, n4⟩
      · obtain ⟨n1, n2, n4⟩ := I.pv a z
        exact ⟨n1, exH.ne n2, n4⟩
  · have e : i = ps.length := by omega
    subst e
    have hrest := I.rest
    rw [List.drop_length] at hrest
    injection hrest with h1 h2
    have hds := I.ds
    have hbl := I.bl
    subst h1 h2
    rw [List.append_nil] at hds hbl
    subst hds hbl
    refine .inl ⟨wstop (Nat.le_refl _), ?_⟩
    have hL0 : H0 L = none := R1.ext.none hL
    have hLH : H L ≠ none := by rw [I.hac]; exact nofun
    obtain ⟨Ii, Qq, r, i1, i2, i3⟩ := I.rw
    cases hpl : dsA.all plainD with
    | true =>
      rw [hpl, if_pos rfl] at h
      refine h (.ref L) H (fun _ => False) (fun a => a = L) ⟨e0, .mk (.ol (Q := fun _ => False) rfl I.hac (r.plain Ext.refl hpl) (fun _ z => z.elim) fun z => z), fun _ z => z.elim, fun a z => ?_⟩
      subst z
      exact ⟨hL0, hLH⟩
    | false =>
      rw [hpl, if_neg Bool.false_ne_true] at h
      refine h (.ref L) H Na (fun a => a = L ∨ Pa a) ⟨e0, ⟨Ii, fun a => a = L ∨ Qq a, .ol (Q := Qq) (.inl rfl) I.hac (r.ext Ext.refl (fun _ z => .inl z) (fun _ z => z) (fun _ z => z) fun _ z => z) (fun _ z => .inr z) fun z => (I.pv L (i2 L z)).2.2 rfl, fun a z => .inr (i1 a z), fun a z => z.elim .inl fun z => .inr (i2 a z), fun a z w => w.elim (fun w => (I.pv a (i1 a z)).2.2 w) (i3 a z)⟩, fun a z => ?_, fun a z => ?_⟩
      · obtain ⟨n1, n2, n3, n4⟩ := I.nv a z
        exact ⟨n1, n2, fun w => w.elim n4 n3⟩
      · rcases z with z | z
        · subst z
          exact ⟨hL0, hLH⟩
        · exact ⟨(I.pv a z).1, (I.pv a z).2.1⟩
theorem allT_one {K : KW} {e : VT} : allT [e] = e.t := by
  show (e.t.bindT fun b => if b then .ok true else .ok false) = e.t
  cases e.t with
  | ok b => cases b <;> rfl
  | _ => rfl
/-- the reading of a comprehension's block -/
abbrev Blk (X : Cx) (scope : Scope) (P : Cx → Prop) : Prop := ∀ (s : Shared) (H : Hp) (C : Addr) (cl : List (Str × Addr)) (fp : List Addr), P (X.blk s H scope (compEnvC scope cl C X.env) fp)
theorem lc_read {iterR : TI} {k : Sk} {fs : Env → Rl} {own : List Nat} {tg : Tg} {cd : Env → TR} {el : Env → R} (hI : iterR = tI X.kw W k fs) (hw : ∀ i ∈ tgs tg, i ∈ own) {σ : L2.St} {H : Hp} {Q : VK}
    (h : tE X.kw W (fun ρ => (fs ρ).bind fun ds al => match itemsR k ds al with
      | some (ps, b, al) => match lcR (fun p => setT tg b p (wipeE ρ own)) cd el ps with
        | .ok ds bl => .ok (.ol ds) (if ds.all plainD then [] else al ++ bl)
        | _ => .stuck
      | none => .stuck) σ H Q) : tLc iterR (gT X.K tg) (tT X.kw WN cd) (tE X.kw WN el) own σ H Q := by
  subst hI
  obtain ⟨F, N, Pf, ρ, S, q⟩ := h
  refine ⟨F, N, Pf, ρ, S, ?_⟩
  dsimp only at q
  cases e : fs ρ with
  | exc c => rw [e] at q; exact q
  | stuck => rw [e] at q; exact q
  | ok ds0 al =>
    rw [e] at q
    simp only [Rl.bind] at q
    simp only [PW']
    cases e1 : itemsR k ds0 al with
    | none => rw [e1] at q; exact q
    | some z =>
      obtain ⟨ps, b, al2⟩ := z
      rw [e1] at q
      simp only at q ⊢
      intro xs H1 N1 P1 J R1 hl w
      cases e2 : lcR (fun p => setT tg b p (wipeE ρ own)) cd el ps with
      | ok ds bl =>
        rw [e2] at q
        exact fun L hL => lc_run S R1 e1 hl w hw e2 q L hL
      | exc c => rw [e2] at q; exact q.elim
      | stuck => rw [e2] at q; exact q.elim
theorem hv_lc {elt tg iter : Expr} {ifs : List Expr} {scope : Scope} {own : List (Str × Nat)} {tg' : Tg} {k : Sk} {fs : Env → Rl} {fc : Env → List VT} {fe : Env → VT} (hc : X.calm = true) (hN : X.N.Nodup) (hi : PI X tg iter (tI X.kw W k fs)) (ok : blkC X.N X.env.scope scope own = true)
    (hw : ∀ i ∈ tgs tg', i ∈ own.map (·.2)) (hg : Blk X scope fun X' => PG X' tg (gT X.K tg')) (ht : Blk X scope fun X' => PTs X' ifs (tT X.kw WN fun ρ => allT (fc ρ))) (he : Blk X scope fun X' => PE X' elt (tE X.kw WN fun ρ => (fe ρ).e)) (hs : ∀ x, foldedSetIterable iter X.env x = pure x) :
    HV X W (.ListComp elt [⟨tg, iter, ifs, 0⟩] scope pos) fun ρ => vt ((fs ρ).bind fun ds al => match itemsR k ds al with
      | some (ps, b, al) => match lcR (fun p => setT tg' b p (wipeE ρ (own.map (·.2)))) (fun ρ => allT (fc ρ)) (fun ρ => (fe ρ).e) ps with
        | .ok ds bl => .ok (.ol ds) (if ds.all plainD then [] else al ++ bl)
        | _ => .stuck
      | none => .stuck) :=
  hv_plain (PE_imp (pe_lc hc hN hi (blkOk_by ok) hg ht he hs) fun σ H Q h => lc_read rfl hw h)
end
end Hv

/-! Hv, part 11d: the length of a dict comprehension; a list from its end. -/
namespace Hv
open PySem PySem.Spec PyProof.Rows L2
theorem putK_keys (kvs : List (Key × V)) (k : Key) (z : V) : (putK kvs k z).map (·.1) = addK (kvs.map (·.1)) k := by
  unfold putK addK
  have e : ((kvs.map (·.1)).any fun j => decide (j = k)) = kvs.any fun kv => decide (kv.1 = k) := by rw [List.any_map]; rfl
  rw [e]
  split
  · rw [List.map_map]
    refine List.map_congr_left fun kv _ => ?_
    show (if kv.1 = k then (kv.1, z) else kv).1 = kv.1
    split <;> rfl
  · simp
theorem keyP_V {K : KW} {S : AS} {H : Hp} {y : V} {p : PyData} {k : Key} (r : Rp K S H y p) (e : keyP p = some k) : y = kV k := by
  cases p with
  | int i => injection e with e; subst e; cases r; rfl
  | str x => injection e with e; subst e; exact r.strok.1
  | _ => cases e
theorem Rps.rev {K : KW} {S : AS} {H : Hp} : ∀ {xs : List V} {ds : List PyData}, Rps K S H xs ds → Rps K S H xs.reverse ds.reverse
  | _, _, .nil => .nil
  | _, _, .cons h t => by
    rw [List.reverse_cons, List.reverse_cons]
    exact (Rps.rev t).append (.cons h .nil)
theorem dkR_step {st : PyData → Option Env} {kx : Env → R} {p : PyData} {ps : List PyData} {acc fin : List Key} (h : dkR st kx (p :: ps) acc = some fin) :
    ∃ ρ d al q k, st p = some ρ ∧ kx ρ = .ok d al ∧ data d = some q ∧ keyP q = some k ∧ dkR st kx ps (addK acc k) = some fin := by
  unfold dkR at h
  cases e : st p with
  | none => rw [e] at h; cases h
  | some ρ =>
    rw [e] at h
    simp only at h
    cases e2 : kx ρ with
    | ok d al =>
      rw [e2] at h
      simp only at h
      cases e3 : data d with
      | none => rw [e3] at h; cases h
      | some q =>
        rw [e3] at h
        simp only [Option.bind_some] at h
        cases e4 : keyP q with
        | none => rw [e4] at h; cases h
        | some k =>
          rw [e4] at h
          exact ⟨ρ, d, al, q, k, rfl, e2, e3, e4, h⟩
    | exc c => rw [e2] at h; cases h
    | stuck => rw [e2] at h; cases h
section
variable {X : Cx} {W : WX} {pos : Pos}
theorem dk_run {F N : AS} {Pf : Nat → AS} {σ : L2.St} {H0 H1 : Hp} {ρ : Env} {Q : Addr → Hp → Prop} {k : Sk} {ds0 : List D} {al al2 : Al} {ps : List PyData} {b : Bool} {N1 P1 : AS} {xs : List V} {J : It} {tg : Tg} {own : List Nat} {kx : Env → R} {fin : List Key} {zv : V}
    (S : StE X.kw F N Pf H0 σ ρ) (R1 : Resl X.kw F N Pf H0 al H1 N1 P1 xs ds0) (e1 : itemsR k ds0 al = some (ps, b, al2)) (hl : ps.length ≤ sizeLine)
    (w : ∀ Z, Far (SB b F (S1 N Pf al fun a => N1 a ∨ P1 a)) Z H1 → Walks X.kw (SB b F (S1 N Pf al fun a => N1 a ∨ P1 a)) Z H1 J ps)
    (hw : ∀ i ∈ tgs tg, i ∈ own) (e2 : dkR (fun p => setT tg b p (wipeE ρ own)) kx ps [] = some fin) (L : Addr) (hL : H1 L = none)
    (h : ∀ H kvs, Ext H0 H → H L = some (.dK kvs) → kvs.length = fin.length → Q L H) :
    ∃ W : Nat → Nat → Hp → Prop, (∃ m, W 0 m (upd H1 L (.dK []))) ∧ ∀ i m H, W i m H →
      (J.stop i H ∧ Q L H) ∨ (J.go i H ∧ ∃ Nx : Hp → Prop, (∀ H', Nx H' → ∃ m', m' < m ∧ W (i + 1) m' H') ∧ ∀ x H', J.yld i H x H' → gT X.K tg x (wipe σ own) H' fun σ2 H2 => wipe σ2 own = wipe σ own ∧ tYes σ2 H2 fun b H3 =>
        if b = true then tE X.kw WN kx σ2 H3 fun y H4 => tC zv σ2 H4 fun z H5 => ∃ kvs k, y = kV k ∧ H5 L = some (.dK kvs) ∧ kvs.length < sizeLine ∧ Nx (upd H5 L (.dK (putK kvs k z))) else Nx H3) := by
  generalize hst : (fun p => setT tg b p (wipeE ρ own)) = st at e2
  refine ⟨fun i m H => m = ps.length - i ∧ i ≤ ps.length ∧ ∃ kvs acc, Ext H1 H ∧ H L = some (.dK kvs) ∧ kvs.map (·.1) = acc ∧ dkR st kx (ps.drop i) acc = some fin ∧ kvs.length ≤ i, ⟨_, rfl, Nat.zero_le _, [], [], Ext.new hL, upd_same, rfl, e2, Nat.le_refl _⟩, ?_⟩
  rintro i m H ⟨rfl, hi, kvs, acc, ext, hac, hkey, hrest, hlen⟩
  have far : Far (SB b F (S1 N Pf al fun a => N1 a ∨ P1 a)) (fun _ => False) H1 := ⟨fun _ _ z => z, fun _ _ z => z.elim⟩
  obtain ⟨wgo, wstop⟩ := w _ far i H ext.kp
  have e0 : Ext H0 H := R1.ext.trans ext
  by_cases hlt : i < ps.length
  · have hd : ps.drop i = ps[i] :: ps.drop (i + 1) := List.drop_eq_getElem_cons hlt
    have hp : ps[i]? = some ps[i] := by simp [hlt]
    obtain ⟨go, yld⟩ := wgo _ hp
    have hmem : ps[i] ∈ ps := List.getElem_mem hlt
    generalize ps[i] = p at hd hp yld hmem
    refine .inr ⟨go, fun H' => i + 1 ≤ ps.length ∧ ∃ kvs acc, Ext H1 H' ∧ H' L = some (.dK kvs) ∧ kvs.map (·.1) = acc ∧ dkR st kx (ps.drop (i + 1)) acc = some fin ∧ kvs.length ≤ i + 1, fun H' z => ⟨_, by omega, rfl, z⟩, fun x H2 hy => ?_⟩
    obtain ⟨ex, r⟩ := yld x H2 hy
    have r := item_al e1 hmem r
    rw [hd] at hrest
    obtain ⟨ρ', d, ald, q, kk, hst', c2, c3, c4, c5⟩ := dkR_step hrest
    have e02 : Ext H0 H2 := e0.trans ex
    have S2 : StE X.kw F (S1 N Pf al2 fun a => N1 a ∨ P1 a) Pf H2 (wipe σ own) (wipeE ρ own) := ((S.wipe own).more e02).moreN (fun a z => .inl z) fun a z => by
      rcases z with z | ⟨j, _, z⟩ | z
      · exact e02.ne (S.tN a z)
      · exact e02.ne (S.tP j a z)
      · exact (ext.trans ex).ne (z.elim (fun z => (R1.nv a z).2.1) fun z => (R1.pv a z).2)
    have hst' : setT tg b p (wipeE ρ own) = some ρ' := by rw [← hst] at hst'; exact hst'
    refine gT_ok (K := X.kw) S2 r hst' fun σ3 Pf' hpf S3 hwp _ => ⟨(hwp own hw).trans wipe_wipe, ?_⟩
    simp only [tYes, if_true]
    refine ⟨F, _, Pf', ρ', S3, ?_⟩
    try dsimp only
    rw [c2]
    intro y H4 Nv Pv R4
    have ry := R4.rd.data c3
    have hky := keyP_V ry c4
    have exH : Ext H H4 := ex.trans R4.ext
    have hac4 := exH _ _ hac
    refine ⟨kvs, kk, hky, hac4, by omega, hlt, putK kvs kk zv, _, ?_, upd_same, putK_keys _ _ _, by rw [hkey]; exact c5, ?_⟩
    · intro a o e
      have hne : a ≠ L := fun z => by subst z; rw [hL] at e; cases e
      rw [upd_ne hne]
      exact exH _ _ (ext _ _ e)
    · exact Nat.le_trans (length_putK _ _ _) (Nat.succ_le_succ hlen)
  · have e : i = ps.length := by omega
    subst e
    rw [List.drop_length] at hrest
    injection hrest with h1
    refine .inl ⟨wstop (Nat.le_refl _), h H kvs e0 hac ?_⟩
    rw [← h1, ← hkey, List.length_map]
theorem hv_dkl {kx vx tg iter : Expr} {scope : Scope} {own : List (Str × Nat)} {tg' : Tg} {k : Sk} {fs : Env → Rl} {fe : Env → VT} {zv : V} {p pos2 : Pos} (hc : X.calm = true) (hN : X.N.Nodup) (hgl : Gl X "len") (hml : X.mg "len" = none) (hi : PI X tg iter (tI X.kw W k fs)) (ok : blkC X.N X.env.scope scope own = true)
    (hw : ∀ i ∈ tgs tg', i ∈ own.map (·.2)) (hg : Blk X scope fun X' => PG X' tg (gT X.K tg')) (he : Blk X scope fun X' => PE X' kx (tE X.kw WN fun ρ => (fe ρ).e)) (hz : Blk X scope fun X' => PE X' vx (tC zv)) (hs : ∀ x, foldedSetIterable iter X.env x = pure x) :
    HV X W (.Call (.Name "len" p) [.DictComp kx vx [⟨tg, iter, [], 0⟩] scope pos] [] pos2) fun ρ => vt ((fs ρ).bind fun ds al => match itemsR k ds al with
      | some (ps, b, _) => match dkR (fun p => setT tg' b p (wipeE ρ (own.map (·.2)))) (fun ρ => (fe ρ).e) ps [] with
        | some ks => .ok (.v (.int ks.length)) []
        | none => .stuck
      | none => .stuck) := by
  refine hv_plain (PE_imp (pe_callB call_lenD hgl hml boot_len (pa_cons (pe_dc (ifs := []) hc hN hi (blkOk_by ok) hg (fun _ _ _ _ _ => pts_nil) he hz hs) pa_nil rfl) (by decide) (by decide) rfl rfl) fun σ H Q h => ?_)
  obtain ⟨F, N, Pf, ρ, S, q⟩ := h
  refine ⟨F, N, Pf, ρ, S, ?_⟩
  dsimp only at q
  cases e : fs ρ with
  | exc c => rw [e] at q; exact q
  | stuck => rw [e] at q; exact q
  | ok ds0 al =>
    rw [e] at q
    simp only [Rl.bind] at q
    simp only [PW']
    cases e1 : itemsR k ds0 al with
    | none => rw [e1] at q; exact q
    | some z =>
      obtain ⟨ps, b, al2⟩ := z
      rw [e1] at q
      simp only at q ⊢
      intro xs H1 N1 P1 J R1 hl w
      cases e2 : dkR (fun p => setT tg' b p (wipeE ρ (own.map (·.2)))) (fun ρ => (fe ρ).e) ps [] with
      | none => rw [e2] at q; exact q.elim
      | some ks =>
        rw [e2] at q
        intro L hL
        refine dk_run (zv := zv) (Q := fun L H2 => ∃ a kvs, [V.ref L] = [V.ref a] ∧ H2 a = some (.dK kvs) ∧ Q (.int kvs.length) H2) S R1 e1 hl w hw e2 L hL fun H' kvs ex hk hlen => ?_
        refine ⟨L, kvs, rfl, hk, ?_⟩
        rw [hlen]
        exact q _ _ _ _ (Res.scal (S := fun _ => False) ex (.int _) rfl)
theorem hv_rev {a : Expr} {fa : Env → VT} {k : Nat} {p1 p2 p3 : Pos} (ha : HV X W a fa) : HV X W (.Subscript a (.Slice none none (some (.UnaryOp .USub (.Constant (.int 1) k p1) p2)) p3) pos) fun ρ => vt ((fa ρ).e.bind fun x al => revD x al) := by
  refine hv_plain (PE_imp (pe_revL ha.e) fun σ H Q h => ?_)
  refine tE_one (r := fun x H1 Q => ∃ (a : Addr) (xs : List V), x = .ref a ∧ SqL X.K H1 a xs ∧ ∀ p, H1 p = none → Q (.ref p) (upd H1 p (.lst xs.reverse))) h fun F N Pf ρ x d al H1 N1 P1 S R h => ?_
  unfold revD at h
  cases e : data d with
  | none => rw [e] at h; exact h.elim
  | some p =>
    rw [e] at h
    cases p with
    | list ps =>
      have r := R.dat e Ext.refl
      obtain ⟨a, xs, rfl, l, s⟩ := r.ll
      refine ⟨a, xs, rfl, l.sq, fun q hq => ?_⟩
      exact h.mkL R.ext (Rps.rev s) R.toL.fresh hq
    | _ => exact h.elim
end
end Hv

/-! Hv, part 12: statements. -/
namespace Hv
open PySem PySem.Spec PyProof.Rows L2

/-! ### the small language's statements -/
inductive S where
  | asg (i : Nat) (e : E)
  | asgT (is : List Nat) (e : E)
  | aug (i : Nat) (o : BOp) (e : E)
  | app (i : Nat) (path : List E) (e : E)
  | seti (i : Nat) (path : List E) (x : E) (e : E)
  | ife (c : E) (a b : List S)
  | for_ (k : Sk) (args : List E) (tg : Tg) (b : List S)
  | while_ (c : E) (b : List S)
  | ret (e : E)
  | retv (i : Nat)
  | retn
  | brk
  | cnt
  | pass
  | raise_ (c : Str)
  | drop (e : E)
  | appPop (i j : Nat) (e : E)
  | try_ (b : List S) (hs : List (List (Str × Bool) × Option Nat × List S))
inductive RS where
  | next (ρ : Env)
  | ret (d : D)
  | brk (ρ : Env)
  | cnt (ρ : Env)
  | exc (c : Str) (ρ : Env)
  | stuck
def frz1 (i : Nat) (ρ : Env) : Env := match ρ[i]? with
  | some (some d) => ρ.set i (view d)
  | _ => ρ
def frz : Al → Env → Env
  | [], ρ => ρ
  | i :: is, ρ => frz is (frz1 i ρ)
def atN (n : Nat) (k : Int) : Option Nat := ixN n k
/-- a part of one's own, changed -/
def updD : D → List Int → (List D → Option (List D)) → Option D
  | .ol ds, [], f => match f ds with
    | some es => some (.ol es)
    | none => none
  | .ol ds, j :: js, f => match ixN ds.length j with
    | some n => match ds[n]? with
      | some d => match updD d js f with
        | some e => some (.ol (ds.set n e))
        | none => none
      | none => none
    | none => none
  | _, _, _ => none
def appF (d : D) (ds : List D) : Option (List D) := if ds.length < SZ then some (ds ++ [d]) else none
def setF (j : Int) (d : D) (ds : List D) : Option (List D) := match ixN ds.length j with
  | some n => some (ds.set n d)
  | none => none
def updR (i : Nat) (js : List Int) (f : List D → Option (List D)) (al : Al) (ρ : Env) : RS := match ρ[i]? with
  | some (some e) => match updD e js f with
    | some e' => if al.contains i then .stuck else .next ((frz al ρ).set i (some e'))
    | none => .stuck
  | _ => .stuck
def jsOf (ds : List D) : Option (List Int) := match datas ds with
  | some ps => intsOf ps
  | none => none
/-- the path leads to a list of one's own -/
def okP (i : Nat) (js : List Int) (ρ : Env) : Bool := match ρ[i]? with
  | some (some e) => (updD e js some).isSome
  | _ => false
def appR (i : Nat) (js : Option (List Int)) (r : R) (ρ : Env) : RS := match js with
  | some js => match r with
    | .ok d al => updR i js (appF d) al ρ
    | .exc c => if okP i js ρ then .exc c ρ else .stuck
    | .stuck => .stuck
  | none => .stuck
def setR (i : Nat) (js : Option (List Int)) (r : R) (d : D) (al : Al) (ρ : Env) : RS := match js with
  | some js => match r with
    | .ok j _ => match data j with
      | some (.int j) => updR i js (setF j d) al ρ
      | _ => .stuck
    | .exc c => if okP i js ρ then .exc c ρ else .stuck
    | .stuck => .stuck
  | none => .stuck
/-- one item out of a list of one's own, onto another one's end -/
def popF (n : Int) (ds : List D) : Option (List D) := if 0 ≤ n ∧ n < ds.length ∧ ds.length ≤ SZ then (match ds[n.toNat]? with
  | some (.v p) => if mutD p then none else some (ds.eraseIdx n.toNat)
  | _ => none) else none
def popP (n : Int) (ds : List D) : Option PyData := match ds[n.toNat]? with
  | some (.v p) => some p
  | _ => none
def appPopR (i j : Nat) (r : R) (ρ : Env) : RS := match r with
  | .ok d _ => match data d with
    | some (.int n) => match ρ[j]? with
      | some (some (.ol ds)) => match popF n ds with
        | some ds' => match popP n ds with
          | some p => if i = j then .stuck else updR i [] (appF (.v p)) [] (ρ.set j (some (.ol ds')))
          | none => .stuck
        | none => .stuck
      | _ => .stuck
    | _ => .stuck
  | .exc c => if okP i [] ρ && okP j [] ρ then .exc c ρ else .stuck
  | .stuck => .stuck
def pathJ (r : Rl) : Option (List Int) := match r with
  | .ok ds _ => jsOf ds
  | _ => none
def R.bindS (r : R) (ρ : Env) (f : D → Al → RS) : RS := match r with
  | .ok d al => f d al
  | .exc c => .exc c ρ
  | .stuck => .stuck
def Rl.bindS (r : Rl) (ρ : Env) (f : List D → Al → RS) : RS := match r with
  | .ok d al => f d al
  | .exc c => .exc c ρ
  | .stuck => .stuck
def TR.bindS (r : TR) (ρ : Env) (f : Bool → RS) : RS := match r with
  | .ok b => f b
  | .exc c => .exc c ρ
  | .stuck => .stuck
def forR (st : PyData → Env → Option Env) (body : Env → RS) : List PyData → Env → RS
  | [], ρ => .next ρ
  | p :: ps, ρ => match st p ρ with
    | none => .stuck
    | some ρ1 => match body ρ1 with
      | .next ρ2 => forR st body ps ρ2
      | .cnt ρ2 => forR st body ps ρ2
      | .brk ρ2 => .next ρ2
      | .ret d => .ret d
      | .exc c ρ2 => .exc c ρ2
      | .stuck => .stuck
def whN (c : Env → TR) (body : Env → RS) : Nat → Env → RS
  | 0, _ => .stuck
  | n + 1, ρ => match c ρ with
    | .ok true => match body ρ with
      | .next ρ2 => whN c body n ρ2
      | .cnt ρ2 => whN c body n ρ2
      | .brk ρ2 => .next ρ2
      | .ret d => .ret d
      | .exc c ρ2 => .exc c ρ2
      | .stuck => .stuck
    | .ok false => .next ρ
    | .exc c => .exc c ρ
    | .stuck => .stuck
open Classical in
noncomputable def wh (c : Env → TR) (body : Env → RS) (ρ : Env) : RS := if h : ∃ n, whN c body n ρ ≠ .stuck then whN c body (choose h) ρ else .stuck
theorem whN_mono {c : Env → TR} {body : Env → RS} : ∀ {n m : Nat} {ρ : Env}, whN c body n ρ ≠ .stuck → n ≤ m → whN c body m ρ = whN c body n ρ
  | 0, _, _, h, _ => absurd rfl h
  | n + 1, 0, _, _, h => absurd h (by omega)
  | n + 1, m + 1, ρ, h, hm => by
    unfold whN at h ⊢
    cases e : c ρ with
    | ok b =>
      cases b with
      | true =>
        simp only [e] at h ⊢
        cases e2 : body ρ <;> simp only [e2] at h ⊢
        · exact whN_mono h (by omega)
        · exact whN_mono h (by omega)
      | false => rfl
    | exc c => rfl
    | stuck => rfl
theorem wh_eq {c : Env → TR} {body : Env → RS} {ρ : Env} {r : RS} (n : Nat) (h : whN c body n ρ = r) (hr : r ≠ .stuck) : wh c body ρ = r := by
  unfold wh
  have hx : ∃ n, whN c body n ρ ≠ .stuck := ⟨n, by rw [h]; exact hr⟩
  rw [dif_pos hx, ← h]
  have h1 := Classical.choose_spec hx
  have h2 : whN c body n ρ ≠ .stuck := by rw [h]; exact hr
  rw [← whN_mono h1 (Nat.le_max_left _ n), ← whN_mono h2 (Nat.le_max_right (Classical.choose hx) n)]
theorem wh_ex {c : Env → TR} {body : Env → RS} {ρ : Env} {r : RS} (h : wh c body ρ = r) (hr : r ≠ .stuck) : ∃ n, whN c body n ρ = r := by
  unfold wh at h
  split at h
  · exact ⟨_, h⟩
  · exact absurd h.symm hr
mutual
/-- the slots whose lists a statement may change -/
def mutS : S → List Nat
  | .app i _ _ => [i]
  | .seti i _ _ _ => [i]
  | .appPop i j _ => [i, j]
  | .ife _ a b => mutSs a ++ mutSs b
  | .for_ _ _ _ b => mutSs b
  | .while_ _ b => mutSs b
  | .try_ b hs => mutSs b ++ mutH hs
  | _ => []
def mutSs : List S → List Nat
  | [] => []
  | s :: ss => mutS s ++ mutSs ss
def mutH : List (List (Str × Bool) × Option Nat × List S) → List Nat
  | [] => []
  | (_, _, b) :: hs => mutSs b ++ mutH hs
end
/-- no slot holds the exception -/
def noXE (ρ : Env) : Bool := ρ.all fun o => match o with
  | some d => noX d
  | none => true
def inX (o : Option Nat) (ρ : Env) : Env := match o with
  | some i => ρ.set i (some .exn)
  | none => ρ
def goneE (o : Option Nat) (ρ : Env) : Env := match o with
  | some i => ρ.set i none
  | none => ρ
/-- behind a suite: its name is gone, and nobody holds the exception -/
def outX (o : Option Nat) (r : RS) : RS := match r with
  | .next ρ => if noXE (goneE o ρ) then .next (goneE o ρ) else .stuck
  | .brk ρ => if noXE (goneE o ρ) then .brk (goneE o ρ) else .stuck
  | .cnt ρ => if noXE (goneE o ρ) then .cnt (goneE o ρ) else .stuck
  | .ret d => if noX d then .ret d else .stuck
  | _ => .stuck
/-- which class is below which -/
abbrev Sub := Str → Str → Option Bool
mutual
noncomputable def sv (C : Cal) (G : Glo) (B : Sub) : S → Env → RS
  | .asg i e, ρ => (ev C G e ρ).e.bindS ρ fun d al => .next ((frz al ρ).set i (some d))
  | .asgT is e, ρ => (ev C G e ρ).e.bindS ρ fun d al => match data d with
    | some p => match setT (.tup is) (isNew d) p (frz al ρ) with
      | some ρ => .next ρ
      | none => .stuck
    | none => .stuck
  | .aug i o e, ρ => match ρ[i]? with
    | some (some (.v (.int a))) => (ev C G e ρ).e.bindS ρ fun d _ => match data d with
      | some (.int b) => match o with
        | .add => .next (ρ.set i (some (.v (.int (a + b)))))
        | .sub => .next (ρ.set i (some (.v (.int (a - b)))))
        | _ => .stuck
      | _ => .stuck
    | _ => .stuck
  | .app i path e, ρ => appR i (pathJ (seqR (evs C G path ρ))) (ev C G e ρ).e ρ
  | .seti i path x e, ρ => (ev C G e ρ).e.bindS ρ fun d al => setR i (pathJ (seqR (evs C G path ρ))) (ev C G x ρ).e d al ρ
  | .ife c a b, ρ => (ev C G c ρ).t.bindS ρ fun k => if k then svs C G B a ρ else svs C G B b ρ
  | .for_ k args tg b, ρ => (seqR (evs C G args ρ)).bindS ρ fun ds al => match itemsR k ds al with
    | some (ps, w, al2) => if al.all (fun i => !(mutSs b).contains i) then forR (fun p ρ => setT tg w p ρ) (svs C G B b) ps (frz al2 ρ) else .stuck
    | none => .stuck
  | .while_ c b, ρ => wh (fun ρ => (ev C G c ρ).t) (svs C G B b) ρ
  | .ret e, ρ => (ev C G e ρ).e.bindS ρ fun d _ => .ret d
  | .retv i, ρ => match ρ[i]? with
    | some (some d) => .ret d
    | _ => .stuck
  | .retn, _ => .ret (.v .none)
  | .brk, ρ => .brk ρ
  | .cnt, ρ => .cnt ρ
  | .pass, ρ => .next ρ
  | .raise_ c, ρ => .exc c ρ
  | .appPop i j e, ρ => appPopR i j (ev C G e ρ).e ρ
  | .drop e, ρ => (ev C G e ρ).e.bindS ρ fun _ _ => .next ρ
  | .try_ b hs, ρ => match svs C G B b ρ with
    | .exc c ρ' => hnd C G B c hs ρ'
    | r => r
noncomputable def svs (C : Cal) (G : Glo) (B : Sub) : List S → Env → RS
  | [], ρ => .next ρ
  | s :: ss, ρ => match sv C G B s ρ with
    | .next ρ' => svs C G B ss ρ'
    | .ret d => .ret d
    | .brk ρ' => .brk ρ'
    | .cnt ρ' => .cnt ρ'
    | .exc c ρ' => .exc c ρ'
    | .stuck => .stuck
noncomputable def hnd (C : Cal) (G : Glo) (B : Sub) (c : Str) : List (List (Str × Bool) × Option Nat × List S) → Env → RS
  | [], ρ => .exc c ρ
  | (cs, o, b) :: hs, ρ => match cs.lookup c with
    | some true => outX o (svs C (setX G c) B b (inX o ρ))
    | some false => hnd C G B c hs ρ
    | none => .stuck
end

/-! ### what a statement owes -/
/-- what may have changed: one's own things in the slots M -/
structure Fr (M : List Nat) (H : Hp) (Pf : Nat → AS) (H' : Hp) (Pf' : Nat → AS) : Prop where
  kp : ∀ a o, H a = some o → ((∀ j ∈ M, ¬ Pf j a) ∨ ∀ xs, o ≠ .lst xs) → H' a = some o
  dm : ∀ a, H a ≠ none → H' a ≠ none
  pf : ∀ j a, Pf' j a → Pf j a ∨ H a = none
section
variable {M M' : List Nat} {H H1 H2 : Hp} {Pf P1 P2 : Nat → AS}
theorem Fr.refl : Fr M H Pf H Pf := ⟨fun _ _ e _ => e, fun _ h => h, fun _ _ h => .inl h⟩
theorem Fr.trans (a : Fr M H Pf H1 P1) (b : Fr M H1 P1 H2 P2) : Fr M H Pf H2 P2 where
  kp := fun x o e h => b.kp x o (a.kp x o e h) (h.elim (fun h => .inl fun j hj z => (a.pf j x z).elim (h j hj) fun z => by rw [z] at e; cases e) .inr)
  dm := fun x h => b.dm x (a.dm x h)
  pf := fun j x z => (b.pf j x z).elim (a.pf j x) fun z => .inr (by
    cases q : H x with
    | none => rfl
    | some o => exact absurd z (a.dm x (by rw [q]; exact nofun)))
theorem Fr.mono (h : ∀ i ∈ M, i ∈ M') (a : Fr M H Pf H1 P1) : Fr M' H Pf H1 P1 := ⟨fun x o e z => a.kp x o e (z.elim (fun z => .inl fun j hj => z j (h j hj)) .inr), a.dm, a.pf⟩
theorem Fr.ext (e : Ext H H1) (h : ∀ j a, P1 j a → Pf j a ∨ H a = none) : Fr M H Pf H1 P1 := ⟨fun x o q _ => e x o q, fun a z => e.ne z, h⟩
end
def PSr (K : KW) (W : WX) (E0 : Hp) (F : AS) (M : List Nat) (N : AS) (Pf : Nat → AS) (H : Hp) (D : Ends) (r : RS) : Prop := match r with
  | .next ρ' => ∀ σ' H' N' Pf', Stt K E0 F N' Pf' H' σ' ρ' → (∀ a, N a → N' a) → Fr M H Pf H' Pf' → D.nx σ' H'
  | .brk ρ' => ∀ σ' H' N' Pf', Stt K E0 F N' Pf' H' σ' ρ' → (∀ a, N a → N' a) → Fr M H Pf H' Pf' → D.bk σ' H'
  | .cnt ρ' => ∀ σ' H' N' Pf', Stt K E0 F N' Pf' H' σ' ρ' → (∀ a, N a → N' a) → Fr M H Pf H' Pf' → D.ct σ' H'
  | .ret d => ∀ x H' N' P', Ext E0 H' → RW K F N' H' P' x d → (∀ a, N' a → E0 a = none ∧ H' a ≠ none ∧ ¬ P' a) → (∀ a, P' a → E0 a = none ∧ H' a ≠ none) → D.rt x H'
  | .exc c ρ' => ∀ σ' H' N' Pf' cl od, Stt K E0 F N' Pf' H' σ' ρ' → (∀ a, N a → N' a) → Fr M H Pf H' Pf' → ExcV K.k c cl od → W cl od σ' H'
  | .stuck => False
def tS (K : KW) (W : WX) (E0 : Hp) (M : List Nat) (g : Env → RS) : TS := fun D σ H => ∃ F N Pf ρ, Stt K E0 F N Pf H σ ρ ∧ PSr K W E0 F M N Pf H D (g ρ)
section
variable {K : KW} {W : WX} {E0 : Hp} {F : AS} {M : List Nat} {N N' : AS} {Pf Pf' : Nat → AS} {H H' : Hp} {Dn : Ends} {σ : L2.St} {ρ : Env}
theorem PSr.shift {r : RS} (h : PSr K W E0 F M N Pf H Dn r) (n : ∀ a, N a → N' a) (f : Fr M H Pf H' Pf') : PSr K W E0 F M N' Pf' H' Dn r := by
  cases r with
  | next ρ => exact fun σ' H2 N2 P2 s n2 f2 => h σ' H2 N2 P2 s (fun a z => n2 a (n a z)) (f.trans f2)
  | brk ρ => exact fun σ' H2 N2 P2 s n2 f2 => h σ' H2 N2 P2 s (fun a z => n2 a (n a z)) (f.trans f2)
  | cnt ρ => exact fun σ' H2 N2 P2 s n2 f2 => h σ' H2 N2 P2 s (fun a z => n2 a (n a z)) (f.trans f2)
  | exc c ρ => exact fun σ' H2 N2 P2 cl od s n2 f2 => h σ' H2 N2 P2 cl od s (fun a z => n2 a (n a z)) (f.trans f2)
  | ret d => exact h
  | stuck => exact h
theorem Stt.frz1 {i : Nat} (s : Stt K E0 F N Pf H σ ρ) : Stt K E0 F (fun a => N a ∨ Pf i a) (fun j a => j ≠ i ∧ Pf j a) H σ (frz1 i ρ) where
  len := by
    unfold Hv.frz1
    split
    · rw [List.length_set]; exact s.len
    · exact s.len
  rep := fun j d h => by
    unfold Hv.frz1 at h
    split at h
    · rename_i d0 e0
      by_cases hj : i = j
      · subst hj
        have hi : i < ρ.length := (List.getElem?_eq_some_iff.mp e0).1
        rw [List.getElem?_set_self hi] at h
        injection h with h
        obtain ⟨x, e1, r⟩ := s.rep i d0 e0
        exact ⟨x, e1, r.view h⟩
      · rw [List.getElem?_set_ne hj] at h
        obtain ⟨x, e1, r⟩ := s.rep j d h
        exact ⟨x, e1, r.ext Ext.refl (fun _ z => .inl z) (fun _ z => .inl z) fun _ z => ⟨Ne.symm hj, z⟩⟩
    · rename_i e0
      by_cases hj : i = j
      · subst hj
        exact absurd h (e0 d)
      · obtain ⟨x, e1, r⟩ := s.rep j d h
        exact ⟨x, e1, r.ext Ext.refl (fun _ z => .inl z) (fun _ z => .inl z) fun _ z => ⟨Ne.symm hj, z⟩⟩
  dis := fun j k a p q => s.dis j k a p.2 q.2
  prv := fun j a p => ⟨fun z => z.elim (s.prv j a p.2).1 fun z => p.1 (s.dis j i a p.2 z), (s.prv j a p.2).2⟩
  new := fun a z => z.elim (s.new a) fun z => (s.prv i a z).2
  old := s.old
  ext := s.ext
theorem Stt.frz : ∀ {al : Al} {N : AS} {Pf : Nat → AS} {ρ : Env}, Stt K E0 F N Pf H σ ρ → Stt K E0 F (fun a => N a ∨ ∃ i, i ∈ al ∧ Pf i a) (fun j a => j ∉ al ∧ Pf j a) H σ (Hv.frz al ρ)
  | [], N, Pf, ρ, s => by
    have e1 : (fun a => N a ∨ ∃ i, i ∈ ([] : Al) ∧ Pf i a) = N := funext fun a => propext ⟨fun z => z.elim id fun ⟨_, z, _⟩ => (by cases z), .inl⟩
    have e2 : (fun j a => j ∉ ([] : Al) ∧ Pf j a) = Pf := funext fun j => funext fun a => propext ⟨fun z => z.2, fun z => ⟨by simp, z⟩⟩
    rw [e1, e2]
    exact s
  | i :: is, N, Pf, ρ, s => by
    have q := Stt.frz (al := is) (s.frz1 (i := i))
    have e1 : (fun a => (N a ∨ Pf i a) ∨ ∃ j, j ∈ is ∧ (j ≠ i ∧ Pf j a)) = (fun a => N a ∨ ∃ j, j ∈ i :: is ∧ Pf j a) := funext fun a => propext ⟨fun z => by
      rcases z with (z | z) | ⟨j, h, _, z⟩
      · exact .inl z
      · exact .inr ⟨i, List.mem_cons_self, z⟩
      · exact .inr ⟨j, List.mem_cons_of_mem _ h, z⟩, fun z => by
      rcases z with z | ⟨j, h, z⟩
      · exact .inl (.inl z)
      · by_cases hj : j = i
        · exact .inl (.inr (hj ▸ z))
        · exact .inr ⟨j, (List.mem_cons.mp h).resolve_left hj, hj, z⟩⟩
    have e2 : (fun j a => j ∉ is ∧ j ≠ i ∧ Pf j a) = (fun j a => j ∉ i :: is ∧ Pf j a) := funext fun j => funext fun a => propext ⟨fun ⟨h1, h2, h3⟩ => ⟨by simp [h1, h2], h3⟩, fun ⟨h1, h3⟩ => by
      simp only [List.mem_cons, not_or] at h1
      exact ⟨h1.2, h1.1, h3⟩⟩
    rw [e1, e2] at q
    exact q
/-- behind an expression: its value beside the slots -/
theorem Stt.join {al : Al} {Nv Pv : AS} {x : V} {d : D} (s : Stt K E0 F N Pf H σ ρ) (R : Res K F N Pf H al H' Nv Pv x d) :
    Stt K E0 F (fun a => N a ∨ (∃ i, i ∈ al ∧ Pf i a) ∨ Nv a) (fun j a => j ∉ al ∧ Pf j a) H' σ (Hv.frz al ρ) where
  len := s.frz.len
  rep := fun j d h => by
    obtain ⟨x, e1, r⟩ := (s.frz (al := al)).rep j d h
    exact ⟨x, e1, r.ext R.ext (fun _ z => .inl z) (fun _ z => z.elim .inl fun z => .inr (.inl z)) fun _ z => z⟩
  dis := s.frz.dis
  prv := fun j a z => by
    obtain ⟨p, q, r⟩ := s.frz.prv j a z
    refine ⟨fun w => ?_, q, R.ext.ne r⟩
    rcases w with w | w | w
    · exact p (.inl w)
    · exact p (.inr w)
    · exact r (R.nv a w).1
  new := fun a w => by
    rcases w with w | ⟨i, _, w⟩ | w
    · exact ⟨(s.new a w).1, R.ext.ne (s.new a w).2⟩
    · exact ⟨(s.prv i a w).2.1, R.ext.ne (s.prv i a w).2.2⟩
    · exact ⟨s.ext.none (R.nv a w).1, (R.nv a w).2.1⟩
  old := s.old
  ext := s.ext.trans R.ext
/-- a slot set -/
theorem Stt.set {i : Nat} {P : AS} {x : V} {d : D} (s : Stt K E0 F N Pf H σ ρ) (r : RW K F N H P x d) (hp : ∀ a, P a → ¬ N a ∧ E0 a = none ∧ H a ≠ none ∧ ∀ j, j ≠ i → ¬ Pf j a) :
    Stt K E0 F N (fun j a => (j = i ∧ P a) ∨ (j ≠ i ∧ Pf j a)) H (σ.set i (some x)) (ρ.set i (some d)) where
  len := by rw [List.length_set, List.length_set]; exact s.len
  rep := (StE.set s.e r fun a z => (hp a z).2.2.1).rep
  dis := fun j k a p q => by
    rcases p with ⟨p, z⟩ | ⟨p, z⟩ <;> rcases q with ⟨q, w⟩ | ⟨q, w⟩
    · rw [p, q]
    · exact absurd w ((hp a z).2.2.2 k q)
    · exact absurd z ((hp a w).2.2.2 j p)
    · exact s.dis j k a z w
  prv := fun j a p => by
    rcases p with ⟨p, z⟩ | ⟨p, z⟩
    · exact ⟨(hp a z).1, (hp a z).2.1, (hp a z).2.2.1⟩
    · exact s.prv j a z
  new := s.new
  old := s.old
  ext := s.ext
/-- a value into a slot -/
theorem Stt.put {al : Al} {Nv Pv : AS} {x : V} {d : D} {i : Nat} (s : Stt K E0 F N Pf H σ ρ) (R : Res K F N Pf H al H' Nv Pv x d) :
    ∃ N' Pf', Stt K E0 F N' Pf' H' (σ.set i (some x)) ((Hv.frz al ρ).set i (some d)) ∧ (∀ a, N a → N' a) ∧ Fr M H Pf H' Pf' := by
  refine ⟨_, _, (s.join R).set R.rd fun a z => ⟨fun w => ?_, s.ext.none (R.pv a z).1, (R.pv a z).2, fun j _ w => ?_⟩, fun _ z => .inl z, Fr.ext R.ext fun j a z => ?_⟩
  · rcases w with w | ⟨i, _, w⟩ | w
    · exact (s.new a w).2 (R.pv a z).1
    · exact (s.prv i a w).2.2 (R.pv a z).1
    · exact (R.nv a w).2.2 z
  · exact (s.prv j a w.2).2.2 (R.pv a z).1
  · rcases z with ⟨_, z⟩ | ⟨_, z⟩
    · exact .inr (R.pv a z).1
    · exact .inl z.2
theorem Stt.drop {al : Al} {Nv Pv : AS} {x : V} {d : D} (s : Stt K E0 F N Pf H σ ρ) (R : Res K F N Pf H al H' Nv Pv x d) : Stt K E0 F N Pf H' σ ρ := s.more R.ext
end
end Hv

/-! Hv, part 13: statements, that they do so. -/
namespace Hv
open PySem PySem.Spec PyProof.Rows L2

theorem PS_imp {X : Cx} {st : Stmt} {t t' : TS} (h : PS X st t) (i : ∀ D σ H, t' D σ H → t D σ H) : PS X st t' :=
  ⟨fun pins s σ H D I q => h.run pins s σ H D I (i D σ H q)⟩
theorem PSs_imp {X : Cx} {st : List Stmt} {t t' : TS} (h : PSs X st t) (i : ∀ D σ H, t' D σ H → t D σ H) : PSs X st t' :=
  ⟨fun pins s σ H D I q => h.run pins s σ H D I (i D σ H q)⟩
theorem PS_or {X : Cx} {st : Stmt} {t t' : TS} (h : PS X st t) (h' : PS X st t') : PS X st (fun D σ H => t D σ H ∨ t' D σ H) :=
  ⟨fun pins s σ H D I q => q.elim (h.run pins s σ H D I) (h'.run pins s σ H D I)⟩
section
variable {K : KW} {W : WX} {E0 : Hp} {F : AS} {M : List Nat} {N N' : AS} {Pf Pf' : Nat → AS} {H H' : Hp} {Dn : Ends} {σ : L2.St} {ρ : Env}
theorem exc_of {c : Str} (s : Stt K E0 F N Pf H σ ρ) (h : PSr K W E0 F M N Pf H Dn (.exc c ρ)) : ∀ H' cl od, Ext H H' → ExcV K.k c cl od → W cl od σ H' :=
  fun H' cl od he hx => h σ H' N Pf cl od (s.more he) (fun _ z => z) (Fr.ext he fun _ _ z => .inl z) hx
theorem tS_e {f : R} {g : D → Al → RS} (s : Stt K E0 F N Pf H σ ρ) (h : PSr K W E0 F M N Pf H Dn (f.bindS ρ g)) {Q : VK}
    (hq : ∀ x d al H1 N1 P1, f = .ok d al → Res K F N Pf H al H1 N1 P1 x d → PSr K W E0 F M N Pf H Dn (g d al) → Q x H1) : PR K W F N Pf σ H Q f := by
  cases f with
  | ok d al => exact fun x H1 N1 P1 R => hq x d al H1 N1 P1 rfl R h
  | exc c => exact exc_of s h
  | stuck => exact h
theorem tS_l {f : Rl} {g : List D → Al → RS} (s : Stt K E0 F N Pf H σ ρ) (h : PSr K W E0 F M N Pf H Dn (f.bindS ρ g)) {Q : List V → Hp → Prop}
    (hq : ∀ x d al H1 N1 P1, f = .ok d al → Resl K F N Pf H al H1 N1 P1 x d → PSr K W E0 F M N Pf H Dn (g d al) → Q x H1) : PL K W F N Pf σ H Q f := by
  cases f with
  | ok d al => exact fun x H1 N1 P1 R => hq x d al H1 N1 P1 rfl R h
  | exc c => exact exc_of s h
  | stuck => exact h
theorem tS_t {f : TR} {g : Bool → RS} (s : Stt K E0 F N Pf H σ ρ) (h : PSr K W E0 F M N Pf H Dn (f.bindS ρ g)) {Q : Bool → Hp → Prop}
    (hq : ∀ b H1, f = .ok b → Ext H H1 → PSr K W E0 F M N Pf H Dn (g b) → Q b H1) : PT' K W σ H Q f := by
  cases f with
  | ok b => exact fun H1 e => hq b H1 rfl e h
  | exc c => exact exc_of s h
  | stuck => exact h
theorem Fr.more (e : Ext H H') : Fr M H Pf H' Pf := Fr.ext e fun _ _ z => .inl z
end
section
variable {X : Cx} {W : WX} {pos : Pos} {E0 : Hp} {M : List Nat}
def isComp : Expr → Bool
  | .ListComp .. => true
  | .SetComp .. => true
  | .DictComp .. => true
  | _ => false
theorem sw0 {e : Expr} (h : isComp e = false) {t : Option Expr} {l : Nat} {env : PySem.Env} : swapsWith e t l env = pure false := by
  cases e <;> first | rfl | (simp [isComp] at h)
def isTup : Expr → Bool
  | .Tuple .. => true
  | _ => false
theorem hs_asg' {t : Expr} {i : Nat} {e : Expr} {f : Env → VT} (h : PS X (.Assign [t] e pos) (tAsg (tE X.kw W fun ρ => (f ρ).e) (gName i))) :
    PS X (.Assign [t] e pos) (tS X.kw W E0 M fun ρ => (f ρ).e.bindS ρ fun d al => .next ((frz al ρ).set i (some d))) := by
  refine PS_imp h fun D σ H ⟨F, N, Pf, ρ, s, q⟩ => ⟨F, N, Pf, ρ, s.e, tS_e s q fun x d al H1 N1 P1 _ R q => ?_⟩
  obtain ⟨N', Pf', s', n, f⟩ := s.put (i := i) (M := M) R
  exact q _ _ _ _ s' n f
theorem hs_asg {i : Nat} {x : Str} {e : Expr} {f : Env → VT} {p' : Pos} (hN : X.N.Nodup) (hi : X.N[i]? = some x) (hx : Loc X.env.scope x) (he : HV X W e f) (hc : isComp e = false) (hf : X.fn x = true ∨ X.env.scope.names.lookup x = some .local) :
    PS X (.Assign [.Name x p'] e pos) (tS X.kw W E0 M fun ρ => (f ρ).e.bindS ρ fun d al => .next ((frz al ρ).set i (some d))) :=
  hs_asg' (ps_set hN hi hx he.e (sw0 hc) hf)
theorem hs_ret {e : Expr} {f : Env → VT} (he : HV X W e f) : PS X (.Return (some e) pos) (tS X.kw W E0 M fun ρ => (f ρ).e.bindS ρ fun d _ => .ret d) := by
  refine PS_imp (ps_ret he.e) fun D σ H ⟨F, N, Pf, ρ, s, q⟩ => ⟨F, N, Pf, ρ, s.e, tS_e s q fun x d al H1 N1 P1 _ R q => ?_⟩
  refine q x H1 _ _ (s.ext.trans R.ext) R.rd (fun a z => ?_) fun a z => ⟨s.ext.none (R.pv a z).1, (R.pv a z).2⟩
  rcases z with z | ⟨j, _, z⟩ | z
  · exact ⟨(s.new a z).1, R.ext.ne (s.new a z).2, fun w => (s.new a z).2 (R.pv a w).1⟩
  · exact ⟨(s.prv j a z).2.1, R.ext.ne (s.prv j a z).2.2, fun w => (s.prv j a z).2.2 (R.pv a w).1⟩
  · exact ⟨s.ext.none (R.nv a z).1, (R.nv a z).2.1, (R.nv a z).2.2⟩
theorem hs_retv {i : Nat} {x : Str} {p : Pos} (hN : X.N[i]? = some x) (hv : Vis X.env.scope x) (hd : (x == ("__debug__" : Str)) = false) (hc : (x == ("__classdict__" : Str)) = false) : PS X (.Return (some (.Name x p)) pos) (tS X.kw W E0 M fun ρ => match ρ[i]? with
    | some (some d) => .ret d
    | _ => .stuck) := by
  refine PS_imp (ps_ret (pe_var hN hv hd hc)) fun D σ H ⟨F, N, Pf, ρ, s, q⟩ => ?_
  try dsimp only at q
  split at q
  · rename_i d e
    obtain ⟨v, e1, r⟩ := s.rep i d e
    refine ⟨v, e1, q v H N (Pf i) s.ext r (fun a z => ⟨(s.new a z).1, (s.new a z).2, fun w => (s.prv i a w).1 z⟩) fun a z => ⟨(s.prv i a z).2.1, (s.prv i a z).2.2⟩⟩
  · exact q.elim
theorem hs_retn : PS X (.Return none pos) (tS X.kw W E0 M fun ρ => .ret (.v .none)) := by
  refine PS_imp ps_retN fun D σ H ⟨F, N, Pf, ρ, s, q⟩ => ?_
  exact q .non H N (fun _ => False) s.ext (.mk (.v .non)) (fun a z => ⟨(s.new a z).1, (s.new a z).2, fun w => w⟩) fun _ z => z.elim
theorem hs_pass : PS X (.Pass pos) (tS X.kw W E0 M fun ρ => .next ρ) := PS_imp ps_pass fun D σ H ⟨F, N, Pf, ρ, s, q⟩ => q σ H N Pf s (fun _ z => z) Fr.refl
theorem hs_brk : PS X (.Break pos) (tS X.kw W E0 M fun ρ => .brk ρ) := PS_imp ps_break fun D σ H ⟨F, N, Pf, ρ, s, q⟩ => q σ H N Pf s (fun _ z => z) Fr.refl
theorem hs_cnt : PS X (.Continue pos) (tS X.kw W E0 M fun ρ => .cnt ρ) := PS_imp ps_continue fun D σ H ⟨F, N, Pf, ρ, s, q⟩ => q σ H N Pf s (fun _ z => z) Fr.refl
theorem hs_drop {e : Expr} {f : Env → VT} (he : HV X W e f) (hc : isComp e = false) : PS X (.Expr e pos) (tS X.kw W E0 M fun ρ => (f ρ).e.bindS ρ fun _ _ => .next ρ) := by
  refine PS_imp (ps_expr he.e (sw0 hc)) fun D σ H ⟨F, N, Pf, ρ, s, q⟩ => ⟨F, N, Pf, ρ, s.e, tS_e s q fun x d al H1 N1 P1 _ R q => ?_⟩
  exact q σ H1 N Pf (s.more R.ext) (fun _ z => z) (Fr.more R.ext)
theorem hss_nil : PSs X [] (tS X.kw W E0 M fun ρ => .next ρ) := PSs_imp pss_nil fun D σ H ⟨F, N, Pf, ρ, s, q⟩ => q σ H N Pf s (fun _ z => z) Fr.refl
def seqS (r : RS) (g : Env → RS) : RS := match r with
  | .next ρ' => g ρ'
  | .ret d => .ret d
  | .brk ρ' => .brk ρ'
  | .cnt ρ' => .cnt ρ'
  | .exc c ρ' => .exc c ρ'
  | .stuck => .stuck
theorem hss_cons {st : Stmt} {sts : List Stmt} {f g : Env → RS} (h1 : PS X st (tS X.kw W E0 M f)) (h2 : PSs X sts (tS X.kw W E0 M g)) : PSs X (st :: sts) (tS X.kw W E0 M fun ρ => seqS (f ρ) g) := by
  refine PSs_imp (pss_cons h1 h2) fun D σ H ⟨F, N, Pf, ρ, s, q⟩ => ⟨F, N, Pf, ρ, s, ?_⟩
  try dsimp only at q ⊢
  cases e : f ρ with
  | next ρ' =>
    simp only [e, seqS] at q
    exact fun σ' H' N' Pf' s' n fr => ⟨F, N', Pf', ρ', s', q.shift n fr⟩
  | _ => simp only [e, seqS] at q; exact q
theorem hs_if {c : Expr} {a b : List Stmt} {fc : Env → VT} {f g : Env → RS} (hc : HV X W c fc) (ha : PSs X a (tS X.kw W E0 M f)) (hb : PSs X b (tS X.kw W E0 M g)) : PS X (.If c a b pos) (tS X.kw W E0 M fun ρ => (fc ρ).t.bindS ρ fun k => if k then f ρ else g ρ) := by
  refine PS_imp (ps_if hc.t ha hb) fun D σ H ⟨F, N, Pf, ρ, s, q⟩ => ⟨F, N, Pf, ρ, s.e, tS_t s q fun k H1 _ e q => ?_⟩
  have s' := s.more e
  cases k with
  | true => exact ⟨F, N, Pf, ρ, s', q.shift (fun _ z => z) (Fr.more e)⟩
  | false => exact ⟨F, N, Pf, ρ, s', q.shift (fun _ z => z) (Fr.more e)⟩
theorem hs_aug {i : Nat} {x : Str} {e : Expr} {f : Env → VT} {p' : Pos} {o : BOp} {op : Operator} (ho : (o = .add ∧ op = .Add) ∨ (o = .sub ∧ op = .Sub)) (hN : X.N.Nodup) (hi : X.N[i]? = some x) (hx : Loc X.env.scope x) (he : HV X W e f) (hf : X.fn x = true ∨ X.env.scope.names.lookup x = some .local) :
    PS X (.AugAssign (.Name x p') op e pos) (tS X.kw W E0 M fun ρ => match ρ[i]? with
    | some (some (.v (.int a))) => (f ρ).e.bindS ρ fun d _ => match data d with
      | some (.int b) => match o with
        | .add => .next (ρ.set i (some (.v (.int (a + b)))))
        | .sub => .next (ρ.set i (some (.v (.int (a - b)))))
        | _ => .stuck
      | _ => .stuck
    | _ => .stuck) := by
  have key : ∀ (g : Int → Int → Int), PIp X op (ipI g) → PS X (.AugAssign (.Name x p') op e pos) (tS X.kw W E0 M fun ρ => match ρ[i]? with
      | some (some (.v (.int a))) => (f ρ).e.bindS ρ fun d _ => match data d with
        | some (.int b) => .next (ρ.set i (some (.v (.int (g a b)))))
        | _ => .stuck
      | _ => .stuck) := by
    intro g hp
    refine PS_imp (ps_aug hN hi hx he.e hp hf) fun D σ H ⟨F, N, Pf, ρ, s, q⟩ => ?_
    try dsimp only at q
    split at q
    · rename_i a e0
      obtain ⟨v, e1, r⟩ := s.rep i _ e0
      have r1 := r.data rfl
      cases r1
      refine ⟨_, e1, F, N, Pf, ρ, s.e, tS_e s q fun y d al H1 N1 P1 _ R q => ?_⟩
      split at q
      · rename_i b e2
        have r2 := R.dat e2 Ext.refl
        cases r2
        refine ⟨_, _, rfl, rfl, q _ _ N _ ((s.more R.ext).set (i := i) (P := fun _ => False) (.mk (.v (.int _))) fun _ z => z.elim) (fun _ z => z) (Fr.ext R.ext fun j a z => ?_)⟩
        rcases z with ⟨_, z⟩ | ⟨_, z⟩
        · exact z.elim
        · exact .inl z
      · exact q.elim
    · exact q.elim
  rcases ho with ⟨rfl, rfl⟩ | ⟨rfl, rfl⟩
  · exact key _ ip_add
  · exact key _ ip_sub
end
end Hv

/-! Hv, part 14: loops. -/
namespace Hv
open PySem PySem.Spec PyProof.Rows L2

section
variable {K : KW} {E0 : Hp} {F N : AS} {Pf : Nat → AS} {H : Hp} {σ : L2.St} {ρ ρ' : Env}
theorem Stt.setF {i : Nat} {x : V} {b : Bool} {p : PyData} (s : Stt K E0 F N Pf H σ ρ) (r : Rp K (SB b F N) H x p) : ∃ Pf', Stt K E0 F N Pf' H (σ.set i (some x)) (ρ.set i (some (fz b p))) ∧ ∀ j a, Pf' j a → Pf j a := by
  refine ⟨_, s.set (i := i) (P := fun _ => False) (.mk (RD.fz r)) fun _ z => z.elim, fun j a z => ?_⟩
  rcases z with ⟨_, z⟩ | ⟨_, z⟩
  · exact z.elim
  · exact z
theorem gList_okS {b : Bool} : ∀ {is : List Nat} {ps : List PyData} {xs : List V} {σ : L2.St} {ρ : Env} {Pf : Nat → AS} {Q : L2.St → Hp → Prop}, Stt K E0 F N Pf H σ ρ → Rps K (SB b F N) H xs ps → setTs b is ps ρ = some ρ' →
    (∀ σ' Pf', (∀ j a, Pf' j a → Pf j a) → Stt K E0 F N Pf' H σ' ρ' → Q σ' H) → gList is xs σ H Q
  | [], [], _, σ, ρ, Pf, Q, S, .nil, e, q => by
    injection e with e
    subst e
    exact ⟨rfl, q σ Pf (fun _ _ z => z) S⟩
  | i :: is, p :: ps, _, σ, ρ, Pf, Q, S, .cons (x := x) (xs := xs) h t, e, q => by
    have e : setTs b is ps (ρ.set i (some (fz b p))) = some ρ' := e
    obtain ⟨P1, s1, h1⟩ := S.setF (i := i) h
    exact ⟨x, xs, rfl, gList_okS s1 t e fun σ' Pf' hp S' => q σ' Pf' (fun j a z => h1 j a (hp j a z)) S'⟩
  | [], _ :: _, _, _, _, _, _, _, _, e, _ => by cases e
  | _ :: _, [], _, _, _, _, _, _, _, e, _ => by cases e
theorem gT_okS {t : Tg} {b : Bool} {p : PyData} {x : V} {Q : L2.St → Hp → Prop} (S : Stt K E0 F N Pf H σ ρ) (r : Rp K (SB b F N) H x p) (e : setT t b p ρ = some ρ')
    (q : ∀ σ' Pf', (∀ j a, Pf' j a → Pf j a) → Stt K E0 F N Pf' H σ' ρ' → Q σ' H) : gT K.k t x σ H Q := by
  cases t with
  | name i =>
    have e : some (ρ.set i (some (fz b p))) = some ρ' := e
    injection e with e
    subst e
    obtain ⟨P1, s1, h1⟩ := S.setF (i := i) r
    exact q _ _ h1 s1
  | tup is =>
    cases p with
    | tuple ps =>
      have e : setTs b is ps ρ = some ρ' := e
      obtain ⟨a, xs, rfl, l, s⟩ := r.sqt
      exact .inl ⟨a, xs, rfl, l, by rw [s.len, setTs_len e], gList_okS S s e q⟩
    | list ps =>
      have e : setTs b is ps ρ = some ρ' := e
      obtain ⟨a, xs, rfl, l, s⟩ := r.ll
      exact .inr ⟨a, xs, rfl, l.sq, by rw [s.len, setTs_len e], gList_okS S s e q⟩
    | _ => cases e
/-- behind some parts: they are not one's own any more -/
theorem Stt.joinL {al : Al} {A : AS} {H' : Hp} (s : Stt K E0 F N Pf H σ ρ) (ex : Ext H H') (na : ∀ a, A a → H a = none ∧ H' a ≠ none) :
    Stt K E0 F (S1 N Pf al A) (fun j a => j ∉ al ∧ Pf j a) H' σ (Hv.frz al ρ) where
  len := s.frz.len
  rep := fun j d h => by
    obtain ⟨x, e1, r⟩ := (s.frz (al := al)).rep j d h
    exact ⟨x, e1, r.ext ex (fun _ z => .inl z) (fun _ z => z.elim .inl fun z => .inr (.inl z)) fun _ z => z⟩
  dis := s.frz.dis
  prv := fun j a z => by
    obtain ⟨p, q, r⟩ := s.frz.prv j a z
    refine ⟨fun w => ?_, q, ex.ne r⟩
    rcases w with w | w | w
    · exact p (.inl w)
    · exact p (.inr w)
    · exact r (na a w).1
  new := fun a w => by
    rcases w with w | ⟨i, _, w⟩ | w
    · exact ⟨(s.new a w).1, ex.ne (s.new a w).2⟩
    · exact ⟨(s.prv i a w).2.1, ex.ne (s.prv i a w).2.2⟩
    · exact ⟨s.ext.none (na a w).1, (na a w).2⟩
  old := s.old
  ext := s.ext.trans ex
end
section
variable {X : Cx} {W : WX} {pos : Pos} {E0 : Hp} {M : List Nat}
theorem hs_asgT {is : List Nat} {tg e : Expr} {f : Env → VT} (he : HV X W e f) (hg : PG X tg (gT X.K (.tup is))) (hc : isComp e = false) (ht : isTup e = false) (h1 : (assignEach [tg] X.env).map (·.2) = [assign tg X.env]) :
    PS X (.Assign [tg] e pos) (tS X.kw W E0 M fun ρ => (f ρ).e.bindS ρ fun d al => match data d with
    | some p => match setT (.tup is) (isNew d) p (frz al ρ) with
      | some ρ => .next ρ
      | none => .stuck
    | none => .stuck) := by
  have hw : swappedStores [tg] e X.env = pure none := by
    cases e <;> first | (simp [isTup] at ht; done) | (cases tg <;> rfl)
  refine PS_imp (ps_asg he.e hg (sw0 hc) hw h1) fun D σ H ⟨F, N, Pf, ρ, s, q⟩ => ⟨F, N, Pf, ρ, s.e, tS_e s q fun x d al H1 N1 P1 _ R q => ?_⟩
  split at q
  · rename_i p e1
    split at q
    · rename_i ρ' e2
      have s1 := s.joinL (al := al) (A := fun a => N1 a ∨ P1 a) R.ext fun a z => z.elim (fun z => ⟨(R.nv a z).1, (R.nv a z).2.1⟩) fun z => R.pv a z
      exact gT_okS (K := X.kw) s1 (R.dat e1 Ext.refl) e2 fun σ' Pf' hp s' => q σ' H1 _ Pf' s' (fun a z => .inl z) (Fr.ext R.ext fun j a z => .inl (hp j a z).2)
    · exact q.elim
  · exact q.elim
theorem forR_step {st : PyData → Env → Option Env} {body : Env → RS} {p : PyData} {ps : List PyData} {ρ : Env} : forR st body (p :: ps) ρ = match st p ρ with
    | none => .stuck
    | some ρ1 => match body ρ1 with
      | .next ρ2 => forR st body ps ρ2
      | .cnt ρ2 => forR st body ps ρ2
      | .brk ρ2 => .next ρ2
      | .ret d => .ret d
      | .exc c ρ2 => .exc c ρ2
      | .stuck => .stuck := rfl
theorem for_run {F N : AS} {Pf : Nat → AS} {σ : L2.St} {H0 H1 : Hp} {ρ : Env} {Dn : Ends} {k : Sk} {ds : List D} {al al2 : Al} {ps : List PyData} {w : Bool} {N1 P1 : AS} {xs : List V} {J : It} {tg : Tg} {mb : List Nat} {body : Env → RS}
    (s : Stt X.kw E0 F N Pf H0 σ ρ) (R : Resl X.kw F N Pf H0 al H1 N1 P1 xs ds) (e1 : itemsR k ds al = some (ps, w, al2)) (hw : ∀ Z, Far (SB w F (S1 N Pf al fun a => N1 a ∨ P1 a)) Z H1 → Walks X.kw (SB w F (S1 N Pf al fun a => N1 a ∨ P1 a)) Z H1 J ps)
    (hm : ∀ i ∈ mb, i ∈ M) (hal : ∀ i ∈ al, i ∉ mb) (q : PSr X.kw W E0 F M N Pf H0 Dn (forR (fun p ρ => setT tg w p ρ) body ps (frz al2 ρ))) :
    ∃ Wv : Nat → Nat → L2.St → Hp → Prop, (∃ m, Wv 0 m σ H1) ∧ ∀ i m σ H, Wv i m σ H →
      (J.stop i H ∧ Dn.nx σ H) ∨ (J.go i H ∧ ∃ Nx : L2.St → Hp → Prop, (∀ σ' H', Nx σ' H' → ∃ m', m' < m ∧ Wv (i + 1) m' σ' H') ∧ ∀ x H', J.yld i H x H' → gT X.K tg x σ H' fun σ2 H2 => tS X.kw W E0 mb body { Dn with nx := Nx, ct := Nx, bk := Dn.nx } σ2 H2) := by
  have na : ∀ a, (N1 a ∨ P1 a) → H0 a = none ∧ H1 a ≠ none := fun a z => z.elim (fun z => ⟨(R.nv a z).1, (R.nv a z).2.1⟩) fun z => R.pv a z
  have s1 := s.joinL (al := al2) (A := fun a => N1 a ∨ P1 a) R.ext na
  have q := q.shift (N' := S1 N Pf al2 fun a => N1 a ∨ P1 a) (Pf' := fun j a => j ∉ al2 ∧ Pf j a) (H' := H1) (fun _ z => .inl z) (Fr.ext R.ext fun j a z => .inl z.2)
  generalize hNN : (S1 N Pf al2 fun a => N1 a ∨ P1 a) = NN at s1 q
  generalize hPf1 : (fun j a => j ∉ al2 ∧ Pf j a) = Pf1 at s1 q
  have far : Far (SB w F (S1 N Pf al fun a => N1 a ∨ P1 a)) (fun a => (∃ j ∈ mb, Pf1 j a) ∧ ∃ ys, H1 a = some (.lst ys)) H1 := by
    refine ⟨fun a z ⟨⟨j, hj, y⟩, _⟩ => ?_, fun b ys ⟨_, zs, hz⟩ r => ?_⟩
    · subst hPf1
      obtain ⟨y1, y2⟩ := y
      rcases z with ⟨_, z⟩ | z | ⟨i, hi, z⟩ | z
      · exact s.old a z (s.prv j a y2).2.1
      · exact (s.prv j a y2).1 z
      · exact hal i hi (s.dis i j a z y2 ▸ hj)
      · exact (s.prv j a y2).2.2 (na a z).1
    · rcases r with r | ⟨o, r⟩ <;> (rw [hz] at r; cases r)
  have wk := hw _ far
  refine ⟨fun i m σ' H' => m = ps.length - i ∧ i ≤ ps.length ∧ ∃ ρ' N' Pf', Stt X.kw E0 F N' Pf' H' σ' ρ' ∧ (∀ a, NN a → N' a) ∧ Fr mb H1 Pf1 H' Pf' ∧ PSr X.kw W E0 F M N' Pf' H' Dn (forR (fun p ρ => setT tg w p ρ) body (ps.drop i) ρ'), ⟨_, rfl, Nat.zero_le _, _, _, _, s1, fun _ z => z, Fr.refl, q⟩, ?_⟩
  rintro i m σ' H' ⟨rfl, hi, ρ', N', Pf', s', nn, fr, q'⟩
  have kp : Kp (fun a => (∃ j ∈ mb, Pf1 j a) ∧ ∃ ys, H1 a = some (.lst ys)) H1 H' := by
    intro a o hz e
    refine fr.kp a o e ?_
    by_cases hl : ∃ ys, o = .lst ys
    · refine .inl fun j hj z => hz ⟨⟨j, hj, z⟩, ?_⟩
      obtain ⟨ys, rfl⟩ := hl
      exact ⟨ys, e⟩
    · exact .inr fun ys h => hl ⟨ys, h⟩
  obtain ⟨wgo, wstop⟩ := wk i H' kp
  by_cases hlt : i < ps.length
  · have hd : ps.drop i = ps[i] :: ps.drop (i + 1) := List.drop_eq_getElem_cons hlt
    have hp : ps[i]? = some ps[i] := by simp [hlt]
    obtain ⟨go, yld⟩ := wgo _ hp
    have hmem : ps[i] ∈ ps := List.getElem_mem hlt
    generalize ps[i] = p at hd hp yld hmem
    refine .inr ⟨go, fun σ4 H4 => i + 1 ≤ ps.length ∧ ∃ ρ' N' Pf', Stt X.kw E0 F N' Pf' H4 σ4 ρ' ∧ (∀ a, NN a → N' a) ∧ Fr mb H1 Pf1 H4 Pf' ∧ PSr X.kw W E0 F M N' Pf' H4 Dn (forR (fun p ρ => setT tg w p ρ) body (ps.drop (i + 1)) ρ'), fun σ4 H4 z => ⟨_, by omega, rfl, z⟩, fun x H2 hy => ?_⟩
    obtain ⟨ex, r⟩ := yld x H2 hy
    have r := item_al e1 hmem r
    rw [hNN] at r
    rw [hd, forR_step] at q'
    have s2 := s'.more ex
    cases hst : setT tg w p ρ' with
    | none => rw [hst] at q'; exact q'.elim
    | some ρ1 =>
      rw [hst] at q'
      simp only at q'
      refine gT_okS (K := X.kw) s2 (r.mono (SB.mono (fun z => z) nn)) hst fun σ3 Pf3 h3 s3 => ⟨F, N', Pf3, ρ1, s3, ?_⟩
      have fr3 : Fr mb H1 Pf1 H2 Pf3 := fr.trans (Fr.ext ex fun j a z => .inl (h3 j a z))
      have q3 : PSr X.kw W E0 F M N' Pf3 H2 Dn (match body ρ1 with
        | .next ρ2 => forR (fun p ρ => setT tg w p ρ) body (ps.drop (i + 1)) ρ2
        | .cnt ρ2 => forR (fun p ρ => setT tg w p ρ) body (ps.drop (i + 1)) ρ2
        | .brk ρ2 => .next ρ2
        | .ret d => .ret d
        | .exc c ρ2 => .exc c ρ2
        | .stuck => .stuck) := q'.shift (fun _ z => z) (Fr.ext ex fun j a z => .inl (h3 j a z))
      cases hb : body ρ1 with
      | next ρ2 =>
        rw [hb] at q3
        exact fun σ4 H4 N4 P4 s4 n4 f4 => ⟨hlt, ρ2, N4, P4, s4, fun a z => n4 a (nn a z), fr3.trans f4, q3.shift n4 (f4.mono hm)⟩
      | cnt ρ2 =>
        rw [hb] at q3
        exact fun σ4 H4 N4 P4 s4 n4 f4 => ⟨hlt, ρ2, N4, P4, s4, fun a z => n4 a (nn a z), fr3.trans f4, q3.shift n4 (f4.mono hm)⟩
      | brk ρ2 =>
        rw [hb] at q3
        exact fun σ4 H4 N4 P4 s4 n4 f4 => q3 σ4 H4 N4 P4 s4 n4 (f4.mono hm)
      | ret d => rw [hb] at q3; exact q3
      | exc c ρ2 =>
        rw [hb] at q3
        exact fun σ4 H4 N4 P4 cl od s4 n4 f4 hx => q3 σ4 H4 N4 P4 cl od s4 n4 (f4.mono hm) hx
      | stuck => rw [hb] at q3; exact q3
  · have e : i = ps.length := by omega
    subst e
    rw [List.drop_length] at q'
    exact .inl ⟨wstop (Nat.le_refl _), q' σ' H' N' Pf' s' (fun _ z => z) Fr.refl⟩
theorem hs_for {tg iter : Expr} {body : List Stmt} {tg' : Tg} {k : Sk} {fs : Env → Rl} {g : Env → RS} {mb : List Nat} (hp : PassesOwn (model X.prog X.w) X.A X.env X.xe) (hc : X.calm = true) (hi : PI X tg iter (tI X.kw W k fs)) (hg : PG X tg (gT X.K tg')) (hb : PSs X body (tS X.kw W E0 mb g))
    (hm : ∀ i ∈ mb, i ∈ M) (hs : ∀ x, foldedSetIterable iter X.env x = pure x) : PS X (.For tg iter body [] pos) (tS X.kw W E0 M fun ρ => (fs ρ).bindS ρ fun ds al => match itemsR k ds al with
    | some (ps, w, al2) => if al.all (fun i => !mb.contains i) then forR (fun p ρ => setT tg' w p ρ) g ps (frz al2 ρ) else .stuck
    | none => .stuck) := by
  refine PS_imp (ps_for hp hc hi hg hb hs) fun D σ H ⟨F, N, Pf, ρ, s, q⟩ => ⟨F, N, Pf, ρ, s.e, ?_⟩
  dsimp only at q
  cases e : fs ρ with
  | exc c => rw [e] at q; exact exc_of s q
  | stuck => rw [e] at q; exact q
  | ok ds al =>
    rw [e] at q
    simp only [Rl.bindS] at q
    simp only [PW']
    cases e1 : itemsR k ds al with
    | none => rw [e1] at q; exact q
    | some z =>
      obtain ⟨ps, w, al2⟩ := z
      rw [e1] at q
      simp only at q ⊢
      split at q
      · rename_i hal
        intro xs H1 N1 P1 J R1 hl wk
        exact for_run s R1 e1 wk hm (fun i hi => by simpa using (List.all_eq_true.mp hal) i hi) q
      · exact q.elim
theorem hs_while {c : Expr} {body : List Stmt} {fc : Env → VT} {g : Env → RS} (hp : PassesOwn (model X.prog X.w) X.A X.env X.xe) (hc : HV X W c fc) (hb : PSs X body (tS X.kw W E0 M g)) :
    PS X (.While c body [] pos) (tS X.kw W E0 M fun ρ => wh (fun ρ => (fc ρ).t) g ρ) := by
  refine PS_imp (ps_while hp hc.t hb) fun D σ H ⟨F, N, Pf, ρ, s, q⟩ => ?_
  dsimp only at q
  generalize hr : wh (fun ρ => (fc ρ).t) g ρ = r at q
  have hne : r ≠ .stuck := fun z => by rw [z] at q; exact q
  obtain ⟨n0, hn0⟩ := wh_ex hr hne
  refine ⟨fun m σ' H' => ∃ ρ' N' Pf', Stt X.kw E0 F N' Pf' H' σ' ρ' ∧ PSr X.kw W E0 F M N' Pf' H' D (whN (fun ρ => (fc ρ).t) g m ρ'), ⟨n0, ρ, N, Pf, s, by rw [hn0]; exact q⟩, ?_⟩
  rintro m σ' H' ⟨ρ', N', Pf', s', q'⟩
  cases m with
  | zero => exact q'.elim
  | succ m =>
    unfold whN at q'
    refine ⟨F, N', Pf', ρ', s'.e, ?_⟩
    dsimp only at q' ⊢
    cases ec : (fc ρ').t with
    | exc c => rw [ec] at q'; exact exc_of s' q'
    | stuck => rw [ec] at q'; exact q'
    | ok b =>
      rw [ec] at q'
      intro H1 ex
      have s1 := s'.more ex
      cases b with
      | false => exact q' σ' H1 N' Pf' s1 (fun _ z => z) (Fr.more ex)
      | true =>
        simp only [if_true] at q' ⊢
        refine ⟨fun σ4 H4 => ∃ ρ' N' Pf', Stt X.kw E0 F N' Pf' H4 σ4 ρ' ∧ PSr X.kw W E0 F M N' Pf' H4 D (whN (fun ρ => (fc ρ).t) g m ρ'), fun σ4 H4 z => ⟨m, Nat.lt_succ_self m, z⟩, F, N', Pf', ρ', s1, ?_⟩
        have q1 := q'.shift (fun _ z => z) (Fr.more (M := M) (Pf := Pf') ex)
        cases hb : g ρ' with
        | next ρ2 => rw [hb] at q1; exact fun σ4 H4 N4 P4 s4 n4 f4 => ⟨ρ2, N4, P4, s4, q1.shift n4 f4⟩
        | cnt ρ2 => rw [hb] at q1; exact fun σ4 H4 N4 P4 s4 n4 f4 => ⟨ρ2, N4, P4, s4, q1.shift n4 f4⟩
        | brk ρ2 => rw [hb] at q1; exact q1
        | ret d => rw [hb] at q1; exact q1
        | exc c ρ2 => rw [hb] at q1; exact q1
        | stuck => rw [hb] at q1; exact q1
end
end Hv

/-! Hv, part 15: lists changed in place. -/
namespace Hv
open PySem PySem.Spec PyProof.Rows L2

/-- along list items -/
def Nav (K : PySem.W.Frag) (H : Hp) : V → List Int → V → Prop
  | x, [], y => x = y
  | x, j :: js, y => ∃ a xs z, x = .ref a ∧ SqL K H a xs ∧ atI xs j = some z ∧ Nav K H z js y
theorem sqlExt {k : PySem.W.Frag} {H H' : Hp} {a : Addr} {xs : List V} (h : SqL k H a xs) (e : Ext H H') : SqL k H' a xs := by
  rcases h with (h | ⟨o, h⟩) | h
  · exact .inl (.inl (e _ _ h))
  · exact .inl (.inr ⟨o, e _ _ h⟩)
  · exact .inr h
/-- all that a list edit needs -/
structure Edk (K : KW) (F N I F' N' I' : AS) (H H' : Hp) (a : Addr) : Prop where
  kp : Kp (fun b => b = a) H H'
  nt : ∀ ys, ¬ Rd H a (.tup ys)
  hF : ∀ a, F a → F' a ∨ N' a
  hN : ∀ a, N a → N' a
  hI : ∀ a, I a → I' a
  nF : ¬ F a
  nN : ¬ N a
  nI : ¬ I a
section
variable {K : KW} {F N I F' N' I' : AS} {H H' : Hp} {a : Addr}
theorem Nav.ext {k : PySem.W.Frag} (e : Ext H H') : ∀ {js : List Int} {x y : V}, Nav k H x js y → Nav k H' x js y
  | [], _, _, h => h
  | j :: js, _, _, ⟨a, xs, z, e1, l, e2, h⟩ => ⟨a, xs, z, e1, sqlExt l e, e2, Nav.ext e h⟩
theorem Nav.snoc {k : PySem.W.Frag} : ∀ {js : List Int} {j : Int} {x y : V}, Nav k H x (js ++ [j]) y → ∃ z, Nav k H x js z ∧ Nav k H z [j] y
  | [], j, x, y, h => ⟨x, rfl, h⟩
  | i :: js, j, x, y, ⟨a, xs, z, e1, l, e2, h⟩ => let ⟨w, h1, h2⟩ := Nav.snoc h; ⟨w, ⟨a, xs, z, e1, l, e2, h1⟩, h2⟩
theorem Edk.rd (k : Edk K F N I F' N' I' H H' a) {P : AS} {x : V} {d : D} (h : RD K F N I H P x d) (np : ¬ P a) : RD K F' N' I' H' P x d :=
  RD.kp k.kp k.hF k.hN k.hI (fun b z w => k.nF (w ▸ z)) (fun b z w => k.nN (w ▸ z)) (fun b z w => k.nI (w ▸ z)) (fun b ys w => w ▸ k.nt ys) h (fun _ z => z) fun b z w => np (w ▸ z)
theorem Edk.rds (k : Edk K F N I F' N' I' H H' a) {P : AS} {x : List V} {d : List D} (h : RDs K F N I H P x d) (np : ¬ P a) : RDs K F' N' I' H' P x d :=
  RDs.kp k.kp k.hF k.hN k.hI (fun b z w => k.nF (w ▸ z)) (fun b z w => k.nN (w ▸ z)) (fun b z w => k.nI (w ▸ z)) (fun b ys w => w ▸ k.nt ys) h (fun _ z => z) fun b z w => np (w ▸ z)
theorem RDs.upd : ∀ {n : Nat} {xs : List V} {ds : List D} {d : D} {Q : AS}, RDs K F N I H Q xs ds → ds[n]? = some d →
    ∃ x P1, xs[n]? = some x ∧ RD K F N I H P1 x d ∧ (∀ b, P1 b → Q b) ∧ ∀ {F' N' I' E : AS} {H' : Hp} {e' : D} {a : Addr}, P1 a → Edk K F N I F' N' I' H H' a → (∀ b, E b → ¬ Q b) →
      RD K F' N' I' H' (fun b => P1 b ∨ E b) x e' → RDs K F' N' I' H' (fun b => Q b ∨ E b) xs (ds.set n e')
  | 0, _, _, _, _, .cons (P1 := P1) (P2 := P2) h t p1 p2 dj, e => by
    injection e with e
    subst e
    refine ⟨_, P1, rfl, h, p1, fun {F' N' I' E H' e' a} pa k hE r => ?_⟩
    exact .cons (P1 := fun b => P1 b ∨ E b) (P2 := P2) r (k.rds t fun z => dj a pa z) (fun b z => z.elim (fun z => .inl (p1 b z)) .inr) (fun b z => .inl (p2 b z)) fun b z w => z.elim (fun z => dj b z w) fun z => hE b z (p2 b w)
  | n + 1, _, _, _, _, .cons (P1 := P1) (P2 := P2) h t p1 p2 dj, e => by
    obtain ⟨x, P3, e1, r, s, up⟩ := RDs.upd t (show _ from e)
    refine ⟨x, P3, e1, r, fun b z => p2 b (s b z), fun {F' N' I' E H' e' a} pa k hE r => ?_⟩
    exact .cons (P1 := P1) (P2 := fun b => P2 b ∨ E b) (k.rd h fun z => dj a z (s a pa)) (up pa k (fun b z w => hE b z (p2 b w)) r) (fun b z => .inl (p1 b z)) (fun b z => z.elim (fun z => .inl (p2 b z)) .inr) fun b z w => w.elim (dj b z) fun w => hE b w (p1 b z)
  | _, _, _, _, _, .nil, e => by cases e
/-- the list that a path leads to, and what may be laid there -/
structure Node (K : KW) (F N I : AS) (H : Hp) (f : List D → Option (List D)) (js : List Int) (P : AS) (x : V) (d' : D) (a : Addr) (xs : List V) (ds ds' : List D) (Q : AS) : Prop where
  nav : Nav K.k H x js (.ref a)
  ha : H a = some (.lst xs)
  rd : RDs K F N I H Q xs ds
  hf : f ds = some ds'
  pa : P a
  sub : ∀ b, Q b → P b
  nq : ¬ Q a
  up : ∀ {F' N' I' Q' E : AS} {H' : Hp} {xs' : List V}, Edk K F N I F' N' I' H H' a → H' a = some (.lst xs') → RDs K F' N' I' H' Q' xs' ds' → (∀ b, Q' b → Q b ∨ E b) → (∀ b, E b → ¬ P b) → RD K F' N' I' H' (fun b => P b ∨ E b) x d'
theorem RD.node {f : List D → Option (List D)} : ∀ (js : List Int) {P : AS} {x : V} {d d' : D}, RD K F N I H P x d → updD d js f = some d' → ∃ a xs ds ds' Q, Node K F N I H f js P x d' a xs ds ds' Q
  | [], _, _, .ol _, _, .ol (Q := Q) (a := a) (xs := xs) (ds := ds) p h r s q, e => by
    unfold updD at e
    split at e
    · rename_i es e2
      injection e with e
      subst e
      exact ⟨a, xs, ds, es, Q, rfl, h, r, e2, p, s, q, fun k ha r' hQ hE => .ol (.inl p) ha r' (fun b z => (hQ b z).elim (fun z => .inl (s b z)) .inr) fun z => (hQ a z).elim q fun z => hE a z p⟩
    · cases e
  | j :: js, P, _, .ol _, _, .ol (Q := Q0) (a := b) (xs := ys) (ds := es) p h r s q, e => by
    unfold updD at e
    split at e
    · rename_i n e1
      split at e
      · rename_i d1 e2
        split at e
        · rename_i d2 e3
          injection e with e
          subst e
          obtain ⟨x0, P0, e5, r0, s0, up0⟩ := RDs.upd r e2
          obtain ⟨a, xs, ds, ds', Q, nd⟩ := RD.node js r0 e3
          refine ⟨a, xs, ds, ds', Q, ⟨b, ys, x0, rfl, SqL.of h, ?_, nd.nav⟩, nd.ha, nd.rd, nd.hf, s a (s0 a nd.pa), fun c z => s c (s0 c (nd.sub c z)), nd.nq, fun {F' N' I' Q' E H' xs'} k ha' r' hQ' hE => ?_⟩
          · unfold atI
            rw [r.len, e1]
            exact e5
          · have hba : b ≠ a := fun z => q (z ▸ s0 a nd.pa)
            exact .ol (Q := fun c => Q0 c ∨ E c) (.inl p) (k.kp _ _ hba h) (up0 nd.pa k (fun c z w => hE c z (s c w)) (nd.up k ha' r' hQ' fun c z w => hE c z (s c (s0 c w)))) (fun c z => z.elim (fun z => .inl (s c z)) .inr) fun z => z.elim q fun z => hE b z p
        · cases e
      · cases e
    · cases e
  | _, _, _, .v _, _, _, e => by simp [updD] at e
  | _, _, _, .n _, _, _, e => by simp [updD] at e
  | _, _, _, .isl _, _, _, e => by simp [updD] at e
  | _, _, _, .ot _, _, _, e => by simp [updD] at e
  | _, _, _, .od _, _, _, e => by simp [updD] at e
  | _, _, _, .dead, _, _, e => by simp [updD] at e
end
/-- a change of a list's items, by items -/
def Edit (f : List D → Option (List D)) (g : List V → List V) (y : V) (d : D) : Prop := ∀ {K : KW} {F N I : AS} {H : Hp} {Q Q2 : AS} {xs : List V} {ds ds' : List D}, f ds = some ds' → RDs K F N I H Q xs ds → RD K F N I H Q2 y d → (∀ a, Q a → ¬ Q2 a) → RDs K F N I H (fun a => Q a ∨ Q2 a) (g xs) ds'
theorem edit_app {y : V} {d : D} : Edit (appF d) (fun xs => xs ++ [y]) y d := by
  intro K F N I H Q Q2 xs ds ds' e r h dj
  unfold appF at e
  split at e
  · injection e with e
    subst e
    exact RDs.append r (.cons (P2 := fun _ => False) h .nil (fun _ z => z) (fun _ z => z.elim) fun _ _ z => z) dj
  · cases e
theorem RDs.set {K : KW} {F N I : AS} {H : Hp} {y : V} {d : D} {Q2 : AS} (h : RD K F N I H Q2 y d) : ∀ {n : Nat} {xs : List V} {ds : List D} {Q : AS}, RDs K F N I H Q xs ds → (∀ a, Q a → ¬ Q2 a) → RDs K F N I H (fun a => Q a ∨ Q2 a) (xs.set n y) (ds.set n d)
  | _, _, _, _, .nil, _ => .nil
  | 0, _, _, _, .cons (P1 := P1) (P2 := P2) h0 t p1 p2 dj, hd => .cons (P1 := Q2) (P2 := P2) h t (fun _ z => .inr z) (fun a z => .inl (p2 a z)) fun a z w => hd a (p2 a w) z
  | n + 1, _, _, _, .cons (P1 := P1) (P2 := P2) h0 t p1 p2 dj, hd => .cons (P1 := P1) (P2 := fun a => P2 a ∨ Q2 a) h0 (RDs.set h t fun a z => hd a (p2 a z)) (fun a z => .inl (p1 a z)) (fun a z => z.elim (fun z => .inl (p2 a z)) .inr) fun a z w => w.elim (dj a z) (hd a (p1 a z))
theorem edit_set {j : Int} {y : V} {d : D} : Edit (setF j d) (fun xs => match ixN xs.length j with
    | some n => xs.set n y
    | none => xs) y d := by
  intro K F N I H Q Q2 xs ds ds' e r h dj
  unfold setF at e
  dsimp only
  rw [r.len]
  split at e
  · rename_i n e1
    injection e with e
    subst e
    try simp only [e1]
    exact RDs.set h r dj
  · cases e
section
variable {K : KW} {E0 : Hp} {F : AS} {M : List Nat} {N : AS} {Pf : Nat → AS} {H H1 H2 : Hp} {σ : L2.St} {ρ : Env} {f : List D → Option (List D)}
/-- a slot's list, a path along: where it lies, and the slots behind its change -/
theorem Stt.edit {i : Nat} {e e' : D} {js : List Int} (s : Stt K E0 F N Pf H σ ρ) (h0 : ρ[i]? = some (some e)) (hu : updD e js f = some e') :
    ∃ x a xs ds ds', σ[i]? = some (some x) ∧ Nav K.k H x js (.ref a) ∧ H a = some (.lst xs) ∧ xs.length = ds.length ∧ f ds = some ds' ∧
      ∀ {al : Al} {H2 : Hp} {Nv Pv : AS} {y : V} {d : D} {g : List V → List V}, i ∉ al → Res K F N Pf H al H2 Nv Pv y d → Edit f g y d → i ∈ M →
        ∃ N' Pf', Stt K E0 F N' Pf' (upd H2 a (.lst (g xs))) σ ((Hv.frz al ρ).set i (some e')) ∧ (∀ a, N a → N' a) ∧ Fr M H Pf (upd H2 a (.lst (g xs))) Pf' := by
  obtain ⟨x, e1, I1, Q1, r, hi1, hq1, hd1⟩ := s.rep i e h0
  obtain ⟨a, xs, ds, ds', Q, nd⟩ := RD.node js r hu
  refine ⟨x, a, xs, ds, ds', e1, nd.nav, nd.ha, nd.rd.len, nd.hf, fun {al H2 Nv Pv y d g} hal R ed hM => ?_⟩
  have pfa : Pf i a := hq1 a nd.pa
  obtain ⟨pa1, pa2, pa3⟩ := s.prv i a pfa
  have ha2 : H2 a = some (.lst xs) := R.ext _ _ nd.ha
  have nt : ∀ ys, ¬ Rd H a (.tup ys) := fun ys w => by rcases w with w | ⟨o, w⟩ <;> (rw [nd.ha] at w; cases w)
  have nt2 : ∀ ys, ¬ Rd H2 a (.tup ys) := fun ys w => by rcases w with w | ⟨o, w⟩ <;> (rw [ha2] at w; cases w)
  obtain ⟨I2, Q2, r2, hi2, hq2, hd2⟩ := R.rd
  have fresh : ∀ b, Pv b → b ≠ a := fun b z w => pa3 (w ▸ (R.pv b z).1)
  have kp2 : Kp (fun b => b = a) H2 (upd H2 a (.lst (g xs))) := fun b o hb e => by rw [upd_ne hb]; exact e
  have kp : Kp (fun b => b = a) H (upd H2 a (.lst (g xs))) := fun b o hb e => kp2 b o hb (R.ext b o e)
  have nFa : ¬ F a := fun z => s.old a z pa2
  have nNa : ¬ (N a ∨ (∃ i, i ∈ al ∧ Pf i a) ∨ Nv a) := fun z => by
    rcases z with z | ⟨j, hj, z⟩ | z
    · exact pa1 z
    · exact hal (s.dis j i a z pfa ▸ hj)
    · exact pa3 (R.nv a z).1
  have k1 : Edk K F N I1 F (fun a => N a ∨ (∃ i, i ∈ al ∧ Pf i a) ∨ Nv a) (fun b => I1 b ∨ I2 b) H (upd H2 a (.lst (g xs))) a :=
    ⟨kp, nt, fun _ z => .inl z, fun _ z => .inl z, fun _ z => .inl z, nFa, fun z => pa1 z, fun z => hd1 a z nd.pa⟩
  have k2 : Edk K F (fun a => N a ∨ (∃ i, i ∈ al ∧ Pf i a) ∨ Nv a) I2 F (fun a => N a ∨ (∃ i, i ∈ al ∧ Pf i a) ∨ Nv a) (fun b => I1 b ∨ I2 b) H2 (upd H2 a (.lst (g xs))) a :=
    ⟨kp2, nt2, fun _ z => .inl z, fun _ z => z, fun _ z => .inr z, nFa, nNa, fun z => fresh a (hi2 a z) rfl⟩
  have old : ∀ b, Q1 b → ¬ Pv b := fun b z w => (s.prv i b (hq1 b z)).2.2 (R.pv b w).1
  have rn := nd.up (E := Q2) k1 upd_same (ed nd.hf (k1.rds nd.rd nd.nq) (k2.rd r2 fun z => fresh a (hq2 a z) rfl) fun b z w => old b (nd.sub b z) (hq2 b w)) (fun b z => z) fun b z w => old b w (hq2 b z)
  have sj := s.join R
  refine ⟨fun a => N a ∨ (∃ i, i ∈ al ∧ Pf i a) ∨ Nv a, fun j b => (j = i ∧ (Pf i b ∨ Pv b)) ∨ (j ≠ i ∧ (j ∉ al ∧ Pf j b)), ⟨?_, fun j d hj => ?_, fun j k b p q => ?_, fun j b p => ?_, fun b z => ?_, s.old, fun b o z => ?_⟩, fun _ z => .inl z, ⟨fun b o z w => ?_, fun b z => ?_, fun j b z => ?_⟩⟩
  · rw [List.length_set]; exact sj.len
  · by_cases hji : i = j
    · subst hji
      have hi : i < (Hv.frz al ρ).length := by
        have := (List.getElem?_eq_some_iff.mp hj).1
        simpa using this
      rw [List.getElem?_set_self hi] at hj
      injection hj with hj; injection hj with hj
      subst hj
      refine ⟨x, e1, fun b => I1 b ∨ I2 b, fun b => Q1 b ∨ Q2 b, rn, fun b z => .inl ⟨rfl, z.elim (fun z => .inl (hi1 b z)) fun z => .inr (hi2 b z)⟩, fun b z => .inl ⟨rfl, z.elim (fun z => .inl (hq1 b z)) fun z => .inr (hq2 b z)⟩, fun b z w => ?_⟩
      rcases z with z | z <;> rcases w with w | w
      · exact hd1 b z w
      · exact (s.prv i b (hi1 b z)).2.2 (R.pv b (hq2 b w)).1
      · exact old b w (hi2 b z)
      · exact hd2 b z w
    · rw [List.getElem?_set_ne hji] at hj
      obtain ⟨z, e3, rz⟩ := sj.rep j d hj
      refine ⟨z, e3, rz.kp kp2 (fun _ z => .inl z) (fun _ z => z) (fun b z w => nFa (w ▸ z)) (fun b z w => nNa (w ▸ z)) (fun b ys w => w ▸ nt2 ys) (fun b z => .inr ⟨Ne.symm hji, z⟩) fun b z w => hji (s.dis i j b (w ▸ pfa) z.2)⟩
  · rcases p with ⟨p, z⟩ | ⟨p, _, z⟩ <;> rcases q with ⟨q, w⟩ | ⟨q, _, w⟩
    · rw [p, q]
    · rcases z with z | z
      · exact absurd (s.dis k i b w z) q
      · exact absurd (R.pv b z).1 (s.prv k b w).2.2
    · rcases w with w | w
      · exact absurd (s.dis j i b z w) p
      · exact absurd (R.pv b w).1 (s.prv j b z).2.2
    · exact s.dis j k b z w
  · have hne : ∀ {b}, H2 b ≠ none → upd H2 a (.lst (g xs)) b ≠ none := fun {b} z => by
      by_cases hb : b = a
      · rw [hb, upd_same]; exact nofun
      · rw [upd_ne hb]; exact z
    rcases p with ⟨p, z | z⟩ | ⟨p, hz, z⟩
    · refine ⟨fun w => ?_, (s.prv i b z).2.1, hne (R.ext.ne (s.prv i b z).2.2)⟩
      rcases w with w | ⟨k, hk, w⟩ | w
      · exact (s.prv i b z).1 w
      · exact hal (s.dis k i b w z ▸ hk)
      · exact (s.prv i b z).2.2 (R.nv b w).1
    · refine ⟨fun w => ?_, s.ext.none (R.pv b z).1, hne (R.pv b z).2⟩
      rcases w with w | ⟨k, hk, w⟩ | w
      · exact (s.new b w).2 (R.pv b z).1
      · exact (s.prv k b w).2.2 (R.pv b z).1
      · exact (R.nv b w).2.2 z
    · obtain ⟨q1, q2, q3⟩ := sj.prv j b ⟨hz, z⟩
      exact ⟨q1, q2, hne q3⟩
  · obtain ⟨q1, q2⟩ := sj.new b z
    refine ⟨q1, ?_⟩
    by_cases hb : b = a
    · rw [hb, upd_same]; exact nofun
    · rw [upd_ne hb]; exact q2
  · have hb : b ≠ a := fun w => by rw [w, pa2] at z; cases z
    rw [upd_ne hb]
    exact sj.ext b o z
  · have hb : b ≠ a := fun y => by
      subst y
      rcases w with w | w
      · exact w i hM pfa
      · rw [nd.ha] at z
        injection z with z
        exact w xs z.symm
    rw [upd_ne hb]
    exact R.ext b o z
  · by_cases hb : b = a
    · rw [hb, upd_same]; exact nofun
    · rw [upd_ne hb]; exact R.ext.ne z
  · rcases z with ⟨rfl, z | z⟩ | ⟨_, _, z⟩
    · exact .inl z
    · exact .inr (R.pv b z).1
    · exact .inl z
end
end Hv

/-! Hv, part 16: paths; append; an item set; raise. -/
namespace Hv
open PySem PySem.Spec PyProof.Rows L2

def unsub : Expr → Expr × List Expr
  | .Subscript o i _ => ((unsub o).1, (unsub o).2 ++ [i])
  | e => (e, [])
theorem seqR_snoc : ∀ (vs : List VT) (v : VT), seqR (vs ++ [v]) = (seqR vs).bindL fun ds al => v.e.bindL fun d bl => .ok (ds ++ [d]) (al ++ bl)
  | [], v => by
    show (v.e.bindL fun d al => (seqR []).bindL fun ds bl => .ok (d :: ds) (al ++ bl)) = v.e.bindL fun d bl => .ok ([] ++ [d]) ([] ++ bl)
    cases v.e with
    | ok d al => simp [R.bindL, seqR, Rl.bindL]
    | _ => rfl
  | u :: vs, v => by
    show (u.e.bindL fun d al => (seqR (vs ++ [v])).bindL fun ds bl => .ok (d :: ds) (al ++ bl)) = (u.e.bindL fun d al => (seqR vs).bindL fun ds bl => .ok (d :: ds) (al ++ bl)).bindL fun ds al => v.e.bindL fun d bl => .ok (ds ++ [d]) (al ++ bl)
    rw [seqR_snoc vs v]
    cases u.e with
    | ok d al =>
      simp only [R.bindL]
      cases seqR vs with
      | ok ds bl =>
        simp only [Rl.bindL]
        cases v.e with
        | ok e cl => simp [R.bindL, Rl.bindL]
        | _ => rfl
      | _ => rfl
    | _ => rfl
section
variable {X : Cx} {W : WX} {pos : Pos}
theorem HVs.snoc : ∀ {l : List Expr} {i : Expr} {fs : Env → List VT}, HVs X W (l ++ [i]) fs → ∃ gs g, HVs X W l gs ∧ HV X W i g ∧ fs = fun ρ => gs ρ ++ [g ρ]
  | [], i, _, .cons h .nil => ⟨_, _, .nil, h, rfl⟩
  | e :: l, i, _, .cons h t => by
    obtain ⟨gs, g, h1, h2, rfl⟩ := HVs.snoc t
    exact ⟨_, g, .cons h h1, h2, rfl⟩
theorem datas_snoc : ∀ {ds : List D} {d : D} {ps : List PyData}, datas (ds ++ [d]) = some ps → ∃ qs p, datas ds = some qs ∧ data d = some p ∧ ps = qs ++ [p]
  | [], d, ps, h => by
    simp only [List.nil_append, datas] at h
    cases e : data d with
    | none => rw [e] at h; cases h
    | some p => rw [e] at h; injection h with h; exact ⟨[], p, rfl, rfl, h.symm⟩
  | e :: ds, d, ps, h => by
    simp only [List.cons_append, datas] at h
    cases e1 : data e with
    | none => rw [e1] at h; cases h
    | some q =>
      cases e2 : datas (ds ++ [d]) with
      | none => rw [e1, e2] at h; cases h
      | some qs =>
        rw [e1, e2] at h
        injection h with h
        obtain ⟨qs', p, h1, h2, rfl⟩ := datas_snoc e2
        exact ⟨q :: qs', p, by simp only [datas, e1, h1], h2, h.symm⟩
theorem intsOf_snoc : ∀ {qs : List PyData} {p : PyData} {js : List Int}, intsOf (qs ++ [p]) = some js → ∃ is j, intsOf qs = some is ∧ p = .int j ∧ js = is ++ [j]
  | [], p, js, h => by
    cases p with
    | int j =>
      simp only [List.nil_append, intsOf, Option.map_some, Option.some.injEq] at h
      exact ⟨[], j, rfl, rfl, h.symm⟩
    | _ => simp [intsOf] at h
  | q :: qs, p, js, h => by
    cases q with
    | int i =>
      simp only [List.cons_append, intsOf] at h
      cases e : intsOf (qs ++ [p]) with
      | none => rw [e] at h; cases h
      | some ks =>
        rw [e] at h
        simp only [Option.map_some, Option.some.injEq] at h
        obtain ⟨is, j, h1, h2, rfl⟩ := intsOf_snoc e
        exact ⟨i :: is, j, by simp [intsOf, h1], h2, h.symm⟩
    | _ => simp [intsOf] at h
theorem jsOf_snoc {ds : List D} {d : D} {js : List Int} (h : jsOf (ds ++ [d]) = some js) : ∃ is j, jsOf ds = some is ∧ data d = some (.int j) ∧ js = is ++ [j] := by
  unfold jsOf at h
  split at h
  · rename_i ps e
    obtain ⟨qs, p, h1, h2, rfl⟩ := datas_snoc e
    obtain ⟨is, j, h3, rfl, h4⟩ := intsOf_snoc h
    exact ⟨is, j, by unfold jsOf; rw [h1]; exact h3, h2, h4⟩
  · cases h
/-- what is owed where a path is gone -/
def tNav (K : KW) (W : WX) (i : Nat) (fs : Env → List VT) : TE := fun σ H Q => ∃ F N Pf ρ, StE K F N Pf H σ ρ ∧ ∃ x0 js y, σ[i]? = some (some x0) ∧ pathJ (seqR (fs ρ)) = some js ∧ Nav K.k H x0 js y ∧ ∀ H1, Ext H H1 → Q y H1
theorem pe_nav {i : Nat} {x : Str} {p : Pos} (hN : X.N[i]? = some x) (hv : Vis X.env.scope x) (hd : (x == ("__debug__" : Str)) = false) (hc : (x == ("__classdict__" : Str)) = false) :
    ∀ (ex : Expr) {fs : Env → List VT}, (unsub ex).1 = .Name x p → HVs X W (unsub ex).2 fs → PE X ex (tNav X.kw W i fs) := by
  intro ex fs h hs
  cases ex with
  | Subscript o ix _ =>
    obtain ⟨gs, g, h1, h2, rfl⟩ := HVs.snoc (show HVs X W ((unsub o).2 ++ [ix]) fs from hs)
    refine PE_imp (pe_ix ix_list (pe_nav hN hv hd hc o h h1) h2.e h2.p.px) fun σ H Q ⟨F, N, Pf, ρ, S, q⟩ => ⟨F, N, Pf, ρ, S, ?_⟩
    obtain ⟨x0, js, y, k1, k2, k3, k4⟩ := q
    rw [seqR_snoc] at k2
    cases e1 : seqR (gs ρ) with
    | exc c => rw [e1] at k2; cases k2
    | stuck => rw [e1] at k2; cases k2
    | ok ds al =>
      rw [e1] at k2
      simp only [Rl.bindL] at k2
      cases e2 : (g ρ).e with
      | exc c => rw [e2] at k2; cases k2
      | stuck => rw [e2] at k2; cases k2
      | ok d bl =>
        rw [e2] at k2
        simp only [R.bindL, pathJ] at k2
        obtain ⟨is, j, j1, j2, rfl⟩ := jsOf_snoc k2
        obtain ⟨z, n1, a, xs, w, rfl, l, e3, rfl⟩ := k3.snoc
        refine ⟨x0, is, _, k1, j1, n1, fun H1 ex => ⟨F, N, Pf, ρ, S.more ex, ?_⟩⟩
        try dsimp only
        rw [e2]
        intro v H2 N2 P2 R
        have r := R.dat j2 Ext.refl
        cases r
        exact ⟨a, xs, j, w, rfl, rfl, sqlExt l (ex.trans R.ext), e3, k4 H2 (ex.trans R.ext)⟩
  | Name _ _ =>
    injection h with h1 h2
    subst h1 h2
    cases hs
    refine PE_imp (pe_var hN hv hd hc) fun σ H Q ⟨F, N, Pf, ρ, S, q⟩ => ?_
    obtain ⟨x0, js, y, k1, k2, k3, k4⟩ := q
    injection k2 with k2
    subst k2
    have k3 : x0 = y := k3
    subst k3
    exact ⟨x0, k1, k4 H Ext.refl⟩
  | _ => cases h
end
section
variable {X : Cx} {W : WX} {pos : Pos} {E0 : Hp} {M : List Nat}
theorem Res.more {K : KW} {F N : AS} {Pf : Nat → AS} {H H1 H2 : Hp} {al : Al} {Nv Pv : AS} {y : V} {d : D} (R : Res K F N Pf H al H1 Nv Pv y d) (e : Ext H1 H2) : Res K F N Pf H al H2 Nv Pv y d :=
  ⟨R.ext.trans e, R.rd.ext e (fun _ z => .inl z) (fun _ z => z) fun _ z => z, fun a z => let ⟨p, q, r⟩ := R.nv a z; ⟨p, e.ne q, r⟩, fun a z => let ⟨p, q⟩ := R.pv a z; ⟨p, e.ne q⟩⟩
theorem updR_inv {K : KW} {F N : AS} {Pf : Nat → AS} {H : Hp} {Dn : Ends} {i : Nat} {js : List Int} {f : List D → Option (List D)} {al : Al} {ρ : Env} (q : PSr K W E0 F M N Pf H Dn (updR i js f al ρ)) :
    ∃ e e', ρ[i]? = some (some e) ∧ updD e js f = some e' ∧ i ∉ al ∧ PSr K W E0 F M N Pf H Dn (.next ((frz al ρ).set i (some e'))) := by
  unfold updR at q
  split at q
  · rename_i e e0
    split at q
    · rename_i e' e1
      split at q
      · exact q.elim
      · rename_i hal
        exact ⟨e, e', e0, e1, by simpa using hal, q⟩
    · exact q.elim
  · exact q.elim
theorem okP_inv {i : Nat} {js : List Int} {ρ : Env} (h : okP i js ρ = true) : ∃ e e', ρ[i]? = some (some e) ∧ updD e js some = some e' := by
  unfold okP at h
  split at h
  · rename_i e e0
    obtain ⟨e', h⟩ := Option.isSome_iff_exists.mp h
    exact ⟨e, e', e0, h⟩
  · cases h
theorem hs_app {o e : Expr} {i : Nat} {x : Str} {p apos cpos : Pos} {fs : Env → List VT} {fe : Env → VT} (hN : X.N[i]? = some x) (hv : Vis X.env.scope x) (hd : (x == ("__debug__" : Str)) = false) (hc : (x == ("__classdict__" : Str)) = false)
    (ho : (unsub o).1 = .Name x p) (hs : HVs X W (unsub o).2 fs) (he : HV X W e fe) (hb : attributeBase o "append" X.env (eval o X.env) = eval o X.env) (hl : (apos.endLine == cpos.line) = true) (hM : i ∈ M) :
    PS X (.Expr (.Call (.Attribute o "append" apos) [e] [] cpos) pos) (tS X.kw W E0 M fun ρ => appR i (pathJ (seqR (fs ρ))) (fe ρ).e ρ) := by
  have hst : starEach [e] X.env = [(false, eval e X.env)] := he.p.st _ _
  refine PS_imp (ps_expr (pe_bm PySem.F.plainAttrs_list PySem.F.slot_list_append PySem.F.type_list_append mt_append (pe_nav hN hv hd hc o ho hs) (pa_cons he.e pa_nil hst) hb (by rw [hst]; rfl) hl hst rfl)) fun D σ H ⟨F, N, Pf, ρ, s, q⟩ => ⟨F, N, Pf, ρ, s.e, ?_⟩
  dsimp only at q
  cases e1 : pathJ (seqR (fs ρ)) with
  | none => rw [e1] at q; exact q.elim
  | some js =>
    rw [e1] at q
    simp only [appR] at q
    cases e2 : (fe ρ).e with
    | stuck => rw [e2] at q; exact q.elim
    | exc c =>
      rw [e2] at q
      simp only at q
      split at q
      · rename_i hk
        obtain ⟨e, e', k1, k2⟩ := okP_inv hk
        obtain ⟨x0, a, xs, ds, ds', k3, k4, k5, k6, k7, _⟩ := s.edit (M := M) k1 k2
        refine ⟨x0, js, _, k3, rfl, k4, fun H1 ex => ⟨.inl ⟨rfl, xs, SqL.of (ex _ _ k5)⟩, F, N, Pf, ρ, s.e.more ex, ?_⟩⟩
        try dsimp only
        rw [e2]
        exact fun H' cl od he hx => exc_of s q H' cl od (ex.trans he) hx
      · exact q.elim
    | ok d al =>
      rw [e2] at q
      obtain ⟨e, e', k1, k2, hal, q⟩ := updR_inv q
      obtain ⟨x0, a, xs, ds, ds', k3, k4, k5, k6, k7, up⟩ := s.edit (M := M) k1 k2
      refine ⟨x0, js, _, k3, rfl, k4, fun H1 ex => ⟨.inl ⟨rfl, xs, SqL.of (ex _ _ k5)⟩, F, N, Pf, ρ, s.e.more ex, ?_⟩⟩
      try dsimp only
      rw [e2]
      intro y H2 N2 P2 R
      have hlen : xs.length < sizeLine := by
        unfold appF at k7
        split at k7
        · rename_i hz
          rw [k6, sizeLine_eq]
          exact hz
        · cases k7
      obtain ⟨N', Pf', s', n, fr⟩ := up (g := fun xs => xs ++ [y]) hal (Res.later ex R) edit_app hM
      exact ⟨a, xs, y, rfl, rfl, R.ext _ _ (ex _ _ k5), hlen, q _ _ _ _ s' n fr⟩
theorem hs_seti {o ix e : Expr} {i : Nat} {x : Str} {p tpos : Pos} {fs : Env → List VT} {fx fe : Env → VT} (hN : X.N[i]? = some x) (hv : Vis X.env.scope x) (hd : (x == ("__debug__" : Str)) = false) (hc : (x == ("__classdict__" : Str)) = false)
    (ho : (unsub o).1 = .Name x p) (hs : HVs X W (unsub o).2 fs) (hx : HV X W ix fx) (he : HV X W e fe) (hM : i ∈ M) (hcm : isComp e = false)
    (ha : ∀ v, assign (.Subscript o ix tpos) X.env v = (do
      let ov ← holding [v] (eval o X.env)
      let iv ← holding [v, ov] (eval ix X.env)
      standAt tpos
      holding [v, ov, iv] (setItem ov iv v)
      release [v, ov, iv] [])) :
    PS X (.Assign [.Subscript o ix tpos] e pos) (tS X.kw W E0 M fun ρ => (fe ρ).e.bindS ρ fun d al => setR i (pathJ (seqR (fs ρ))) (fx ρ).e d al ρ) := by
  refine PS_imp (ps_asg he.e (pg_sub (pe_nav hN hv hd hc o ho hs) hx.e set_list ha) (show swapsWith e (some (.Subscript o ix tpos)) pos.line X.env = pure false from sw0 hcm) (by cases e <;> rfl) rfl) fun D σ H ⟨F, N, Pf, ρ, s, q⟩ => ⟨F, N, Pf, ρ, s.e, tS_e s q fun y d al H1 N1 P1 _ R q => ?_⟩
  have s1 := s.more R.ext
  refine ⟨F, N, Pf, ρ, s1.e, ?_⟩
  cases e1 : pathJ (seqR (fs ρ)) with
  | none => rw [e1] at q; exact q.elim
  | some js =>
    rw [e1] at q
    simp only [setR] at q
    cases e2 : (fx ρ).e with
    | stuck => rw [e2] at q; exact q.elim
    | exc c =>
      rw [e2] at q
      simp only at q
      split at q
      · rename_i hk
        obtain ⟨e, e', k1, k2⟩ := okP_inv hk
        obtain ⟨x0, a, xs, ds, ds', k3, k4, k5, k6, k7, _⟩ := s1.edit (M := M) k1 k2
        refine ⟨x0, js, _, k3, rfl, k4, fun H2 ex => ⟨F, N, Pf, ρ, s1.e.more ex, ?_⟩⟩
        try dsimp only
        rw [e2]
        exact fun H' cl od he hx => exc_of s q H' cl od (R.ext.trans (ex.trans he)) hx
      · exact q.elim
    | ok j bl =>
      rw [e2] at q
      simp only at q
      split at q
      · rename_i j0 e3
        obtain ⟨e, e', k1, k2, hal, q⟩ := updR_inv q
        obtain ⟨x0, a, xs, ds, ds', k3, k4, k5, k6, k7, up⟩ := s.edit (M := M) k1 k2
        refine ⟨x0, js, _, k3, rfl, k4.ext R.ext, fun H2 ex => ⟨F, N, Pf, ρ, s1.e.more ex, ?_⟩⟩
        try dsimp only
        rw [e2]
        intro z H3 N3 P3 R3
        have r := R3.dat e3 Ext.refl
        cases r
        have ex3 := ex.trans R3.ext
        obtain ⟨N', Pf', s', n', fr⟩ := up (g := fun xs => match ixN xs.length j0 with
          | some n => xs.set n y
          | none => xs) hal (R.more ex3) edit_set hM
        cases e4 : ixN xs.length j0 with
        | none =>
          unfold setF at k7
          rw [← k6, e4] at k7
          cases k7
        | some n =>
          refine ⟨a, xs, j0, n, rfl, rfl, ex3 _ _ (R.ext _ _ k5), e4, ?_⟩
          have := q _ _ _ _ s' n' fr
          simpa [e4] using this
      · exact q.elim
theorem hs_raise {e : Expr} {c : Str} (hc : X.calm = true) (tk : Takes X W) (he : PMk X e (fun _ H Q => Q (.ref (He.ga X.K c)) none H)) : PS X (.Raise (some e) none pos) (tS X.kw W E0 M fun ρ => .exc c ρ) :=
  PS_imp (ps_raise hc tk he) fun D σ H ⟨F, N, Pf, ρ, s, q⟩ => exc_of s q H _ _ Ext.refl ⟨rfl, rfl⟩
theorem RDs.erase {K : KW} {F N I : AS} {H : Hp} : ∀ {n : Nat} {xs : List V} {ds : List D} {Q : AS}, RDs K F N I H Q xs ds → RDs K F N I H Q (xs.eraseIdx n) (ds.eraseIdx n)
  | _, _, _, _, .nil => by simpa using .nil
  | 0, _, _, _, .cons h t a b c => RDs.ext t Ext.refl (fun _ z => .inl z) (fun _ z => z) (fun _ z => z) b
  | n + 1, _, _, _, .cons h t a b c => .cons h (RDs.erase t) a b c
theorem RDs.more {K : KW} {F N I : AS} {H : Hp} {Q Q' : AS} {xs : List V} {ds : List D} (h : RDs K F N I H Q xs ds) (q : ∀ a, Q a → Q' a) : RDs K F N I H Q' xs ds := h.ext Ext.refl (fun _ z => .inl z) (fun _ z => z) (fun _ z => z) q
theorem popF_inv {n : Int} {ds ds' : List D} (h : popF n ds = some ds') : 0 ≤ n ∧ n.toNat < ds.length ∧ ds' = ds.eraseIdx n.toNat ∧ (∃ p, ds[n.toNat]? = some (.v p) ∧ mutD p = false) ∧ ds.length ≤ SZ := by
  unfold popF at h
  split at h
  · rename_i c
    split at h
    · rename_i p e
      split at h
      · cases h
      · rename_i m
        injection h with h
        exact ⟨c.1, by omega, h.symm, ⟨p, e, by simpa using m⟩, c.2.2⟩
    · cases h
  · cases h
theorem edit_pop {n : Int} {y : V} {d : D} : Edit (popF n) (fun xs => xs.eraseIdx n.toNat) y d := by
  intro K F N I H Q Q2 xs ds ds' e r h dj
  obtain ⟨_, _, rfl, _⟩ := popF_inv e
  exact (RDs.erase r).more fun a z => .inl z
theorem hs_appPop {e : Expr} {i j : Nat} {x y : Str} {p p' apos cpos apos2 cpos2 : Pos} {fe : Env → VT} (hN : X.N[i]? = some x) (hv : Vis X.env.scope x) (hd : (x == ("__debug__" : Str)) = false) (hc : (x == ("__classdict__" : Str)) = false)
    (hN2 : X.N[j]? = some y) (hv2 : Vis X.env.scope y) (hd2 : (y == ("__debug__" : Str)) = false) (hc2 : (y == ("__classdict__" : Str)) = false) (he : HV X W e fe) (hl : (apos.endLine == cpos.line) = true) (hl2 : (apos2.endLine == cpos2.line) = true) (hM : i ∈ M) (hM2 : j ∈ M) :
    PS X (.Expr (.Call (.Attribute (.Name x p) "append" apos) [.Call (.Attribute (.Name y p') "pop" apos2) [e] [] cpos2] [] cpos) pos) (tS X.kw W E0 M fun ρ => appPopR i j (fe ρ).e ρ) := by
  have hst : starEach [e] X.env = [(false, eval e X.env)] := he.p.st _ _
  have pop := pe_bm (apos := apos2) (cpos := cpos2) PySem.F.plainAttrs_list PySem.F.slot_list_pop PySem.F.type_list_pop (mt_popAt (X := X)) (pe_var (pos := p') hN2 hv2 hd2 hc2) (pa_cons he.e pa_nil hst) rfl (by rw [hst]; rfl) hl2 hst rfl
  refine PS_imp (ps_expr (pe_bm PySem.F.plainAttrs_list PySem.F.slot_list_append PySem.F.type_list_append mt_append (pe_var hN hv hd hc) (pa_cons pop pa_nil rfl) rfl rfl hl rfl rfl)) fun D σ H ⟨F, N, Pf, ρ, s, q⟩ => ?_
  have q : PSr X.kw W E0 F M N Pf H D (appPopR i j (fe ρ).e ρ) := q
  unfold appPopR at q
  cases e2 : (fe ρ).e with
  | stuck => rw [e2] at q; exact q.elim
  | exc c =>
    rw [e2] at q
    simp only at q
    split at q
    · rename_i hk
      rw [Bool.and_eq_true] at hk
      obtain ⟨o1, o1', k1, k2⟩ := okP_inv hk.1
      obtain ⟨o2, o2', k3, k4⟩ := okP_inv hk.2
      obtain ⟨x0, a, xs, ds, ds', h1, h2, h3, _⟩ := s.edit (M := M) k1 k2
      obtain ⟨y0, b, ys, es, es', g1, g2, g3, _⟩ := s.edit (M := M) k3 k4
      cases h2
      cases g2
      refine ⟨_, h1, .inl ⟨rfl, xs, SqL.of h3⟩, _, g1, .inl ⟨rfl, ys, SqL.of g3⟩, F, N, Pf, ρ, s.e, ?_⟩
      try dsimp only
      rw [e2]
      exact exc_of s q
    · exact q.elim
  | ok d al =>
    rw [e2] at q
    simp only at q
    split at q
    · rename_i n en
      split at q
      · rename_i ds k3
        split at q
        · rename_i ds' ep
          obtain ⟨n0, n1, rfl, ⟨v, ev, mv⟩, nsz⟩ := popF_inv ep
          have epp : popP n ds = some v := by unfold popP; rw [ev]
          rw [epp] at q
          simp only at q
          split at q
          · exact q.elim
          · rename_i hij
            have k4 : updD (.ol ds) [] (popF n) = some (.ol (ds.eraseIdx n.toNat)) := by simp only [updD, ep]
            obtain ⟨y0, b, ys, es, es', g1, g2, g3, g4, g5, up⟩ := s.edit (M := M) k3 k4
            cases g2
            obtain ⟨o1, o1', k1, k2, _, q⟩ := updR_inv q
            have k1' : ρ[i]? = some (some o1) := by rw [List.getElem?_set_ne (Ne.symm hij)] at k1; exact k1
            obtain ⟨x0, a, xs, _, _, h1, h2, h3, _⟩ := s.edit (M := M) k1' k2
            cases h2
            refine ⟨_, h1, .inl ⟨rfl, xs, SqL.of h3⟩, _, g1, .inl ⟨rfl, ys, SqL.of g3⟩, F, N, Pf, ρ, s.e, ?_⟩
            try dsimp only
            rw [e2]
            intro w H1 N1 P1 R
            have rw1 := R.dat en Ext.refl
            cases rw1
            have hb1 : H1 b = some (.lst ys) := R.ext _ _ g3
            have R0 : Res X.kw F N Pf H [] H1 (fun _ => False) (fun _ => False) .non (.v .none) := Res.scal (S := fun _ => False) R.ext .non rfl
            obtain ⟨N2, Pf2, s2, m2, fr2⟩ := up (g := fun zs => zs.eraseIdx n.toNat) (by simp) R0 edit_pop hM2
            obtain ⟨z0, e0, I0, Q0, r0, _⟩ := s.rep j _ k3
            rw [g1] at e0
            injection e0 with e0
            injection e0 with e0
            subst e0
            have hw : ∃ w, ys[n.toNat]? = some w ∧ Rp X.kw (fun _ => False) H1 w v := by
              cases r0 with
              | ol _ hH rds _ _ =>
                rw [g3] at hH
                injection hH with hH
                injection hH with hH
                subst hH
                obtain ⟨w, hw, rw0⟩ := rds.get ev
                cases rw0 with
                | v rp => exact ⟨w, hw, (rp.imm (S' := fun _ => False) mv).ext R.ext fun _ z => z⟩
            obtain ⟨w, hw, rp⟩ := hw
            have hlt : n.toNat < ys.length := (List.getElem?_eq_some_iff.mp hw).1
            have hidx : seqIndex? n ys.length = some n.toNat := PySem.seqIndex_of n0 (by omega)
            have hsz : ds.length ≤ 16777216 := nsz
            have hn63 : n < 2 ^ 63 := by omega
            refine ⟨b, ys, n, n.toNat, w, rfl, rfl, hb1, by omega, hn63, hidx, hw, ?_⟩
            have rp2 : Rp X.kw (fun _ => False) (upd H1 b (.lst (ys.eraseIdx n.toNat))) w v := Rp.kp (Z := fun a => a = b) (fun a o ha e => by rw [upd_ne ha]; exact e) (fun _ z => z) (fun _ z => z.elim) (fun c zs hc hz => by
              subst hc
              rcases hz with hz | ⟨o, hz⟩ <;> (rw [hb1] at hz; cases hz)) rp
            have R2 : Res X.kw F N2 Pf2 (upd H1 b (.lst (ys.eraseIdx n.toNat))) [] (upd H1 b (.lst (ys.eraseIdx n.toNat))) (fun _ => False) (fun _ => False) w (.v v) := Res.imm rp2
            obtain ⟨x1, a1, xs1, ds1, ds1', q1, q2, q3, q4, q5, up2⟩ := s2.edit (M := M) k1 k2
            cases q2
            have hx : a = a1 := by
              rw [h1] at q1
              injection q1 with q1
              injection q1 with q1
              injection q1
            subst hx
            obtain ⟨N3, Pf3, s3, m3, fr3⟩ := up2 (g := fun zs => zs ++ [w]) (by simp) R2 edit_app hM
            have hlen : xs1.length < sizeLine := by
              unfold appF at q5
              split at q5
              · rename_i hz
                rw [q4, sizeLine_eq]
                exact hz
              · cases q5
            exact ⟨a, xs1, w, rfl, rfl, q3, hlen, q _ _ _ _ s3 (fun c z => m3 c (m2 c z)) (fr2.trans fr3)⟩
        · exact q.elim
      · exact q.elim
    · exact q.elim
end
end Hv

/-! Hv, part T: try with several clauses, each with a name or without. -/
namespace Hv
open PySem PySem.Spec PyProof.Rows L2

/-- a clause: its class, the slot of its name, its suite -/
structure Cls where
  c : Value
  o : Option Nat
  ts : Addr → Value → Option Addr → TS
def bindA (o : Option Nat) (a : Addr) (σ : L2.St) : L2.St := match o with
  | some i => σ.set i (some (.ref a))
  | none => σ
def gone (o : Option Nat) (σ : L2.St) : L2.St := match o with
  | some i => σ.set i none
  | none => σ
def endA (o : Option Nat) (D : Ends) : Ends where
  nx := fun σ H => D.nx (gone o σ) H
  rt := D.rt
  bk := fun σ H => D.bk (gone o σ) H
  ct := fun σ H => D.ct (gone o σ) H
/-- the clauses' wish, one behind another -/
def wClauses (K : PySem.W.Frag) (W0 : WX) (D : Ends) : List Cls → WX
  | [] => W0
  | k :: ks => fun cls d σ H => ∃ b, PySem.W.exmOne K cls k.c = some b ∧ (b = true → ∀ a, H a = none → k.ts a cls d (endA k.o D) (bindA k.o a σ) H) ∧ (b = false → wClauses K W0 D ks cls d σ H)
/-- a clause's name -/
def NameOk (X : Cx) : Option Str → Option Nat → Prop
  | none, none => True
  | some n, some i => X.N[i]? = some n ∧ X.env.kindOf n = some .local
  | _, _ => False
inductive Clauses (X : Cx) : List ExceptHandler → List Cls → Prop
  | nil : Clauses X [] []
  | cons {x : Str} {nm : Option Str} {k : Cls} {st : Stmt} {sts : List Stmt} {p q : Pos} {hs : List ExceptHandler} {ks : List Cls} : Names X x k.c → NameOk X nm k.o →
      (∀ (a : Addr) (ob : Obj) (cls : Value) (d : Option Addr) (pn : List (Addr × Obj)), Zc cls d ob → (∃ vs, ob.data = .fields vs) → PSs (X.suite a ((a, ob) :: pn)) (st :: sts) (k.ts a cls d)) →
      Clauses X hs ks → Clauses X (.ExceptHandler (some (.Name x p)) nm (st :: sts) q :: hs) (k :: ks)
section
variable {X : Cx}
/-- behind a suite -/
theorem suite_end {a : Addr} {z : Addr × Obj} {pins : List (Addr × Obj)} {D : Ends} {nm : Option Str} {o : Option Nat} {q : Pos} {f : Flow} {s : Shared} (ok : X.Ok) (hN : X.N.Nodup) (hn : NameOk X nm o) (h : SP (X.suite a (z :: (X.pn ++ pins))) [] (endA o D) f s) :
    match nm with
    | none => SP X pins D f s
    | some n => wpAny (model X.prog X.w) X.A (do bindName X.env n .none; unbindBehindTheSuite X.env n q) (fun _ s' => SP X pins D f s') X.xe s := by
  match nm, o, hn with
  | none, none, _ =>
    cases f with
    | ret u => obtain ⟨v, τ, G, J, r, w⟩ := h; exact ⟨v, τ, G, J.unsuite ok, r, w⟩
    | next => obtain ⟨τ, G, J, w⟩ := h; exact ⟨τ, G, J.unsuite ok, w⟩
    | brk => obtain ⟨τ, G, J, w⟩ := h; exact ⟨τ, G, J.unsuite ok, w⟩
    | cont => obtain ⟨τ, G, J, w⟩ := h; exact ⟨τ, G, J.unsuite ok, w⟩
  | some n, some i, ⟨hi, hl⟩ =>
    cases f with
    | ret u => obtain ⟨v, τ, G, J, r, w⟩ := h; exact gone_ok (J.unsuite ok) hN hi hl fun s' J' => ⟨v, _, G, J', r, w⟩
    | next => obtain ⟨τ, G, J, w⟩ := h; exact gone_ok (J.unsuite ok) hN hi hl fun s' J' => ⟨_, G, J', w⟩
    | brk => obtain ⟨τ, G, J, w⟩ := h; exact gone_ok (J.unsuite ok) hN hi hl fun s' J' => ⟨_, G, J', w⟩
    | cont => obtain ⟨τ, G, J, w⟩ := h; exact gone_ok (J.unsuite ok) hN hi hl fun s' J' => ⟨_, G, J', w⟩
theorem ps_clauses {body : List Stmt} {h₀ : ExceptHandler} {hs : List ExceptHandler} {ks : List Cls} {pos : Pos} {tb : WX → TS} {W0 : WX} (top : X.stack = X.env :: X.outer) (fr : X.env.frame = some X.env.locals) (hN : X.N.Nodup) (tk : Takes X W0)
    (hb : ∀ (W : WX) (pn : List (Addr × Obj)) (xe : Value → Shared → Prop), Takes (X.tr pn xe) W → PassesOwn (model X.prog X.w) X.A X.env xe → PSs (X.tr pn xe) body (tb W)) (hc : Clauses X (h₀ :: hs) ks) :
    PS X (.Try body (h₀ :: hs) [] [] pos) (fun D σ H => tb (wClauses X.K W0 D ks) D σ H) := by
  refine ⟨fun pins s σ H D I wish => ?_⟩
  have ok := I.ok
  have frm : X.A.frames = some (X.env :: X.outer) := ok.frames.trans (congrArg some top)
  refine wpAny_Try_except (wpAny_mono ((hb (wClauses X.K W0 D ks) (X.pn ++ pins) _ (fun u s' xx => ?_) PassesOwn.looking).run [] s σ H D (I.toTry _) wish) (fun f s1 sp => ?_) fun _ _ z => z)
  case refine_2 =>
    cases f with
    | ret u => obtain ⟨v, τ, G, J, r, w⟩ := sp; exact ⟨v, τ, G, J.ofTry ok, r, w⟩
    | next => obtain ⟨τ, G, J, w⟩ := sp; exact wpAny_execs_nil ⟨τ, G, J.ofTry ok, w⟩
    | brk => obtain ⟨τ, G, J, w⟩ := sp; exact ⟨τ, G, J.ofTry ok, w⟩
    | cont => obtain ⟨τ, G, J, w⟩ := sp; exact ⟨τ, G, J.ofTry ok, w⟩
  case refine_1 =>
    obtain ⟨a, B, sI, pins', τ, G, cls, d, rfl, J', nb, up, sky, na, os, ag, w⟩ := xx
    have J : Inv X pins τ G sI := J'.ofTry ok
    rw [show (X.tr (X.pn ++ pins) _).stack = X.env :: X.outer from top] at sky
    show wpAny (model X.prog X.w) X.A (noteFrame (.ref a) X.env) _ _ _
    refine Sky.land Zc.steady frm fr sky fun hp fl up2 => ?_
    have J2 : Inv X pins τ G { s' with heap := hp } := J.landed nb fl.1 (up.trans up2) os ag
    obtain ⟨ob, vs, get, zc, fields⟩ := fl.there
    have off : a ∉ frs (X.env :: X.outer) := fun hm => by
      obtain ⟨_, o2, g2, no⟩ := fl.2.2.1.mem hm
      rw [get] at g2
      cases g2
      exact no _ fields
    have offL : a ≠ X.env.locals := fun z => off (List.mem_filterMap.mpr ⟨X.env, List.mem_cons_self, by rw [fr, z]⟩)
    have offF : a ∉ X.fs := fun hm => let ⟨e, he, q⟩ := List.mem_filterMap.mp hm; off (List.mem_filterMap.mpr ⟨e, List.mem_cons_of_mem _ he, q⟩)
    have JS := J2.suite get fields na offL offF
    have go : ∀ {hs' : List ExceptHandler} {ks' : List Cls}, Clauses X hs' ks' → wClauses X.K W0 D ks' cls d τ G → wpAny (model X.prog X.w) X.A (handleBy (.ref a) X.env hs') (SP X pins D) X.xe { s' with heap := hp } := by
     intro hs' ks' hc'
     induction hc' with
     | nil =>
       intro w
       refine wpAny_handleBy_nil ?_
       obtain ⟨_, _, _, ob1, us, T1, oT1, lot, get1, _, fields1, tb1, _⟩ := id fl
       have last : wpAny (model X.prog X.w) X.A (setFlight (.ref a) X.env.frame) (fun _ t => wpAny (model X.prog X.w) X.A (throw (.ref a) : Sem Flow) (SP X pins D) X.xe t) X.xe { s' with heap := hp } := by
         rw [fr]
         exact HandSPX.setFlight_upZ fl fun hq held up3 => wpAny_throw (tk _ _ ⟨a, B, sI, pins, τ, G, cls, d, rfl, J, nb, (up.trans up2).trans up3, .inr (.inr (by rw [top]; exact held)), na, os, ag, w⟩)
       unfold PySem.passOn
       refine wpAny_bind (wpAny_field get1 fields1 tb1 ?_)
       rw [if_neg (show ¬ ((Value.ref T1 == Value.none) = true) by simp)]
       first
         | exact wpAny_bind (wpAny_pure (wpAny_bind last))
         | exact wpAny_bind last
     | @cons x nm k st sts p q hs ks hx hnm hsu _ ih =>
       intro w
       obtain ⟨b, is, yes, no⟩ := w
       have kind : PySem.W.Looks (model X.prog X.w) hp (typeOf (.ref a)) cls := fun A Q E s k q => wpAny_typeOf_ref (k _ _ get) (by rw [zc.1]; exact q)
       refine wpAny_handleBy_cons (codeAny_handlers_test ?_) (by intro q; cases q)
       have name : ∀ {Q E : Value → Shared → Prop}, Q k.c { s' with heap := hp } → wpAny (model X.prog X.w) (X.A.mark (some (.ref a))) (eval (.Name x p) X.env) Q E { s' with heap := hp } := fun {Q E} r => by
         obtain ⟨g1, g2, g3 | ⟨g3, g4, g5⟩⟩ := hx
         · exact ld_glob (X := X.suite a ((a, ob) :: (X.pn ++ pins))) JS g1 g3 r g2
         · exact ld_blt (X := X.suite a ((a, ob) :: (X.pn ++ pins))) JS g1 g3 g4 r g5 g2
       refine name ((PySem.W.exm_one (M := model X.prog X.w) J2.kIn kind is).here ?_)
       match b, yes, no with
       | false, _, no => exact ih (no rfl)
       | true, yes, _ =>
         have run := yes rfl a na
         match nm, k, hnm, hsu, run with
         | none, ⟨c, none, ts⟩, hnm, hsu, run =>
           refine codeAny_handlers_suite (HandSPX.lands_againZ fl fun hq fq up3 => ?_)
           obtain ⟨oq, uq, getq, zq, fieldsq⟩ := fq.there
           have Jq : Inv X pins τ G { s' with heap := hq } := J.landed nb fq.1 ((up.trans up2).trans up3) os ag
           refine wpAny_mono ((hsu a oq cls d (X.pn ++ pins) zq ⟨_, fieldsq⟩).run [] _ τ G (endA none D) (Jq.suite getq fieldsq na offL offF) run) (fun f t sp => ?_) fun _ _ z => z.elim
           have fin := suite_end (D := D) (q := q) ok hN hnm sp
           exact fin
         | some n, ⟨c, some i, ts⟩, hnm, hsu, run =>
           refine codeAny_handlers_suite_as (HandSPX.lands_againZ fl fun hq fq up3 => ?_)
           obtain ⟨oq, uq, getq, zq, fieldsq⟩ := fq.there
           have Jq : Inv X pins τ G { s' with heap := hq } := J.landed nb fq.1 ((up.trans up2).trans up3) os ag
           refine store_ok (X := X.suite a ((a, oq) :: (X.pn ++ pins))) (v := .ref a) (Jq.suite getq fieldsq na offL offF) hN hnm.1 (.inl hnm.2) rfl (fun s5 J5 => ?_) (.inr hnm.2)
           refine wpAny_mono ((hsu a oq cls d (X.pn ++ pins) zq ⟨_, fieldsq⟩).run [] s5 _ G (endA (some i) D) J5 run) (fun f t sp => ?_) fun _ _ z => z.elim
           have fin := suite_end (D := D) (q := q) ok hN hnm sp
           exact fin
    exact go hc w
end
/-! ### over the evaluator -/
section
variable {k : PySem.W.Frag} {p : Params} {u v : Option Value} {E0 : Hp} {F N : AS} {Pf Pf' : Nat → AS} {H H' : Hp} {σ : L2.St} {ρ : Env} {W : WX} {M : List Nat} {Dn : Ends}
theorem RW.kx {P : AS} {x : V} {d : D} (h : RW ⟨k, p, u⟩ F N H P x d) (hv : noX d = true ∨ u = none) : RW ⟨k, p, v⟩ F N H P x d :=
  let ⟨I, Q, r, a, b, c⟩ := h
  ⟨I, Q, r.kx hv, a, b, c⟩
theorem Stt.kx (s : Stt ⟨k, p, u⟩ E0 F N Pf H σ ρ) (hv : noXE ρ = true ∨ u = none) : Stt ⟨k, p, v⟩ E0 F N Pf H σ ρ where
  len := s.len
  rep := fun i d h => by
    obtain ⟨x, e, r⟩ := s.rep i d h
    refine ⟨x, e, r.kx (hv.imp (fun z => ?_) id)⟩
    have := List.all_eq_true.mp z _ (List.mem_of_getElem? h)
    exact this
  dis := s.dis
  prv := s.prv
  new := s.new
  old := s.old
  ext := s.ext
/-- a slot emptied -/
theorem Stt.clear {K : KW} {o : Option Nat} (s : Stt K E0 F N Pf H σ ρ) : Stt K E0 F N Pf H (gone o σ) (goneE o ρ) := by
  cases o with
  | none => exact s
  | some i => exact {
      len := by show (σ.set i none).length = (ρ.set i none).length; rw [List.length_set, List.length_set]; exact s.len
      rep := fun j d h => by
        have h : (ρ.set i none)[j]? = some (some d) := h
        by_cases hj : i = j
        · subst hj
          by_cases hl : i < ρ.length
          · rw [List.getElem?_set_self hl] at h; cases h
          · rw [List.getElem?_eq_none (by simpa using hl)] at h; cases h
        · rw [List.getElem?_set_ne hj] at h
          obtain ⟨x, e, r⟩ := s.rep j d h
          exact ⟨x, by show (σ.set i none)[j]? = _; rw [List.getElem?_set_ne hj]; exact e, r⟩
      dis := s.dis
      prv := s.prv
      new := s.new
      old := s.old
      ext := s.ext }
/-- the exception into its slot -/
theorem Stt.bind {o : Option Nat} {a : Addr} (s : Stt ⟨k, p, some (.ref a)⟩ E0 F N Pf H σ ρ) : ∃ Pf', Stt ⟨k, p, some (.ref a)⟩ E0 F N Pf' H (bindA o a σ) (inX o ρ) ∧ ∀ j b, Pf' j b → Pf j b := by
  cases o with
  | none => exact ⟨Pf, s, fun _ _ z => z⟩
  | some i =>
    refine ⟨_, s.set (i := i) (P := fun _ => False) (.mk (.exn rfl)) fun _ z => z.elim, fun j b z => ?_⟩
    rcases z with ⟨_, z⟩ | ⟨_, z⟩
    · exact z.elim
    · exact z
theorem Fr.less {P2 : Nat → AS} {H2 : Hp} (f : Fr M H Pf' H2 P2) (h : ∀ j b, Pf' j b → Pf j b) : Fr M H Pf H2 P2 where
  kp := fun a o e z => f.kp a o e (z.imp (fun z j hj w => z j hj (h j a w)) id)
  dm := f.dm
  pf := fun j a z => (f.pf j a z).imp (h j a) id
theorem PSr.suite {o : Option Nat} {a : Addr} {r : RS} (h : PSr ⟨k, p, none⟩ W E0 F M N Pf H Dn (outX o r)) (hp : ∀ j b, Pf' j b → Pf j b) : PSr ⟨k, p, some (.ref a)⟩ (fun _ _ _ _ => False) E0 F M N Pf' H (endA o Dn) r := by
  cases r with
  | next ρ =>
    simp only [outX] at h
    split at h
    · rename_i c
      exact fun σ' H' N' P2 s n f => h _ H' N' P2 (s.clear.kx (.inl c)) n (f.less hp)
    · exact h.elim
  | brk ρ =>
    simp only [outX] at h
    split at h
    · rename_i c
      exact fun σ' H' N' P2 s n f => h _ H' N' P2 (s.clear.kx (.inl c)) n (f.less hp)
    · exact h.elim
  | cnt ρ =>
    simp only [outX] at h
    split at h
    · rename_i c
      exact fun σ' H' N' P2 s n f => h _ H' N' P2 (s.clear.kx (.inl c)) n (f.less hp)
    · exact h.elim
  | ret d =>
    simp only [outX] at h
    split at h
    · rename_i c
      exact fun x H' N' P' e r1 n q => h x H' N' P' e (r1.kx (.inl c)) n q
    · exact h.elim
  | exc c ρ => exact h.elim
  | stuck => exact h.elim
end
/-- a clause over the evaluator: what it catches, its name's slot, its suite for each class -/
abbrev CE := List (Str × Bool) × Option Nat × (Str → Env → RS)
def hndF (c : Str) : List CE → Env → RS
  | [], ρ => .exc c ρ
  | (cs, o, g) :: hs, ρ => match cs.lookup c with
    | some true => outX o (g c (inX o ρ))
    | some false => hndF c hs ρ
    | none => .stuck
inductive CEs (X : Cx) (E0 : Hp) (M : List Nat) : List ExceptHandler → List CE → Prop
  | nil : CEs X E0 M [] []
  | cons {x : Str} {cv : Value} {nm : Option Str} {cs : List (Str × Bool)} {o : Option Nat} {g : Str → Env → RS} {st : Stmt} {sts : List Stmt} {p q : Pos} {hs : List ExceptHandler} {ks : List CE} : Names X x cv → NameOk X nm o →
      (∀ c b, cs.lookup c = some b → PySem.W.exmOne X.K (.ref (He.ga X.K c)) cv = some b) →
      (∀ (a : Addr) (ob : Obj) (c : Str) (pn : List (Addr × Obj)), cs.lookup c = some true → Zc (.ref (He.ga X.K c)) none ob → (∃ vs, ob.data = .fields vs) →
        PSs (X.suite a ((a, ob) :: pn)) (st :: sts) (tS ⟨X.K, X.w.params, some (.ref a)⟩ (fun _ _ _ _ => False) E0 M (g c))) →
      CEs X E0 M hs ks → CEs X E0 M (.ExceptHandler (some (.Name x p)) nm (st :: sts) q :: hs) ((cs, o, g) :: ks)
section
variable {X : Cx} {W : WX} {E0 : Hp} {M : List Nat}
theorem ces_clauses {hs : List ExceptHandler} {ks : List CE} (h : CEs X E0 M hs ks) : ∃ cl : List Cls, Clauses X hs cl ∧ ∀ (F N : AS) (Pf : Nat → AS) (H : Hp) (σ : L2.St) (ρ : Env) (D : Ends) (c : Str) (cls : Value) (d : Option Addr),
    Stt ⟨X.K, X.w.params, none⟩ E0 F N Pf H σ ρ → ExcV X.K c cls d → PSr ⟨X.K, X.w.params, none⟩ W E0 F M N Pf H D (hndF c ks ρ) → wClauses X.K W D cl cls d σ H := by
  induction h with
  | nil => exact ⟨[], .nil, fun F N Pf H σ ρ D c cls d s hx q => q σ H N Pf cls d s (fun _ z => z) Fr.refl hx⟩
  | @cons x cv nm cs o g st sts p q hs ks hn hnm hcs hsu _ ih =>
    obtain ⟨cl, h1, h2⟩ := ih
    refine ⟨⟨cv, o, fun a cls d D σ H => ∃ c, ExcV X.K c cls d ∧ cs.lookup c = some true ∧ tS ⟨X.K, X.w.params, some (.ref a)⟩ (fun _ _ _ _ => False) E0 M (g c) D σ H⟩ :: cl, .cons hn hnm (fun a ob cls d pn hz hf => ?_) h1, fun F N Pf H σ ρ D c cls d s hx q => ?_⟩
    · refine ⟨fun pins s σ H D I ⟨c, hx, hc, q⟩ => ?_⟩
      obtain ⟨rfl, rfl⟩ := hx
      exact (hsu a ob c pn hc hz hf).run pins s σ H D I q
    · unfold hndF at q
      split at q
      · rename_i e
        refine ⟨true, by obtain ⟨rfl, _⟩ := hx; exact hcs c _ e, fun _ a na => ⟨c, hx, e, ?_⟩, fun z => by cases z⟩
        obtain ⟨Pf', s', hp⟩ := (s.kx (v := some (.ref a)) (.inr rfl)).bind (o := o) (a := a)
        exact ⟨F, N, Pf', _, s', q.suite hp⟩
      · rename_i e
        exact ⟨false, by obtain ⟨rfl, _⟩ := hx; exact hcs c _ e, fun z => by (cases z), fun _ => h2 F N Pf H σ ρ D c cls d s hx q⟩
      · exact q.elim
theorem hs_try {body : List Stmt} {h₀ : ExceptHandler} {hs : List ExceptHandler} {ks : List CE} {pos : Pos} {f : Env → RS} (top : X.stack = X.env :: X.outer) (fr : X.env.frame = some X.env.locals) (hN : X.N.Nodup) (tk : Takes X W) (hk : X.kw = ⟨X.K, X.w.params, none⟩)
    (hb : ∀ (W' : WX) (pn : List (Addr × Obj)) (xe : Value → Shared → Prop), Takes (X.tr pn xe) W' → PassesOwn (model X.prog X.w) X.A X.env xe → PSs (X.tr pn xe) body (tS X.kw W' E0 M f)) (hc : CEs X E0 M (h₀ :: hs) ks) :
    PS X (.Try body (h₀ :: hs) [] [] pos) (tS X.kw W E0 M fun ρ => match f ρ with
      | .exc c ρ' => hndF c ks ρ'
      | r => r) := by
  obtain ⟨cl, h1, h2⟩ := ces_clauses (W := W) hc
  refine PS_imp (ps_clauses top fr hN tk hb h1) fun D σ H ⟨F, N, Pf, ρ, s, q⟩ => ⟨F, N, Pf, ρ, s, ?_⟩
  have q : PSr X.kw W E0 F M N Pf H D (match f ρ with
      | .exc c ρ' => hndF c ks ρ'
      | r => r) := q
  show PSr X.kw _ E0 F M N Pf H D (f ρ)
  cases e : f ρ with
  | exc c ρ' =>
    rw [e] at q
    intro σ' H' N' Pf' cls d s' n fr' hx
    rw [hk] at s' q
    exact h2 F N' Pf' H' σ' ρ' D c cls d s' (by rw [hk] at hx; exact hx) (q.shift n fr')
  | _ => rw [e] at q; exact q
end
end Hv

/-! Hv, part 17: from the text to the small language: expressions. -/
namespace Hv
open PySem PySem.Spec PyProof.Rows L2

/-- what is known of a def's names -/
structure MC where
  N : List Str
  fns : List (Str × Nat)
  glo : List Str
  fre : List Str
  exc : List Str
  calm : Bool
  cls : List (Str × Option String × List (Str × Bool))
def clsF (Γ : MC) (x : Str) : Option (Str × Option String × List (Str × Bool)) := Γ.cls.find? fun e => decide (e.1 = x)
theorem clsF_ok {Γ : MC} {x : Str} {e : Str × Option String × List (Str × Bool)} (h : clsF Γ x = some e) : e ∈ Γ.cls ∧ e.1 = x :=
  ⟨List.mem_of_find?_eq_some h, by simpa using List.find?_some h⟩
def slotF : List Str → Str → Option Nat
  | [], _ => none
  | y :: ys, x => if y = x then some 0 else match slotF ys x with
    | some i => some (i + 1)
    | none => none
theorem slotF_ok : ∀ {N : List Str} {x : Str} {i : Nat}, slotF N x = some i → N[i]? = some x
  | y :: ys, x, i, h => by
    unfold slotF at h
    split at h
    · rename_i e
      injection h with h
      subst h e
      rfl
    · split at h
      · rename_i j e
        injection h with h
        subst h
        simpa using slotF_ok e
      · cases h
  | [], _, _, h => by cases h
def fnF : List (Str × Nat) → Str → Option (Nat × Nat)
  | [], _ => none
  | y :: ys, x => if y.1 = x then some (0, y.2) else match fnF ys x with
    | some (i, n) => some (i + 1, n)
    | none => none
theorem fnF_ok : ∀ {N : List (Str × Nat)} {x : Str} {i n : Nat}, fnF N x = some (i, n) → N[i]? = some (x, n)
  | y :: ys, x, i, n, h => by
    unfold fnF at h
    split at h
    · rename_i e
      injection h with h; injection h with h1 h2
      subst h1 h2 e
      rfl
    · split at h
      · rename_i j m e
        injection h with h; injection h with h1 h2
        subst h1 h2
        simpa using fnF_ok e
      · cases h
  | [], _, _, _, h => by cases h
def visB (sc : Scope) (x : Str) : Bool := match sc.names.lookup x with
  | some .local => true
  | some .cell => true
  | some .free => true
  | _ => false
def glB (sc : Scope) (x : Str) : Bool := match sc.names.lookup x with
  | some .globalImplicit => true
  | _ => false
def notDbg (x : Str) : Bool := !(x == ("__debug__" : Str)) && !(x == ("__classdict__" : Str))
theorem notDbg_ok {x : Str} (h : notDbg x = true) : (x == ("__debug__" : Str)) = false ∧ (x == ("__classdict__" : Str)) = false := by
  unfold notDbg at h
  simpa using h
def slotV (Γ : MC) (sc : Scope) (x : Str) : Option Nat := if visB sc x && notDbg x then slotF Γ.N x else none
/-- a def of the table -/
def FnF (X : Cx) (x : Str) (n : Nat) (c : List PyData → CR) : Prop := ∃ (k : Nat) (fa : Addr) (fd : FuncData) (ps : List Str), FnOk X.prog X.w X.K X.mg X.base (L2.CX X.prog X.w) k fa fd ps (spF X.kw n c) ∧ Room k X.A ∧ X.mg x = some (.ref fa) ∧ PySem.W.keepIn X.K (.ref fa) = true ∧ Binds X.K fd ps []
/-- a class that a clause or isinstance names -/
def clsV (K : PySem.W.Frag) (x : Str) : Option String → Value
  | none => .ref (He.ga K x)
  | some t => .type t
def clsN (K : PySem.W.Frag) (x : Str) : Option String → V
  | none => .ref (He.ga K x)
  | some t => .ty t
structure ClsE (K : PySem.W.Frag) (mg : Str → Option Value) (e : Str × Option String × List (Str × Bool)) : Prop where
  nm : match e.2.1 with
    | none => mg e.1 = some (.ref (He.ga K e.1))
    | some t => mg e.1 = none ∧ bootBuiltins e.1 = some (.type t) ∧ e.1 ≠ "__name__"
  ck : ∀ c b, e.2.2.lookup c = some b → PySem.W.kitOne K (.ref (He.ga K c)) (clsV K e.1 e.2.1) = some b ∧ PySem.W.exmOne K (.ref (He.ga K c)) (clsV K e.1 e.2.1) = some b ∧ ExcC K (He.ga K c)
structure XI (Γ : MC) (C : Cal) (G : Glo) (sc : Scope) (X : Cx) (W : WX) : Prop where
  hN : X.N = Γ.N
  nd : Γ.N.Nodup
  hsc : X.env.scope = sc
  calm : Γ.calm = true → X.calm = true
  sui : Γ.calm = false → ∃ (X0 : Cx) (a : Addr) (ob : Obj) (pn : List (Addr × Obj)) (c : Str), X = X0.suite a ((a, ob) :: pn) ∧ Zc (.ref (He.ga X.K c)) none ob ∧ (∃ vs, ob.data = .fields vs) ∧ G xk = some (.str c)
  cls : ∀ e ∈ Γ.cls, ClsE X.K X.mg e
  un : X.A.units + 65 < cLine
  tk : Takes X W
  fns : Γ.calm = true → ∀ i x n, Γ.fns[i]? = some (x, n) → FnF X x n (C i)
  glo : ∀ x ∈ Γ.glo, ∃ p v u, G x = some p ∧ X.mg x = some u ∧ RelV v u ∧ ∀ H, Rp X.kw (fun _ => False) H v p
  fre : ∀ x ∈ Γ.fre, X.mg x = none
section
variable {Γ : MC} {C : Cal} {G : Glo} {sc : Scope} {X : Cx} {W : WX}
theorem XI.vis (h : XI Γ C G sc X W) {x : Str} (v : visB sc x = true) : Vis X.env.scope x := by
  rw [h.hsc]
  unfold visB at v
  unfold Vis
  split at v
  · rename_i e; exact .inl e
  · rename_i e; exact .inr (.inl e)
  · rename_i e; exact .inr (.inr e)
  · cases v
theorem XI.gl (h : XI Γ C G sc X W) {x : Str} (v : glB sc x = true) : Gl X x := by
  show X.env.scope.names.lookup x = some .globalImplicit
  rw [h.hsc]
  unfold glB at v
  split at v
  · rename_i e; exact e
  · cases v
theorem XI.slot (h : XI Γ C G sc X W) {x : Str} {i : Nat} (e : slotV Γ sc x = some i) : X.N[i]? = some x ∧ Vis X.env.scope x ∧ (x == ("__debug__" : Str)) = false ∧ (x == ("__classdict__" : Str)) = false := by
  unfold slotV at e
  split at e
  · rename_i c
    simp only [Bool.and_eq_true] at c
    rw [h.hN]
    exact ⟨slotF_ok e, h.vis c.1, notDbg_ok c.2⟩
  · cases e
/-- into a block -/
theorem XI.blk (h : XI Γ C G sc X W) (hc : Γ.calm = true) {s : Shared} {H : Hp} {scope : Scope} {A : Addr} {cl : List (Str × Addr)} {fp : List Addr} : XI Γ C G (relS scope sc) (X.blk s H scope (compEnvC scope cl A X.env) fp) WN where
  hN := h.hN
  nd := h.nd
  hsc := by
    show relS scope X.env.scope = _
    rw [h.hsc]
  calm := h.calm
  sui := fun z => by rw [hc] at z; cases z
  cls := h.cls
  un := h.un
  tk := fun u s' ⟨a, B, sI, pins, σ, H, cls, d, e, I, nb, up, sky, na, os, ag, w⟩ => w.elim
  fns := h.fns
  glo := h.glo
  fre := h.fre
end

/-! ### the translation -/
def trBop : Operator → Option BOp
  | .Add => some .add
  | .Sub => some .sub
  | .Mult => some .mul
  | .FloorDiv => some .div
  | .Mod => some .mod
  | .Pow => some .pow
  | _ => none
theorem trBop_ok {o : Operator} {b : BOp} (h : trBop o = some b) : o = bop b := by
  cases o <;> simp [trBop] at h <;> subst h <;> rfl
def trCop : CmpOp → COp
  | .Eq => .eq
  | .NotEq => .ne
  | .Lt => .lt
  | .LtE => .le
  | .Gt => .gt
  | .GtE => .ge
  | .Is => .isn
  | .IsNot => .notn
  | .In => .in_
  | .NotIn => .nin
theorem trCop_ok (o : CmpOp) : o = copE (trCop o) := by cases o <;> rfl
def trC : Const → Option E
  | .none => some .non
  | .bool b => some (.bl b)
  | .int i => some (.int i)
  | .str x => if PyData.strOk x then some (.str x) else none
  | _ => none
def biAll : List (Bi × Nat) := [(.len, 1), (.int, 1), (.abs, 1), (.max2, 2), (.min2, 2), (.sum, 1), (.maxL, 1), (.minL, 1), (.sorted, 1), (.list, 1), (.tuple, 1), (.any, 1), (.all, 1), (.ord, 1)]
def biF (x : Str) (n : Nat) : Option Bi := match biAll.find? fun p => decide (x = Str.ofString (biN p.1)) && decide (p.2 = n) with
  | some p => some p.1
  | none => none
theorem biF_ok {x : Str} {n : Nat} {b : Bi} (h : biF x n = some b) : x = Str.ofString (biN b) := by
  unfold biF at h
  split at h
  · rename_i p e
    have := List.find?_some e
    simp only [Bool.and_eq_true, decide_eq_true_eq] at this
    injection h with h
    subst h
    exact this.1
  · cases h
def mtAll : List Mt := [.join, .startswith, .endswith, .find, .count, .upper, .lower, .isdigit, .isalpha, .isupper, .islower, .zfill, .strip, .split, .partition]
def mtF (x : Str) : Option Mt := mtAll.find? fun m => decide (x = Str.ofString (mtN m))
theorem mtF_ok {x : Str} {m : Mt} (h : mtF x = some m) : x = Str.ofString (mtN m) := by
  have := List.find?_some h
  simpa using this
def tyAll : List Ty := [.int, .bool, .str, .list, .tuple, .dict]
def tyF (x : Str) : Option Ty := tyAll.find? fun t => decide (x = Str.ofString (tyN t))
theorem tyF_ok {x : Str} {t : Ty} (h : tyF x = some t) : x = Str.ofString (tyN t) := by
  have := List.find?_some h
  simpa using this
def trL (f : Expr → Option E) : List Expr → Option (List E)
  | [] => some []
  | e :: es => match f e with
    | some a => match trL f es with
      | some as => some (a :: as)
      | none => none
    | none => none
def trO (f : Expr → Option E) : Option Expr → Option (Option E)
  | none => some none
  | some e => match f e with
    | some a => some (some a)
    | none => none
/-- a target's names -/
def trTs (f : Str → Option Nat) : List Expr → Option (List Nat)
  | [] => some []
  | .Name x _ :: es => match f x with
    | some i => match trTs f es with
      | some is => some (i :: is)
      | none => none
    | none => none
  | _ => none
def trT (f : Str → Option Nat) : Expr → Option Tg
  | .Name x _ => match f x with
    | some i => some (.name i)
    | none => none
  | .Tuple es _ _ => match trTs f es with
    | some is => some (.tup is)
    | none => none
  | _ => none
def isTupT : Tg → Bool
  | .tup _ => true
  | _ => false
def isSet : Expr → Bool
  | .Set .. => true
  | _ => false
/-- what a loop goes over -/
def trI (Γ : MC) (sc : Scope) (f : Expr → Option E) (tg : Tg) (it : Expr) : Option (Sk × List E) := match it with
  | .Call (.Name x _) args [] _ =>
    if x = ("range" : Str) ∧ glB sc x = true ∧ x ∈ Γ.fre ∧ (args.length = 1 ∨ args.length = 2) then (match trL f args with
      | some es => some (.range, es)
      | none => none)
    else if x = ("enumerate" : Str) ∧ glB sc x = true ∧ x ∈ Γ.fre ∧ args.length = 1 ∧ isTupT tg = true then (match trL f args with
      | some es => some (.enum, es)
      | none => none)
    else if x = ("zip" : Str) ∧ glB sc x = true ∧ x ∈ Γ.fre ∧ args.length = 2 ∧ isTupT tg = true then (match trL f args with
      | some es => some (.zip, es)
      | none => none)
    else (match f it with
      | some e => some (.seq, [e])
      | none => none)
  | _ => if isSet it then none else match f it with
    | some e => some (.seq, [e])
    | none => none
def ownOf (N : List Str) : List (Str × NameKind) → List (Str × Nat)
  | [] => []
  | (x, .local) :: r => (match slotF N x with
    | some i => (x, i) :: ownOf N r
    | none => ownOf N r)
  | (x, .cell) :: r => (match slotF N x with
    | some i => (x, i) :: ownOf N r
    | none => ownOf N r)
  | _ :: r => ownOf N r
/-- a block's own target -/
def slotB (Γ : MC) (scope sc : Scope) (x : Str) : Option Nat := match (relS scope sc).names.lookup x with
  | some .local => slotF Γ.N x
  | some .cell => if scope.names.lookup x == some .cell then slotF Γ.N x else none
  | _ => none
/-- a tuple of two classes -/
def orC (cs cs' : List (Str × Bool)) : List (Str × Bool) := cs.filterMap fun p => (cs'.lookup p.1).map fun b => (p.1, p.2 || b)
theorem orC_ok {c : Str} {r : Bool} {cs' : List (Str × Bool)} : ∀ {cs : List (Str × Bool)}, (orC cs cs').lookup c = some r → ∃ b b', cs.lookup c = some b ∧ cs'.lookup c = some b' ∧ r = (b || b')
  | [], h => by cases h
  | (x, b) :: cs, h => by
    unfold orC at h
    rw [List.filterMap_cons] at h
    cases e : cs'.lookup x with
    | none =>
      simp only [e, Option.map_none] at h
      obtain ⟨b1, b2, h1, h2, h3⟩ := orC_ok (cs := cs) h
      by_cases hx : c = x
      · subst hx
        rw [e] at h2
        cases h2
      · exact ⟨b1, b2, by rw [List.lookup_cons, show (c == x) = false by simpa using hx]; exact h1, h2, h3⟩
    | some b' =>
      simp only [e, Option.map_some] at h
      by_cases hx : c = x
      · subst hx
        rw [List.lookup_cons, beq_self_eq_true] at h
        injection h with h
        exact ⟨b, b', by rw [List.lookup_cons, beq_self_eq_true], e, h.symm⟩
      · rw [List.lookup_cons, show (c == x) = false by simpa using hx] at h
        obtain ⟨b1, b2, h1, h2, h3⟩ := orC_ok (cs := cs) h
        exact ⟨b1, b2, by rw [List.lookup_cons, show (c == x) = false by simpa using hx]; exact h1, h2, h3⟩
def trCall (Γ : MC) (sc : Scope) (f : Expr → Option E) (x : Str) (args : List Expr) : Option E :=
  if glB sc x && notDbg x then match fnF Γ.fns x with
    | some (i, n) => if args.length = n ∧ Γ.calm = true then (match trL f args with
      | some es => some (.call i es)
      | none => none) else none
    | none => if x ∈ Γ.fre then (if x = ("isinstance" : Str) then (match args with
        | [a, .Name t _] => if Γ.calm = true then (if glB sc t ∧ t ∈ Γ.fre then (match tyF t with
          | some ty => (match f a with
            | some e => some (.isi e ty)
            | none => none)
          | none => none) else none) else (match a with
          | .Name e _ => (match slotV Γ sc e with
            | some i => (match clsF Γ t with
              | some k => if glB sc t = true ∧ notDbg t = true then some (.ise i k.2.2) else none
              | none => none)
            | none => none)
          | _ => none)
        | [.Name e _, .Tuple [.Name t _, .Name t' _] _ _] => if Γ.calm = true then none else (match slotV Γ sc e with
          | some i => (match clsF Γ t with
            | some k => (match clsF Γ t' with
              | some k' => if (glB sc t = true ∧ notDbg t = true) ∧ glB sc t' = true ∧ notDbg t' = true then some (.ise i (orC k.2.2 k'.2.2)) else none
              | none => none)
            | none => none)
          | none => none)
        | _ => none)
      else match biF x args.length with
        | some b => if args.isEmpty || (!Γ.calm && biC b) then none else (match trL f args with
          | some es => some (.bi b es)
          | none => none)
        | none => none) else none
  else none
def trE (Γ : MC) : Nat → Scope → Expr → Option E
  | 0, _, _ => none
  | n + 1, sc, ex => match ex with
    | .Constant c _ _ => trC c
    | .Name x _ => match slotV Γ sc x with
      | some i => some (.var i)
      | none => if glB sc x && notDbg x && decide (x ∈ Γ.glo) then some (.glob x) else none
    | .BinOp a o b _ => match trBop o with
      | some o => match trE Γ n sc a with
        | some a => match trE Γ n sc b with
          | some b => some (.bin o a b)
          | none => none
        | none => none
      | none => none
    | .UnaryOp .Not a _ => match trE Γ n sc a with
      | some a => some (.not a)
      | none => none
    | .UnaryOp .USub a _ => match trE Γ n sc a with
      | some a => some (.neg a)
      | none => none
    | .BoolOp .And es _ => if es.isEmpty then none else match trL (trE Γ n sc) es with
      | some es => some (.and es)
      | none => none
    | .BoolOp .Or es _ => if es.isEmpty then none else match trL (trE Γ n sc) es with
      | some es => some (.or es)
      | none => none
    | .Compare a [o] [b] _ => match trE Γ n sc a with
      | some a => match trE Γ n sc b with
        | some b => some (.cmp (trCop o) a b)
        | none => none
      | none => none
    | .Compare a [o, o'] [b, c] _ => match trE Γ n sc a with
      | some a => match trE Γ n sc b with
        | some b => match trE Γ n sc c with
          | some c => some (.chn (trCop o) (trCop o') a b c)
          | none => none
        | none => none
      | none => none
    | .IfExp c a b _ => match trE Γ n sc c with
      | some c => match trE Γ n sc a with
        | some a => match trE Γ n sc b with
          | some b => some (.ifx c a b)
          | none => none
        | none => none
      | none => none
    | .Call (.Name x _) [.DictComp kx (.Constant (.bool _) _ _) [⟨tg, it, [], 0⟩] scope _] [] _ => if (x = ("len" : Str) ∧ Γ.calm = true) ∧ glB sc x = true ∧ x ∈ Γ.fre then (match trT (slotB Γ scope sc) tg with
      | some t => (match trI Γ sc (trE Γ n sc) t it with
        | some (k, args) => if blkC Γ.N sc scope (ownOf Γ.N scope.names) = true ∧ (tgs t).all (fun i => ((ownOf Γ.N scope.names).map (·.2)).contains i) = true then (match trE Γ n (relS scope sc) kx with
          | some e => some (.dkl ((ownOf Γ.N scope.names).map (·.2)) k args t e)
          | none => none) else none
        | none => none)
      | none => none) else none
    | .Call (.Name x _) args [] _ => trCall Γ sc (trE Γ n sc) x args
    | .Call (.Attribute o name apos) args [] cpos => match mtF name with
      | some m => if notSup o = true ∧ (apos.endLine == cpos.line) = true ∧ args.length ≤ 1 then (match trE Γ n sc o with
        | some o => match trL (trE Γ n sc) args with
          | some es => some (.mth m o es)
          | none => none
        | none => none) else none
      | none => none
    | .Subscript a (.Slice none none (some (.UnaryOp .USub (.Constant (.int i) _ _) _)) _) _ => if i = 1 then (match trE Γ n sc a with
      | some a => some (.rev a)
      | none => none) else none
    | .Subscript a (.Slice lo hi none _) _ => match trE Γ n sc a with
      | some a => match trO (trE Γ n sc) lo with
        | some lo => match trO (trE Γ n sc) hi with
          | some hi => some (.sl a lo hi)
          | none => none
        | none => none
      | none => none
    | .Subscript a b _ => match trE Γ n sc a with
      | some a => match trE Γ n sc b with
        | some b => some (.ix a b)
        | none => none
      | none => none
    | .List es _ => if es.length ≤ 1000 then (match trL (trE Γ n sc) es with
      | some es => some (.lst es)
      | none => none) else none
    | .Tuple es _ _ => if es.length ≤ 1000 then (match trL (trE Γ n sc) es with
      | some es => some (.tup es)
      | none => none) else none
    | .ListComp elt [⟨tg, it, ifs, 0⟩] scope _ => match trT (slotB Γ scope sc) tg with
      | some t => match trI Γ sc (trE Γ n sc) t it with
        | some (k, args) => if Γ.calm = true ∧ ifs.length ≤ 1 ∧ blkC Γ.N sc scope (ownOf Γ.N scope.names) = true ∧ (tgs t).all (fun i => ((ownOf Γ.N scope.names).map (·.2)).contains i) = true then (match trL (trE Γ n (relS scope sc)) ifs with
          | some cs => match trE Γ n (relS scope sc) elt with
            | some e => some (.lc ((ownOf Γ.N scope.names).map (·.2)) k args t cs e)
            | none => none
          | none => none) else none
        | none => none
      | none => none
    | _ => none
end Hv

/-! Hv, part 18: the translation keeps the sense: expressions. -/
namespace Hv
open PySem PySem.Spec PyProof.Rows L2

section
variable {Γ : MC} {C : Cal} {G : Glo} {sc : Scope} {X : Cx} {W : WX} {f : Expr → Option E}
theorem trL_ok (hf : ∀ ex e, f ex = some e → HV X W ex (ev C G e)) : ∀ {es : List Expr} {as : List E}, trL f es = some as → HVs X W es (evs C G as)
  | [], as, h => by injection h with h; subst h; exact .nil
  | e :: es, as, h => by
    unfold trL at h
    split at h
    · rename_i a e1
      split at h
      · rename_i as' e2
        injection h with h
        subst h
        exact .cons (hf _ _ e1) (trL_ok hf e2)
      · cases h
    · cases h
theorem trL_len : ∀ {es : List Expr} {as : List E}, trL f es = some as → as.length = es.length
  | [], as, h => by injection h with h; subst h; rfl
  | e :: es, as, h => by
    unfold trL at h
    split at h
    · split at h
      · rename_i as' e2
        injection h with h
        subst h
        rw [List.length_cons, List.length_cons, trL_len e2]
      · cases h
    · cases h
theorem trO_ok (hf : ∀ ex e, f ex = some e → HV X W ex (ev C G e)) {o : Option Expr} {a : Option E} (h : trO f o = some a) : PO X o (tO X.kw W (evO C G a)) := by
  cases o with
  | none => injection h with h; subst h; exact ho_none
  | some e =>
    simp only [trO] at h
    split at h
    · rename_i b e1
      injection h with h
      subst h
      exact ho_some (hf _ _ e1)
    · cases h
theorem trC_ok {c : Const} {e : E} {k : Nat} {p : Pos} (h : trC c = some e) : HV X W (.Constant c k p) (ev C G e) := by
  cases c with
  | none => injection h with h; subst h; exact hv_non
  | bool b => injection h with h; subst h; exact hv_bl
  | int i => injection h with h; subst h; exact hv_int
  | str x =>
    simp only [trC] at h
    split at h
    · rename_i k
      injection h with h; subst h; exact hv_str k
    · cases h
  | _ => cases h
theorem trC_var {c : Const} {i : Nat} (h : trC c = some (.var i)) : False := by
  cases c <;> simp [trC] at h
theorem trCall_var {x : Str} {args : List Expr} {i : Nat} (h : trCall Γ sc f x args = some (.var i)) : False := by
  unfold trCall at h
  repeat' split at h
  all_goals first | cases h | (injection h with h; cases h)
theorem trE_var {n : Nat} {ex : Expr} {i : Nat} (h : trE Γ n sc ex = some (.var i)) : ∃ x p, ex = .Name x p ∧ slotV Γ sc x = some i := by
  cases n with
  | zero => cases h
  | succ n =>
    unfold trE at h
    split at h
    case h_1 => exact (trC_var h).elim
    case h_2 x p =>
      split at h
      · rename_i j e
        injection h with h; injection h with h
        subst h
        exact ⟨x, p, rfl, e⟩
      · split at h
        · injection h with h; cases h
        · cases h
    all_goals first | exact (trCall_var h).elim | (repeat' split at h) <;> first | cases h | (injection h with h; cases h)
theorem isi_hv {a : Expr} {t : Str} {ty : Ty} {e : E} {p p2 pos : Pos} (h : XI Γ C G sc X W) (hg : glB sc ("isinstance" : Str) = true) (hf : ("isinstance" : Str) ∈ Γ.fre) (hg2 : glB sc t = true) (hf2 : t ∈ Γ.fre) (ht : tyF t = some ty) (ha : HV X W a (ev C G e)) :
    HV X W (.Call (.Name "isinstance" p) [a, .Name t p2] [] pos) (ev C G (.isi e ty)) := by
  have := tyF_ok ht
  subst this
  exact hv_isi (h.gl hg) (h.fre _ hf) (h.gl hg2) (h.fre _ hf2) ha
theorem cls_name (h : XI Γ C G sc X W) {t : Str} {k : Str × Option String × List (Str × Bool)} {p2 : Pos} (ek : clsF Γ t = some k) (gt : glB sc t = true) (dt : notDbg t = true) : PE X (.Name t p2) (tC (clsN X.K t k.2.1)) := by
  obtain ⟨k1, k2⟩ := clsF_ok ek
  have hk := (h.cls k k1).nm
  rw [k2] at hk
  cases e : k.2.1 with
  | none => rw [e] at hk; exact pe_glob (h.gl gt) hk rfl (notDbg_ok dt).1
  | some ty => rw [e] at hk; exact pe_bltn (h.gl gt) hk.1 hk.2.1 rfl hk.2.2 (notDbg_ok dt).1
theorem ise_hv (h : XI Γ C G sc X W) (hcm : Γ.calm = false) {e t : Str} {i : Nat} {k : Str × Option String × List (Str × Bool)} {p p1 p2 pos : Pos} (hx : glB sc ("isinstance" : Str) = true) (hfr : ("isinstance" : Str) ∈ Γ.fre) (es : slotV Γ sc e = some i) (ek : clsF Γ t = some k) (gt : glB sc t = true) (dt : notDbg t = true) :
    HV X W (.Call (.Name "isinstance" p) [.Name e p1, .Name t p2] [] pos) (ev C G (.ise i k.2.2)) := by
  have h2 := cls_name (p2 := p2) h ek gt dt
  have hgi := h.gl hx
  have hmi := h.fre _ hfr
  obtain ⟨s1, s2, s3, s4⟩ := h.slot es
  obtain ⟨k1, k2⟩ := clsF_ok ek
  have hck := (h.cls k k1).ck
  rw [k2] at hck
  obtain ⟨X0, a, ob, pn, c, hX, hz, hf, hg⟩ := h.sui hcm
  clear h
  subst hX
  refine hv_plain ?_
  cases hl : k.2.2.lookup c with
  | none =>
    refine ⟨fun pins s σ H Q I ⟨F, N, Pf, ρ, S, q⟩ => False.elim ?_⟩
    simp only [iseR, hg, hl] at q
    split at q <;> exact q
  | some b =>
    obtain ⟨c1, _, c3⟩ := hck c b hl
    refine PE_imp (pe_callB (call_isE c3 hz hf) hgi hmi boot_isinstance (pa_cons (pe_var s1 s2 s3 s4) (pa_cons h2 pa_nil rfl) rfl) (by decide) (by decide) rfl rfl) fun σ H Q ⟨F, N, Pf, ρ, S, q⟩ => ?_
    simp only [iseR, hg, hl] at q
    split at q
    · rename_i e0
      obtain ⟨x, e1, I, P, r, _⟩ := S.rep i _ e0
      cases r with
      | exn hx =>
        have hx : some (Value.ref a) = some (Value.ref _) := hx
        injection hx with hx
        injection hx with hx
        subst hx
        exact ⟨_, e1, _, _, b, rfl, fun u r => (by cases e : k.2.1 <;> (rw [e] at r; exact r)), c1, PR.bool q Ext.refl⟩
    · exact q.elim
theorem call_isET {X : Cx} {a D : Addr} {oe : Obj} {pn : List (Addr × Obj)} (C : ExcC X.K D) (hz : Zc (.ref D) none oe) (hf : ∃ vs, oe.data = .fields vs) : CallR (X.suite a ((a, oe) :: pn)) (.builtin "isinstance")
    (fun xs H Q => ∃ (tp : Addr) (cs : List V) (us : List Value) (b : Bool), xs = [.ref a, .ref tp] ∧ H tp = some (.tup cs) ∧ (∀ ws, Vals cs ws → ws = us) ∧ PySem.W.kitAny X.K (.ref D) us = some b ∧ Q (.bl b) H) := by
  intro pins s σ H xs us Q I r h
  obtain ⟨tp, cs, ws, b, rfl, hT, hall, e, q⟩ := h
  cases r with
  | cons rx rr =>
    cases rr with
    | cons rt rr =>
      cases rr
      cases rx
      cases rt
      obtain ⟨hget, _⟩ := I.pin (a, oe) (List.mem_append.mpr (.inl List.mem_cons_self))
      obtain ⟨vs, hv⟩ := hf
      have J : PySem.W.InstAt s.heap a oe D none := by
        obtain ⟨oc, od, oda, osl⟩ := oe
        obtain ⟨h1, h2⟩ := hz
        dsimp only at h1 h2 hv
        subst h1 h2 hv
        exact ⟨hget, rfl, rfl, trivial⟩
      obtain ⟨_, its, rv, o, h1, h2, n, h3⟩ := (show ObjOk (X.suite a ((a, oe) :: pn)).prog (X.suite a ((a, oe) :: pn)).w H s.heap tp (.tup cs) from I.hok tp _ hT)
      have e3 := hall _ rv
      subst e3
      obtain ⟨oc, od, dt, sl⟩ := o
      simp only at h2 h3
      subst h2 h3
      exact PySem.W.kia_tup (PySem.W.handS_kitx_exc C.hg C.hk C.hs C.hd C.ha C.hn C.ht C.hm) I.kIn J h1 e (fun z => nomatch z) fun tk => ⟨.bl b, H, I.kept (t' := tk) fun _ _ z => z, rfl, q⟩
theorem ise2_hv (h : XI Γ C G sc X W) (hcm : Γ.calm = false) {e t t' : Str} {i m : Nat} {k k' : Str × Option String × List (Str × Bool)} {p p1 p2 p3 p4 pos : Pos} (hx : glB sc ("isinstance" : Str) = true) (hfr : ("isinstance" : Str) ∈ Γ.fre) (es : slotV Γ sc e = some i) (ek : clsF Γ t = some k) (ek' : clsF Γ t' = some k') (gt : glB sc t = true) (dt : notDbg t = true) (gt' : glB sc t' = true) (dt' : notDbg t' = true) :
    HV X W (.Call (.Name "isinstance" p) [.Name e p1, .Tuple [.Name t p2, .Name t' p3] m p4] [] pos) (ev C G (.ise i (orC k.2.2 k'.2.2))) := by
  have h2 := cls_name (p2 := p2) h ek gt dt
  have h3 := cls_name (p2 := p3) h ek' gt' dt'
  have hgi := h.gl hx
  have hmi := h.fre _ hfr
  obtain ⟨s1, s2, s3, s4⟩ := h.slot es
  obtain ⟨k1, k2⟩ := clsF_ok ek
  have hck := (h.cls k k1).ck
  rw [k2] at hck
  obtain ⟨k1', k2'⟩ := clsF_ok ek'
  have hck' := (h.cls k' k1').ck
  rw [k2'] at hck'
  obtain ⟨X0, a, ob, pn, c, hX, hz, hf, hg⟩ := h.sui hcm
  clear h
  subst hX
  refine hv_plain ?_
  cases hl : (orC k.2.2 k'.2.2).lookup c with
  | none =>
    refine ⟨fun pins s σ H Q I ⟨F, N, Pf, ρ, S, q⟩ => False.elim ?_⟩
    simp only [iseR, hg, hl] at q
    split at q <;> exact q
  | some b =>
    obtain ⟨b1, b2, l1, l2, rfl⟩ := orC_ok hl
    obtain ⟨c1, _, c3⟩ := hck c b1 l1
    obtain ⟨c1', _, _⟩ := hck' c b2 l2
    refine PE_imp (pe_callB (call_isET c3 hz hf) hgi hmi boot_isinstance (pa_cons (pe_var s1 s2 s3 s4) (pa_cons (pe_tup (pa_cons h2 (pa_cons h3 pa_nil rfl) rfl)) pa_nil rfl) rfl) (by decide) (by decide) rfl rfl) fun σ H Q ⟨F, N, Pf, ρ, S, q⟩ => ?_
    simp only [iseR, hg, hl] at q
    split at q
    · rename_i e0
      obtain ⟨x, e1, I, P, r, _⟩ := S.rep i _ e0
      cases r with
      | exn hx =>
        have hx : some (Value.ref a) = some (Value.ref _) := hx
        injection hx with hx
        injection hx with hx
        subst hx
        refine ⟨_, e1, by (show 2 ≤ sizeLine; decide), fun tp htp => ⟨tp, _, [clsV (X0.suite a ((a, ob) :: pn)).K t k.2.1, clsV (X0.suite a ((a, ob) :: pn)).K t' k'.2.1], _, rfl, upd_same, fun ws r => ?_, kitAny_cons c1 (fun z => kitAny_cons c1' (fun z' => ?_) fun z' => ?_) (fun z => by rw [z]; rfl), PR.bool q (Ext.new htp)⟩⟩
        · cases r with
          | cons r1 r2 =>
            cases r2 with
            | cons r2 r3 =>
              cases r3
              congr 1
              · cases e : k.2.1 <;> (rw [e] at r1; exact r1)
              · congr 1
                cases e : k'.2.1 <;> (rw [e] at r2; exact r2)
        · rw [z, z']; exact kitAny_nil
        · rw [z, z']; rfl
    · exact q.elim
theorem trCall_ok (h : XI Γ C G sc X W) (hf : ∀ ex e, f ex = some e → HV X W ex (ev C G e)) {x : Str} {args : List Expr} {e : E} {p pos : Pos} (q : trCall Γ sc f x args = some e) : HV X W (.Call (.Name x p) args [] pos) (ev C G e) := by
  unfold trCall at q
  split at q
  · rename_i c
    simp only [Bool.and_eq_true] at c
    have hd := (notDbg_ok c.2).1
    split at q
    · rename_i i n e1
      split at q
      · rename_i hn
        split at q
        · rename_i es e2
          injection q with q
          subst q
          obtain ⟨hn, hcm⟩ := hn
          obtain ⟨k, fa, fd, ps, F, hr, hm, hk, hb⟩ := h.fns hcm _ _ _ (fnF_ok e1)
          have ha := trL_ok hf e2
          cases args with
          | nil =>
            injection e2 with e2
            subst e2 hn
            exact hv_plain (he_call0 h.tk F hr (h.gl c.1) hm hk hb hd)
          | cons a as =>
            subst hn
            exact hv_plain (he_call h.tk F hr (h.gl c.1) hm hk hb ha hd)
        · cases q
      · cases q
    · split at q
      · rename_i hfr
        split at q
        · rename_i hx
          subst hx
          split at q
          · rename_i a t p2
            split at q
            · split at q
              · rename_i c2
                split at q
                · rename_i ty e3
                  split at q
                  · rename_i e4 e5
                    injection q with q
                    subst q
                    exact isi_hv h c.1 hfr c2.1 c2.2 e3 (hf _ _ e5)
                  · cases q
                · cases q
              · cases q
            · rename_i hcm
              split at q
              · split at q
                · rename_i es
                  split at q
                  · rename_i ek
                    split at q
                    · rename_i c2
                      injection q with q
                      subst q
                      exact ise_hv h (by simpa using hcm) c.1 hfr es ek c2.1 c2.2
                    · cases q
                  · cases q
                · cases q
              · cases q
          · split at q
            · cases q
            · rename_i hcm
              split at q
              · rename_i es
                split at q
                · rename_i ek
                  split at q
                  · rename_i ek'
                    split at q
                    · rename_i c2
                      injection q with q
                      subst q
                      exact ise2_hv h (by simpa using hcm) c.1 hfr es ek ek' c2.1.1 c2.1.2 c2.2.1 c2.2.2
                    · cases q
                  · cases q
                · cases q
              · cases q
          · cases q
        · split at q
          · rename_i b e3
            have := biF_ok e3
            subst this
            split at q
            · cases q
            · rename_i hne
              split at q
              · rename_i es e4
                injection q with q
                subst q
                simp only [Bool.or_eq_true, Bool.and_eq_true, Bool.not_eq_true', not_or, not_and] at hne
                cases args with
                | nil => exact absurd rfl hne.1
                | cons a as => exact hv_bi (fun z => h.calm (by
                    cases hc : Γ.calm with
                    | true => rfl
                    | false => exact absurd z (hne.2 hc))) (h.gl c.1) (h.fre _ hfr) (trL_ok hf e4)
              · cases q
          · cases q
      · cases q
  · cases q
/-! ### targets -/
theorem PG_or {tg : Expr} {g g' : TG} (h : PG X tg g) (h' : PG X tg g') : PG X tg (fun v σ H Q => g v σ H Q ∨ g' v σ H Q) :=
  ⟨fun pins s σ H v u Q I r q => q.elim (h.run pins s σ H v u Q I r) (h'.run pins s σ H v u Q I r)⟩
theorem trTs_ok {g : Str → Option Nat} (hg : ∀ x i p, g x = some i → PG X (.Name x p) (gName i)) : ∀ {es : List Expr} {is : List Nat}, trTs g es = some is →
    PGs X es (gList is) ∧ (assignEach es X.env).length = is.length ∧ (assignEach es X.env).findIdx? (·.1) = none
  | [], is, h => by injection h with h; subst h; exact ⟨pgs_nil, rfl, rfl⟩
  | .Name x p :: es, is, h => by
    unfold trTs at h
    split at h
    · rename_i i e1
      split at h
      · rename_i js e2
        injection h with h
        subst h
        obtain ⟨h1, h2, h3⟩ := trTs_ok hg e2
        refine ⟨pgs_cons (hg _ _ _ e1) h1 rfl, ?_, ?_⟩
        · show (assignEach es X.env).length + 1 = _
          rw [h2]; rfl
        · show ((false, assign (.Name x p) X.env) :: assignEach es X.env).findIdx? (·.1) = none
          rw [List.findIdx?_cons]
          simp [h3]
      · cases h
    · cases h
theorem trT_ok (hc : X.calm = true) {g : Str → Option Nat} (hg : ∀ x i p, g x = some i → PG X (.Name x p) (gName i)) {ex : Expr} {t : Tg} (h : trT g ex = some t) : PG X ex (gT X.K t) := by
  unfold trT at h
  split at h
  · split at h
    · rename_i i e1
      injection h with h; subst h
      exact hg _ _ _ e1
    · cases h
  · split at h
    · rename_i is e1
      injection h with h; subst h
      obtain ⟨h1, h2, h3⟩ := trTs_ok hg e1
      exact PG_or (pg_tup hc h1 h2 h3) (pg_lst hc h1 h2 h3)
    · cases h
  · cases h
theorem trT_each {g : Str → Option Nat} {ex : Expr} {t : Tg} (h : trT g ex = some t) : (assignEach [ex] X.env).map (·.2) = [assign ex X.env] := by
  unfold trT at h
  split at h
  · rfl
  · rfl
  · cases h
theorem trT_tup {g : Str → Option Nat} {ex : Expr} {t : Tg} (h : trT g ex = some t) (ht : isTupT t = true) : ∃ es k p, ex = .Tuple es k p := by
  unfold trT at h
  split at h
  · split at h
    · injection h with h; subst h; cases ht
    · cases h
  · exact ⟨_, _, _, rfl⟩
  · cases h
theorem set0 {e : Expr} (h : isSet e = false) {env : PySem.Env} : ∀ x, foldedSetIterable e env x = pure x := by
  intro x
  cases e <;> first | rfl | (simp [isSet] at h)
theorem trI_ok (h : XI Γ C G sc X W) (hf : ∀ ex e, f ex = some e → HV X W ex (ev C G e)) {tg it : Expr} {g : Str → Option Nat} {t : Tg} (ht : trT g tg = some t) {k : Sk} {args : List E} (q : trI Γ sc f t it = some (k, args)) :
    PI X tg it (tI X.kw W k fun ρ => seqR (evs C G args ρ)) ∧ isSet it = false := by
  have one : ∀ {e : E}, f it = some e → PI X tg it (tI X.kw W .seq fun ρ => seqR (evs C G [e] ρ)) := fun e1 => hi_seq (hf _ _ e1)
  unfold trI at q
  split at q
  · rename_i x p as pos
    split at q
    · rename_i c
      obtain ⟨rfl, c1, c2, c3⟩ := c
      split at q
      · rename_i es e1
        injection q with q; injection q with q1 q2
        subst q1 q2
        have ha := trL_ok hf e1
        refine ⟨?_, rfl⟩
        match as, ha, c3 with
        | [a], ha, _ => exact hi_range1 (h.gl c1) (h.fre _ c2) ha
        | [a, b], ha, _ => exact hi_range2 (h.gl c1) (h.fre _ c2) ha
        | [], _, c3 => simp at c3
        | _ :: _ :: _ :: _, _, c3 => simp at c3
      · cases q
    · split at q
      · rename_i c
        obtain ⟨rfl, c1, c2, c3, c4⟩ := c
        split at q
        · rename_i es e1
          injection q with q; injection q with q1 q2
          subst q1 q2
          have ha := trL_ok hf e1
          refine ⟨?_, rfl⟩
          obtain ⟨elts, kk, tp, rfl⟩ := trT_tup ht c4
          match as, ha, c3 with
          | [a], ha, _ => exact hi_enum (h.gl c1) (h.fre _ c2) ha
          | [], _, c3 => simp at c3
          | _ :: _ :: _, _, c3 => simp at c3
        · cases q
      · split at q
        · rename_i c
          obtain ⟨rfl, c1, c2, c3, c4⟩ := c
          split at q
          · rename_i es e1
            injection q with q; injection q with q1 q2
            subst q1 q2
            have ha := trL_ok hf e1
            refine ⟨?_, rfl⟩
            obtain ⟨elts, kk, tp, rfl⟩ := trT_tup ht c4
            match as, ha, c3 with
            | [a, b], ha, _ => exact hi_zip (h.gl c1) (h.fre _ c2) ha
            | [], _, c3 => simp at c3
            | [_], _, c3 => simp at c3
            | _ :: _ :: _ :: _, _, c3 => simp at c3
          · cases q
        · split at q
          · rename_i e e1
            injection q with q; injection q with q1 q2
            subst q1 q2
            exact ⟨one e1, rfl⟩
          · cases q
  · split at q
    · cases q
    · rename_i hs
      split at q
      · rename_i e e1
        injection q with q; injection q with q1 q2
        subst q1 q2
        exact ⟨one e1, by simpa using hs⟩
      · cases q
theorem slotB_ok {scope : Scope} (h : XI Γ C G sc X W) (hcm : Γ.calm = true) {x : Str} {i : Nat} (q : slotB Γ scope sc x = some i) : Blk X scope fun X' => ∀ p, PG X' (.Name x p) (gName i) := by
  intro s H A cl fp p
  have hx := h.blk hcm (s := s) (H := H) (scope := scope) (A := A) (cl := cl) (fp := fp)
  have nd : (X.blk s H scope (compEnvC scope cl A X.env) fp).N.Nodup := by rw [hx.hN]; exact h.nd
  have nx : ∀ {i}, slotF Γ.N x = some i → (X.blk s H scope (compEnvC scope cl A X.env) fp).N[i]? = some x := fun e => by rw [hx.hN]; exact slotF_ok e
  unfold slotB at q
  split at q
  · rename_i e
    have e' : (X.blk s H scope (compEnvC scope cl A X.env) fp).env.scope.names.lookup x = some .local := by rw [hx.hsc]; exact e
    exact pg_name nd (nx q) (.inl e') (.inr e')
  · rename_i e
    split at q
    · rename_i c
      have e' : (X.blk s H scope (compEnvC scope cl A X.env) fp).env.scope.names.lookup x = some .cell := by rw [hx.hsc]; exact e
      exact pg_name nd (nx q) (.inr e') (.inl c)
    · cases q
  · cases q
theorem tT_allnil {K : KW} : PTs X [] (tT X.kw W fun ρ => allT (evs C G [] ρ)) := by
  refine ⟨fun pins s σ H Q I ⟨F, N, Pf, ρ, S, q⟩ => ?_⟩
  exact pts_nil.run pins s σ H Q I (show tYes σ H Q from (show ∀ H', Ext H H' → Q true H' from q) H Ext.refl)
theorem pts_of (hf : ∀ ex e, f ex = some e → HV X W ex (ev C G e)) {cs : List E} {ifs : List Expr} (hl : ifs.length ≤ 1) (q : trL f ifs = some cs) : PTs X ifs (tT X.kw W fun ρ => allT (evs C G cs ρ)) := by
  match ifs, hl, q with
  | [], _, q =>
    injection q with q
    subst q
    exact tT_allnil (K := X.kw)
  | [i], _, q =>
    simp only [trL] at q
    split at q
    · rename_i c e1
      injection q with q
      subst q
      have e : (fun ρ => allT (evs C G [c] ρ)) = fun ρ => (ev C G c ρ).t := funext fun ρ => allT_one (K := X.kw)
      rw [e]
      exact pts_one (hf _ _ e1).t
    · cases q
  | _ :: _ :: _, hl, _ => simp at hl
end
section
variable {Γ : MC} {C : Cal} {G : Glo}
theorem trE_ok : ∀ (n : Nat) {sc : Scope} {X : Cx} {W : WX} (h : XI Γ C G sc X W) (ex : Expr) (e : E), trE Γ n sc ex = some e → HV X W ex (ev C G e)
  | 0, _, _, _, _, _, _, q => by cases q
  | n + 1, sc, X, W, h, ex, e, q => by
    have ih : ∀ (ex : Expr) (e : E), trE Γ n sc ex = some e → HV X W ex (ev C G e) := trE_ok n h
    unfold trE at q
    split at q
    · exact trC_ok q
    · split at q
      · rename_i i e1
        injection q with q; subst q
        obtain ⟨h1, h2, h3, h4⟩ := h.slot e1
        exact hv_var h1 h2 h3 h4
      · split at q
        · rename_i c
          injection q with q; subst q
          simp only [Bool.and_eq_true, decide_eq_true_eq] at c
          obtain ⟨p, v, u, k1, k2, k3, k4⟩ := h.glo _ c.2
          have := hv_glob (W := W) (pos := ‹Pos›) (h.gl c.1.1) k2 k3 (notDbg_ok c.1.2).1 k4
          refine ⟨?_, ?_, this.p⟩
          · have := this.e
            simp only [ev, k1]
            exact this
          · have := this.t
            simp only [ev, k1]
            exact this
        · cases q
    · split at q
      · rename_i o e0
        have := trBop_ok e0
        subst this
        split at q
        · rename_i a e1
          split at q
          · rename_i b e2
            injection q with q; subst q
            exact hv_bin (ih _ _ e1) (ih _ _ e2)
          · cases q
        · cases q
      · cases q
    · split at q
      · rename_i a e1
        injection q with q; subst q
        exact hv_not (ih _ _ e1)
      · cases q
    · split at q
      · rename_i a e1
        injection q with q; subst q
        exact hv_neg (ih _ _ e1)
      · cases q
    · split at q
      · cases q
      · rename_i hne
        split at q
        · rename_i es e1
          injection q with q; subst q
          exact hv_and (trL_ok ih e1) (by rintro rfl; exact hne rfl)
        · cases q
    · split at q
      · cases q
      · rename_i hne
        split at q
        · rename_i es e1
          injection q with q; subst q
          exact hv_or (trL_ok ih e1) (by rintro rfl; exact hne rfl)
        · cases q
    · rename_i a o b pos
      split at q
      · rename_i a' e1
        split at q
        · rename_i b' e2
          injection q with q; subst q
          have := hv_cmp (pos := pos) h.un (o := trCop o) (ih _ _ e1) (ih _ _ e2)
          rw [← trCop_ok] at this
          exact this
        · cases q
      · cases q
    · rename_i a o o' b c pos
      split at q
      · rename_i a' e1
        split at q
        · rename_i b' e2
          split at q
          · rename_i c' e3
            injection q with q; subst q
            have := hv_chn (pos := pos) h.un (o := trCop o) (o' := trCop o') (ih _ _ e1) (ih _ _ e2) (ih _ _ e3)
            rw [← trCop_ok, ← trCop_ok] at this
            exact this
          · cases q
        · cases q
      · cases q
    · split at q
      · rename_i a' e1
        split at q
        · rename_i b' e2
          split at q
          · rename_i c' e3
            injection q with q; subst q
            exact hv_ifx (ih _ _ e1) (ih _ _ e2) (ih _ _ e3)
          · cases q
        · cases q
      · cases q
    · rename_i x p kx bb j1 j2 tg it scope dpos pos
      split at q
      · rename_i c
        obtain ⟨⟨rfl, hcm⟩, c1, c2⟩ := c
        split at q
        · rename_i t e1
          split at q
          · rename_i k args e2
            split at q
            · rename_i c3
              split at q
              · rename_i el e4
                injection q with q; subst q
                obtain ⟨i1, i2⟩ := trI_ok h ih e1 e2
                exact hv_dkl (zv := .bl bb) (h.calm hcm) (by rw [h.hN]; exact h.nd) (h.gl c1) (h.fre _ c2) i1 (by rw [h.hN, h.hsc]; exact c3.1) (fun i hi => by simpa using (List.all_eq_true.mp c3.2) i hi)
                  (fun s H A cl fp => trT_ok (X := X.blk s H scope (compEnvC scope cl A X.env) fp) (h.calm hcm) (fun x i p hx => slotB_ok h hcm hx s H A cl fp p) e1)
                  (fun s H A cl fp => (trE_ok n (h.blk hcm) _ _ e4).e) (fun s H A cl fp => pe_bl) (set0 i2)
              · cases q
            · cases q
          · cases q
        · cases q
      · cases q
    · exact trCall_ok h ih q
    · rename_i o name apos args cpos
      split at q
      · rename_i m e0
        cases mtF_ok e0
        split at q
        · rename_i c
          obtain ⟨c1, c2, c3⟩ := c
          split at q
          · rename_i o' e1
            split at q
            · rename_i es e2
              injection q with q; subst q
              match args, es, e2, c3 with
              | [], es, e2, _ =>
                injection e2 with e2
                subst e2
                exact hv_mth0 (ih _ _ e1) c1 c2
              | [a], es, e2, _ =>
                have := hv_mth1 (m := m) (apos := apos) (cpos := cpos) (ih _ _ e1) (trL_ok ih e2) c1 c2
                exact this
              | _ :: _ :: _, _, _, c3 => simp at c3
            · cases q
          · cases q
        · cases q
      · cases q
    · split at q
      · rename_i c
        subst c
        split at q
        · rename_i a' e1
          injection q with q; subst q
          exact hv_rev (ih _ _ e1)
        · cases q
      · cases q
    · split at q
      · rename_i a' e1
        split at q
        · rename_i b' e2
          split at q
          · rename_i c' e3
            injection q with q; subst q
            exact hv_sl (ih _ _ e1) (trO_ok ih e2) (trO_ok ih e3)
          · cases q
        · cases q
      · cases q
    · rename_i a b pos _ _
      split at q
      · rename_i a' e1
        split at q
        · rename_i b' e2
          injection q with q; subst q
          cases hv : varOf a' with
          | some i =>
            have ha : a' = .var i := by
              cases a' <;> simp [varOf] at hv
              subst hv; rfl
            subst ha
            obtain ⟨x, p, rfl, e3⟩ := trE_var e1
            obtain ⟨h1, h2, h3, h4⟩ := h.slot e3
            exact hv_ixv h.un h1 h2 h3 h4 (ih _ _ e2)
          | none =>
            have := hv_ix (pos := pos) h.un (ih _ _ e1) (ih _ _ e2)
            have e : ev C G (.ix a' b') = fun ρ => vt ((ev C G a' ρ).e.bind fun x al => (ev C G b' ρ).e.bind fun y _ => dat2 x y fun p q => ixP (isNew x) al p q) := by
              funext ρ
              simp only [ev, hv]
            rw [e]
            exact this
        · cases q
      · cases q
    · split at q
      · rename_i hl
        split at q
        · rename_i es e1
          injection q with q; subst q
          exact hv_lst hl (trL_ok ih e1)
        · cases q
      · cases q
    · split at q
      · rename_i hl
        split at q
        · rename_i es e1
          injection q with q; subst q
          exact hv_tup hl (trL_ok ih e1)
        · cases q
      · cases q
    · rename_i elt tg it ifs scope pos
      split at q
      · rename_i t e1
        split at q
        · rename_i k args e2
          split at q
          · rename_i c
            obtain ⟨hcm, c1, c2, c3⟩ := c
            split at q
            · rename_i cs e3
              split at q
              · rename_i el e4
                injection q with q; subst q
                obtain ⟨i1, i2⟩ := trI_ok h ih e1 e2
                exact hv_lc (h.calm hcm) (by rw [h.hN]; exact h.nd) i1 (by rw [h.hN, h.hsc]; exact c2) (fun i hi => by simpa using (List.all_eq_true.mp c3) i hi)
                  (fun s H A cl fp => trT_ok (X := X.blk s H scope (compEnvC scope cl A X.env) fp) (h.calm hcm) (fun x i p hx => slotB_ok h hcm hx s H A cl fp p) e1)
                  (fun s H A cl fp => pts_of (trE_ok n (h.blk hcm)) c1 e3) (fun s H A cl fp => (trE_ok n (h.blk hcm) _ _ e4).e) (set0 i2)
              · cases q
            · cases q
          · cases q
        · cases q
      · cases q
    · cases q
end
end Hv

/-! Hv, part 19: from the text to the small language: statements. -/
namespace Hv
open PySem PySem.Spec PyProof.Rows L2

def isSlice : Expr → Bool
  | .Slice .. => true
  | _ => false
def isCall : Expr → Bool
  | .Call .. => true
  | _ => false
def baseN : Expr → Option (Str × Pos)
  | .Name x p => some (x, p)
  | _ => none
def locB (sc : Scope) (x : Str) : Bool := match sc.names.lookup x with
  | some .local => true
  | some .cell => true
  | _ => false
def slotL (Γ : MC) (sc : Scope) (x : Str) : Option Nat := if locB sc x then slotF Γ.N x else none
/-- name = [..] on one line -/
def compLine (sc : Scope) (x : Str) (p : Pos) (e : Expr) : Bool := match e with
  | .ListComp _ _ scope pos => (match sc.kind with | .function => true | _ => false) && (match sc.names.lookup x with | some .local => true | _ => false) && (p.line == pos.line) && !(scope.names.any fun (n, k) => n == x && (k == .local || k == .cell))
  | _ => false
/-- name = [..], the name a cell -/
def compCell (sc : Scope) (x : Str) (e : Expr) : Bool := match e with
  | .ListComp _ _ _ _ => (match sc.names.lookup x with | some .cell => true | _ => false)
  | _ => false
theorem sw_cell {sc : Scope} {x : Str} {e : Expr} {p : Pos} {l : Nat} {env : PySem.Env} (h : compCell sc x e = true) (hs : env.scope = sc) : swapsWith e (some (.Name x p)) l env = pure false := by
  unfold compCell at h
  split at h
  · split at h
    · rename_i hl
      have ky : env.kindOf x = some .cell := by
        show env.scope.names.lookup x = _
        rw [hs]; exact hl
      unfold swapsWith
      simp only [ky]
      have e : (some NameKind.cell == some NameKind.local) = false := rfl
      simp [e, show (NameKind.cell == NameKind.local) = false from rfl]
    · cases h
  · cases h
def trSs (f : Stmt → Option S) : List Stmt → Option (List S)
  | [] => some []
  | s :: ss => match f s with
    | some a => match trSs f ss with
      | some as => some (a :: as)
      | none => none
    | none => none
/-- a clause's name -/
def nmF (N : List Str) (sc : Scope) : Option Str → Option (Option Nat)
  | none => some none
  | some n => match sc.names.lookup n with
    | some .local => (match slotF N n with
      | some i => some (some i)
      | none => none)
    | _ => none
def trH (Γ : MC) (sc : Scope) (f : Stmt → Option S) : List ExceptHandler → Option (List (List (Str × Bool) × Option Nat × List S))
  | [] => some []
  | .ExceptHandler (some (.Name x _)) nm (st :: sts) _ :: hs => match clsF Γ x with
    | some k => if glB sc x = true ∧ notDbg x = true then (match nmF Γ.N sc nm with
      | some o => match trSs f (st :: sts) with
        | some b => match trH Γ sc f hs with
          | some r => some ((k.2.2, o, b) :: r)
          | none => none
        | none => none
      | none => none) else none
    | none => none
  | _ => none
def MC.hot (Γ : MC) : MC := { Γ with calm := false }
/-- x.append(y.pop(..)) -/
def trPop (Γ : MC) (n : Nat) (sc : Scope) (i : Nat) (o e : Expr) : Option S := match o, e with
  | .Name _ _, .Call (.Attribute (.Name y _) m apos) [ix] [] cpos => if m = ("pop" : Str) ∧ (apos.endLine == cpos.line) = true then (match slotV Γ sc y with
    | some j => match trE Γ n sc ix with
      | some a => some (.appPop i j a)
      | none => none
    | none => none) else none
  | _, _ => none
def trS : Nat → MC → Scope → Stmt → Option S
  | 0, _, _, _ => none
  | n + 1, Γ, sc, st => match st with
    | .Try body (h₀ :: hs) [] [] _ => if Γ.calm = true then (match trSs (trS n Γ sc) body with
      | some b => match trH Γ sc (trS n Γ.hot sc) (h₀ :: hs) with
        | some r => some (.try_ b r)
        | none => none
      | none => none) else none
    | .Assign [.Name x p] e _ => match slotL Γ sc x with
      | some i => match trE Γ n sc e with
        | some a => if isComp e = false ∨ compLine sc x p e = true ∨ compCell sc x e = true then some (.asg i a) else none
        | none => none
      | none => none
    | .Assign [.Tuple es k p] e _ => match trT (slotL Γ sc) (.Tuple es k p) with
      | some (.tup is) => match trE Γ n sc e with
        | some a => if Γ.calm = true ∧ isComp e = false ∧ isTup e = false then some (.asgT is a) else none
        | none => none
      | _ => none
    | .Assign [.Subscript o ix _] e _ => match baseN (unsub o).1 with
      | some (x, _) => match slotV Γ sc x with
        | some i => match trL (trE Γ n sc) (unsub o).2 with
          | some path => match trE Γ n sc ix with
            | some j => match trE Γ n sc e with
              | some a => if isComp e = false ∧ isSlice ix = false then some (.seti i path j a) else none
              | none => none
            | none => none
          | none => none
        | none => none
      | none => none
    | .AugAssign (.Name x _) .Add e _ => match slotL Γ sc x with
      | some i => match trE Γ n sc e with
        | some a => some (.aug i .add a)
        | none => none
      | none => none
    | .AugAssign (.Name x _) .Sub e _ => match slotL Γ sc x with
      | some i => match trE Γ n sc e with
        | some a => some (.aug i .sub a)
        | none => none
      | none => none
    | .Expr (.Call (.Attribute o m apos) [e] [] cpos) _ => if m = ("append" : Str) ∧ isCall o = false ∧ (apos.endLine == cpos.line) = true then (match baseN (unsub o).1 with
      | some (x, _) => match slotV Γ sc x with
        | some i => match trL (trE Γ n sc) (unsub o).2 with
          | some path => match trE Γ n sc e with
            | some a => some (.app i path a)
            | none => trPop Γ n sc i o e
          | none => none
        | none => none
      | none => none) else none
    | .Expr e _ => match trE Γ n sc e with
      | some a => if isComp e = false then some (.drop a) else none
      | none => none
    | .If c a b _ => match trE Γ n sc c with
      | some c => match trSs (trS n Γ sc) a with
        | some a => match trSs (trS n Γ sc) b with
          | some b => some (.ife c a b)
          | none => none
        | none => none
      | none => none
    | .For tg it b [] _ => match trT (slotL Γ sc) tg with
      | some t => match trI Γ sc (trE Γ n sc) t it with
        | some (k, args) => if Γ.calm = true then (match trSs (trS n Γ sc) b with
          | some b => some (.for_ k args t b)
          | none => none) else none
        | none => none
      | none => none
    | .While c b [] _ => match trE Γ n sc c with
      | some c => if Γ.calm = true then (match trSs (trS n Γ sc) b with
        | some b => some (.while_ c b)
        | none => none) else none
      | none => none
    | .Return none _ => some .retn
    | .Return (some (.Name x p)) _ => match slotV Γ sc x with
      | some i => some (.retv i)
      | none => match trE Γ n sc (.Name x p) with
        | some a => some (.ret a)
        | none => none
    | .Return (some e) _ => match trE Γ n sc e with
      | some a => some (.ret a)
      | none => none
    | .Pass _ => some .pass
    | .Break _ => some .brk
    | .Continue _ => some .cnt
    | .Raise (some (.Call (.Name x _) [.Constant (.str _) _ _] [] _)) none _ => if Γ.calm = true ∧ x ∈ Γ.exc ∧ glB sc x = true ∧ notDbg x = true then some (.raise_ x) else none
    | _ => none
/-- what is known of a def's body, beyond its expressions' -/
structure XS (Γ : MC) (C : Cal) (G : Glo) (sc : Scope) (X : Cx) (W : WX) : Prop extends XI Γ C G sc X W where
  fn : ∀ x, X.fn x = true
  po : Γ.calm = true → PassesOwn (model X.prog X.w) X.A X.env X.xe
  stk : Γ.calm = true → X.stack = X.env :: X.outer ∧ X.env.frame = some X.env.locals
  kwn : Γ.calm = true → X.kw = ⟨X.K, X.w.params, none⟩
  xkn : ∀ x ∈ Γ.glo, x ≠ xk
  exc : ∀ x ∈ Γ.exc, He.Fa.ok X.K (.exc x) = true ∧ X.mg x = some (.ref (He.ga X.K x))
section
variable {Γ : MC} {C : Cal} {G : Glo} {B : Sub} {sc : Scope} {X : Cx} {W : WX} {E0 : Hp}
theorem XS.loc (h : XS Γ C G sc X W) {x : Str} {i : Nat} (e : slotL Γ sc x = some i) : X.N[i]? = some x ∧ L2.Loc X.env.scope x := by
  unfold slotL at e
  split at e
  · rename_i c
    rw [h.hN, h.hsc]
    refine ⟨slotF_ok e, ?_⟩
    unfold locB at c
    unfold L2.Loc
    split at c
    · rename_i e; exact .inl e
    · rename_i e; exact .inr e
    · cases c
  · cases e
theorem XS.pg (h : XS Γ C G sc X W) {x : Str} {i : Nat} {p : Pos} (e : slotL Γ sc x = some i) : PG X (.Name x p) (gName i) := by
  obtain ⟨h1, h2⟩ := h.loc e
  exact pg_name (by rw [h.hN]; exact h.nd) h1 h2 (.inl (h.fn x))
theorem XS.nds (h : XS Γ C G sc X W) : X.N.Nodup := by rw [h.hN]; exact h.nd
theorem baseN_ok {e : Expr} {x : Str} {p : Pos} (h : baseN e = some (x, p)) : e = .Name x p := by
  cases e <;> simp [baseN] at h
  obtain ⟨rfl, rfl⟩ := h
  rfl
theorem trSs_ok {f : Stmt → Option S} {M : List Nat} (hf : ∀ st s, f st = some s → (∀ i ∈ mutS s, i ∈ M) → PS X st (tS X.kw W E0 M (sv C G B s))) : ∀ {sts : List Stmt} {ss : List S}, trSs f sts = some ss → (∀ i ∈ mutSs ss, i ∈ M) → PSs X sts (tS X.kw W E0 M (svs C G B ss))
  | [], ss, h, _ => by injection h with h; subst h; exact hss_nil
  | st :: sts, ss, h, hm => by
    unfold trSs at h
    split at h
    · rename_i a e1
      split at h
      · rename_i as e2
        injection h with h; subst h
        exact hss_cons (hf _ _ e1 fun i hi => hm i (by unfold mutSs; exact List.mem_append_left _ hi)) (trSs_ok hf e2 fun i hi => hm i (by unfold mutSs; exact List.mem_append_right _ hi))
      · cases h
    · cases h
theorem assign_sub {o ix : Expr} {tpos : Pos} {env : PySem.Env} (h : isSlice ix = false) : ∀ v, assign (.Subscript o ix tpos) env v = (do
      let ov ← holding [v] (eval o env)
      let iv ← holding [v, ov] (eval ix env)
      standAt tpos
      holding [v, ov, iv] (setItem ov iv v)
      release [v, ov, iv] []) := by
  intro v
  cases ix <;> first | rfl | (simp [isSlice] at h)
theorem attr_base {o : Expr} {a : Str} {env : PySem.Env} (h : isCall o = false) : attributeBase o a env (eval o env) = eval o env := by
  cases o <;> first | rfl | (simp [isCall] at h)
theorem raise_ok (h : XS Γ C G sc X W) {x m : Str} {j : Nat} {p p2 pos : Pos} (hx : x ∈ Γ.exc) (hg : glB sc x = true) (hd : notDbg x = true) : PMk X (.Call (.Name x p) [.Constant (.str m) j p2] [] pos) (fun _ H Q => Q (.ref (He.ga X.K x)) none H) := by
  obtain ⟨h1, h2⟩ := h.exc x hx
  obtain ⟨k1, k2, k3, k4⟩ := He.exc_ok h1
  exact pmk_own PySem.F.excBase_ValueError k1 h2 k2 (raises_own k3 k4) (h.gl hg) (notDbg_ok hd).1
/-- into a try's body -/
theorem XS.body (h : XS Γ C G sc X W) (hcm : Γ.calm = true) {W' : WX} {pn : List (Addr × Obj)} {xe : Value → Shared → Prop} (tk : Takes (X.tr pn xe) W') (po : PassesOwn (model X.prog X.w) X.A X.env xe) : XS Γ C G sc (X.tr pn xe) W' where
  hN := h.hN
  nd := h.nd
  hsc := h.hsc
  calm := h.calm
  sui := fun z => by rw [hcm] at z; cases z
  cls := h.cls
  un := h.un
  tk := tk
  fns := h.fns
  glo := h.glo
  fre := h.fre
  fn := h.fn
  po := fun _ => po
  stk := h.stk
  kwn := h.kwn
  xkn := h.xkn
  exc := h.exc
/-- into a clause's suite -/
theorem XS.hot (h : XS Γ C G sc X W) {a : Addr} {ob : Obj} {c : Str} {pn : List (Addr × Obj)} (hz : Zc (.ref (He.ga X.K c)) none ob) (hf : ∃ vs, ob.data = .fields vs) : XS Γ.hot C (setX G c) sc (X.suite a ((a, ob) :: pn)) (fun _ _ _ _ => False) where
  hN := h.hN
  nd := h.nd
  hsc := h.hsc
  calm := fun z => by cases z
  sui := fun _ => ⟨X, a, ob, pn, c, rfl, hz, hf, if_pos rfl⟩
  cls := h.cls
  un := h.un
  tk := takes_none5
  fns := fun z => by cases z
  glo := fun x hx => by
    obtain ⟨p, v, u, h1, h2, h3, h4⟩ := h.glo x hx
    exact ⟨p, v, u, by rw [← h1]; exact if_neg (h.xkn x hx), h2, h3, fun H => (h4 H).kx⟩
  fre := h.fre
  fn := h.fn
  po := fun z => by cases z
  stk := fun z => by cases z
  kwn := fun z => by cases z
  xkn := h.xkn
  exc := h.exc
theorem nmF_ok (h : XS Γ C G sc X W) {nm : Option Str} {o : Option Nat} (e : nmF Γ.N sc nm = some o) : NameOk X nm o := by
  cases nm with
  | none => injection e with e; subst e; exact trivial
  | some n =>
    simp only [nmF] at e
    split at e
    · rename_i hl
      split at e
      · rename_i i hi
        injection e with e
        subst e
        refine ⟨by rw [h.hN]; exact slotF_ok hi, ?_⟩
        show X.env.scope.names.lookup n = _
        rw [h.hsc]
        exact hl
      · cases e
    · cases e
theorem cls_names (h : XS Γ C G sc X W) {t : Str} {k : Str × Option String × List (Str × Bool)} (ek : clsF Γ t = some k) (gt : glB sc t = true) (dt : notDbg t = true) : Names X t (clsV X.K t k.2.1) := by
  obtain ⟨k1, k2⟩ := clsF_ok ek
  have hk := (h.cls k k1).nm
  rw [k2] at hk
  refine ⟨h.gl gt, (notDbg_ok dt).1, ?_⟩
  cases e : k.2.1 with
  | none => rw [e] at hk; exact .inl hk
  | some ty => rw [e] at hk; exact .inr hk
theorem hnd_F {c : Str} : ∀ {hs : List (List (Str × Bool) × Option Nat × List S)} {ρ : Env}, hnd C G B c hs ρ = hndF c (hs.map fun z => (z.1, z.2.1, fun c => svs C (setX G c) B z.2.2)) ρ
  | [], ρ => by simp only [hnd, List.map_nil, hndF]
  | (cs, o, b) :: hs, ρ => by
    have ih := hnd_F (c := c) (hs := hs) (ρ := ρ)
    simp only [hnd, List.map_cons, hndF]
    generalize cs.lookup c = v
    match v with
    | none => rfl
    | some true => rfl
    | some false => exact ih
theorem comp_set (h : XS Γ C G sc X W) {n : Nat} {x : Str} {i : Nat} {p spos : Pos} {e : Expr} {a : E} (hi : slotL Γ sc x = some i) (q : trE Γ n sc e = some a) (hc : compLine sc x p e = true) : PS X (.Assign [.Name x p] e spos) (tAsg (tE X.kw W fun ρ => (ev C G a ρ).e) (gName i)) := by
  cases n with
  | zero => cases q
  | succ n =>
    have ih : ∀ (ex : Expr) (e : E), trE Γ n sc ex = some e → HV X W ex (ev C G e) := trE_ok n h.toXI
    unfold trE at q
    unfold compLine at hc
    split at hc
    · rename_i elt gens scope pos
      simp only [Bool.and_eq_true, Bool.not_eq_true'] at hc
      obtain ⟨⟨⟨c1, c2⟩, c3⟩, c4⟩ := hc
      have k1 : sc.kind = .function := by
        split at c1
        · assumption
        · cases c1
      have k2 : sc.names.lookup x = some .local := by
        split at c2
        · assumption
        · cases c2
      split at q
      all_goals first | contradiction | skip
      rename_i elt' tg it ifs scope' pos' heq
      injection heq with g1 g2 g3 g4
      subst g1 g2 g3 g4
      split at q
      · rename_i t e1
        split at q
        · rename_i k args e2
          split at q
          · rename_i c
            obtain ⟨hcm, d1, d2, d3⟩ := c
            split at q
            · rename_i cs e3
              split at q
              · rename_i el e4
                injection q with q; subst q
                obtain ⟨i1, i2⟩ := trI_ok h.toXI ih e1 e2
                obtain ⟨l1, l2⟩ := h.loc hi
                refine PS_imp (ps_setLc (te := tE X.kw WN fun ρ => (ev C G el ρ).e) (tt := tT X.kw WN fun ρ => allT (evs C G cs ρ)) (g := gT X.K t) (h.calm hcm) h.nds l1 (by rw [h.hsc]; exact k2) (sw_true (by rw [h.hsc]; exact k1) (by rw [h.hsc]; exact k2) c3 c4) i1 (blkOk_by (by rw [h.hN, h.hsc]; exact d2))
                  (fun s H A cl fp => trT_ok (X := X.blk s H scope (compEnvC scope cl A X.env) fp) (h.calm hcm) (fun x i p hx => slotB_ok h.toXI hcm hx s H A cl fp p) e1)
                  (fun s H A cl fp => pts_of (trE_ok n (h.toXI.blk hcm)) d1 e3) (fun s H A cl fp => (trE_ok n (h.toXI.blk hcm) _ _ e4).e) (set0 i2)) fun D σ H q => ?_
                exact lc_read rfl (fun i hi => by simpa using (List.all_eq_true.mp d3) i hi) q
              · cases q
            · cases q
          · cases q
        · cases q
      · cases q
    · cases hc
/-- the clauses -/
theorem trH_ok (h : XS Γ C G sc X W) {f : Stmt → Option S} {M : List Nat} (hf : ∀ (a : Addr) (ob : Obj) (c : Str) (pn : List (Addr × Obj)), Zc (.ref (He.ga X.K c)) none ob → (∃ vs, ob.data = .fields vs) → ∀ st s, f st = some s → (∀ i ∈ mutS s, i ∈ M) → PS (X.suite a ((a, ob) :: pn)) st (tS (X.suite a ((a, ob) :: pn)).kw (fun _ _ _ _ => False) E0 M (sv C (setX G c) B s))) :
    ∀ {hs : List ExceptHandler} {r : List (List (Str × Bool) × Option Nat × List S)}, trH Γ sc f hs = some r → (∀ i ∈ mutH r, i ∈ M) → CEs X E0 M hs (r.map fun z => (z.1, z.2.1, fun c => svs C (setX G c) B z.2.2))
  | [], r, q, _ => by
    simp only [trH, Option.some.injEq] at q
    subst q
    exact .nil
  | hd :: hs, r, q, hM => by
    unfold trH at q
    split at q
    · rename_i heq; cases heq
    · rename_i x p nm st sts pos hs' heq
      injection heq with g1 g2
      subst g1 g2
      split at q
      · rename_i k ek
        split at q
        · rename_i c
          split at q
          · rename_i o eo
            split at q
            · rename_i b eb
              split at q
              · rename_i r' er
                injection q with q
                subst q
                have ih := trH_ok h hf er fun i hi => hM i (by unfold mutH; exact List.mem_append_right _ hi)
                refine .cons (cls_names h ek c.1 c.2) (nmF_ok h eo) (fun c b hl => ?_) (fun a ob c pn _ hz hv => ?_) ih
                · obtain ⟨k1, k2⟩ := clsF_ok ek
                  have := ((h.cls k k1).ck c b hl).2.1
                  rw [k2] at this
                  exact this
                · exact trSs_ok (hf a ob c pn hz hv) eb fun i hi => hM i (by unfold mutH; exact List.mem_append_left _ hi)
              · cases q
            · cases q
          · cases q
        · cases q
      · cases q
    · cases q
theorem trS_ok : ∀ (n : Nat) {Γ : MC} {G : Glo} {X : Cx} {W : WX}, XS Γ C G sc X W → ∀ (st : Stmt) (s : S) (M : List Nat), trS n Γ sc st = some s → (∀ i ∈ mutS s, i ∈ M) → PS X st (tS X.kw W E0 M (sv C G B s))
  | 0, _, _, _, _, _, _, _, _, q, _ => by cases q
  | n + 1, Γ, G, X, W, h, st, s, M, q, hM => by
    have ihE : ∀ (ex : Expr) (e : E), trE Γ n sc ex = some e → HV X W ex (ev C G e) := trE_ok n h.toXI
    have ihS : ∀ M st s, trS n Γ sc st = some s → (∀ i ∈ mutS s, i ∈ M) → PS X st (tS X.kw W E0 M (sv C G B s)) := fun M st s => trS_ok n h st s M
    unfold trS at q
    split at q
    · split at q
      · rename_i hcm
        split at q
        · rename_i b e1
          split at q
          · rename_i r e2
            injection q with q; subst q
            obtain ⟨s1, s2⟩ := h.stk hcm
            have hr := trH_ok (E0 := E0) (B := B) (M := M) h (fun a ob c pn hz hv st s q hm => trS_ok n (h.hot hz hv) st s M q hm) e2 fun i hi => hM i (by unfold mutS; exact List.mem_append_right _ hi)
            have key := hs_try (pos := ‹Pos›) (f := svs C G B b) s1 s2 h.nds h.tk (h.kwn hcm) (fun W' pn xe tk po => trSs_ok (fun st s q hm => trS_ok n (h.body hcm tk po) st s M q hm) e1 fun i hi => hM i (by unfold mutS; exact List.mem_append_left _ hi)) hr
            have e : sv C G B (.try_ b r) = fun ρ => match svs C G B b ρ with
                | .exc c ρ' => hndF c (r.map fun z => (z.1, z.2.1, fun c => svs C (setX G c) B z.2.2)) ρ'
                | r => r := by
              funext ρ
              simp only [sv]
              cases svs C G B b ρ with
              | exc c ρ' => exact hnd_F
              | _ => rfl
            rw [e]
            exact key
          · cases q
        · cases q
      · cases q
    · split at q
      · rename_i i e1
        split at q
        · rename_i a e2
          split at q
          · rename_i c
            injection q with q; subst q
            obtain ⟨l1, l2⟩ := h.loc e1
            rcases c with c | c | c
            · exact hs_asg h.nds l1 l2 (ihE _ _ e2) c (.inl (h.fn _))
            · exact hs_asg' (comp_set h e1 e2 c)
            · exact hs_asg' (ps_set h.nds l1 l2 (ihE _ _ e2).e (sw_cell c h.hsc) (.inl (h.fn _)))
          · cases q
        · cases q
      · cases q
    · split at q
      · rename_i is e1
        split at q
        · rename_i a e2
          split at q
          · rename_i c
            injection q with q; subst q
            exact hs_asgT (ihE _ _ e2) (trT_ok (h.calm c.1) (fun x i p hx => h.pg hx) e1) c.2.1 c.2.2 (trT_each e1)
          · cases q
        · cases q
      · cases q
    · split at q
      · rename_i x p e0
        split at q
        · rename_i i e1
          split at q
          · rename_i path e2
            split at q
            · rename_i j e3
              split at q
              · rename_i a e4
                split at q
                · rename_i c
                  injection q with q; subst q
                  obtain ⟨h1, h2, h3, h4⟩ := h.slot e1
                  exact hs_seti h1 h2 h3 h4 (baseN_ok e0) (trL_ok ihE e2) (ihE _ _ e3) (ihE _ _ e4) (hM i (by simp [mutS])) c.1 (assign_sub c.2)
                · cases q
              · cases q
            · cases q
          · cases q
        · cases q
      · cases q
    · split at q
      · rename_i i e1
        split at q
        · rename_i a e2
          injection q with q; subst q
          obtain ⟨l1, l2⟩ := h.loc e1
          exact hs_aug (.inl ⟨rfl, rfl⟩) h.nds l1 l2 (ihE _ _ e2) (.inl (h.fn _))
        · cases q
      · cases q
    · split at q
      · rename_i i e1
        split at q
        · rename_i a e2
          injection q with q; subst q
          obtain ⟨l1, l2⟩ := h.loc e1
          exact hs_aug (.inr ⟨rfl, rfl⟩) h.nds l1 l2 (ihE _ _ e2) (.inl (h.fn _))
        · cases q
      · cases q
    · split at q
      · rename_i c
        obtain ⟨rfl, c2, c3⟩ := c
        split at q
        · rename_i x p e0
          split at q
          · rename_i i e1
            split at q
            · rename_i path e2
              split at q
              · rename_i a e4
                injection q with q; subst q
                obtain ⟨h1, h2, h3, h4⟩ := h.slot e1
                exact hs_app h1 h2 h3 h4 (baseN_ok e0) (trL_ok ihE e2) (ihE _ _ e4) (attr_base c2) c3 (hM i (by simp [mutS]))
              · unfold trPop at q
                split at q
                · split at q
                  · rename_i cm
                    obtain ⟨rfl, cl⟩ := cm
                    split at q
                    · rename_i j f1
                      split at q
                      · rename_i a f2
                        injection q with q; subst q
                        obtain ⟨h1, h2, h3, h4⟩ := h.slot e1
                        obtain ⟨g1, g2, g3, g4⟩ := h.slot f1
                        have e0 := baseN_ok e0
                        injection e0 with e0 e0'
                        subst e0 e0'
                        exact hs_appPop h1 h2 h3 h4 g1 g2 g3 g4 (ihE _ _ f2) c3 cl (hM i (by simp [mutS])) (hM j (by simp [mutS]))
                      · cases q
                    · cases q
                  · cases q
                · cases q
            · cases q
          · cases q
        · cases q
      · cases q
    · split at q
      · rename_i a e1
        split at q
        · rename_i c
          injection q with q; subst q
          exact hs_drop (ihE _ _ e1) c
        · cases q
      · cases q
    · split at q
      · rename_i c' e1
        split at q
        · rename_i a' e2
          split at q
          · rename_i b' e3
            injection q with q; subst q
            exact hs_if (ihE _ _ e1) (trSs_ok (ihS M) e2 fun i hi => hM i (by unfold mutS; exact List.mem_append_left _ hi)) (trSs_ok (ihS M) e3 fun i hi => hM i (by unfold mutS; exact List.mem_append_right _ hi))
          · cases q
        · cases q
      · cases q
    · split at q
      · rename_i t e1
        split at q
        · rename_i k args e2
          split at q
          · rename_i hcm
            split at q
            · rename_i b' e3
              injection q with q; subst q
              obtain ⟨i1, i2⟩ := trI_ok h.toXI ihE e1 e2
              exact hs_for (h.po hcm) (h.calm hcm) i1 (trT_ok (h.calm hcm) (fun x i p hx => h.pg hx) e1) (trSs_ok (ihS (mutSs b')) e3 fun i hi => hi) (fun i hi => hM i (by unfold mutS; exact hi)) (set0 i2)
            · cases q
          · cases q
        · cases q
      · cases q
    · split at q
      · rename_i c' e1
        split at q
        · rename_i hcm
          split at q
          · rename_i b' e3
            injection q with q; subst q
            exact hs_while (h.po hcm) (ihE _ _ e1) (trSs_ok (ihS M) e3 fun i hi => hM i (by unfold mutS; exact hi))
          · cases q
        · cases q
      · cases q
    · injection q with q; subst q
      exact hs_retn
    · split at q
      · rename_i i e1
        injection q with q; subst q
        obtain ⟨h1, h2, h3, h4⟩ := h.slot e1
        exact hs_retv h1 h2 h3 h4
      · split at q
        · rename_i a e2
          injection q with q; subst q
          exact hs_ret (ihE _ _ e2)
        · cases q
    · split at q
      · rename_i a e2
        injection q with q; subst q
        exact hs_ret (ihE _ _ e2)
      · cases q
    · injection q with q; subst q; exact hs_pass
    · injection q with q; subst q; exact hs_brk
    · injection q with q; subst q; exact hs_cnt
    · split at q
      · rename_i c
        injection q with q; subst q
        exact hs_raise (h.calm c.1) h.tk (raise_ok h c.2.1 c.2.2.1 c.2.2.2)
      · cases q
    · cases q
end
end Hv

/-! Hv, part 20: the defs of a law, and the law. -/
namespace Hv
open PySem PySem.Spec PyProof.Rows L2

/-- a def: where it stands, its slots -/
structure Fd where
  d : He.DefD
  N : List Str
def Fd.ps (f : Fd) : List Str := f.d.params.args.map (·.arg)
/-- a law's names -/
structure Tb where
  T : List Fd
  gl : List (Str × PyData)
  fre : List Str
  exc : List Str
  cls : List (Str × Option String × List (Str × Bool))
def Tb.mc (t : Tb) (f : Fd) : MC := ⟨f.N, t.T.map fun f => (f.d.name, f.ps.length), t.gl.map (·.1), t.fre, t.exc, true, t.cls⟩
def Tb.G (t : Tb) : Glo := fun x => t.gl.lookup x
def Tb.tr (t : Tb) (f : Fd) : Option (List S) := trSs (trS 40 (t.mc f) f.d.scope) f.d.body
def Tb.body (t : Tb) (f : Fd) : List S := (t.tr f).getD []
def startE (n : Nat) (ps : List PyData) : Env := ps.map (fun p => some (.v p)) ++ List.replicate (n - ps.length) none
noncomputable def runF (C : Cal) (G : Glo) (B : Sub) (n m : Nat) (body : List S) (ps : List PyData) : CR := if ps.length = n then match svs C G B body (startE m ps) with
  | .next _ => .ok (.v .none)
  | .ret d => .ok d
  | .exc c _ => .exc c
  | _ => .stuck else .stuck
noncomputable def callN (t : Tb) (B : Sub) : Nat → Cal
  | 0 => fun _ _ => .stuck
  | k + 1 => fun i ps => match t.T[i]? with
    | some f => runF (callN t B k) t.G B f.ps.length f.N.length (t.body f) ps
    | none => .stuck
def isFn (k : ScopeKind) : Bool := match k with | .function => true | _ => false
def fdC (f : Fd) : Bool := isFn f.d.scope.kind && !f.d.scope.isCoroutine && !f.d.scope.isGenerator && decide f.N.Nodup && decide (f.N.take f.ps.length = f.ps) && (f.ps.all fun x => locB f.d.scope x) && (f.d.scope.names.all fun y => match y.2 with | .free => false | _ => true)
theorem fdC_ok {f : Fd} (h : fdC f = true) : FnScope f.N f.ps f.d.scope := by
  unfold fdC at h
  simp only [Bool.and_eq_true, Bool.not_eq_true', decide_eq_true_eq, List.all_eq_true] at h
  obtain ⟨⟨⟨⟨⟨⟨h1, h2⟩, h3⟩, h4⟩, h5⟩, h6⟩, h7⟩ := h
  refine ⟨?_, h2, h3, h4, h5, fun x hx => ?_, fun y hy e => ?_⟩
  · unfold isFn at h1
    split at h1
    · assumption
    · cases h1
  · have := h6 x hx
    unfold locB at this
    split at this
    · rename_i e; exact .inl e
    · rename_i e; exact .inr e
    · cases this
  · have := h7 y hy
    rw [e] at this
    cases this
def Tb.ok (t : Tb) : Bool := (t.T.all fun f => fdC f && (t.tr f).isSome) && t.gl.all fun p => decide (p.1 ≠ xk)
/-- how a def's arguments are bound -/
def BindOk (f : Fd) : Prop := ∀ (kV doc pm : Value) (an : Option Addr) (cdv ct : Value) (us : List Value), us.length = f.ps.length → bindArgs (PySem.W.fnOf f.d.name f.d.qual f.d.params f.d.body f.d.scope .none kV doc pm an cdv ct) ⟨us, []⟩ = pure (f.ps.zip us)
/-- what the head says -/
structure Hd (t : Tb) (w : World) (K : PySem.W.Frag) (mg : Str → Option Value) : Prop where
  fns : ∀ (i : Nat) (f : Fd), t.T[i]? = some f → ∃ fa fd, FunD K f.d.name f.d.qual f.d.params f.d.body f.d.scope [] [] fa fd ∧ mg f.d.name = some (.ref fa)
  glo : ∀ x p, t.G x = some p → ∃ v u, mg x = some u ∧ RelV v u ∧ ∀ H, Rp ⟨K, w.params, none⟩ (fun _ => False) H v p
  fre : ∀ x ∈ t.fre, mg x = none
  exc : ∀ x ∈ t.exc, He.Fa.ok K (.exc x) = true ∧ mg x = some (.ref (He.ga K x))
  cls : ∀ e ∈ t.cls, ClsE K mg e
section
variable {t : Tb} {B : Sub} {P : Program} {w : World} {K : PySem.W.Frag} {mg : Str → Option Value} {base : Heap}
theorem spF_len {K : KW} {n : Nat} {f : List PyData → CR} {vs : List V} {H : Hp} {Q : VK} {E : XK} (h : spF K n f vs H Q E) : vs.length = n := h.1
theorem start_get {N : List Str} {vs : List V} {i : Nat} {x : V} (h : vs[i]? = some x) : (L2.start N vs)[i]? = some (some x) := by
  unfold L2.start
  have hi : i < vs.length := (List.getElem?_eq_some_iff.mp h).1
  rw [List.getElem?_append_left (by simpa using hi), List.getElem?_map, h]
  rfl
theorem stt_start {k : KW} {F : AS} {H : Hp} {vs : List V} {ps : List PyData} {N : List Str} (r : Rps k F H vs ps) (hF : ∀ a, F a → H a ≠ none) : Stt k H F (fun _ => False) (fun _ _ => False) H (L2.start N vs) (startE N.length ps) where
  len := by
    unfold L2.start startE
    simp [r.len]
  rep := fun i d h => by
    unfold startE at h
    by_cases hi : i < ps.length
    · rw [List.getElem?_append_left (by simpa using hi), List.getElem?_map] at h
      cases e : ps[i]? with
      | none => rw [e] at h; cases h
      | some p =>
        rw [e] at h
        injection h with h; injection h with h
        subst h
        obtain ⟨x, e1, rx⟩ := r.get e
        exact ⟨x, start_get e1, .mk (.v (rx.mono fun _ z => .inl z))⟩
    · rw [List.getElem?_append_right (by simpa using hi)] at h
      rw [List.getElem?_replicate] at h
      split at h <;> cases h
  dis := fun _ _ _ z => z.elim
  prv := fun _ _ z => z.elim
  new := fun _ z => z.elim
  old := hF
  ext := Ext.refl
theorem lookup_map {α β : Type} {l : List (Str × β)} {x : Str} (h : x ∈ l.map (·.1)) : ∃ p, l.lookup x = some p := by
  induction l with
  | nil => cases h
  | cons a l ih =>
    by_cases hx : x = a.1
    · subst hx
      exact ⟨a.2, by simp [List.lookup]⟩
    · have : (x == a.1) = false := by simpa using hx
      obtain ⟨p, hp⟩ := ih (by simpa [hx] using h)
      exact ⟨p, by rw [List.lookup, this]; exact hp⟩
theorem table_ok (hd : Hd t w K mg) (hc : t.ok = true) (hb : ∀ f ∈ t.T, BindOk f) : ∀ (k i : Nat) (f : Fd) (fa : Addr) (fd : FuncData), t.T[i]? = some f → FunD K f.d.name f.d.qual f.d.params f.d.body f.d.scope [] [] fa fd → FnOk P w K mg base (L2.CX P w) k fa fd f.ps (spF ⟨K, w.params, none⟩ f.ps.length (callN t B k i))
  | 0, i, f, fa, fd, hf, F => by
    refine ⟨fun vs H Q E h => h.1, fun A outer s H args us vs Q E hr he hbd hv hs => ?_⟩
    obtain ⟨_, F, ps, _, _, z⟩ := hs
    exact z.elim
  | k + 1, i, f, fa, fd, hf, F => by
    have hfm := List.mem_of_getElem? hf
    have hc' := hc
    unfold Tb.ok at hc'
    simp only [Bool.and_eq_true] at hc'
    have hck := List.all_eq_true.mp hc'.1 f hfm
    simp only [Bool.and_eq_true] at hck
    have S := fdC_ok hck.1
    obtain ⟨body, htr⟩ := Option.isSome_iff_exists.mp hck.2
    have hbody : t.body f = body := by unfold Tb.body; rw [htr]; rfl
    refine F.ok S (fun vs H Q E h => h.1) fun cdv A outer s H vs Q E hr hsp => ?_
    refine ⟨tS ⟨K, w.params, none⟩ (fun cl od _ H' => E cl od H') H (mutSs body) (svs (callN t B k) t.G B body), ?_, ?_⟩
    · have hk : (cxOf (L2.CX P w) P w K mg base f.N f.d.qual f.d.scope fa cdv A outer s H E).kw = ⟨K, w.params, none⟩ := by
        show (⟨K, w.params, (A.deeper (envOfC f.d.qual f.d.scope s.heap.objs.size fa cdv)).handled⟩ : KW) = _
        rw [hr.hd]
      have xs : XS (t.mc f) (callN t B k) t.G f.d.scope (cxOf (L2.CX P w) P w K mg base f.N f.d.qual f.d.scope fa cdv A outer s H E) (fun cl od _ H' => E cl od H') := {
        hN := rfl
        nd := S.nd
        hsc := rfl
        calm := fun _ => rfl
        sui := fun z => by cases z
        cls := hd.cls
        un := by
          have := hr.un
          show (A.deeper _).units + 65 < cLine
          omega
        tk := takes_of (E := E) (E₁ := fun e' s'' => L2.CX P w outer H s E e' s'') rfl rfl rfl rfl
        fns := fun _ j x n e => by
          have e : (t.T.map fun f => (f.d.name, f.ps.length))[j]? = some (x, n) := e
          rw [List.getElem?_map] at e
          cases e1 : t.T[j]? with
          | none => rw [e1] at e; cases e
          | some g =>
            rw [e1] at e
            injection e with e; injection e with e2 e3
            subst e2 e3
            obtain ⟨ga, gd, G, gm⟩ := hd.fns j g e1
            exact ⟨k, ga, gd, g.ps, by rw [hk]; exact table_ok hd hc hb k j g ga gd e1 G, hr, gm, G.kp, G.bindsN (hb g (List.mem_of_getElem? e1))⟩
        glo := fun x hx => by
          obtain ⟨p, hp⟩ := lookup_map (α := Unit) (show x ∈ t.gl.map (·.1) from hx)
          obtain ⟨v, u, h1, h2, h3⟩ := hd.glo x p hp
          exact ⟨p, v, u, hp, h1, h2, fun H => (h3 H).kx⟩
        fre := fun x hx => hd.fre x hx
        fn := fun _ => rfl
        po := fun _ => passes_of (K := fun e s'' => L2.CX P w outer H s E e s'') (E₁ := fun e' s'' => L2.CX P w outer H s E e' s'') rfl
        exc := fun x hx => hd.exc x hx
        stk := fun _ => ⟨rfl, rfl⟩
        kwn := fun _ => hk
        xkn := fun x hx => by
          obtain ⟨p, hp, rfl⟩ := List.mem_map.mp (show x ∈ t.gl.map (·.1) from hx)
          simpa using List.all_eq_true.mp hc'.2 p hp }
      rw [← hk]
      exact trSs_ok (fun st s h hm => trS_ok 40 xs st s _ h hm) htr fun i hi => hi
    · obtain ⟨hlen, F0, ps, r, hF0, q⟩ := hsp
      refine ⟨F0, _, _, startE f.N.length ps, stt_start r hF0, ?_⟩
      have hcall : callN t B (k + 1) i ps = runF (callN t B k) t.G B f.ps.length f.N.length body ps := by
        show (match t.T[i]? with
          | some f => runF (callN t B k) t.G B f.ps.length f.N.length (t.body f) ps
          | none => .stuck) = _
        rw [hf, ← hbody]
      rw [hcall] at q
      unfold runF at q
      rw [if_pos (by rw [← r.len]; exact hlen)] at q
      cases e : svs (callN t B k) t.G B body (startE f.N.length ps) with
      | next ρ' =>
        rw [e] at q
        exact fun σ' H' N' Pf' s' n fr => q .non H' (fun _ => False) (fun _ => False) s'.ext (.mk (.v .non)) (fun _ z => z.elim) fun _ z => z.elim
      | ret d => rw [e] at q; exact fun x H' N' P' ex r n p => q x H' N' P' ex r n p
      | brk ρ' => rw [e] at q; exact q.elim
      | cnt ρ' => rw [e] at q; exact q.elim
      | exc c ρ' =>
        rw [e] at q
        exact fun σ' H' N' Pf' cl od s' n fr hx => q H' cl od s'.ext hx
      | stuck => rw [e] at q; exact q.elim
end
end Hv

/-! Hv, part 21: a law, by its table. -/
namespace Hv
open PySem PySem.Spec PyProof.Rows L2

/-! ### what the head has written -/
def allB (f : Value → PyData → Bool) : List Value → List PyData → Bool
  | [], [] => true
  | u :: us, p :: ps => f u p && allB f us ps
  | _, _ => false
def valB (K : PySem.W.Frag) : Nat → Value → PyData → Bool
  | 0, _, _ => false
  | n + 1, u, p => match p with
    | .none => (match u with
      | .none => true
      | _ => false)
    | .bool b => (match u with
      | .bool c => decide (c = b)
      | _ => false)
    | .int i => (match u with
      | .int j _ => decide (j = i)
      | _ => false)
    | .str x => (match u with
      | .str y _ => decide (y = x) && PyData.strOk x
      | _ => false)
    | .tuple ps => (match u with
      | .ref a => (match K.lookup a with
        | some ⟨.type c, _, .seq its _, _⟩ => decide (c = "tuple") && (decide (its.size ≤ sizeLine) && allB (valB K n) its.toList ps)
        | _ => false)
      | _ => false)
    | .list ps => (match u with
      | .ref a => (match K.lookup a with
        | some ⟨.type c, none, .seq its _, _⟩ => decide (c = "list") && (decide (its.size ≤ sizeLine) && allB (valB K n) its.toList ps)
        | _ => false)
      | _ => false)
    | _ => false
theorem allB_ok {K : KW} {f : Value → PyData → Bool} (hf : ∀ u p, f u p = true → ∃ v, RelV v u ∧ ∀ S H, Rp K S H v p) : ∀ {us : List Value} {ps : List PyData}, allB f us ps = true → ∃ vs, Vals vs us ∧ ∀ S H, Rps K S H vs ps
  | [], [], _ => ⟨[], .nil, fun _ _ => .nil⟩
  | u :: us, p :: ps, h => by
    simp only [allB, Bool.and_eq_true] at h
    obtain ⟨v, r, q⟩ := hf u p h.1
    obtain ⟨vs, r2, q2⟩ := allB_ok hf h.2
    exact ⟨v :: vs, .cons r r2, fun S H => .cons (q S H) (q2 S H)⟩
  | [], _ :: _, h => by simp [allB] at h
  | _ :: _, [], h => by simp [allB] at h
theorem valB_ok {K : KW} : ∀ (n : Nat) (u : Value) (p : PyData), valB K.k n u p = true → ∃ v, RelV v u ∧ ∀ S H, Rp K S H v p
  | 0, _, _, h => by cases h
  | n + 1, u, p, h => by
    cases p with
    | none => cases u <;> first | exact ⟨.non, rfl, fun _ _ => .non⟩ | cases h
    | bool b =>
      cases u with
      | bool c =>
        have e : c = b := of_decide_eq_true h
        subst e
        exact ⟨.bl c, rfl, fun _ _ => .bl c⟩
      | _ => cases h
    | int i =>
      cases u with
      | int j t =>
        have e : j = i := of_decide_eq_true h
        subst e
        exact ⟨.int j, ⟨t, rfl⟩, fun _ _ => .int j⟩
      | _ => cases h
    | str x =>
      cases u with
      | str y t =>
        have h : (decide (y = x) && PyData.strOk x) = true := h
        simp only [Bool.and_eq_true, decide_eq_true_eq] at h
        obtain ⟨rfl, h2⟩ := h
        exact ⟨.str y, ⟨t, rfl⟩, fun _ _ => .str h2⟩
      | _ => cases h
    | tuple ps =>
      cases u with
      | ref a =>
        simp only [valB] at h
        split at h
        · rename_i c od its m sl e
          simp only [Bool.and_eq_true, decide_eq_true_eq] at h
          obtain ⟨rfl, h2, h3⟩ := h
          obtain ⟨vs, r, q⟩ := allB_ok (valB_ok (K := K) n) h3
          exact ⟨.ref a, rfl, fun S H => .tup (.inr ⟨_, its, m, e, rfl, rfl, h2, r⟩) (q S H)⟩
        · cases h
      | _ => cases h
    | list ps =>
      cases u with
      | ref a =>
        simp only [valB] at h
        split at h
        · rename_i c its m sl e
          simp only [Bool.and_eq_true, decide_eq_true_eq] at h
          obtain ⟨rfl, h2, h3⟩ := h
          obtain ⟨vs, r, q⟩ := allB_ok (valB_ok (K := K) n) h3
          exact ⟨.ref a, rfl, fun S H => .lsk ⟨_, its, m, e, rfl, rfl, rfl, h2, r⟩ (q S H)⟩
        · cases h
      | _ => cases h
    | dict kvs => cases h
def gloB (K : PySem.W.Frag) (p : Str × PyData) : Bool := match PySem.W.nsIn K mainGlobals p.1 with
  | some (some u) => valB K 8 u p.2
  | _ => false
def excB (K : PySem.W.Frag) (D : Addr) : Bool :=
  He.eqO (PySem.W.findIn K (.ref D) "__getattribute__") (some (some (.builtin "BaseException.__getattribute__"))) && (He.eqO (PySem.W.findIn K (.ref D) "__getattr__") (some none) && (decide (PySem.W.subIn K (.ref D) (.type "BaseException") = some true) &&
    (PySem.W.hasDictIn K D && (He.eqO (PySem.W.findIn K (.ref D) "__class__") (some (some (.builtin "object.__class__"))) && (He.eqO (PySem.W.specialIn K (.builtin "object.__class__") "__get__") (some (some (.builtin "getset_descriptor.__get__"))) &&
      (decide (PySem.W.takesIn K (.builtin "object.__class__") = some true) && decide (PySem.W.mroIn K D (.type "object") = some true)))))))
theorem excB_ok {K : PySem.W.Frag} {D : Addr} (h : excB K D = true) : ExcC K D := by
  unfold excB at h
  simp only [Bool.and_eq_true, decide_eq_true_eq] at h
  obtain ⟨h1, h2, h3, h4, h5, h6, h7, h8⟩ := h
  exact ⟨He.eqO_ok h1, He.eqO_ok h2, h3, h4, He.eqO_ok h5, He.eqO_ok h6, h7, h8⟩
def ckB (K : PySem.W.Frag) (e : Str × Option String × List (Str × Bool)) : Bool := e.2.2.all fun q => decide (PySem.W.kitOne K (.ref (He.ga K q.1)) (clsV K e.1 e.2.1) = some q.2) && (decide (PySem.W.exmOne K (.ref (He.ga K q.1)) (clsV K e.1 e.2.1) = some q.2) && excB K (He.ga K q.1))
def Tb.ex (t : Tb) (K : PySem.W.Frag) : Bool := t.gl.all (gloB K) && t.cls.all (ckB K)
def faC (e : Str × Option String × List (Str × Bool)) : He.Fa := match e.2.1 with
  | none => .glo e.1
  | some _ => .free e.1
def Tb.fa (t : Tb) : List He.Fa := t.T.map (fun f => .glo f.d.name) ++ (t.fre.map .free ++ (t.exc.flatMap (fun x => [.exc x, .glo x]) ++ t.cls.map faC))
def Tb.fn (t : Tb) : List He.DefD := t.T.map (·.d)
def okC (e : Str × Option String × List (Str × Bool)) : Bool := match e.2.1 with
  | none => true
  | some ty => decide (bootBuiltins e.1 = some (.type ty)) && decide (e.1 ≠ "__name__")
def Tb.at_ (t : Tb) : Bool := (t.T.all fun f => decide (f.d.at_ = (f.d.name, none)) && f.d.dfl.isEmpty && f.d.kwd.isEmpty) && t.cls.all okC
section
variable {t : Tb} {w : World} {K : PySem.W.Frag} {mg : Str → Option Value} {h : Heap}
theorem SaysD.mem {fa : List He.Fa} {fn : List He.DefD} (c : He.SaysD fa fn K) {f : He.Fa} (hf : f ∈ fa) : f.ok K = true := by
  obtain ⟨i, hi⟩ := List.getElem?_of_mem hf
  exact c.fact i hi
theorem lookup_mem' {α : Type} {l : List (Str × α)} {x : Str} {p : α} (h : l.lookup x = some p) : (x, p) ∈ l := by
  induction l with
  | nil => cases h
  | cons a l ih =>
    rw [List.lookup] at h
    split at h
    · rename_i e
      injection h with h
      subst h
      have : x = a.1 := by simpa using e
      subst this
      exact List.mem_cons_self
    · exact List.mem_cons_of_mem _ (ih h)
theorem hd_of (KX : K.In h) (G : h.Ns mainGlobals mg) (c : He.SaysD t.fa t.fn K) (hx : t.ex K = true) (ha : t.at_ = true) : Hd t w K mg := by
  unfold Tb.at_ at ha
  unfold Tb.ex at hx
  simp only [Bool.and_eq_true, List.all_eq_true, decide_eq_true_eq] at ha hx
  obtain ⟨h1, h2⟩ := ha
  obtain ⟨x1, x2⟩ := hx
  refine ⟨fun i f hf => ?_, fun x p hp => ?_, fun x hx => ?_, fun x hx => ?_, fun e he => ?_⟩
  · obtain ⟨⟨k1, k2⟩, k3⟩ := h1 f (List.mem_of_getElem? hf)
    have e : t.fn[i]? = some f.d := by
      show (t.T.map (·.d))[i]? = some f.d
      rw [List.getElem?_map, hf]
      rfl
    obtain ⟨fd, F⟩ := c.def_ i e
    have d1 : f.d.dvs K = [] := by
      show f.d.dfl.map _ = []
      rw [List.isEmpty_iff.mp k2]
      rfl
    have d2 : f.d.kws K = [] := by
      show f.d.kwd.map _ = []
      rw [List.isEmpty_iff.mp k3]
      rfl
    rw [d1, d2, k1] at F
    refine ⟨_, fd, F, He.glo_ok KX G (SaysD.mem c ?_)⟩
    exact List.mem_append_left _ (List.mem_map.mpr ⟨f, List.mem_of_getElem? hf, rfl⟩)
  · have hm := lookup_mem' (show t.gl.lookup x = some p from hp)
    have hk := x1 _ hm
    unfold gloB at hk
    split at hk
    · rename_i u e
      obtain ⟨v, r, q⟩ := valB_ok (K := ⟨K, w.params, none⟩) 8 u p hk
      exact ⟨v, u, PySem.W.mg_of KX G e, r, fun H => q _ H⟩
    · cases hk
  · exact He.free_ok KX G (SaysD.mem c (List.mem_append_right _ (List.mem_append_left _ (List.mem_map.mpr ⟨x, hx, rfl⟩))))
  · have fm : ∀ f, f ∈ ([.exc x, .glo x] : List He.Fa) → f ∈ t.fa := fun f hf => List.mem_append_right _ (List.mem_append_right _ (List.mem_append_left _ (List.mem_flatMap.mpr ⟨x, hx, hf⟩)))
    exact ⟨SaysD.mem c (fm _ List.mem_cons_self), He.glo_ok KX G (SaysD.mem c (fm _ (List.mem_cons_of_mem _ List.mem_cons_self)))⟩
  · have fm : faC e ∈ t.fa := List.mem_append_right _ (List.mem_append_right _ (List.mem_append_right _ (List.mem_map.mpr ⟨e, he, rfl⟩)))
    have hf := SaysD.mem c fm
    have hk := h2 e he
    refine ⟨?_, fun c b hl => ?_⟩
    · unfold faC at hf
      unfold okC at hk
      cases q : e.2.1 with
      | none => rw [q] at hf; exact He.glo_ok KX G hf
      | some ty =>
        rw [q] at hf hk
        simp only [Bool.and_eq_true, decide_eq_true_eq] at hk
        exact ⟨He.free_ok KX G hf, hk.1, hk.2⟩
    · have hm := lookup_mem' hl
      have hb := x2 e he
      unfold ckB at hb
      have := List.all_eq_true.mp hb _ hm
      simp only [Bool.and_eq_true, decide_eq_true_eq] at this
      exact ⟨this.1, this.2.1, excB_ok this.2.2⟩
theorem rp_ints' {k : KW} {S : AS} {H : Hp} : ∀ ns : List Int, Rps k S H (ns.map V.int) (ns.map .int)
  | [] => .nil
  | n :: ns => .cons (.int n) (rp_ints' ns)
theorem room_caller {k : Nat} (hk : k ≤ 231) : Room k callerA := by
  refine ⟨rfl, ?_, ?_⟩
  · show 1 + 300 + 3 * k + 5 < 1000
    omega
  · have : (4000 : Nat) < cLine := by decide
    show 4 + 16 * k + 200 < cLine
    omega
theorem law_walk {l : PySem.W.OpenLaw} {q : Program} {loose : List Str} {XP : (Str → Option Value) → Heap → Prop} {d : DefRec} {B : Sub} {m n k iL : Nat} {fL : Fd} {x : Str} (hn : l.most = some n) (hn2 : n ≤ sizeLine) (hdf : d.params.defaults = [])
    (hi : t.T[iL]? = some fL) (hps : fL.ps = [x]) (hname : fL.d.name = d.name) (hc : t.ok = true) (hat : t.at_ = true) (hb : ∀ f ∈ t.T, BindOk f) (hk : k ≤ 231)
    (law : ∀ ns : List Int, ns.length ≤ n → callN t B k iL [.list (ns.map .int)] = .ok (.v (.bool true))) :
    PySem.W.WalkO q loose XP (He.hookX m t.fa t.fn [] [] t.ex).says l.row.toRowW d [] (fun f vs => PySem.call f vs) := by
  refine LamX.walk_ofTsE (n := n) (k := k) (x := x) (CX := fun w => L2.CX l.prog w) hn hn2 hdf (room_caller hk) (fun w mg fa h Y G hmg => ?_) fun w H s e s' ⟨_, _, _, _, _, _, _, _, _, _, _, _, z⟩ => z
  obtain ⟨K, KX, c⟩ := Y
  have hd := hd_of (w := w) KX G c.t.d c.more hat
  obtain ⟨fa', fd, F, hm⟩ := hd.fns iL fL hi
  have e : fa' = fa := by
    rw [hname, hmg] at hm
    injection hm with hm
    injection hm with hm
    exact hm.symm
  subst e
  refine ⟨K, KX, fd, [], spF ⟨K, w.params, none⟩ fL.ps.length (callN t B k iL), (fun p hp => nomatch hp), (fun p hp => nomatch hp), (fun p hp => nomatch hp), fun s u => ?_, fun H a ns hl _ _ hS => ?_, fun base Kb Gb _ => ?_⟩
  · have := F.bindsA (hb fL (List.mem_of_getElem? hi)) s [u] (by rw [hps]; rfl)
    rw [hps] at this
    exact this
  · refine ⟨by rw [hps]; rfl, fun b => b = a ∧ H b ≠ none, [.list (ns.map .int)], .cons ?_ .nil, fun b z => z.2, ?_⟩
    · rcases hS with hS | hS
      · refine .lst ⟨rfl, ?_⟩ hS (rp_ints' ns)
        rcases hS with hS | ⟨o, hS⟩ <;> (rw [hS]; exact nofun)
      · exact .lsk hS (rp_ints' ns)
    · rw [law ns hl]
      intro y H' N' P' ex r _ _
      obtain ⟨I, Q, r, _⟩ := r
      cases r with
      | v r => cases r; rfl
  · have := table_ok (P := l.prog) (w := w) (base := base) (B := B) hd hc hb k iL fL fa' fd hi F
    rw [hps] at this
    rw [hps]
    exact this
end
end Hv

/-! Hw, part 1: the evaluator in plain Lean, step by step. -/
namespace Hv
open PySem

theorem call_eq {t : Tb} {B : Sub} {k i : Nat} {ps : List PyData} (n m : Nat) {body : List S} (h : (t.T[i]?.map fun f => (f.ps.length, f.N.length, t.tr f)) = some (n, m, some body)) : callN t B (k + 1) i ps = runF (callN t B k) t.G B n m body ps := by
  show (match t.T[i]? with
    | some f => runF (callN t B k) t.G B f.ps.length f.N.length (t.body f) ps
    | none => .stuck) = _
  cases e : t.T[i]? with
  | none => rw [e] at h; cases h
  | some f =>
    rw [e] at h
    simp only [Option.map_some, Option.some.injEq, Prod.mk.injEq] at h
    obtain ⟨rfl, rfl, h⟩ := h
    simp only
    unfold Tb.body
    rw [h]
    rfl
/-- a list of ints -/
abbrev IL (ns : List Int) : PyData := .list (ns.map .int)
theorem datas_v : ∀ ps : List PyData, datas (ps.map .v) = some ps
  | [] => rfl
  | p :: ps => by simp only [List.map_cons, datas, data, datas_v ps]
theorem data_oL (ps : List PyData) : data (oL ps) = some (.list ps) := by
  unfold oL
  simp only [data, datas_v, Option.map_some]
theorem isNews_v : ∀ ps : List PyData, isNews (ps.map .v) = !mutDs ps
  | [] => rfl
  | p :: ps => by simp only [List.map_cons, isNews, isNew, isNews_v ps, mutDs, Bool.not_or]
theorem isNew_oL (ps : List PyData) : isNew (oL ps) = !mutDs ps := by
  unfold oL
  simp only [isNew, isNews_v]
theorem hasVs_v : ∀ ps : List PyData, hasVs (ps.map .v) = mutDs ps
  | [] => rfl
  | p :: ps => by simp only [List.map_cons, hasVs, hasV, hasVs_v ps, mutDs]
theorem owns_v : ∀ ps : List PyData, owns (ps.map .v) = ps.map .v
  | [] => rfl
  | p :: ps => by simp only [List.map_cons, owns, own, owns_v ps]
theorem mutDs_int (ns : List Int) : mutDs (ns.map .int) = false := mutDs_ints ns
theorem intsOf_int : ∀ ns : List Int, intsOf (ns.map .int) = some ns
  | [] => rfl
  | n :: ns => by simp only [List.map_cons, intsOf, intsOf_int ns, Option.map_some]
theorem noDicts_int : ∀ ns : List Int, noDicts (ns.map .int) = true
  | [] => rfl
  | n :: ns => by simp only [List.map_cons, noDicts, noDict, noDicts_int ns, Bool.and_true]
theorem atI_nat' {α : Type} (xs : List α) (i : Nat) : L2.atI xs (i : Int) = xs[i]? := by
  unfold L2.atI L2.ixN
  by_cases h : i < xs.length
  · have h2 : (i : Int) < xs.length := by omega
    simp [h2]
  · have h2 : ¬ (i : Int) < xs.length := by omega
    simp only [if_pos (Int.natCast_nonneg i), if_neg h2]
    simp [List.getElem?_eq_none (Nat.le_of_not_lt h)]
section
variable {d e : D} {ds : List D} {al bl : Al} {c : Str} {p q : PyData} {ps qs : List PyData} {ρ : Env} {b b' : Bool} {i j : Int} {n m : Nat} {C : Cal} {G : Glo} {B : Sub} {x y : Str}
theorem s1 {f : D → Al → R} : (R.ok d al).bind f = f d al := rfl
theorem s2 {f : D → Al → TR} : (R.ok d al).bindT f = f d al := rfl
theorem s3 {f : D → Al → Rl} : (R.ok d al).bindL f = f d al := rfl
theorem s4 {f : D → Al → RS} : (R.ok d al).bindS ρ f = f d al := rfl
theorem s5 {f : List D → Al → R} : (Rl.ok ds al).bind f = f ds al := rfl
theorem s6 {f : List D → Al → Rl} : (Rl.ok ds al).bindL f = f ds al := rfl
theorem s7 {f : List D → Al → RS} : (Rl.ok ds al).bindS ρ f = f ds al := rfl
theorem s8 {f : Bool → R} : (TR.ok b).bind f = f b := rfl
theorem s9 {f : Bool → TR} : (TR.ok b).bindT f = f b := rfl
theorem s10 {f : Bool → RS} : (TR.ok b).bindS ρ f = f b := rfl
theorem s11 {r : R} : (vt r).e = r := rfl
theorem s12 {r : R} : (vt r).t = truR r := rfl
theorem s13 : truR (.ok (.v (.bool b)) al) = .ok b := rfl
theorem s14 : truR (.ok (.v (.int i)) al) = .ok (i != 0) := rfl
theorem s15 : truR (.ok (.v .none) al) = .ok false := rfl
theorem s16 : seqR [] = .ok [] [] := rfl
theorem s17 {e : VT} {es : List VT} : seqR (e :: es) = e.e.bindL fun d al => (seqR es).bindL fun ds bl => .ok (d :: ds) (al ++ bl) := rfl
theorem s18 {e : VT} : andR [e] = e.e := rfl
theorem s19 {e f : VT} {es : List VT} : andR (e :: f :: es) = e.e.bind fun d al => (datT d fun p => (truP p).t).bind fun b => if b then andR (f :: es) else .ok d al := rfl
theorem s20 {e : VT} : orR [e] = e.e := rfl
theorem s21 {e f : VT} {es : List VT} : orR (e :: f :: es) = e.e.bind fun d al => (datT d fun p => (truP p).t).bind fun b => if b then .ok d al else orR (f :: es) := rfl
theorem s22 {e : VT} : andT [e] = e.t := rfl
theorem s23 {e f : VT} {es : List VT} : andT (e :: f :: es) = e.t.bindT fun b => if b then andT (f :: es) else .ok false := rfl
theorem s24 {e : VT} : orT [e] = e.t := rfl
theorem s25 {e f : VT} {es : List VT} : orT (e :: f :: es) = e.t.bindT fun b => if b then .ok true else orT (f :: es) := rfl
theorem s26 {f : PyData → R} : dat (.v p) f = f p := rfl
theorem s27 {f : PyData → R} : dat (.n p) f = f p := rfl
theorem s28 {f : PyData → R} : dat (oL ps) f = f (.list ps) := by unfold dat; rw [data_oL]
theorem s29 {f : PyData → PyData → R} : dat2 (.v p) e f = dat e fun q => f p q := rfl
theorem s30 {f : PyData → PyData → R} : dat2 (.n p) e f = dat e fun q => f p q := rfl
theorem s31 {f : PyData → PyData → R} : dat2 (oL ps) e f = dat e fun q => f (.list ps) q := by unfold dat2; rw [data_oL]; rfl
theorem s32 {f : PyData → TR} : datT (.v p) f = f p := rfl
theorem s33 : (BR.ok b).r = .ok (.v (.bool b)) [] := rfl
theorem s34 : (BR.ok b).t = .ok b := rfl
theorem s35 : truP (.bool b) = .ok b := rfl
theorem s36 : truP (.int i) = .ok (i != 0) := rfl
theorem s37 : optR (.ok (.v (.int i)) al) = .ok (some i) := rfl
theorem s38 {o : Option Int} {f : Option Int → R} : (OR.ok o).bind f = f o := rfl
/-! names -/
def varD (i : Nat) : Option (Option D) → R
  | some (some (.v p)) => .ok (.v p) []
  | some (some (.n p)) => .ok (.n p) []
  | some (some d) => match view d with
    | some e => .ok e [i]
    | none => .stuck
  | _ => .stuck
theorem v1 : varR n ρ = varD n ρ[n]? := rfl
theorem v2 : varD n (some (some (.v p))) = .ok (.v p) [] := rfl
theorem v3 : varD n (some (some (.n p))) = .ok (.n p) [] := rfl
theorem v4 : varD n (some (some (oL ps))) = .ok (fz (!mutDs ps) (.list ps)) [n] := by
  show (match view (oL ps) with
    | some e => R.ok e [n]
    | none => .stuck) = _
  unfold view
  rw [data_oL, isNew_oL]
  rfl
theorem v5 {ns : List Int} : fz (!mutDs (ns.map .int)) (IL ns) = .n (IL ns) := by rw [mutDs_int]; rfl
theorem v6 : fz b (.int i) = .v (.int i) := by cases b <;> rfl
theorem v7 : fz b (.bool b') = .v (.bool b') := by cases b <;> rfl
theorem v8 : fz b .none = .v .none := by cases b <;> rfl
theorem v9 : fz b (.str x) = .v (.str x) := by cases b <;> rfl
theorem v10 : fz true (.list ps) = .n (.list ps) := rfl
theorem v11 : fz false p = .v p := rfl
theorem v12 (h : mutD p = false) : fz b p = .v p := by unfold fz; rw [h, Bool.and_false]; rfl
/-! expressions -/
theorem e1 : ev C G .non ρ = vt (.ok (.v .none) []) := rfl
theorem e2 : ev C G (.bl b) ρ = vt (.ok (.v (.bool b)) []) := rfl
theorem e3 : ev C G (.int i) ρ = vt (.ok (.v (.int i)) []) := rfl
theorem e4 : ev C G (.str x) ρ = vt (.ok (.v (.str x)) []) := rfl
theorem e5 : ev C G (.var n) ρ = vt (varR n ρ) := rfl
theorem e6 {o : BOp} {a b : E} : ev C G (.bin o a b) ρ = vt ((ev C G a ρ).e.bind fun x al => (ev C G b ρ).e.bind fun y bl => dat2 x y (binP o (isNew x && isNew y) (al ++ bl))) := rfl
theorem e7 {o : COp} {a b : E} : ev C G (.cmp o a b) ρ = vt ((ev C G a ρ).e.bind fun x _ => (ev C G b ρ).e.bind fun y _ => dat2 x y fun p q => (cmpP o p q).r) := rfl
theorem e8 {es : List E} : ev C G (.and es) ρ = ⟨andR (evs C G es ρ), andT (evs C G es ρ)⟩ := rfl
theorem e9 {es : List E} : ev C G (.or es) ρ = ⟨orR (evs C G es ρ), orT (evs C G es ρ)⟩ := rfl
theorem e10 {a : E} : ev C G (.not a) ρ = ⟨(truR (ev C G a ρ).e).bind fun b => .ok (.v (.bool (!b))) [], (ev C G a ρ).t.bindT fun b => .ok (!b)⟩ := rfl
theorem e11 {c a b : E} : ev C G (.ifx c a b) ρ = ⟨(ev C G c ρ).t.bind fun k => if k then (ev C G a ρ).e else (ev C G b ρ).e, (ev C G c ρ).t.bindT fun k => if k then (ev C G a ρ).t else (ev C G b ρ).t⟩ := rfl
def calD (C : Cal) (f : Nat) (ds : List D) (al : Al) : R := match datas ds with
  | some ps => callR (C f ps) al
  | none => .stuck
theorem e12 {f : Nat} {es : List E} : ev C G (.call f es) ρ = vt ((seqR (evs C G es ρ)).bind fun ds al => calD C f ds al) := rfl
theorem e13 {b : Bi} {es : List E} : ev C G (.bi b es) ρ = vt ((seqR (evs C G es ρ)).bind fun ds al => biR b ds al) := rfl
theorem e14 {a : E} {t : Ty} : ev C G (.isi a t) ρ = vt ((ev C G a ρ).e.bind fun x _ => dat x fun p => .ok (.v (.bool (tyP p t))) []) := rfl
theorem e15 {a b : E} (h : varOf a = none) : ev C G (.ix a b) ρ = vt ((ev C G a ρ).e.bind fun x al => (ev C G b ρ).e.bind fun y _ => dat2 x y fun p q => ixP (isNew x) al p q) := by simp only [ev, h]
def ixvD (n : Nat) (o : Option (Option D)) (rb : R) : R := match o with
  | some (some (.ol ds)) => rb.bind fun y _ => dat y (ixO n ds)
  | _ => (varD n o).bind fun x al => rb.bind fun y _ => dat2 x y fun p q => ixP (isNew x) al p q
theorem e16 {b : E} : ev C G (.ix (.var n) b) ρ = vt (ixvD n ρ[n]? (ev C G b ρ).e) := rfl
theorem e17 {a : E} {lo hi : Option E} : ev C G (.sl a lo hi) ρ = vt ((ev C G a ρ).e.bind fun x al => (evO C G lo ρ).bind fun l => (evO C G hi ρ).bind fun h => slR x al l h) := rfl
theorem e18 {es : List E} : ev C G (.lst es) ρ = vt ((seqR (evs C G es ρ)).bind fun ds al => .ok (.ol ds) al) := rfl
def tupD (ds : List D) (al : Al) : R := if ds.all isFz then (match datas ds with
    | some ps => mkT (isNews ds) ps al
    | none => .stuck) else .ok (.ot ds) al
theorem e19 {es : List E} : ev C G (.tup es) ρ = vt ((seqR (evs C G es ρ)).bind fun ds al => tupD ds al) := rfl
/-- a comprehension's turns -/
def lcT (C : Cal) (G : Glo) (own : List Nat) (tg : Tg) (cs : List E) (elt : E) (ρ : Env) (ps : List PyData) (b : Bool) : Rl := lcR (fun p => setT tg b p (wipeE ρ own)) (fun ρ => allT (evs C G cs ρ)) (fun ρ => (ev C G elt ρ).e) ps
def lcO (r : Rl) (al : Al) : R := match r with
  | .ok ds bl => .ok (.ol ds) (if ds.all plainD then [] else al ++ bl)
  | _ => .stuck
def lcI (k : Sk) (ds : List D) (al : Al) (f : List PyData → Bool → Rl) : R := match itemsR k ds al with
  | some (ps, b, al) => lcO (f ps b) al
  | none => .stuck
theorem e20 {own : List Nat} {k : Sk} {args : List E} {tg : Tg} {cs : List E} {elt : E} : ev C G (.lc own k args tg cs elt) ρ = vt ((seqR (evs C G args ρ)).bind fun ds al => lcI k ds al (lcT C G own tg cs elt ρ)) := by
  have : ∀ ds al, (match itemsR k ds al with
      | some (ps, b, al) => match lcR (fun p => setT tg b p (wipeE ρ own)) (fun ρ => allT (evs C G cs ρ)) (fun ρ => (ev C G elt ρ).e) ps with
        | .ok ds bl => R.ok (.ol ds) (if ds.all plainD then [] else al ++ bl)
        | _ => .stuck
      | none => .stuck) = lcI k ds al (lcT C G own tg cs elt ρ) := fun ds al => by
    unfold lcI lcT lcO
    rfl
  simp only [ev]
  congr
theorem e21 : evs C G [] ρ = [] := rfl
theorem e22 {e : E} {es : List E} : evs C G (e :: es) ρ = ev C G e ρ :: evs C G es ρ := rfl
theorem e23 : evO C G none ρ = .ok none := rfl
theorem e24 {e : E} : evO C G (some e) ρ = optR (ev C G e ρ).e := rfl
theorem e25 {a : E} : ev C G (.neg a) ρ = vt ((ev C G a ρ).e.bind fun x _ => dat x fun p => match p with
    | .int i => .ok (.v (.int (-i))) []
    | _ => .stuck) := rfl
theorem e26 {o o' : COp} {a b c : E} : ev C G (.chn o o' a b c) ρ = vt ((ev C G a ρ).e.bind fun x _ => (ev C G b ρ).e.bind fun y _ => dat2 x y fun p q => match cmpP o p q with
    | .ok true => (ev C G c ρ).e.bind fun z _ => dat z fun r => (cmpP o' q r).r
    | .ok false => .ok (.v (.bool false)) []
    | .stuck => .stuck) := rfl
theorem e27 {g : Str} : ev C G (.glob g) ρ = vt (match G g with
    | some d => .ok (.v d) []
    | none => .stuck) := rfl
/-! values -/
theorem x1 : binP .add b al (.int i) (.int j) = .ok (.v (.int (i + j))) [] := rfl
theorem x2 : binP .sub b al (.int i) (.int j) = .ok (.v (.int (i - j))) [] := rfl
theorem x3 (h : mulOk i j = true) : binP .mul b al (.int i) (.int j) = .ok (.v (.int (i * j))) [] := by simp only [binP, h, if_true]
theorem x4 (h : divOk j = true) : binP .div b al (.int i) (.int j) = .ok (.v (.int (i / j))) [] := by simp only [binP, h, if_true]
theorem x5 (h : 0 < j) : binP .mod b al (.int i) (.int j) = .ok (.v (.int (i % j))) [] := by simp only [binP, decide_eq_true h, if_true]
theorem x6 : cmpP .lt (.int i) (.int j) = .ok (decide (i < j)) := rfl
theorem x7 : cmpP .le (.int i) (.int j) = .ok (decide (i ≤ j)) := rfl
theorem x8 : cmpP .gt (.int i) (.int j) = .ok (decide (j < i)) := rfl
theorem x9 : cmpP .ge (.int i) (.int j) = .ok (decide (j ≤ i)) := rfl
theorem x10 (h : cmpOk p = true) (h' : cmpOk q = true) : cmpP .eq p q = .ok (PyData.eqv p q) := by simp only [cmpP, h, h', Bool.and_self, if_true]
theorem x11 (h : cmpOk p = true) (h' : cmpOk q = true) : cmpP .ne p q = .ok (!PyData.eqv p q) := by simp only [cmpP, h, h', Bool.and_self, if_true]
theorem x12 : cmpP .isn .none .none = .ok true := rfl
theorem x13 : cmpP .isn (.int i) .none = .ok false := rfl
theorem x14 : cmpP .isn (.bool b) .none = .ok false := rfl
theorem x15 : cmpP .isn (.list ps) .none = .ok false := rfl
theorem x16 : cmpP .isn (.tuple ps) .none = .ok false := rfl
theorem x17 : cmpP .isn (.str x) .none = .ok false := rfl
theorem x18 : biR .len [d] al = bi1 .len d al := rfl
theorem x19 (h : data d = some (.list ps)) : bi1 .len d al = .ok (.v (.int ps.length)) [] := by simp only [bi1, h]
theorem x20 (h : data d = some (.tuple ps)) : bi1 .len d al = .ok (.v (.int ps.length)) [] := by simp only [bi1, h]
theorem x21 : biR .int [.v (.int i)] al = .ok (.v (.int i)) [] := rfl
theorem x22 : biR .int [.v (.bool b)] al = .ok (.v (.int (if b then 1 else 0))) [] := rfl
theorem x23 : biR .min2 [.v (.int i), .v (.int j)] al = .ok (.v (.int (if j < i then j else i))) [] := rfl
theorem x24 : biR .max2 [.v (.int i), .v (.int j)] al = .ok (.v (.int (if j > i then j else i))) [] := rfl
theorem x25 : biR .len [.v (.list ps)] al = .ok (.v (.int ps.length)) [] := rfl
theorem x26 : biR .len [.n (.list ps)] al = .ok (.v (.int ps.length)) [] := rfl
theorem x27 : biR .len [.v (.tuple ps)] al = .ok (.v (.int ps.length)) [] := rfl
theorem x28 : biR .len [oL ps] al = .ok (.v (.int ps.length)) [] := by show bi1 .len (oL ps) al = _; rw [x19 (data_oL ps)]
theorem x29 {m : Nat} : ixP b al (.list ps) (.int (m : Int)) = match ps[m]? with
    | some p => itR b p al
    | none => .stuck := by simp only [ixP, atI_nat'] <;> rfl
theorem x30 {m : Nat} : ixP b al (.tuple ps) (.int (m : Int)) = match ps[m]? with
    | some p => itR b p al
    | none => .stuck := by simp only [ixP, atI_nat'] <;> rfl
theorem y0 : ixP b al (.list ps) (.int 0) = match ps[0]? with
    | some p => itR b p al
    | none => .stuck := x29 (m := 0)
theorem y1 : ixP b al (.list ps) (.int 1) = match ps[1]? with
    | some p => itR b p al
    | none => .stuck := x29 (m := 1)
theorem y2 : ixP b al (.list ps) (.int 2) = match ps[2]? with
    | some p => itR b p al
    | none => .stuck := x29 (m := 2)
theorem y3 : ixP b al (.list ps) (.int 3) = match ps[3]? with
    | some p => itR b p al
    | none => .stuck := x29 (m := 3)
theorem y4 : ixP b al (.list ps) (.int 4) = match ps[4]? with
    | some p => itR b p al
    | none => .stuck := x29 (m := 4)
theorem y5 : ixP b al (.list ps) (.int 5) = match ps[5]? with
    | some p => itR b p al
    | none => .stuck := x29 (m := 5)
theorem x31 : itR b (.int i) al = .ok (.v (.int i)) [] := rfl
theorem x32 : itR b (.bool b') al = .ok (.v (.bool b')) [] := rfl
theorem x33 : itR b .none al = .ok (.v .none) [] := rfl
theorem x34 : ixvD n (some (some (.v p))) (.ok d al) = dat2 (.v p) d fun p q => ixP (isNew (.v p)) [] p q := rfl
theorem x35 : ixvD n (some (some (.n p))) (.ok d al) = dat2 (.n p) d fun p q => ixP true [] p q := rfl
theorem x36 : ixvD n (some (some (oL ps))) (.ok (.v (.int (m : Int))) al) = match ps[m]? with
    | some p => .ok (.v p) []
    | none => .stuck := by
  show dat (.v (.int (m : Int))) (ixO n (ps.map .v)) = _
  rw [s26]
  show (match L2.atI (ps.map D.v) (m : Int) with
    | some e => match view e with
      | some w => R.ok w (if isFz e then [] else [n])
      | none => .stuck
    | none => .stuck) = _
  rw [atI_nat', List.getElem?_map]
  cases ps[m]? with
  | none => rfl
  | some p =>
    simp only [Option.map_some, view, data, isNew, fz, isFz, if_true]
    cases mutD p <;> rfl
theorem x37 (h : mutD p = false) : itR b p al = .ok (.v p) [] := by unfold itR; rw [h]; rfl
theorem x39 : mutDs [] = false := rfl
theorem x40 {ns : List Int} (h : maxI ns = some i) : biR .maxL [.n (IL ns)] al = .ok (.v (.int i)) [] := by
  show bi1 .maxL (.n (IL ns)) al = _
  simp only [bi1, data, intsOf_int, Option.bind_some, h]
theorem x41 {ns : List Int} (h : maxI ns = some i) : biR .maxL [.v (IL ns)] al = .ok (.v (.int i)) [] := by
  show bi1 .maxL (.v (IL ns)) al = _
  simp only [bi1, data, intsOf_int, Option.bind_some, h]
theorem a1 : allT [] = .ok true := rfl
theorem a2 {e : VT} {es : List VT} : allT (e :: es) = e.t.bindT fun b => if b then allT es else .ok false := rfl
theorem x38 : tyP (.int i) .int = true := rfl
/-! calls -/
theorem k1 {f : Nat} : calD C f ds al = match datas ds with
  | some ps => callR (C f ps) al
  | none => .stuck := rfl
theorem k2 (h : mutD p = false) : callR (.ok (.v p)) al = .ok (.v p) [] := by simp only [callR, hasV, h, own, Bool.false_eq_true, if_false]
theorem k3 (h : mutDs ps = false) : callR (.ok (oL ps)) al = .ok (oL ps) [] := by
  unfold oL
  simp only [callR, hasV, hasVs_v, h, own, owns_v, Bool.false_eq_true, if_false]
theorem k4 : datas [] = some [] := rfl
theorem k5 (h : data d = some p) : datas (d :: ds) = (datas ds).map (p :: ·) := by
  simp only [datas, h]
  cases datas ds <;> rfl
theorem k6 : data (.v p) = some p := rfl
theorem k7 : data (.n p) = some p := rfl
theorem k8 : datas (.v p :: ds) = (datas ds).map (p :: ·) := k5 rfl
theorem k9 : datas (.n p :: ds) = (datas ds).map (p :: ·) := k5 rfl
theorem k10 : datas (oL ps :: ds) = (datas ds).map (.list ps :: ·) := k5 (data_oL ps)
/-! statements -/
noncomputable def blk (C : Cal) (G : Glo) (B : Sub) (b : List S) : Env → RS := svs C G B b
theorem t0 {s : S} {ss : List S} : svs C G B (s :: ss) ρ = seqS (sv C G B s ρ) (blk C G B ss) := by
  show (match sv C G B s ρ with
    | .next ρ' => svs C G B ss ρ'
    | .ret d => .ret d
    | .brk ρ' => .brk ρ'
    | .cnt ρ' => .cnt ρ'
    | .exc c ρ' => .exc c ρ'
    | .stuck => .stuck) = _
  cases sv C G B s ρ <;> rfl
theorem t1 : svs C G B [] ρ = .next ρ := rfl
theorem t2 {f : Env → RS} : seqS (.next ρ) f = f ρ := rfl
theorem t3 {f : Env → RS} : seqS (.ret d) f = .ret d := rfl
theorem t4 {f : Env → RS} : seqS (.brk ρ) f = .brk ρ := rfl
theorem t5 {f : Env → RS} : seqS (.cnt ρ) f = .cnt ρ := rfl
theorem t6 {f : Env → RS} : seqS (.exc c ρ) f = .exc c ρ := rfl
theorem t7 {b : List S} : blk C G B b ρ = svs C G B b ρ := rfl
theorem t8 {e : E} : sv C G B (.asg n e) ρ = (ev C G e ρ).e.bindS ρ fun d al => .next ((frz al ρ).set n (some d)) := by simp only [sv]
theorem t9 {e : E} : sv C G B (.ret e) ρ = (ev C G e ρ).e.bindS ρ fun d _ => .ret d := by simp only [sv]
def rvD : Option (Option D) → RS
  | some (some d) => .ret d
  | _ => .stuck
theorem t10 : sv C G B (.retv n) ρ = rvD ρ[n]? := by simp only [sv]; rfl
theorem t11 : rvD (some (some d)) = .ret d := rfl
theorem t12 {c : E} {a b : List S} : sv C G B (.ife c a b) ρ = (ev C G c ρ).t.bindS ρ fun k => if k then blk C G B a ρ else blk C G B b ρ := by simp only [sv]; rfl
/-- a loop by its items -/
noncomputable def forD (k : Sk) (ds : List D) (al : Al) (C : Cal) (G : Glo) (B : Sub) (tg : Tg) (b : List S) (ρ : Env) : RS := match itemsR k ds al with
  | some (ps, w, al2) => if al.all (fun i => !(mutSs b).contains i) then forR (fun p ρ => setT tg w p ρ) (blk C G B b) ps (frz al2 ρ) else .stuck
  | none => .stuck
theorem t13 {k : Sk} {args : List E} {tg : Tg} {b : List S} : sv C G B (.for_ k args tg b) ρ = (seqR (evs C G args ρ)).bindS ρ fun ds al => forD k ds al C G B tg b ρ := by simp only [sv]; rfl
def cnd (C : Cal) (G : Glo) (c : E) : Env → TR := fun ρ => (ev C G c ρ).t
theorem t14 {c : E} {b : List S} : sv C G B (.while_ c b) ρ = wh (cnd C G c) (blk C G B b) ρ := by simp only [sv]; rfl
theorem t14' {c : E} : cnd C G c ρ = (ev C G c ρ).t := rfl
theorem t15 {e : E} {path : List E} : sv C G B (.app n path e) ρ = appR n (pathJ (seqR (evs C G path ρ))) (ev C G e ρ).e ρ := by simp only [sv]
theorem t16 : sv C G B .brk ρ = .brk ρ := by simp only [sv]
theorem t17 : sv C G B .cnt ρ = .cnt ρ := by simp only [sv]
theorem t18 : sv C G B .pass ρ = .next ρ := by simp only [sv]
theorem t19 : sv C G B .retn ρ = .ret (.v .none) := by simp only [sv]
def augD (n : Nat) (o : BOp) (ρ : Env) (r : R) : Option (Option D) → RS
  | some (some (.v (.int a))) => r.bindS ρ fun d _ => match data d with
    | some (.int b) => match o with
      | .add => .next (ρ.set n (some (.v (.int (a + b)))))
      | .sub => .next (ρ.set n (some (.v (.int (a - b)))))
      | _ => .stuck
    | _ => .stuck
  | _ => .stuck
theorem t20 {o : BOp} {e : E} : sv C G B (.aug n o e) ρ = augD n o ρ (ev C G e ρ).e ρ[n]? := by
  simp only [sv]
  unfold augD
  rfl
theorem t21 : augD n .add ρ (.ok (.v (.int j)) al) (some (some (.v (.int i)))) = .next (ρ.set n (some (.v (.int (i + j))))) := rfl
theorem t22 : augD n .sub ρ (.ok (.v (.int j)) al) (some (some (.v (.int i)))) = .next (ρ.set n (some (.v (.int (i - j))))) := rfl
theorem t23 : pathJ (.ok [] al) = some [] := rfl
theorem t24 : pathJ (.ok [.v (.int i)] al) = some [i] := rfl
theorem t25 {js : List Int} : appR n (some js) (.ok d al) ρ = updR n js (appF d) al ρ := rfl
def updE (n : Nat) (js : List Int) (f : List D → Option (List D)) (al : Al) (ρ : Env) : Option (Option D) → RS
  | some (some e) => match updD e js f with
    | some e' => if al.contains n then .stuck else .next ((frz al ρ).set n (some e'))
    | none => .stuck
  | _ => .stuck
theorem t26 {js : List Int} {f : List D → Option (List D)} : updR n js f al ρ = updE n js f al ρ ρ[n]? := by
  unfold updR updE
  rfl
theorem t27 (h : ps.length < 16777216) : updE n [] (appF (.v p)) [] ρ (some (some (oL ps))) = .next (ρ.set n (some (oL (ps ++ [p])))) := by
  have e : appF (.v p) (ps.map D.v) = some ((ps ++ [p]).map D.v) := by
    unfold appF SZ
    rw [List.length_map, if_pos h, List.map_append]
    rfl
  unfold updE oL updD
  simp only [e, List.contains_nil, Bool.false_eq_true, if_false, frz]
theorem t28 : frz [] ρ = ρ := rfl
theorem t29 : setT (.name n) b p ρ = some (ρ.set n (some (fz b p))) := rfl
theorem z1 : D.ol [] = oL [] := rfl
theorem z2 : D.ol [.v p] = oL [p] := rfl
theorem z3 : D.ol [.v p, .v q] = oL [p, q] := rfl
theorem itemsR_rg (h : rgOk 0 j = true) : itemsR .range [.v (.int j)] al = some ((rgI 0 j).map .int, true, []) := by
  show (if rgOk 0 j = true then some ((rgI 0 j).map PyData.int, true, []) else none) = _
  exact if_pos h
theorem rgOk_nat (h : n ≤ 16777216) : rgOk 0 (n : Int) = true := by
  unfold rgOk
  simp only [Bool.and_eq_true, decide_eq_true_eq]
  omega
theorem f1 {tg : Tg} {b : List S} (h : n ≤ 16777216) : forD .range [.v (.int (n : Int))] [] C G B tg b ρ = forR (fun p ρ => setT tg true p ρ) (blk C G B b) ((rgI 0 (n : Int)).map .int) ρ := by
  unfold forD
  rw [itemsR_rg (rgOk_nat h)]
  rfl
theorem f2 {tg : Tg} {b : List S} (h : mutDs ps = false) (hm : al.all (fun i => !(mutSs b).contains i) = true) : forD .seq [.n (.list ps)] al C G B tg b ρ = forR (fun p ρ => setT tg true p ρ) (blk C G B b) ps ρ := by
  unfold forD itemsR elems
  simp only [data, isNew, h, Bool.false_eq_true, if_false, hm, if_true, frz]
theorem f3 {tg : Tg} {b : List S} (h : mutDs ps = false) : forD .seq [.v (.list ps)] [] C G B tg b ρ = forR (fun p ρ => setT tg (isNew (.v (.list ps))) p ρ) (blk C G B b) ps ρ := by
  unfold forD itemsR elems
  simp only [data, h, Bool.false_eq_true, if_false, List.all_nil, if_true, frz]
theorem f4 {tg : Tg} {b : List S} (h : mutDs ps = false) : forD .seq [oL ps] [] C G B tg b ρ = forR (fun p ρ => setT tg (isNew (oL ps)) p ρ) (blk C G B b) ps ρ := by
  unfold forD itemsR elems
  simp only [data_oL, h, Bool.false_eq_true, if_false, List.all_nil, if_true, frz]
theorem f5 {tg : Tg} {b : List S} (h : mutDs ps = false) : forD .enum [.v (.list ps)] [] C G B tg b ρ = forR (fun p ρ => setT tg (isNew (.v (.list ps))) p ρ) (blk C G B b) (enumP ps) ρ := by
  unfold forD itemsR elems
  simp only [data, h, Bool.false_eq_true, if_false, List.all_nil, if_true, frz, Option.map_some]
/-! comprehensions -/
theorem l1 {f : List PyData → Bool → Rl} (h : n ≤ 16777216) : lcI .range [.v (.int (n : Int))] al f = lcO (f ((rgI 0 (n : Int)).map .int) true) [] := by
  unfold lcI
  rw [itemsR_rg (rgOk_nat h)]
theorem l2 {f : List PyData → Bool → Rl} (h : mutDs ps = false) : lcI .seq [oL ps] al f = lcO (f ps (isNew (oL ps))) [] := by
  unfold lcI itemsR elems
  simp only [data_oL, h, Bool.false_eq_true, if_false]
theorem plainD_v : ∀ ps : List PyData, (ps.map D.v).all plainD = !mutDs ps
  | [] => rfl
  | p :: ps => by simp only [List.map_cons, List.all_cons, plainD_v ps, plainD, mutDs, Bool.not_or]
theorem l3 (h : mutDs ps = false) : lcO (.ok (ps.map .v) bl) al = .ok (oL ps) [] := by
  unfold lcO oL
  simp only [plainD_v, h, Bool.not_false, if_true]
def retC : RS → CR
  | .next _ => .ok (.v .none)
  | .ret d => .ok d
  | .exc c _ => .exc c
  | _ => .stuck
theorem r1 {body : List S} (h : ps.length = n) : runF C G B n m body ps = retC (svs C G B body (startE m ps)) := by unfold runF; rw [if_pos h]; cases svs C G B body (startE m ps) <;> rfl
theorem r2 : retC (.ret d) = .ok d := rfl
theorem r3 : retC (.next ρ) = .ok (.v .none) := rfl
theorem r4 : retC (.exc c ρ) = .exc c := rfl
end
end Hv

/-! Hw, part 2: loops in plain Lean. -/
namespace Hv
open PySem

section
variable {st : PyData → Env → Option Env} {body : Env → RS} {ps : List PyData} {ρ : Env}
theorem forR_upto (P : Nat → Env → Prop) (m : Nat) (hm : m ≤ ps.length) (h : ∀ i p ρ, i < m → ps[i]? = some p → P i ρ → ∃ ρ1, st p ρ = some ρ1 ∧ ∃ ρ2, (body ρ1 = .next ρ2 ∨ body ρ1 = .cnt ρ2) ∧ P (i + 1) ρ2) (h0 : P 0 ρ) :
    ∃ ρ', forR st body ps ρ = forR st body (ps.drop m) ρ' ∧ P m ρ' := by
  induction m with
  | zero => exact ⟨ρ, by simp, h0⟩
  | succ m ih =>
    obtain ⟨ρ', e, p⟩ := ih (by omega) fun i p ρ hi => h i p ρ (by omega)
    have hlt : m < ps.length := by omega
    obtain ⟨ρ1, e1, ρ2, e2, p2⟩ := h m ps[m] ρ' (by omega) (by simp [hlt]) p
    refine ⟨ρ2, ?_, p2⟩
    rw [e, List.drop_eq_getElem_cons hlt, forR_step, e1]
    rcases e2 with e2 | e2 <;> simp only [e2]
theorem forR_inv (P : Nat → Env → Prop) (h : ∀ i p ρ, ps[i]? = some p → P i ρ → ∃ ρ1, st p ρ = some ρ1 ∧ ∃ ρ2, (body ρ1 = .next ρ2 ∨ body ρ1 = .cnt ρ2) ∧ P (i + 1) ρ2) (h0 : P 0 ρ) :
    ∃ ρ', forR st body ps ρ = .next ρ' ∧ P ps.length ρ' := by
  obtain ⟨ρ', e, p⟩ := forR_upto (st := st) (body := body) P ps.length (Nat.le_refl _) (fun i p ρ _ => h i p ρ) h0
  exact ⟨ρ', by rw [e, List.drop_length]; rfl, p⟩
theorem forR_ret (P : Nat → Env → Prop) (m : Nat) (p : PyData) (d : D) (hm : ps[m]? = some p) (h : ∀ i p ρ, i < m → ps[i]? = some p → P i ρ → ∃ ρ1, st p ρ = some ρ1 ∧ ∃ ρ2, (body ρ1 = .next ρ2 ∨ body ρ1 = .cnt ρ2) ∧ P (i + 1) ρ2) (h0 : P 0 ρ)
    (hr : ∀ ρ, P m ρ → ∃ ρ1, st p ρ = some ρ1 ∧ body ρ1 = .ret d) : forR st body ps ρ = .ret d := by
  have hlt : m < ps.length := (List.getElem?_eq_some_iff.mp hm).1
  obtain ⟨ρ', e, q⟩ := forR_upto (st := st) (body := body) P m (by omega) h h0
  obtain ⟨ρ1, e1, e2⟩ := hr ρ' q
  have hp : ps[m] = p := by simpa [hlt] using hm
  rw [e, List.drop_eq_getElem_cons hlt, hp, forR_step, e1]
  simp only [e2]
theorem forR_brk (P Q : Nat → Env → Prop) (m : Nat) (p : PyData) (hm : ps[m]? = some p) (h : ∀ i p ρ, i < m → ps[i]? = some p → P i ρ → ∃ ρ1, st p ρ = some ρ1 ∧ ∃ ρ2, (body ρ1 = .next ρ2 ∨ body ρ1 = .cnt ρ2) ∧ P (i + 1) ρ2) (h0 : P 0 ρ)
    (hr : ∀ ρ, P m ρ → ∃ ρ1, st p ρ = some ρ1 ∧ ∃ ρ2, body ρ1 = .brk ρ2 ∧ Q m ρ2) : ∃ ρ', forR st body ps ρ = .next ρ' ∧ Q m ρ' := by
  have hlt : m < ps.length := (List.getElem?_eq_some_iff.mp hm).1
  obtain ⟨ρ', e, q⟩ := forR_upto (st := st) (body := body) P m (by omega) h h0
  obtain ⟨ρ1, e1, ρ2, e2, q2⟩ := hr ρ' q
  have hp : ps[m] = p := by simpa [hlt] using hm
  refine ⟨ρ2, ?_, q2⟩
  rw [e, List.drop_eq_getElem_cons hlt, hp, forR_step, e1]
  simp only [e2]
end
/-- goes on, so that -/
def Nx (r : RS) (Q : Env → Prop) : Prop := match r with
  | .next ρ => Q ρ
  | .cnt ρ => Q ρ
  | _ => False
theorem nx1 {ρ : Env} {Q : Env → Prop} : Nx (.next ρ) Q = Q ρ := rfl
theorem nx2 {ρ : Env} {Q : Env → Prop} : Nx (.cnt ρ) Q = Q ρ := rfl
theorem nx_ex {r : RS} {Q : Env → Prop} (h : Nx r Q) : ∃ ρ2, (r = .next ρ2 ∨ r = .cnt ρ2) ∧ Q ρ2 := by
  cases r with
  | next ρ => exact ⟨ρ, .inl rfl, h⟩
  | cnt ρ => exact ⟨ρ, .inr rfl, h⟩
  | _ => exact h.elim
section
variable {st : PyData → Env → Option Env} {body : Env → RS} {ps : List PyData} {ρ : Env} {r : RS}
theorem go_inv (hf : forR st body ps ρ = r) (P : Nat → Env → Prop) (h0 : P 0 ρ) (h : ∀ i p ρ, ps[i]? = some p → P i ρ → ∃ ρ1, st p ρ = some ρ1 ∧ Nx (body ρ1) (P (i + 1))) :
    ∃ ρ', r = .next ρ' ∧ P ps.length ρ' := let ⟨ρ', e, p⟩ := forR_inv P (fun i p ρ hp q => let ⟨ρ1, e, z⟩ := h i p ρ hp q; ⟨ρ1, e, nx_ex z⟩) h0; ⟨ρ', by rw [← hf, e], p⟩
theorem go_ret (hf : forR st body ps ρ = r) (P : Nat → Env → Prop) (m : Nat) (p : PyData) (d : D) (hm : ps[m]? = some p) (h0 : P 0 ρ) (h : ∀ i p ρ, i < m → ps[i]? = some p → P i ρ → ∃ ρ1, st p ρ = some ρ1 ∧ Nx (body ρ1) (P (i + 1)))
    (hr : ∀ ρ, P m ρ → ∃ ρ1, st p ρ = some ρ1 ∧ body ρ1 = .ret d) : r = .ret d := by rw [← hf]; exact forR_ret P m p d hm (fun i p ρ hi hp q => let ⟨ρ1, e, z⟩ := h i p ρ hi hp q; ⟨ρ1, e, nx_ex z⟩) h0 hr
theorem go_brk (hf : forR st body ps ρ = r) (P Q : Nat → Env → Prop) (m : Nat) (p : PyData) (hm : ps[m]? = some p) (h0 : P 0 ρ) (h : ∀ i p ρ, i < m → ps[i]? = some p → P i ρ → ∃ ρ1, st p ρ = some ρ1 ∧ Nx (body ρ1) (P (i + 1)))
    (hr : ∀ ρ, P m ρ → ∃ ρ1, st p ρ = some ρ1 ∧ ∃ ρ2, body ρ1 = .brk ρ2 ∧ Q m ρ2) : ∃ ρ', r = .next ρ' ∧ Q m ρ' := let ⟨ρ', e, q⟩ := forR_brk P Q m p hm (fun i p ρ hi hp q => let ⟨ρ1, e, z⟩ := h i p ρ hi hp q; ⟨ρ1, e, nx_ex z⟩) h0 hr; ⟨ρ', by rw [← hf, e], q⟩
end
section
variable {c : Env → TR} {body : Env → RS} {ρ ρ2 : Env} {r : RS}
theorem wh_stop (h : c ρ = .ok false) : wh c body ρ = .next ρ := wh_eq 1 (by simp only [whN, h]) nofun
theorem wh_step (h : c ρ = .ok true) (hb : body ρ = .next ρ2) (hr : wh c body ρ2 = r) (hn : r ≠ .stuck) : wh c body ρ = r := by
  obtain ⟨n, e⟩ := wh_ex hr hn
  exact wh_eq (n + 1) (by simp only [whN, h, hb, e]) hn
end
section
variable {st : PyData → Option Env} {cd : Env → TR} {el : Env → R}
theorem lcR_fm (b : PyData → Bool) (f : PyData → D) : ∀ {ps : List PyData}, (∀ p ∈ ps, ∃ ρ, st p = some ρ ∧ cd ρ = .ok (b p) ∧ (b p = true → el ρ = .ok (f p) [])) → lcR st cd el ps = .ok ((ps.filter b).map f) []
  | [], _ => rfl
  | p :: ps, h => by
    obtain ⟨ρ, h1, h2, h3⟩ := h p List.mem_cons_self
    have ih := lcR_fm b f (ps := ps) fun q hq => h q (List.mem_cons_of_mem _ hq)
    unfold lcR
    simp only [h1, h2]
    cases e : b p with
    | true => simp only [h3 e, ih, List.filter_cons, e, if_true, List.map_cons, List.append_nil]
    | false => simp only [ih, List.filter_cons, e, Bool.false_eq_true, if_false]
theorem lcR_map (f : PyData → D) {ps : List PyData} (h : ∀ p ∈ ps, ∃ ρ, st p = some ρ ∧ cd ρ = .ok true ∧ el ρ = .ok (f p) []) : lcR st cd el ps = .ok (ps.map f) [] := by
  have := lcR_fm (cd := cd) (el := el) (st := st) (fun _ => true) f (ps := ps) fun p hp => let ⟨ρ, h1, h2, h3⟩ := h p hp; ⟨ρ, h1, h2, fun _ => h3⟩
  rw [this, List.filter_eq_self.mpr fun _ _ => rfl]
end
theorem rgOk_int {a b : Int} (h1 : -4611686018427387904 < a) (h2 : b < 4611686018427387904) (h3 : a < 4611686018427387904) (h4 : -4611686018427387904 < b) (h : b - a ≤ 16777216) : rgOk a b = true := by
  unfold rgOk
  simp only [Bool.and_eq_true, decide_eq_true_eq]
  omega
theorem rgI_nat (n : Nat) : rgI 0 (n : Int) = (List.range n).map fun (k : Nat) => (k : Int) := by
  unfold rgI
  simp
theorem rgI_get {n i : Nat} {p : PyData} (h : ((rgI 0 (n : Int)).map PyData.int)[i]? = some p) : i < n ∧ p = .int i := by
  rw [rgI_nat] at h
  simp only [List.getElem?_map, List.getElem?_range', Option.map_map] at h
  by_cases hi : i < n
  · rw [List.getElem?_range hi] at h
    simp at h
    exact ⟨hi, h.symm⟩
  · rw [List.getElem?_eq_none (by simpa using hi)] at h
    simp at h
theorem rgI_len (n : Nat) : ((rgI 0 (n : Int)).map PyData.int).length = n := by rw [rgI_nat]; simp
theorem mem_rgI {n : Nat} {p : PyData} (h : p ∈ (rgI 0 (n : Int)).map PyData.int) : ∃ i, i < n ∧ p = .int (i : Nat) := by
  obtain ⟨i, hi⟩ := List.getElem?_of_mem h
  exact ⟨i, rgI_get hi⟩
theorem mulOk_mod {a j : Int} : mulOk (a % 2147483647) j = true := by
  unfold mulOk
  have h1 : 0 ≤ a % 2147483647 := Int.emod_nonneg _ (by decide)
  have h2 : a % 2147483647 < 2147483647 := Int.emod_lt_of_pos _ (by decide)
  generalize a % 2147483647 = m at h1 h2
  simp only [Bool.or_eq_true, decide_eq_true_eq]
  omega
theorem mulOk_r {i j : Int} (h : j.natAbs < 18446744073709551616) : mulOk i j = true := by
  unfold mulOk
  simp only [Bool.or_eq_true, decide_eq_true_eq]
  exact .inr h
theorem divOk_of {j : Int} (h : 0 < j) (h' : j ≤ 1000000000000) : divOk j = true := by
  unfold divOk
  simp only [Bool.and_eq_true, decide_eq_true_eq]
  omega
/-! ### compared -/
theorem depth_int : ∀ ns : List Int, PyData.depthAll (ns.map .int) = 0
  | [] => by simp [PyData.depthAll]
  | n :: ns => by
    have := depth_int ns
    simp [PyData.depthAll, PyData.depth, this]
theorem cmpOk_IL (ns : List Int) : cmpOk (IL ns) = true := by
  simp [cmpOk, noDict, noDicts_int, PyData.depth, depth_int]
theorem eqvAll_int : ∀ a b : List Int, PyData.eqvAll (a.map .int) (b.map .int) = decide (a = b)
  | [], [] => rfl
  | x :: xs, y :: ys => by simp [PyData.eqvAll, PyData.eqv, eqvAll_int xs ys, Bool.decide_and]; rfl
  | [], _ :: _ => rfl
  | _ :: _, [] => rfl
theorem cmp_eqi {i j : Int} : cmpP .eq (.int i) (.int j) = .ok (decide (i = j)) := by
  rw [x10 (by simp [cmpOk, noDict, PyData.depth]) (by simp [cmpOk, noDict, PyData.depth])]
  rfl
theorem cmp_nei {i j : Int} : cmpP .ne (.int i) (.int j) = .ok (!decide (i = j)) := by
  rw [x11 (by simp [cmpOk, noDict, PyData.depth]) (by simp [cmpOk, noDict, PyData.depth])]
  rfl
theorem eqv_IL (a b : List Int) : PyData.eqv (IL a) (IL b) = decide (a = b) := by
  simp [PyData.eqv, eqvAll_int]
theorem cmpOk_int (i : Int) : cmpOk (.int i) = true := by simp [cmpOk, noDict, PyData.depth]
theorem cmpOk_bool (i : Bool) : cmpOk (.bool i) = true := by simp [cmpOk, noDict, PyData.depth]
theorem cmpOk_str (i : Str) : cmpOk (.str i) = true := by simp [cmpOk, noDict, PyData.depth]
theorem cmpOk_non : cmpOk .none = true := by simp [cmpOk, noDict, PyData.depth]
end Hv

/-! Hw, part 3: texts by their signs; loops as folds. -/
namespace Hv
open PySem

abbrev tx (l : List Nat) : PyData := .str (SX.S l)
abbrev ch (c : Nat) : PyData := .str (SX.S [c])
section
variable {d e : D} {ds : List D} {al bl : Al} {p q : PyData} {ps qs : List PyData} {ρ : Env} {b b' w : Bool} {i j : Int} {n m c : Nat} {C : Cal} {G : Glo} {B : Sub} {l l' : List Nat}
theorem sl1 (a b : Nat) : (([a] : List Nat) < [b]) ↔ a < b := by
  constructor
  · intro h
    cases h with
    | rel h => exact h
    | cons h => cases h
  · intro h
    exact .rel h
theorem le_tl : cmpP .le (tx [n]) (ch c) = .ok (decide (n ≤ c)) := by
  show BR.ok (!decide (([c] : List Nat) < [n])) = _
  congr 1
  simp only [sl1, ← decide_not]
  congr 1
  exact propext Nat.not_lt
theorem in_tx : cmpP .in_ (ch c) (tx l) = .ok (decide (c ∈ l)) := by
  show BR.ok (strIn (SX.S [c]) (SX.S l)) = _
  unfold strIn
  rw [SX.in_one]
theorem nin_tx : cmpP .nin (ch c) (tx l) = .ok (!decide (c ∈ l)) := by
  show (match inP (ch c) (tx l) with
    | .ok b => BR.ok (!b)
    | .stuck => .stuck) = _
  have : inP (ch c) (tx l) = .ok (decide (c ∈ l)) := in_tx
  rw [this]
theorem eq_tx : cmpP .eq (tx l) (tx l') = .ok (decide (l = l')) := by
  rw [x10 (cmpOk_str _) (cmpOk_str _)]
  show BR.ok (SX.S l == SX.S l') = _
  rw [SX.S_beq_eq]
theorem ne_tx : cmpP .ne (tx l) (tx l') = .ok (!decide (l = l')) := by
  rw [x11 (cmpOk_str _) (cmpOk_str _)]
  show BR.ok (!(SX.S l == SX.S l')) = _
  rw [SX.S_beq_eq]
theorem cat_tx (h : l.length + l'.length ≤ 16777216) : binP .add w al (tx l) (tx l') = .ok (.v (tx (l ++ l'))) [] := by
  show (if (SX.S l).length + (SX.S l').length ≤ SZ then R.ok (.v (.str (SX.S l ++ SX.S l'))) [] else .stuck) = _
  rw [SX.S_len, SX.S_len, SX.S_cat, if_pos (show _ ≤ SZ from h)]
theorem elems_tx (h : l.length ≤ 16777216) : elems (.v (tx l)) al = some (l.map ch, true, []) := by
  show (if (SX.S l).length ≤ SZ then some ((SX.S l).cps.toList.map fun c => PyData.str ⟨#[c]⟩, true, ([] : Al)) else none) = _
  rw [SX.S_len, if_pos (show _ ≤ SZ from h)]
theorem f_tx {tg : Tg} {b : List S} (h : l.length ≤ 16777216) : forD .seq [.v (tx l)] [] C G B tg b ρ = forR (fun p ρ => setT tg true p ρ) (blk C G B b) (l.map ch) ρ := by
  unfold forD itemsR
  simp only [elems_tx h, List.all_nil, if_true, frz]
theorem l_tx {f : List PyData → Bool → Rl} (h : l.length ≤ 16777216) : lcI .seq [.v (tx l)] al f = lcO (f (l.map ch) true) [] := by
  unfold lcI itemsR
  simp only [elems_tx h]
theorem strOk_S (h : ∀ c ∈ l, c < 1114112) : PyData.strOk (SX.S l) = true := strOk_iff.mpr fun c hc => h c (by simpa using hc)
theorem joinL_flat : ∀ (ls : List (List Nat)), TL.joinL [] ls = ls.flatten
  | [] => rfl
  | [p] => by simp [TL.joinL]
  | p :: q :: r => by
    show p ++ ([] ++ TL.joinL [] (q :: r)) = _
    rw [joinL_flat (q :: r)]
    simp
theorem strsOf_tx : ∀ (ls : List (List Nat)), strsOf (ls.map tx) = some (ls.map SX.S)
  | [] => rfl
  | p :: ls => by simp only [List.map_cons, strsOf, strsOf_tx ls, Option.map_some]
theorem sum_len : ∀ ls : List (List Nat), ((ls.map SX.S).map (·.length)).sum = ls.flatten.length
  | [] => rfl
  | p :: ls => by
    have := sum_len ls
    simp only [List.map_cons, List.sum_cons, List.flatten_cons, List.length_append, SX.S_len] at this ⊢
    omega
theorem join_tx (ls : List (List Nat)) (h : ls.flatten.length ≤ 16777216) (hk : ∀ c ∈ ls.flatten, c < 1114112) : joinR (SX.S []) (ls.map tx) = .ok (.v (tx ls.flatten)) [] := by
  unfold joinR
  rw [strsOf_tx]
  simp only
  rw [sum_len, SX.S_len, SX.join_S, joinL_flat, List.length_nil, Nat.mul_zero, Nat.add_zero, if_pos (show _ ≤ SZ from h)]
  unfold okS
  rw [if_pos (strOk_S hk)]
theorem len_tx (h : l.length ≤ 16777216) : biR .len [.v (tx l)] al = .ok (.v (.int l.length)) [] := by
  show (if (SX.S l).length ≤ SZ then R.ok (.v (.int ((SX.S l).length : Nat))) [] else .stuck) = _
  rw [SX.S_len, if_pos (show _ ≤ SZ from h)]
theorem ix_tx {m : Nat} (h : l.length ≤ 16777216) : ixP w al (tx l) (.int (m : Int)) = match l[m]? with
    | some c => .ok (.v (ch c)) []
    | none => .stuck := by
  show (if (SX.S l).length ≤ SZ then (match L2.atI (SX.S l).cps.toList (m : Int) with
      | some c => R.ok (.v (.str ⟨#[c]⟩)) []
      | none => .stuck) else .stuck) = _
  rw [SX.S_len, if_pos (show _ ≤ SZ from h), atI_nat']
theorem fz_tx : fz b (tx l) = .v (tx l) := v9
theorem mutDs_tx : ∀ ls : List (List Nat), mutDs (ls.map tx) = false
  | [] => rfl
  | p :: ls => by simp only [List.map_cons, mutDs, mutD, mutDs_tx ls, Bool.false_or]
theorem mutDs_ch : ∀ ls : List Nat, mutDs (ls.map ch) = false
  | [] => rfl
  | p :: ls => by simp only [List.map_cons, mutDs, mutD, mutDs_ch ls, Bool.false_or]
/-- the last item -/
theorem atI_last {α : Type} (xs : List α) (x : α) : L2.atI (xs ++ [x]) (-1) = some x := by
  unfold L2.atI L2.ixN
  have h : ¬ (0 : Int) ≤ -1 := by decide
  rw [if_neg h]
  have h2 : -(((xs ++ [x]).length : Nat) : Int) ≤ -1 := by simp; omega
  rw [if_pos h2]
  have : (-1 + ((xs ++ [x]).length : Int)).toNat = xs.length := by simp; omega
  rw [this]
  simp
theorem ixN_last {n : Nat} : L2.ixN (n + 1) (-1) = some n := by
  unfold L2.ixN
  have h : ¬ (0 : Int) ≤ -1 := by decide
  rw [if_neg h]
  have h2 : -((n + 1 : Nat) : Int) ≤ -1 := by omega
  rw [if_pos h2]
  have : (-1 + ((n + 1 : Nat) : Int)).toNat = n := by omega
  rw [this]
theorem ixv_last : ixvD n (some (some (oL (ps ++ [p])))) (.ok (.v (.int (-1))) al) = .ok (.v p) [] := by
  show dat (.v (.int (-1))) (ixO n ((ps ++ [p]).map .v)) = _
  rw [s26]
  show (match L2.atI ((ps ++ [p]).map D.v) (-1) with
    | some e => match view e with
      | some w => R.ok w (if isFz e then [] else [n])
      | none => .stuck
    | none => .stuck) = _
  rw [List.map_append, List.map_singleton, atI_last]
  simp only [view, data, Option.map_some, isNew, fz, isFz, if_true]
  cases mutD p <;> rfl
theorem setR_eq {js : List Int} : setR n (some js) (.ok (.v (.int j)) al) d bl ρ = updR n js (setF j d) bl ρ := rfl
theorem set_last : updE n [] (setF (-1) (.v q)) [] ρ (some (some (oL (ps ++ [p])))) = .next (ρ.set n (some (oL (ps ++ [q])))) := by
  have e : setF (-1) (.v q) ((ps ++ [p]).map D.v) = some ((ps ++ [q]).map D.v) := by
    unfold setF
    rw [List.length_map, List.length_append, List.length_singleton, ixN_last]
    simp
  unfold updE oL updD
  simp only [e, List.contains_nil, Bool.false_eq_true, if_false, frz]
theorem t_seti {path : List E} {x e : E} : sv C G B (.seti n path x e) ρ = (ev C G e ρ).e.bindS ρ fun d al => setR n (pathJ (seqR (evs C G path ρ))) (ev C G x ρ).e d al ρ := by simp only [sv]
theorem e_mth {m : Mt} {o : E} {es : List E} : ev C G (.mth m o es) ρ = vt ((ev C G o ρ).e.bind fun x _ => strR x fun a => (seqR (evs C G es ρ)).bind fun ds _ => mtR m a ds) := rfl
theorem strR_v {a : Str} {f : Str → R} : strR (.v (.str a)) f = f a := rfl
theorem mtR1 {m : Mt} {a : Str} (h : data d = some q) : mtR m a [d] = mt1R m a q := by simp only [mtR, h]
theorem mt_j {a : Str} : mt1R .join a (.list ps) = joinR a ps := rfl
theorem k2b : callR (.ok (.v (.bool b))) al = .ok (.v (.bool b)) [] := rfl
theorem k2i : callR (.ok (.v (.int i))) al = .ok (.v (.int i)) [] := rfl
theorem k2s {a : Str} : callR (.ok (.v (.str a))) al = .ok (.v (.str a)) [] := rfl
theorem k2n : callR (.ok (.v .none)) al = .ok (.v .none) [] := rfl
theorem l2n {f : List PyData → Bool → Rl} (h : mutDs ps = false) : lcI .seq [.n (.list ps)] al f = lcO (f ps true) [] := by
  unfold lcI itemsR elems
  simp only [data, isNew, h, Bool.false_eq_true, if_false]
theorem l2v {f : List PyData → Bool → Rl} (h : mutDs ps = false) : lcI .seq [.v (.list ps)] al f = lcO (f ps (isNew (.v (.list ps)))) [] := by
  unfold lcI itemsR elems
  simp only [data, h, Bool.false_eq_true, if_false]
theorem we0 : wipeE ρ [] = ρ := rfl
theorem we1 {is : List Nat} : wipeE ρ (n :: is) = (wipeE ρ is).set n none := rfl
theorem l3c {α : Type} {g : α → PyData} {cs : List α} (h : mutDs (cs.map g) = false) : lcO (.ok (cs.map (D.v ∘ g)) bl) al = .ok (oL (cs.map g)) [] := by
  rw [← List.map_map]
  exact l3 h
theorem zl3 {pa pb pc : PyData} : D.ol [.v pa, .v pb, .v pc] = oL [pa, pb, pc] := rfl
theorem zl4 {pa pb pc pd : PyData} : D.ol [.v pa, .v pb, .v pc, .v pd] = oL [pa, pb, pc, pd] := rfl
theorem zl5 {pa pb pc pd pe : PyData} : D.ol [.v pa, .v pb, .v pc, .v pd, .v pe] = oL [pa, pb, pc, pd, pe] := rfl
theorem zl6 {pa pb pc pd pe pf : PyData} : D.ol [.v pa, .v pb, .v pc, .v pd, .v pe, .v pf] = oL [pa, pb, pc, pd, pe, pf] := rfl
theorem zl7 {pa pb pc pd pe pf pg : PyData} : D.ol [.v pa, .v pb, .v pc, .v pd, .v pe, .v pf, .v pg] = oL [pa, pb, pc, pd, pe, pf, pg] := rfl
theorem zl8 {pa pb pc pd pe pf pg ph : PyData} : D.ol [.v pa, .v pb, .v pc, .v pd, .v pe, .v pf, .v pg, .v ph] = oL [pa, pb, pc, pd, pe, pf, pg, ph] := rfl
theorem zl9 {pa pb pc pd pe pf pg ph pi_ : PyData} : D.ol [.v pa, .v pb, .v pc, .v pd, .v pe, .v pf, .v pg, .v ph, .v pi_] = oL [pa, pb, pc, pd, pe, pf, pg, ph, pi_] := rfl
theorem zl10 {pa pb pc pd pe pf pg ph pi_ pj : PyData} : D.ol [.v pa, .v pb, .v pc, .v pd, .v pe, .v pf, .v pg, .v ph, .v pi_, .v pj] = oL [pa, pb, pc, pd, pe, pf, pg, ph, pi_, pj] := rfl
theorem zl11 {pa pb pc pd pe pf pg ph pi_ pj pk : PyData} : D.ol [.v pa, .v pb, .v pc, .v pd, .v pe, .v pf, .v pg, .v ph, .v pi_, .v pj, .v pk] = oL [pa, pb, pc, pd, pe, pf, pg, ph, pi_, pj, pk] := rfl
theorem zl12 {pa pb pc pd pe pf pg ph pi_ pj pk pl : PyData} : D.ol [.v pa, .v pb, .v pc, .v pd, .v pe, .v pf, .v pg, .v ph, .v pi_, .v pj, .v pk, .v pl] = oL [pa, pb, pc, pd, pe, pf, pg, ph, pi_, pj, pk, pl] := rfl
theorem zl13 {pa pb pc pd pe pf pg ph pi_ pj pk pl pm : PyData} : D.ol [.v pa, .v pb, .v pc, .v pd, .v pe, .v pf, .v pg, .v ph, .v pi_, .v pj, .v pk, .v pl, .v pm] = oL [pa, pb, pc, pd, pe, pf, pg, ph, pi_, pj, pk, pl, pm] := rfl
theorem zl14 {pa pb pc pd pe pf pg ph pi_ pj pk pl pm pn : PyData} : D.ol [.v pa, .v pb, .v pc, .v pd, .v pe, .v pf, .v pg, .v ph, .v pi_, .v pj, .v pk, .v pl, .v pm, .v pn] = oL [pa, pb, pc, pd, pe, pf, pg, ph, pi_, pj, pk, pl, pm, pn] := rfl
theorem zl15 {pa pb pc pd pe pf pg ph pi_ pj pk pl pm pn po : PyData} : D.ol [.v pa, .v pb, .v pc, .v pd, .v pe, .v pf, .v pg, .v ph, .v pi_, .v pj, .v pk, .v pl, .v pm, .v pn, .v po] = oL [pa, pb, pc, pd, pe, pf, pg, ph, pi_, pj, pk, pl, pm, pn, po] := rfl
theorem zl16 {pa pb pc pd pe pf pg ph pi_ pj pk pl pm pn po pp : PyData} : D.ol [.v pa, .v pb, .v pc, .v pd, .v pe, .v pf, .v pg, .v ph, .v pi_, .v pj, .v pk, .v pl, .v pm, .v pn, .v po, .v pp] = oL [pa, pb, pc, pd, pe, pf, pg, ph, pi_, pj, pk, pl, pm, pn, po, pp] := rfl
theorem xi0 : ixvD n (some (some (oL ps))) (.ok (.v (.int 0)) al) = match ps[0]? with
    | some p => .ok (.v p) []
    | none => .stuck := x36 (m := 0)
theorem xi1 : ixvD n (some (some (oL ps))) (.ok (.v (.int 1)) al) = match ps[1]? with
    | some p => .ok (.v p) []
    | none => .stuck := x36 (m := 1)
theorem xi2 : ixvD n (some (some (oL ps))) (.ok (.v (.int 2)) al) = match ps[2]? with
    | some p => .ok (.v p) []
    | none => .stuck := x36 (m := 2)
theorem xi3 : ixvD n (some (some (oL ps))) (.ok (.v (.int 3)) al) = match ps[3]? with
    | some p => .ok (.v p) []
    | none => .stuck := x36 (m := 3)
theorem xi4 : ixvD n (some (some (oL ps))) (.ok (.v (.int 4)) al) = match ps[4]? with
    | some p => .ok (.v p) []
    | none => .stuck := x36 (m := 4)
theorem xi5 : ixvD n (some (some (oL ps))) (.ok (.v (.int 5)) al) = match ps[5]? with
    | some p => .ok (.v p) []
    | none => .stuck := x36 (m := 5)
theorem xi6 : ixvD n (some (some (oL ps))) (.ok (.v (.int 6)) al) = match ps[6]? with
    | some p => .ok (.v p) []
    | none => .stuck := x36 (m := 6)
theorem xi7 : ixvD n (some (some (oL ps))) (.ok (.v (.int 7)) al) = match ps[7]? with
    | some p => .ok (.v p) []
    | none => .stuck := x36 (m := 7)
theorem xi8 : ixvD n (some (some (oL ps))) (.ok (.v (.int 8)) al) = match ps[8]? with
    | some p => .ok (.v p) []
    | none => .stuck := x36 (m := 8)
theorem xi9 : ixvD n (some (some (oL ps))) (.ok (.v (.int 9)) al) = match ps[9]? with
    | some p => .ok (.v p) []
    | none => .stuck := x36 (m := 9)
theorem xi10 : ixvD n (some (some (oL ps))) (.ok (.v (.int 10)) al) = match ps[10]? with
    | some p => .ok (.v p) []
    | none => .stuck := x36 (m := 10)
theorem xi11 : ixvD n (some (some (oL ps))) (.ok (.v (.int 11)) al) = match ps[11]? with
    | some p => .ok (.v p) []
    | none => .stuck := x36 (m := 11)
theorem xi12 : ixvD n (some (some (oL ps))) (.ok (.v (.int 12)) al) = match ps[12]? with
    | some p => .ok (.v p) []
    | none => .stuck := x36 (m := 12)
theorem xi13 : ixvD n (some (some (oL ps))) (.ok (.v (.int 13)) al) = match ps[13]? with
    | some p => .ok (.v p) []
    | none => .stuck := x36 (m := 13)
theorem xi14 : ixvD n (some (some (oL ps))) (.ok (.v (.int 14)) al) = match ps[14]? with
    | some p => .ok (.v p) []
    | none => .stuck := x36 (m := 14)
theorem xi15 : ixvD n (some (some (oL ps))) (.ok (.v (.int 15)) al) = match ps[15]? with
    | some p => .ok (.v p) []
    | none => .stuck := x36 (m := 15)
theorem md1 : mutD (.int i) = false := rfl
theorem md2 : mutD (.bool b) = false := rfl
theorem md3 {a : Str} : mutD (.str a) = false := rfl
theorem md4 : mutD .none = false := rfl
theorem md5 : mutDs (p :: ps) = (mutD p || mutDs ps) := rfl
theorem neg1 : (R.ok (.v (.int i)) al).bind (fun x _ => dat x fun p => match p with
    | .int i => .ok (.v (.int (-i))) []
    | _ => .stuck) = .ok (.v (.int (-i))) [] := rfl
end
section
variable {st : PyData → Env → Option Env} {body : Env → RS} {ρ0 : Env} {r : RS}
/-- a loop as a fold: the state, and what else the slots hold -/
theorem go_foldk {α σ τ : Type} {f : α → PyData} (enc : σ → τ → Env) (step : σ → α → σ) (I : Nat → σ → Prop) (N : Nat) : ∀ {cs : List α} {k : Nat} {ρ0 : Env} (hk : k + cs.length = N) (hf : forR st body (cs.map f) ρ0 = r) {s : σ} {t : τ}, ρ0 = enc s t → I k s →
    (∀ i s t, i < N → ∀ c ∈ cs, I i s → I (i + 1) (step s c) ∧ ∃ ρ1, st (f c) (enc s t) = some ρ1 ∧ Nx (body ρ1) (fun ρ => ∃ t', ρ = enc (step s c) t')) → ∃ t', r = .next (enc (cs.foldl step s) t') ∧ I N (cs.foldl step s)
  | [], k, ρ0, hk, hf, s, t, h0, hI, _ => ⟨t, by rw [← hf, h0]; rfl, by simp only [List.length_nil, Nat.add_zero] at hk; exact hk ▸ hI⟩
  | c :: cs, k, ρ0, hk, hf, s, t, h0, hI, h => by
    rw [List.length_cons] at hk
    obtain ⟨h1, ρ1, h2, h3⟩ := h k s t (by omega) c List.mem_cons_self hI
    obtain ⟨ρ2, h4, t', h5⟩ := nx_ex h3
    subst h0
    rw [List.map_cons, forR_step, h2] at hf
    have hf : forR st body (cs.map f) ρ2 = r := by
      rcases h4 with h4 | h4 <;> simpa only [h4] using hf
    exact go_foldk enc step I N (k := k + 1) (by omega) hf h5 h1 fun i s t hi c hc => h i s t hi c (List.mem_cons_of_mem _ hc)
theorem go_fold {α σ τ : Type} {f : α → PyData} (enc : σ → τ → Env) (step : σ → α → σ) (I : Nat → σ → Prop) {cs : List α} (hf : forR st body (cs.map f) ρ0 = r) (s : σ) (t : τ) (h0 : ρ0 = enc s t) (hI : I 0 s)
    (h : ∀ i s t, i < cs.length → ∀ c ∈ cs, I i s → I (i + 1) (step s c) ∧ ∃ ρ1, st (f c) (enc s t) = some ρ1 ∧ Nx (body ρ1) (fun ρ => ∃ t', ρ = enc (step s c) t')) : ∃ t', r = .next (enc (cs.foldl step s) t') ∧ I cs.length (cs.foldl step s) :=
  go_foldk enc step I cs.length (k := 0) (by omega) hf h0 hI h
end
/-- a comprehension over mapped items -/
theorem lcR_mapf {α : Type} {st : PyData → Option Env} {cd : Env → TR} {el : Env → R} {f : α → PyData} (g : α → PyData) {cs : List α} (h : ∀ c ∈ cs, ∃ ρ, st (f c) = some ρ ∧ cd ρ = .ok true ∧ el ρ = .ok (.v (g c)) []) : lcR st cd el (cs.map f) = .ok ((cs.map g).map .v) [] := by
  induction cs with
  | nil => rfl
  | cons c cs ih =>
    obtain ⟨ρ, h1, h2, h3⟩ := h c List.mem_cons_self
    have ih := ih fun c hc => h c (List.mem_cons_of_mem _ hc)
    rw [List.map_cons]
    unfold lcR
    simp only [h1, h2, h3, ih]
    rfl
/-- .. that leaves some out -/
theorem lcR_filf {α : Type} {st : PyData → Option Env} {cd : Env → TR} {el : Env → R} {f : α → PyData} (b : α → Bool) (g : α → PyData) {cs : List α} (h : ∀ c ∈ cs, ∃ ρ, st (f c) = some ρ ∧ cd ρ = .ok (b c) ∧ (b c = true → el ρ = .ok (.v (g c)) [])) : lcR st cd el (cs.map f) = .ok (((cs.filter b).map g).map .v) [] := by
  induction cs with
  | nil => rfl
  | cons c cs ih =>
    obtain ⟨ρ, h1, h2, h3⟩ := h c List.mem_cons_self
    have ih := ih fun c hc => h c (List.mem_cons_of_mem _ hc)
    rw [List.map_cons]
    unfold lcR
    simp only [h1, h2]
    cases e : b c with
    | true => simp only [h3 e, ih, List.filter_cons, e, if_true]; rfl
    | false => simp only [ih, List.filter_cons, e, Bool.false_eq_true, if_false]
theorem lc1 {α : Type} {C : Cal} {G : Glo} {own : List Nat} {i : Nat} {elt : E} {ρ : Env} {b : Bool} {f g : α → PyData} {cs : List α} (h : ∀ c ∈ cs, (ev C G elt ((wipeE ρ own).set i (some (fz b (f c))))).e = .ok (.v (g c)) []) :
    lcT C G own (.name i) [] elt ρ (cs.map f) b = .ok ((cs.map g).map .v) [] :=
  lcR_mapf g fun c hc => ⟨_, rfl, rfl, h c hc⟩
theorem mutDs_mi {α : Type} (h : α → Int) : ∀ cs : List α, mutDs (cs.map fun c => .int (h c)) = false
  | [] => rfl
  | c :: cs => by simp only [List.map_cons, mutDs, mutD, mutDs_mi h cs, Bool.false_or]
theorem intsOf_mi {α : Type} (h : α → Int) : ∀ cs : List α, intsOf (cs.map fun c => .int (h c)) = some (cs.map h)
  | [] => rfl
  | c :: cs => by simp only [List.map_cons, intsOf, intsOf_mi h cs, Option.map_some]
theorem sum_mi {α : Type} {al : Al} (h : α → Int) (cs : List α) : biR .sum [oL (cs.map fun c => .int (h c))] al = .ok (.v (.int (cs.map h).sum)) [] := by
  show bi1 .sum (oL (cs.map fun c => .int (h c))) al = _
  simp only [bi1, data_oL, intsOf_mi]
theorem nx_seq {r : RS} {f : Env → RS} {Q : Env → Prop} (ρ' : Env) (h : r = .next ρ') (h2 : Nx (f ρ') Q) : Nx (seqS r f) Q := by rw [h]; exact h2
theorem re_seq {r : RS} {f : Env → RS} {q : CR} (ρ' : Env) (h : r = .next ρ') (h2 : retC (f ρ') = q) : retC (seqS r f) = q := by rw [h]; exact h2
theorem re_seqE {τ : Type} {r : RS} {f : Env → RS} {q : CR} (ρ' : τ → Env) (h : ∃ t, r = .next (ρ' t)) (h2 : ∀ t, retC (f (ρ' t)) = q) : retC (seqS r f) = q := by
  obtain ⟨t, rfl⟩ := h
  exact h2 t
theorem nx_seqE {τ : Type} {r : RS} {f : Env → RS} {Q : Env → Prop} (ρ' : τ → Env) (h : ∃ t, r = .next (ρ' t)) (h2 : ∀ t, Nx (f (ρ' t)) Q) : Nx (seqS r f) Q := by
  obtain ⟨t, rfl⟩ := h
  exact h2 t
/-- a loop that only looks -/
theorem go_chk {α τ : Type} {st : PyData → Env → Option Env} {body : Env → RS} {f : α → PyData} {cs : List α} {ρ0 : Env} (enc : τ → Env) (t : τ) (h0 : ρ0 = enc t) (h : ∀ t, ∀ c ∈ cs, ∃ ρ1, st (f c) (enc t) = some ρ1 ∧ Nx (body ρ1) (fun ρ => ∃ t', ρ = enc t')) :
    ∃ t', forR st body (cs.map f) ρ0 = .next (enc t') := by
  obtain ⟨t', e, _⟩ := go_fold (σ := Unit) (fun _ t => enc t) (fun _ _ => ()) (fun _ _ => True) rfl () t h0 trivial (fun i s t hi c hc _ => ⟨trivial, h t c hc⟩)
  exact ⟨t', e⟩
end Hv

/-! Hw, part 4: try; loops that end early; what is not int. -/
namespace Hv
open PySem

section
variable {C : Cal} {G : Glo} {B : Sub} {ρ ρ' : Env} {c x y : Str} {d : D} {al : Al} {p q : PyData} {ps : List PyData} {n : Nat}
/-- a try by what its body did -/
noncomputable def tryD (C : Cal) (G : Glo) (B : Sub) (hs : List (List (Str × Bool) × Option Nat × List S)) : RS → RS
  | .exc c ρ' => hnd C G B c hs ρ'
  | r => r
theorem t_try {b : List S} {hs : List (List (Str × Bool) × Option Nat × List S)} : sv C G B (.try_ b hs) ρ = tryD C G B hs (svs C G B b ρ) := by
  simp only [sv]
  rfl
theorem try1 {hs : List (List (Str × Bool) × Option Nat × List S)} : tryD C G B hs (.ret d) = .ret d := rfl
theorem try2 {hs : List (List (Str × Bool) × Option Nat × List S)} : tryD C G B hs (.next ρ) = .next ρ := rfl
theorem try3 {hs : List (List (Str × Bool) × Option Nat × List S)} : tryD C G B hs (.exc c ρ) = hnd C G B c hs ρ := rfl
theorem hnd0 : hnd C G B c [] ρ = .exc c ρ := by simp only [hnd]
theorem hndT {cs : List (Str × Bool)} {o : Option Nat} {b : List S} {hs : List (List (Str × Bool) × Option Nat × List S)} (h : cs.lookup c = some true) : hnd C G B c ((cs, o, b) :: hs) ρ = outX o (blk C (setX G c) B b (inX o ρ)) := by simp only [hnd, h]; rfl
theorem hndF' {cs : List (Str × Bool)} {o : Option Nat} {b : List S} {hs : List (List (Str × Bool) × Option Nat × List S)} (h : cs.lookup c = some false) : hnd C G B c ((cs, o, b) :: hs) ρ = hnd C G B c hs ρ := by simp only [hnd, h]
theorem e_ise {cs : List (Str × Bool)} {i : Nat} : ev C G (.ise i cs) ρ = vt (iseR G i cs ρ) := rfl
def iseD (G : Glo) (cs : List (Str × Bool)) : Option (Option D) → R
  | some (some .exn) => match G xk with
    | some (.str c) => match cs.lookup c with
      | some b => .ok (.v (.bool b)) []
      | none => .stuck
    | _ => .stuck
  | _ => .stuck
theorem ise_eq {cs : List (Str × Bool)} {i : Nat} : iseR G i cs ρ = iseD G cs ρ[i]? := rfl
theorem iseD_ok {cs : List (Str × Bool)} {b : Bool} (h : cs.lookup c = some b) : iseD (setX G c) cs (some (some .exn)) = .ok (.v (.bool b)) [] := by
  unfold iseD setX
  simp only [if_true, h]
theorem outX_ret {o : Option Nat} (h : noX d = true) : outX o (.ret d) = .ret d := by simp only [outX, h, if_true]
theorem noX_v : noX (.v p) = true := rfl
theorem inX_s : inX (some n) ρ = ρ.set n (some .exn) := rfl
theorem lk_hit {b : Bool} {l : List (Str × Bool)} : ((x, b) :: l).lookup x = some b := by simp [List.lookup]
theorem lk_miss {b : Bool} {l : List (Str × Bool)} (h : (x == y) = false) : ((y, b) :: l).lookup x = l.lookup x := by simp [List.lookup, h]
theorem t_drop {e : E} : sv C G B (.drop e) ρ = (ev C G e ρ).e.bindS ρ fun _ _ => .next ρ := by simp only [sv]
theorem t_raise : sv C G B (.raise_ c) ρ = .exc c ρ := by simp only [sv]
theorem s_ex {f : D → Al → RS} : (R.exc c).bindS ρ f = .exc c ρ := rfl
theorem s_exb {f : D → Al → R} : (R.exc c).bind f = .exc c := rfl
theorem s_exl {f : D → Al → Rl} : (R.exc c).bindL f = .exc c := rfl
theorem s_exll {f : List D → Al → Rl} : (Rl.exc c).bindL f = .exc c := rfl
theorem s_exlb {f : List D → Al → R} : (Rl.exc c).bind f = .exc c := rfl
theorem k2e : callR (.exc c) al = .exc c := rfl
end
section
variable {st : PyData → Env → Option Env} {body : Env → RS} {ρ0 : Env}
/-- a loop that goes on while b holds, and ends the body's way at the first item where it does not -/
theorem go_all {α τ : Type} {f : α → PyData} (b : α → Bool) (enc : τ → Env) (r : RS → Prop) :
    ∀ {cs : List α} {ρ0 : Env} (t : τ) (h0 : ρ0 = enc t), (∀ t, ∀ c ∈ cs, ∃ ρ1, st (f c) (enc t) = some ρ1 ∧ (b c = true → Nx (body ρ1) (fun ρ => ∃ t', ρ = enc t')) ∧ (b c = false → ((∃ c ρ, body ρ1 = .exc c ρ) ∨ ∃ d, body ρ1 = .ret d) ∧ r (body ρ1))) →
    (cs.all b = true ∧ ∃ t', forR st body (cs.map f) ρ0 = .next (enc t')) ∨ (cs.all b = false ∧ r (forR st body (cs.map f) ρ0))
  | [], ρ0, t, h0, _ => .inl ⟨rfl, t, by rw [h0]; rfl⟩
  | c :: cs, ρ0, t, h0, h => by
    obtain ⟨ρ1, h1, h2, h3⟩ := h t c List.mem_cons_self
    subst h0
    rw [List.map_cons, forR_step, h1]
    cases hb : b c with
    | true =>
      obtain ⟨ρ2, h4, t', h5⟩ := nx_ex (h2 hb)
      have ih := go_all b enc r (cs := cs) (ρ0 := ρ2) t' h5 fun t c hc => h t c (List.mem_cons_of_mem _ hc)
      rw [List.all_cons, hb, Bool.true_and]
      rcases h4 with h4 | h4 <;> (simp only [h4]; exact ih)
    | false =>
      obtain ⟨h4, h5⟩ := h3 hb
      rw [List.all_cons, hb, Bool.false_and]
      refine .inr ⟨rfl, ?_⟩
      rcases h4 with ⟨c', ρ', h4⟩ | ⟨d, h4⟩
      · rw [h4] at h5; simp only [h4]; exact h5
      · rw [h4] at h5; simp only [h4]; exact h5
end
/-! ### values of all kinds -/
theorem data_fz (b : Bool) (p : PyData) : data (fz b p) = some p := by unfold fz; split <;> rfl
theorem itR_nil (b : Bool) (p : PyData) : itR b p [] = .ok (fz b p) [] := by
  unfold itR
  by_cases h : mutD p = true
  · rw [if_pos h]
  · rw [if_neg h, v12 (by simpa using h)]
theorem kf {b : Bool} {p : PyData} {ds : List D} : datas (fz b p :: ds) = (datas ds).map (p :: ·) := k5 (data_fz b p)
theorem var_fz {n : Nat} {b : Bool} {p : PyData} : varD n (some (some (fz b p))) = .ok (fz b p) [] := by
  unfold fz
  split <;> rfl
theorem isi_fz {b : Bool} {p : PyData} {f : PyData → R} : dat (fz b p) f = f p := by unfold dat; rw [data_fz]
theorem dat2_fz {b : Bool} {p : PyData} {e : D} {f : PyData → PyData → R} : dat2 (fz b p) e f = dat e fun q => f p q := by unfold dat2; rw [data_fz]; rfl
theorem ty_ii {i : Int} : tyP (.int i) .int = true := rfl
theorem ty_ib {i : Int} : tyP (.int i) .bool = false := rfl
section
variable {C : Cal} {G : Glo} {B : Sub} {ρ ρ' : Env} {c x y : Str} {d : D} {al : Al} {p q : PyData} {ps : List PyData} {n : Nat} {is : List Nat} {b : Bool}
def asgTD (is : List Nat) (ρ : Env) (d : D) (al : Al) : RS := match data d with
  | some p => match setT (.tup is) (isNew d) p (frz al ρ) with
    | some ρ => .next ρ
    | none => .stuck
  | none => .stuck
theorem t_asgT {e : E} : sv C G B (.asgT is e) ρ = (ev C G e ρ).e.bindS ρ fun d al => asgTD is ρ d al := by simp only [sv]; rfl
def nxO : Option Env → RS
  | some ρ => .next ρ
  | none => .stuck
theorem asgT_v : asgTD is ρ (.v p) al = nxO (setT (.tup is) (!mutD p) p (frz al ρ)) := by
  unfold asgTD nxO
  simp only [data, isNew]
theorem asgT_n : asgTD is ρ (.n p) al = nxO (setT (.tup is) true p (frz al ρ)) := by
  unfold asgTD nxO
  simp only [data, isNew]
theorem asgT_l : asgTD is ρ (oL ps) al = nxO (setT (.tup is) (!mutDs ps) (.list ps) (frz al ρ)) := by
  unfold asgTD nxO
  simp only [data_oL, isNew_oL]
theorem nx_s : nxO (some ρ) = .next ρ := rfl
theorem sT1 : setT (.tup is) b (.tuple ps) ρ = setTs b is ps ρ := rfl
theorem sT2 : setT (.tup is) b (.list ps) ρ = setTs b is ps ρ := rfl
theorem sT3 : setTs b (n :: is) (p :: ps) ρ = setTs b is ps (ρ.set n (some (fz b p))) := rfl
theorem sT4 : setTs b [] [] ρ = some ρ := rfl
end
theorem l2t {ps : List PyData} {al : Al} {f : List PyData → Bool → Rl} (h : mutDs ps = false) : lcI .seq [.v (.tuple ps)] al f = lcO (f ps (isNew (.v (.tuple ps)))) [] := by
  unfold lcI itemsR elems
  simp only [data, h, Bool.false_eq_true, if_false]
theorem f_tup {C : Cal} {G : Glo} {B : Sub} {tg : Tg} {b : List S} {ρ : Env} {ps : List PyData} (h : mutDs ps = false) : forD .seq [.v (.tuple ps)] [] C G B tg b ρ = forR (fun p ρ => setT tg (isNew (.v (.tuple ps))) p ρ) (blk C G B b) ps ρ := by
  unfold forD itemsR elems
  simp only [data, h, Bool.false_eq_true, if_false, List.all_nil, if_true, frz]
theorem all_mi {α : Type} {al : Al} (h : α → Bool) (cs : List α) : biR .all [oL (cs.map fun c => .bool (h c))] al = .ok (.v (.bool (cs.all h))) [] := by
  have e : ∀ cs : List α, boolsOf (cs.map fun c => .bool (h c)) = some (cs.map h) := fun cs => by
    induction cs with
    | nil => rfl
    | cons c cs ih => simp only [List.map_cons, boolsOf, ih, Option.map_some]
  show bi1 .all (oL (cs.map fun c => .bool (h c))) al = _
  simp only [bi1, data_oL, e, List.all_map]
  rfl
theorem mutDs_mb {α : Type} (h : α → Bool) : ∀ cs : List α, mutDs (cs.map fun c => .bool (h c)) = false
  | [] => rfl
  | c :: cs => by simp only [List.map_cons, mutDs, mutD, mutDs_mb h cs, Bool.false_or]
theorem lc1i {C : Cal} {G : Glo} {own : List Nat} {i : Nat} {elt : E} {ρ : Env} {b : Bool} {g : PyData → PyData} {cs : List PyData} (h : ∀ c ∈ cs, (ev C G elt ((wipeE ρ own).set i (some (fz b c)))).e = .ok (.v (g c)) []) :
    lcT C G own (.name i) [] elt ρ cs b = .ok ((cs.map g).map .v) [] := by
  have := lc1 (f := id) (cs := cs) (g := g) (own := own) (ρ := ρ) (C := C) (G := G) (elt := elt) (i := i) (b := b) h
  simpa using this
section
variable {b : Bool} {al : Al} {ps : List PyData}
theorem yt0 : ixP b al (.tuple ps) (.int 0) = match ps[0]? with
    | some p => itR b p al
    | none => .stuck := x30 (m := 0)
theorem yt1 : ixP b al (.tuple ps) (.int 1) = match ps[1]? with
    | some p => itR b p al
    | none => .stuck := x30 (m := 1)
theorem yt2 : ixP b al (.tuple ps) (.int 2) = match ps[2]? with
    | some p => itR b p al
    | none => .stuck := x30 (m := 2)
theorem yt3 : ixP b al (.tuple ps) (.int 3) = match ps[3]? with
    | some p => itR b p al
    | none => .stuck := x30 (m := 3)
theorem yt4 : ixP b al (.tuple ps) (.int 4) = match ps[4]? with
    | some p => itR b p al
    | none => .stuck := x30 (m := 4)
theorem yt5 : ixP b al (.tuple ps) (.int 5) = match ps[5]? with
    | some p => itR b p al
    | none => .stuck := x30 (m := 5)
theorem yt6 : ixP b al (.tuple ps) (.int 6) = match ps[6]? with
    | some p => itR b p al
    | none => .stuck := x30 (m := 6)
theorem yt7 : ixP b al (.tuple ps) (.int 7) = match ps[7]? with
    | some p => itR b p al
    | none => .stuck := x30 (m := 7)
theorem yt8 : ixP b al (.tuple ps) (.int 8) = match ps[8]? with
    | some p => itR b p al
    | none => .stuck := x30 (m := 8)
theorem yt9 : ixP b al (.tuple ps) (.int 9) = match ps[9]? with
    | some p => itR b p al
    | none => .stuck := x30 (m := 9)
theorem yl6 : ixP b al (.list ps) (.int 6) = match ps[6]? with
    | some p => itR b p al
    | none => .stuck := x29 (m := 6)
theorem yl7 : ixP b al (.list ps) (.int 7) = match ps[7]? with
    | some p => itR b p al
    | none => .stuck := x29 (m := 7)
theorem yl8 : ixP b al (.list ps) (.int 8) = match ps[8]? with
    | some p => itR b p al
    | none => .stuck := x29 (m := 8)
theorem yl9 : ixP b al (.list ps) (.int 9) = match ps[9]? with
    | some p => itR b p al
    | none => .stuck := x29 (m := 9)
theorem yl10 : ixP b al (.list ps) (.int 10) = match ps[10]? with
    | some p => itR b p al
    | none => .stuck := x29 (m := 10)
theorem yl11 : ixP b al (.list ps) (.int 11) = match ps[11]? with
    | some p => itR b p al
    | none => .stuck := x29 (m := 11)
theorem yl12 : ixP b al (.list ps) (.int 12) = match ps[12]? with
    | some p => itR b p al
    | none => .stuck := x29 (m := 12)
theorem yl13 : ixP b al (.list ps) (.int 13) = match ps[13]? with
    | some p => itR b p al
    | none => .stuck := x29 (m := 13)
theorem yl14 : ixP b al (.list ps) (.int 14) = match ps[14]? with
    | some p => itR b p al
    | none => .stuck := x29 (m := 14)
theorem yl15 : ixP b al (.list ps) (.int 15) = match ps[15]? with
    | some p => itR b p al
    | none => .stuck := x29 (m := 15)
end
section
variable {C : Cal} {G : Glo} {ρ : Env} {b : E}
theorem ei_lst {es : List E} : ev C G (.ix (.lst es) b) ρ = vt ((ev C G (.lst es) ρ).e.bind fun x al => (ev C G b ρ).e.bind fun y _ => dat2 x y fun p q => ixP (isNew x) al p q) := e15 rfl
theorem ei_tup {es : List E} : ev C G (.ix (.tup es) b) ρ = vt ((ev C G (.tup es) ρ).e.bind fun x al => (ev C G b ρ).e.bind fun y _ => dat2 x y fun p q => ixP (isNew x) al p q) := e15 rfl
theorem ei_ix {a1 a2 : E} : ev C G (.ix (.ix a1 a2) b) ρ = vt ((ev C G (.ix a1 a2) ρ).e.bind fun x al => (ev C G b ρ).e.bind fun y _ => dat2 x y fun p q => ixP (isNew x) al p q) := e15 rfl
theorem ei_call {f : Nat} {es : List E} : ev C G (.ix (.call f es) b) ρ = vt ((ev C G (.call f es) ρ).e.bind fun x al => (ev C G b ρ).e.bind fun y _ => dat2 x y fun p q => ixP (isNew x) al p q) := e15 rfl
theorem ei_glob {g : Str} : ev C G (.ix (.glob g) b) ρ = vt ((ev C G (.glob g) ρ).e.bind fun x al => (ev C G b ρ).e.bind fun y _ => dat2 x y fun p q => ixP (isNew x) al p q) := e15 rfl
theorem ei_sl {a1 : E} {lo hi : Option E} : ev C G (.ix (.sl a1 lo hi) b) ρ = vt ((ev C G (.sl a1 lo hi) ρ).e.bind fun x al => (ev C G b ρ).e.bind fun y _ => dat2 x y fun p q => ixP (isNew x) al p q) := e15 rfl
theorem ei_bi {f : Bi} {es : List E} : ev C G (.ix (.bi f es) b) ρ = vt ((ev C G (.bi f es) ρ).e.bind fun x al => (ev C G b ρ).e.bind fun y _ => dat2 x y fun p q => ixP (isNew x) al p q) := e15 rfl
theorem ei_str {g : Str} : ev C G (.ix (.str g) b) ρ = vt ((ev C G (.str g) ρ).e.bind fun x al => (ev C G b ρ).e.bind fun y _ => dat2 x y fun p q => ixP (isNew x) al p q) := e15 rfl
theorem ei_bin {o : BOp} {a1 a2 : E} : ev C G (.ix (.bin o a1 a2) b) ρ = vt ((ev C G (.bin o a1 a2) ρ).e.bind fun x al => (ev C G b ρ).e.bind fun y _ => dat2 x y fun p q => ixP (isNew x) al p q) := e15 rfl
theorem ei_mth {m : Mt} {a1 : E} {es : List E} : ev C G (.ix (.mth m a1 es) b) ρ = vt ((ev C G (.mth m a1 es) ρ).e.bind fun x al => (ev C G b ρ).e.bind fun y _ => dat2 x y fun p q => ixP (isNew x) al p q) := e15 rfl
end
theorem f_lv {C : Cal} {G : Glo} {B : Sub} {tg : Tg} {b : List S} {ρ : Env} {ps : List PyData} : forD .seq [.v (.list ps)] [] C G B tg b ρ = forR (fun p ρ => setT tg false p ρ) (blk C G B b) ps ρ := by
  have e : elems (.v (.list ps)) [] = some (ps, false, []) := by
    unfold elems
    simp only [data, isNew, mutD, Bool.not_true]
    split <;> rfl
  unfold forD itemsR
  simp only [e, List.all_nil, if_true, frz]
/-! ### a list of one's own with items of all kinds -/
def fL (ps : List PyData) : D := .ol (ps.map (fz true))
theorem datas_fz (b : Bool) : ∀ ps : List PyData, datas (ps.map (fz b)) = some ps
  | [] => rfl
  | p :: ps => by rw [List.map_cons, kf, datas_fz b ps]; rfl
theorem data_fL (ps : List PyData) : data (fL ps) = some (.list ps) := by
  show (datas (ps.map (fz true))).map PyData.list = _
  rw [datas_fz]; rfl
theorem isNew_fz (p : PyData) : isNew (fz true p) = true := by
  unfold fz
  cases h : mutD p with
  | true => rfl
  | false => simp [isNew, h]
theorem isNews_fz : ∀ ps : List PyData, isNews (ps.map (fz true)) = true
  | [] => rfl
  | p :: ps => by simp only [List.map_cons, isNews, isNew_fz, isNews_fz ps, Bool.and_self]
theorem isNew_fL (ps : List PyData) : isNew (fL ps) = true := isNews_fz ps
theorem view_fL (ps : List PyData) : view (fL ps) = some (.n (.list ps)) := by
  unfold view
  rw [data_fL, isNew_fL]
  rfl
theorem var_fL {n : Nat} {ps : List PyData} : varD n (some (some (fL ps))) = .ok (.n (.list ps)) [n] := by
  show (match view (fL ps) with
    | some e => R.ok e [n]
    | none => .stuck) = _
  rw [view_fL]
theorem fL_im {ps : List PyData} (h : mutDs ps = false) : fL ps = oL ps := by
  unfold fL oL
  congr 1
  refine List.map_congr_left fun p hp => ?_
  refine v12 ?_
  induction ps with
  | nil => cases hp
  | cons q qs ih =>
    simp only [mutDs, Bool.or_eq_false_iff] at h
    rcases List.mem_cons.mp hp with rfl | hp
    · exact h.1
    · exact ih h.2 hp
theorem fl_set {n s : Nat} {ps : List PyData} {p : PyData} {ρ : Env} (h : s < ps.length) : updE n [] (setF (s : Int) (fz true p)) [] ρ (some (some (fL ps))) = .next (ρ.set n (some (fL (ps.set s p)))) := by
  have e : setF (s : Int) (fz true p) (ps.map (fz true)) = some ((ps.set s p).map (fz true)) := by
    unfold setF
    have : L2.ixN (ps.map (fz true)).length (s : Int) = some s := by
      unfold L2.ixN
      rw [List.length_map]
      have h1 : (s : Int) < ps.length := by omega
      simp [h1]
    rw [this]
    simp
  unfold updE fL updD
  simp only [e, List.contains_nil, Bool.false_eq_true, if_false, frz]
theorem fl_app {n : Nat} {ps : List PyData} {p : PyData} {ρ : Env} (h : ps.length < 16777216) : updE n [] (appF (fz true p)) [] ρ (some (some (fL ps))) = .next (ρ.set n (some (fL (ps ++ [p])))) := by
  have e : appF (fz true p) (ps.map (fz true)) = some ((ps ++ [p]).map (fz true)) := by
    unfold appF SZ
    rw [List.length_map, if_pos h]
    simp
  unfold updE fL updD
  simp only [e, List.contains_nil, Bool.false_eq_true, if_false, frz]
theorem list_n {ps : List PyData} {al : Al} : biR .list [.n (.list ps)] al = .ok (fL ps) (if mutDs ps then al else []) := by
  show bi1 .list (.n (.list ps)) al = _
  simp only [bi1, data, isNew, mkL]
  cases h : mutDs ps with
  | true => rfl
  | false => simp only [Bool.false_eq_true, if_false]; rw [fL_im h]
theorem list_tv {ps : List PyData} {al : Al} (h : mutDs ps = false) : biR .list [.v (.tuple ps)] al = .ok (oL ps) [] := by
  show bi1 .list (.v (.tuple ps)) al = _
  simp only [bi1, data, mkL, h, Bool.false_eq_true, if_false]
theorem list_lv {ps : List PyData} {al : Al} (h : mutDs ps = false) : biR .list [.v (.list ps)] al = .ok (oL ps) [] := by
  show bi1 .list (.v (.list ps)) al = _
  simp only [bi1, data, mkL, h, Bool.false_eq_true, if_false]
/-- the items of a list that is read -/
theorem f_ln {C : Cal} {G : Glo} {B : Sub} {tg : Tg} {b : List S} {ρ : Env} {ps : List PyData} {al : Al} (hm : al.all (fun i => !(mutSs b).contains i) = true) : forD .seq [.n (.list ps)] al C G B tg b ρ = forR (fun p ρ => setT tg true p ρ) (blk C G B b) ps (frz (if mutDs ps then al else []) ρ) := by
  unfold forD itemsR elems
  simp only [data, isNew, hm, if_true]
theorem frz1_fL {n : Nat} {ρ : Env} {ps : List PyData} (h : ρ[n]? = some (some (fL ps))) : frz [n] ρ = ρ.set n (some (.n (.list ps))) := by
  show frz1 n ρ = _
  unfold frz1
  rw [h]
  simp only [view_fL]
def frzD (n : Nat) (ρ : Env) : Option (Option D) → Env
  | some (some d) => ρ.set n (view d)
  | _ => ρ
theorem frz_c {n : Nat} {is : List Nat} {ρ : Env} : frz (n :: is) ρ = frz is (frzD n ρ ρ[n]?) := by
  show frz is (frz1 n ρ) = _
  congr 1
theorem frz_fL {n : Nat} {ρ : Env} {ps : List PyData} : frzD n ρ (some (some (fL ps))) = ρ.set n (some (.n (.list ps))) := by
  show ρ.set n (view (fL ps)) = _
  rw [view_fL]
theorem frz_n {n : Nat} {ρ : Env} {p : PyData} : frzD n ρ (some (some (.n p))) = ρ.set n (view (.n p)) := rfl
theorem frz_v {n : Nat} {ρ : Env} {p : PyData} : frzD n ρ (some (some (.v p))) = ρ.set n (view (.v p)) := rfl
theorem frz_o {n : Nat} {ρ : Env} {ps : List PyData} : frzD n ρ (some (some (oL ps))) = ρ.set n (some (fz (!mutDs ps) (.list ps))) := by
  show ρ.set n (view (oL ps)) = _
  unfold view
  rw [data_oL, isNew_oL]
  rfl
/-! ### compared, whatever it is -/
mutual
theorem eqv_nd : ∀ d : PyData, noDict d = true → PyData.eqv d d = true
  | .none, _ => by simp [PyData.eqv]
  | .bool _, _ => by simp [PyData.eqv]
  | .int _, _ => by simp [PyData.eqv]
  | .str _, _ => by simp [PyData.eqv]
  | .list ds, h => by simp only [PyData.eqv]; exact eqvs_nd ds (by simpa [noDict] using h)
  | .tuple ds, h => by simp only [PyData.eqv]; exact eqvs_nd ds (by simpa [noDict] using h)
  | .dict _, h => by simp [noDict] at h
theorem eqvs_nd : ∀ ds : List PyData, noDicts ds = true → PyData.eqvAll ds ds = true
  | [], _ => by simp [PyData.eqvAll]
  | d :: ds, h => by
    simp only [noDicts, Bool.and_eq_true] at h
    simp only [PyData.eqvAll, eqv_nd d h.1, eqvs_nd ds h.2, Bool.and_self]
end
/-- small: no dict, not deep -/
def Sm (n : Nat) (p : PyData) : Prop := noDict p = true ∧ p.depth ≤ n
theorem Sm.mono {n m : Nat} {p : PyData} (h : Sm n p) (hm : n ≤ m) : Sm m p := ⟨h.1, Nat.le_trans h.2 hm⟩
theorem Sms {n : Nat} : ∀ {ps : List PyData}, (∀ p ∈ ps, Sm n p) → noDicts ps = true ∧ PyData.depthAll ps ≤ n
  | [], _ => ⟨rfl, by simp [PyData.depthAll]⟩
  | p :: ps, h => by
    obtain ⟨h1, h2⟩ := h p List.mem_cons_self
    obtain ⟨h3, h4⟩ := Sms fun q hq => h q (List.mem_cons_of_mem _ hq)
    refine ⟨by simp [noDicts, h1, h3], ?_⟩
    simp only [PyData.depthAll]
    omega
theorem Sm.list {n : Nat} {ps : List PyData} (h : ∀ p ∈ ps, Sm n p) : Sm (n + 1) (.list ps) := by
  obtain ⟨h1, h2⟩ := Sms h
  refine ⟨by simpa [noDict] using h1, ?_⟩
  simp only [PyData.depth]
  omega
theorem Sm.tuple {n : Nat} {ps : List PyData} (h : ∀ p ∈ ps, Sm n p) : Sm (n + 1) (.tuple ps) := by
  obtain ⟨h1, h2⟩ := Sms h
  refine ⟨by simpa [noDict] using h1, ?_⟩
  simp only [PyData.depth]
  omega
theorem Sm.int (n : Nat) (i : Int) : Sm n (.int i) := ⟨rfl, by simp [PyData.depth]⟩
theorem Sm.bool (n : Nat) (i : Bool) : Sm n (.bool i) := ⟨rfl, by simp [PyData.depth]⟩
theorem Sm.str (n : Nat) (i : Str) : Sm n (.str i) := ⟨rfl, by simp [PyData.depth]⟩
theorem Sm.none (n : Nat) : Sm n .none := ⟨rfl, by simp [PyData.depth]⟩
theorem Sm.cmp {p : PyData} (h : Sm 64 p) : cmpOk p = true := by
  unfold cmpOk
  rw [h.1, decide_eq_true h.2]
  rfl
theorem ne_self {p : PyData} (h : Sm 64 p) : cmpP .ne p p = .ok false := by
  rw [x11 h.cmp h.cmp, eqv_nd p h.1]
  rfl
theorem eq_self {p : PyData} (h : Sm 64 p) : cmpP .eq p p = .ok true := by
  rw [x10 h.cmp h.cmp, eqv_nd p h.1]
theorem cmp_neb {a b : Bool} : cmpP .ne (.bool a) (.bool b) = .ok (a != b) := by
  rw [x11 (cmpOk_bool _) (cmpOk_bool _)]
  cases a <;> cases b <;> rfl
theorem cmp_nes {a b : Str} : cmpP .ne (.str a) (.str b) = .ok (!decide (a = b)) := by
  rw [x11 (cmpOk_str _) (cmpOk_str _)]
  simp [PyData.eqv]
  rfl
theorem cmp_eqs {a b : Str} : cmpP .eq (.str a) (.str b) = .ok (decide (a = b)) := by
  rw [x10 (cmpOk_str _) (cmpOk_str _)]
  simp [PyData.eqv]
  rfl
theorem itR_s {b : Bool} {x : Str} {al : Al} : itR b (.str x) al = .ok (.v (.str x)) [] := rfl
theorem ol_app {n : Nat} {ds : List D} {d : D} {ρ : Env} (h : ds.length < 16777216) : updE n [] (appF d) [] ρ (some (some (.ol ds))) = .next (ρ.set n (some (.ol (ds ++ [d])))) := by
  have e : appF d ds = some (ds ++ [d]) := by unfold appF; exact if_pos h
  unfold updE updD
  simp only [e, List.contains_nil, Bool.false_eq_true, if_false, frz]
theorem var_ol {n : Nat} {ds : List D} {ps : List PyData} (h : datas ds = some ps) (h2 : isNews ds = true) : varD n (some (some (.ol ds))) = .ok (.n (.list ps)) [n] := by
  show (match view (.ol ds) with
    | some e => R.ok e [n]
    | none => .stuck) = _
  have : view (.ol ds) = some (.n (.list ps)) := by
    unfold view
    simp only [data, h, Option.map_some, isNew, h2]
    rfl
  rw [this]
theorem datas_app : ∀ {ds es : List D} {ps qs : List PyData}, datas ds = some ps → datas es = some qs → datas (ds ++ es) = some (ps ++ qs)
  | [], es, ps, qs, h1, h2 => by injection h1 with h1; subst h1; exact h2
  | d :: ds, es, ps, qs, h1, h2 => by
    simp only [datas] at h1
    cases e1 : data d with
    | none => rw [e1] at h1; cases h1
    | some p =>
      cases e2 : datas ds with
      | none => rw [e1, e2] at h1; cases h1
      | some rs =>
        rw [e1, e2] at h1
        injection h1 with h1
        subst h1
        simp only [List.cons_append, datas, e1, datas_app e2 h2]
theorem isNews_app : ∀ {ds es : List D}, isNews (ds ++ es) = (isNews ds && isNews es)
  | [], es => by simp [isNews]
  | d :: ds, es => by simp only [List.cons_append, isNews, isNews_app (ds := ds), Bool.and_assoc]
theorem cat_tup {b : Bool} {al : Al} {ps qs : List PyData} (h : mutDs (ps ++ qs) = false) (hl : ps.length + qs.length ≤ 16777216) : binP .add b al (.tuple ps) (.tuple qs) = .ok (.v (.tuple (ps ++ qs))) [] := by
  simp only [binP, mkT, h, Bool.false_eq_true, if_false]
  exact if_pos hl
theorem cat_lst {b : Bool} {al : Al} {ps qs : List PyData} (h : mutDs (ps ++ qs) = false) (hl : ps.length + qs.length ≤ 16777216) : binP .add b al (.list ps) (.list qs) = .ok (oL (ps ++ qs)) [] := by
  simp only [binP, mkL, h, Bool.false_eq_true, if_false]
  exact if_pos hl
theorem mutDs_app : ∀ {ps qs : List PyData}, mutDs (ps ++ qs) = (mutDs ps || mutDs qs)
  | [], qs => rfl
  | p :: ps, qs => by rw [List.cons_append, md5, mutDs_app (ps := ps), md5, Bool.or_assoc]
theorem mutDs_take : ∀ {ps : List PyData} {n : Nat}, mutDs ps = false → mutDs (ps.take n) = false
  | _, 0, _ => by simp [mutDs]
  | [], _ + 1, _ => rfl
  | p :: ps, n + 1, h => by
    rw [md5, Bool.or_eq_false_iff] at h
    rw [List.take_succ_cons, md5, h.1, mutDs_take h.2]
    rfl
theorem mutDs_drop : ∀ {ps : List PyData} {n : Nat}, mutDs ps = false → mutDs (ps.drop n) = false
  | _, 0, h => by simpa using h
  | [], _ + 1, _ => rfl
  | p :: ps, n + 1, h => by
    rw [md5, Bool.or_eq_false_iff] at h
    rw [List.drop_succ_cons]
    exact mutDs_drop h.2
/-! ### cuts -/
theorem cut_to {α : Type} {xs : List α} {n : Nat} : cutP xs (some 0) (some (n : Int)) = xs.take n := by
  unfold cutP
  have h1 : HT.sIx xs.length 0 (some 0) = 0 := by rw [show (0 : Int) = ((0 : Nat) : Int) from rfl, HT.sIx_nat]; simp
  rw [h1, HT.sIx_nat]
  simp [List.take_eq_take_iff]
theorem cut_from {α : Type} {xs : List α} {n : Nat} : cutP xs (some (n : Int)) none = xs.drop n := by
  unfold cutP
  rw [HT.sIx_nat, HT.sIx_none]
  by_cases h : n ≤ xs.length
  · rw [Nat.min_eq_left h]
    exact List.take_of_length_le (by simp)
  · rw [Nat.min_eq_right (by omega), List.drop_of_length_le (by omega), List.drop_of_length_le (by omega)]
    simp
theorem sl_tup {b : Bool} {al : Al} {ps : List PyData} {lo hi : Option Int} (h : mutDs (cutP ps lo hi) = false) : slR (fz b (.tuple ps)) al lo hi = .ok (.v (.tuple (cutP ps lo hi))) [] := by
  unfold slR
  rw [data_fz]
  simp only [mkT, h, Bool.false_eq_true, if_false]
theorem sl_tv {al : Al} {ps : List PyData} {lo hi : Option Int} (h : mutDs (cutP ps lo hi) = false) : slR (.v (.tuple ps)) al lo hi = .ok (.v (.tuple (cutP ps lo hi))) [] := by
  simp only [slR, data, mkT, h, Bool.false_eq_true, if_false]
theorem sl_ln {al : Al} {ps : List PyData} {lo hi : Option Int} (h : mutDs (cutP ps lo hi) = false) : slR (.n (.list ps)) al lo hi = .ok (oL (cutP ps lo hi)) [] := by
  simp only [slR, data, mkL, h, Bool.false_eq_true, if_false]
theorem sl_lv {al : Al} {ps : List PyData} {lo hi : Option Int} (h : mutDs (cutP ps lo hi) = false) : slR (.v (.list ps)) al lo hi = .ok (oL (cutP ps lo hi)) [] := by
  simp only [slR, data, mkL, h, Bool.false_eq_true, if_false]
theorem md6 {ps : List PyData} : mutD (.tuple ps) = mutDs ps := rfl
theorem md7 {ps : List PyData} : mutD (.list ps) = true := rfl
/-! ### numbers in a list by an index that is reckoned -/
def gi (ns : List Int) (i : Int) : Int := ns.getD i.toNat 0
theorem gi_mem {ns : List Int} {i : Int} (h0 : 0 ≤ i) (h1 : i < ns.length) : gi ns i ∈ ns := by
  unfold gi
  have : i.toNat < ns.length := by omega
  rw [List.getD_eq_getElem?_getD, List.getElem?_eq_getElem this]
  exact List.getElem_mem this
theorem atI_in {α : Type} {xs : List α} {i : Int} (h0 : 0 ≤ i) (h1 : i < xs.length) : L2.atI xs i = xs[i.toNat]? := by
  obtain ⟨n, rfl⟩ := Int.eq_ofNat_of_zero_le h0
  rw [atI_nat']
  simp
theorem gi_get {ns : List Int} {i : Int} (h0 : 0 ≤ i) (h1 : i < ns.length) : (ns.map PyData.int)[i.toNat]? = some (.int (gi ns i)) := by
  have : i.toNat < ns.length := by omega
  unfold gi
  rw [List.getElem?_map, List.getD_eq_getElem?_getD, List.getElem?_eq_getElem this]
  rfl
theorem ix_v {ns : List Int} {i : Int} {b : Bool} {al : Al} (h0 : 0 ≤ i) (h1 : i < ns.length) : ixP b al (IL ns) (.int i) = .ok (.v (.int (gi ns i))) [] := by
  show (match L2.atI (ns.map PyData.int) i with
    | some p => itR b p al
    | none => .stuck) = _
  rw [atI_in h0 (by simpa using h1), gi_get h0 h1]
  rfl
theorem ixv_o {ns : List Int} {i : Int} {n : Nat} {al : Al} (h0 : 0 ≤ i) (h1 : i < ns.length) : ixvD n (some (some (oL (ns.map .int)))) (.ok (.v (.int i)) al) = .ok (.v (.int (gi ns i))) [] := by
  obtain ⟨m, rfl⟩ := Int.eq_ofNat_of_zero_le h0
  rw [x36]
  have := gi_get h0 h1
  simp only [Int.toNat_natCast] at this
  rw [this]
/-- an item of a list by an index that is reckoned -/
theorem ixq_v {ps : List PyData} {i : Int} {b : Bool} {al : Al} {p : PyData} (h0 : 0 ≤ i) (h : ps[i.toNat]? = some p) : ixP b al (.list ps) (.int i) = itR b p al := by
  obtain ⟨m, rfl⟩ := Int.eq_ofNat_of_zero_le h0
  rw [x29]
  simp only [Int.toNat_natCast] at h
  rw [h]
theorem ixq_o {ps : List PyData} {i : Int} {n : Nat} {al : Al} {p : PyData} (h0 : 0 ≤ i) (h : ps[i.toNat]? = some p) : ixvD n (some (some (oL ps))) (.ok (.v (.int i)) al) = .ok (.v p) [] := by
  obtain ⟨m, rfl⟩ := Int.eq_ofNat_of_zero_le h0
  rw [x36]
  simp only [Int.toNat_natCast] at h
  rw [h]
theorem get_in {α : Type} {xs : List α} {i : Int} (h0 : 0 ≤ i) (h1 : i < xs.length) : ∃ x, xs[i.toNat]? = some x ∧ x ∈ xs := by
  have : i.toNat < xs.length := by omega
  exact ⟨_, List.getElem?_eq_getElem this, List.getElem_mem this⟩
theorem ol_set {n : Nat} {ps : List PyData} {i : Int} {p : PyData} {ρ : Env} (h0 : 0 ≤ i) (h1 : i < ps.length) : updE n [] (setF i (.v p)) [] ρ (some (some (oL ps))) = .next (ρ.set n (some (oL (ps.set i.toNat p)))) := by
  obtain ⟨m, rfl⟩ := Int.eq_ofNat_of_zero_le h0
  have e : setF (m : Int) (.v p) (ps.map D.v) = some ((ps.set m p).map D.v) := by
    unfold setF
    have : L2.ixN (ps.map D.v).length (m : Int) = some m := by
      unfold L2.ixN
      rw [List.length_map]
      simp [h1]
    rw [this]
    simp
  unfold updE oL updD
  simp only [e, List.contains_nil, Bool.false_eq_true, if_false, frz, Int.toNat_natCast]
/-! ### four numbers -/
abbrev Q4 : Type := Int × Int × Int × Int
def qd (q : Q4) : PyData := .tuple [.int q.1, .int q.2.1, .int q.2.2.1, .int q.2.2.2]
theorem mut_qd (q : Q4) : mutD (qd q) = false := rfl
theorem mut_qds : ∀ qs : List Q4, mutDs (qs.map qd) = false
  | [] => rfl
  | q :: qs => by rw [List.map_cons, md5, mut_qd, mut_qds qs]; rfl
theorem Sm.qd (q : Q4) : Sm 1 (qd q) := Sm.tuple (n := 0) fun p hp => by
  simp only [List.mem_cons, List.not_mem_nil, or_false] at hp
  rcases hp with rfl | rfl | rfl | rfl <;> exact Sm.int _ _
theorem fz_qd {b : Bool} {q : Q4} : fz b (Hv.qd q) = .v (Hv.qd q) := v12 rfl
theorem itR_qd {b : Bool} {q : Q4} {al : Al} : itR b (Hv.qd q) al = .ok (.v (Hv.qd q)) [] := by rw [x37 (mut_qd q)]
theorem qd_mk {a b c d : Int} : PyData.tuple [.int a, .int b, .int c, .int d] = qd (a, b, c, d) := rfl
theorem asg_qd {i j k l : Nat} {ρ : Env} {q : Q4} {al : Al} : asgTD [i, j, k, l] ρ (.v (qd q)) al = .next (((((frz al ρ).set i (some (.v (.int q.1)))).set j (some (.v (.int q.2.1)))).set k (some (.v (.int q.2.2.1)))).set l (some (.v (.int q.2.2.2)))) := by
  rw [asgT_v]
  unfold qd
  rw [sT1, sT3, sT3, sT3, sT3, sT4]
  simp only [v6]
  rfl
theorem st_qd {i j k l : Nat} {ρ : Env} {q : Q4} {b : Bool} : setT (.tup [i, j, k, l]) b (qd q) ρ = some ((((ρ.set i (some (.v (.int q.1)))).set j (some (.v (.int q.2.1)))).set k (some (.v (.int q.2.2.1)))).set l (some (.v (.int q.2.2.2)))) := by
  unfold qd
  rw [sT1, sT3, sT3, sT3, sT3, sT4]
  simp only [v6]
theorem len_n {ps : List PyData} {al : Al} : biR .len [.n (.list ps)] al = .ok (.v (.int ps.length)) [] := rfl
section
variable {α : Type} {P : α → Prop} {g : α → CR} {r : RS} {f : Env → RS}
theorem ex_seq (ρ' : Env) (h : r = .next ρ') (h2 : ∃ a, P a ∧ retC (f ρ') = g a) : ∃ a, P a ∧ retC (seqS r f) = g a := by rw [h]; exact h2
theorem ex_seqE {τ : Type} (ρ' : τ → Env) (I : τ → Prop) (h : ∃ t, I t ∧ r = .next (ρ' t)) (h2 : ∀ t, I t → ∃ a, P a ∧ retC (f (ρ' t)) = g a) : ∃ a, P a ∧ retC (seqS r f) = g a := by
  obtain ⟨t, i, rfl⟩ := h
  exact h2 t i
end
theorem lc4 {C : Cal} {G : Glo} {own : List Nat} {i j k l : Nat} {elt : E} {ρ : Env} {b : Bool} {g : Q4 → PyData} {qs : List Q4} (h : ∀ q ∈ qs, (ev C G elt (((((wipeE ρ own).set i (some (.v (.int q.1)))).set j (some (.v (.int q.2.1)))).set k (some (.v (.int q.2.2.1)))).set l (some (.v (.int q.2.2.2))))).e = .ok (.v (g q)) []) :
    lcT C G own (.tup [i, j, k, l]) [] elt ρ (qs.map qd) b = .ok ((qs.map g).map .v) [] :=
  lcR_mapf g fun q hq => ⟨_, st_qd, rfl, h q hq⟩
theorem lc4q {C : Cal} {G : Glo} {own : List Nat} {i j k l : Nat} {elt : E} {ρ : Env} {b : Bool} (g : Q4 → Q4) {qs : List Q4} (h : ∀ q ∈ qs, (ev C G elt (((((wipeE ρ own).set i (some (.v (.int q.1)))).set j (some (.v (.int q.2.1)))).set k (some (.v (.int q.2.2.1)))).set l (some (.v (.int q.2.2.2))))).e = .ok (.v (qd (g q))) []) :
    lcT C G own (.tup [i, j, k, l]) [] elt ρ (qs.map qd) b = .ok (((qs.map g).map qd).map .v) [] := by
  rw [List.map_map (f := g)]
  exact lc4 h
theorem nx_seqI {τ : Type} {r : RS} {f : Env → RS} {Q : Env → Prop} (ρ' : τ → Env) (I : τ → Prop) (h : ∃ t, I t ∧ r = .next (ρ' t)) (h2 : ∀ t, I t → Nx (f (ρ' t)) Q) : Nx (seqS r f) Q := by
  obtain ⟨t, i, rfl⟩ := h
  exact h2 t i
theorem f1i {C : Cal} {G : Glo} {B : Sub} {ρ : Env} {m : Int} {tg : Tg} {b : List S} (h0 : 0 ≤ m) (h : m ≤ 16777216) : forD .range [.v (.int m)] [] C G B tg b ρ = forR (fun p ρ => setT tg true p ρ) (blk C G B b) ((rgI 0 m).map .int) ρ := by
  obtain ⟨n, rfl⟩ := Int.eq_ofNat_of_zero_le h0
  exact f1 (by omega)
theorem l1i {al : Al} {m : Int} {f : List PyData → Bool → Rl} (h0 : 0 ≤ m) (h : m ≤ 16777216) : lcI .range [.v (.int m)] al f = lcO (f ((rgI 0 m).map .int) true) [] := by
  obtain ⟨n, rfl⟩ := Int.eq_ofNat_of_zero_le h0
  exact l1 (by omega)
section
variable {τ : Type} {I : τ → Prop} {g : τ → Env} {r : RS} {f : Env → RS} {C : Cal} {G : Glo} {B : Sub} {c : E} {a b : List S} {ρ : Env}
theorem eq_seq (ρ' : Env) (h : r = .next ρ') (h2 : ∃ t, I t ∧ f ρ' = .next (g t)) : ∃ t, I t ∧ seqS r f = .next (g t) := by rw [h]; exact h2
theorem eq_seqI {σ : Type} (ρ' : σ → Env) (J : σ → Prop) (h : ∃ t, J t ∧ r = .next (ρ' t)) (h2 : ∀ s, J s → ∃ t, I t ∧ f (ρ' s) = .next (g t)) : ∃ t, I t ∧ seqS r f = .next (g t) := by
  obtain ⟨s, j, rfl⟩ := h
  exact h2 s j
theorem eq_ife (v : Bool) (hc : (ev C G c ρ).t = .ok v) (h1 : v = true → ∃ t, I t ∧ svs C G B a ρ = .next (g t)) (h2 : v = false → ∃ t, I t ∧ svs C G B b ρ = .next (g t)) : ∃ t, I t ∧ sv C G B (.ife c a b) ρ = .next (g t) := by
  rw [t12, hc, s10]
  cases v with
  | true => exact h1 rfl
  | false => exact h2 rfl
theorem eq_nil (t : τ) (i : I t) (h : ρ = g t) : ∃ t, I t ∧ svs C G B [] ρ = .next (g t) := ⟨t, i, by rw [t1, h]⟩
end
theorem cut_ft {α : Type} {xs : List α} {n m : Nat} (h : n ≤ xs.length) : cutP xs (some (n : Int)) (some (m : Int)) = (xs.drop n).take (m - n) := by
  unfold cutP
  rw [HT.sIx_nat, HT.sIx_nat, Nat.min_eq_left h]
  by_cases hm : m ≤ xs.length
  · rw [Nat.min_eq_left hm]
  · rw [Nat.min_eq_right (by omega)]
    rw [List.take_of_length_le (by simp), List.take_of_length_le (by simp; omega)]
theorem list_q {qs : List Q4} {al : Al} : biR .list [.n (.list (qs.map qd))] al = .ok (oL (qs.map qd)) [] := by
  rw [list_n, mut_qds, fL_im (mut_qds qs)]
  rfl
theorem er_map {α β : Type} (f : α → β) : ∀ (l : List α) (n : Nat), (l.map f).eraseIdx n = (l.eraseIdx n).map f
  | [], _ => by simp
  | _ :: _, 0 => by simp
  | x :: l, n + 1 => by simp [er_map f l n]
theorem t_appPop {C : Cal} {G : Glo} {B : Sub} {i j : Nat} {e : E} {ρ : Env} : sv C G B (.appPop i j e) ρ = appPopR i j (ev C G e ρ).e ρ := by simp only [sv]
theorem app_pop {i j : Nat} {n : Int} {al : Al} {ρ : Env} {ss ms : List PyData} {p : PyData} (hij : i ≠ j) (hj : ρ[j]? = some (some (oL ss))) (hi : ρ[i]? = some (some (oL ms))) (h0 : 0 ≤ n) (hp : ss[n.toNat]? = some p) (hm : mutD p = false) (hs : ss.length ≤ 16777216) (hl : ms.length < 16777216) :
    appPopR i j (.ok (.v (.int n)) al) ρ = .next ((ρ.set j (some (oL (ss.eraseIdx n.toNat)))).set i (some (oL (ms ++ [p])))) := by
  have h1 : n.toNat < ss.length := (List.getElem?_eq_some_iff.mp hp).1
  have e1 : popF n (ss.map D.v) = some ((ss.eraseIdx n.toNat).map D.v) := by
    unfold popF
    rw [if_pos ⟨h0, by rw [List.length_map]; omega, by rw [List.length_map]; exact hs⟩, List.getElem?_map, hp]
    simp only [Option.map_some, hm, Bool.false_eq_true, if_false]
    rw [er_map]
  have e2 : popP n (ss.map D.v) = some p := by
    unfold popP
    rw [List.getElem?_map, hp]
    rfl
  unfold appPopR
  simp only [data, hj, oL, e1, e2, if_neg hij]
  show updR i [] (appF (.v p)) [] (ρ.set j (some (oL (ss.eraseIdx n.toNat)))) = _
  rw [t26, List.getElem?_set_ne (Ne.symm hij), hi, t27 hl]
  rfl
end Hv

/-! Hw, part 5: texts, more. -/
namespace Hv
open PySem L2
section
variable {l l' : List Nat} {al : Al} {w b : Bool} {c n : Nat} {i : Int} {lo hi : Option Int}
theorem cutS_S : cutS (SX.S l) lo hi = SX.S (cutP l lo hi) := by
  unfold cutS cutP
  simp [SX.S_len]
theorem cutP_len {α : Type} {xs : List α} : (cutP xs lo hi).length ≤ xs.length := by
  unfold cutP
  simp
  omega
theorem sl_tx (h : l.length ≤ 16777216) : slR (.v (tx l)) al lo hi = .ok (.v (tx (cutP l lo hi))) [] := by
  show (if (SX.S l).length ≤ SZ then R.ok (.v (.str (cutS (SX.S l) lo hi))) [] else .stuck) = _
  rw [SX.S_len, if_pos (show _ ≤ SZ from h), cutS_S]
theorem cut_none {α : Type} {xs : List α} {n : Nat} : cutP xs none (some (n : Int)) = xs.take n := by
  unfold cutP
  rw [HT.sIx_none, HT.sIx_nat]
  simp [List.take_eq_take_iff]
theorem isu_k : ∀ c, c < 128 → Txt.isupper (SX.S [c]) = (decide (65 ≤ c) && decide (c ≤ 90)) := by decide +kernel
theorem isl_k : ∀ c, c < 128 → Txt.islower (SX.S [c]) = (decide (97 ≤ c) && decide (c ≤ 122)) := by decide +kernel
theorem isd_k : ∀ c, c < 128 → Txt.isdigit (SX.S [c]) = (decide (48 ≤ c) && decide (c ≤ 57)) := by decide +kernel
theorem mtR0 {m : Mt} {a : Str} : mtR m a [] = mt0R m a := rfl
theorem isu_tx (h : c < 128) : mt0R .isupper (SX.S [c]) = .ok (.v (.bool (decide (65 ≤ c) && decide (c ≤ 90)))) [] := by
  show R.ok (.v (.bool (Txt.isupper (SX.S [c])))) [] = _
  rw [isu_k c h]
theorem isl_tx (h : c < 128) : mt0R .islower (SX.S [c]) = .ok (.v (.bool (decide (97 ≤ c) && decide (c ≤ 122)))) [] := by
  show R.ok (.v (.bool (Txt.islower (SX.S [c])))) [] = _
  rw [isl_k c h]
theorem up_tx (h : ∀ c ∈ l, c < 128) (hl : l.length ≤ 5592405) : mt0R .upper (SX.S l) = .ok (.v (tx (l.map PyProof.Rows.up1))) [] := by
  show (if (SX.S l).length ≤ 5592405 then okS (Txt.upper (SX.S l)) else .stuck) = _
  rw [SX.S_len, if_pos hl, SX.upper_S (List.all_eq_true.mpr fun c hc => decide_eq_true (h c hc))]
  unfold okS
  rw [if_pos (strOk_S fun c hc => ?_)]
  obtain ⟨d, hd, rfl⟩ := List.mem_map.mp hc
  have := h d hd
  unfold PyProof.Rows.up1
  split <;> omega
theorem lo_tx (h : ∀ c ∈ l, c < 128) (hl : l.length ≤ 5592405) : mt0R .lower (SX.S l) = .ok (.v (tx (l.map PyProof.Rows.lo1))) [] := by
  show (if (SX.S l).length ≤ 5592405 then okS (Txt.lower (SX.S l)) else .stuck) = _
  rw [SX.S_len, if_pos hl, SX.lower_S (List.all_eq_true.mpr fun c hc => decide_eq_true (h c hc))]
  unfold okS
  rw [if_pos (strOk_S fun c hc => ?_)]
  obtain ⟨d, hd, rfl⟩ := List.mem_map.mp hc
  have := h d hd
  unfold PyProof.Rows.lo1
  split <;> omega
theorem rep_S {n : Nat} : repS (SX.S [c]) n = SX.S (List.replicate n c) := by
  unfold repS SX.S
  congr 1
  simp
theorem rep_tx (h : n ≤ 16777216) (hc : c < 1114112) : binP .mul w al (ch c) (.int (n : Int)) = .ok (.v (tx (List.replicate n c))) [] := by
  show (if repOk (SX.S [c]).length (n : Int) then okS (repS (SX.S [c]) (n : Int).toNat) else .stuck) = _
  rw [if_pos, Int.toNat_natCast, rep_S]
  · unfold okS
    rw [if_pos (strOk_S fun d hd => ?_)]
    rw [(List.mem_replicate.mp hd).2]
    exact hc
  · unfold repOk
    simp [SX.S_len]
    omega
theorem ix_txI (h : l.length ≤ 16777216) (h0 : 0 ≤ i) {c : Nat} (hc : l[i.toNat]? = some c) : ixP w al (tx l) (.int i) = .ok (.v (ch c)) [] := by
  obtain ⟨m, rfl⟩ := Int.eq_ofNat_of_zero_le h0
  simp only [Int.toNat_natCast] at hc
  rw [ix_tx h, hc]
theorem mod_rng (x : Int) {n : Int} (h : 0 < n) : 0 ≤ x % n ∧ x % n < n := ⟨Int.emod_nonneg _ (by omega), Int.emod_lt_of_pos _ h⟩
theorem Sm.tx (n : Nat) (l : List Nat) : Sm n (tx l) := Sm.str n _
theorem fz_str {x : Str} : fz b (.str x) = .v (.str x) := v9
end
end Hv

namespace Law
open PySem PySem.Spec PyProof.Rows L2 Hv
abbrev pw : Program := PySem.Challenge.pw_screenspoken_k10_what_are_things
def top (i : Nat) : Stmt := pw.main.body.getD i (.Pass ⟨0, 0, 0, 0⟩)
def dd (x : Str) (i : Nat) : He.DefD := ⟨(x, none), x, x, defArgs (top i), defBody (top i), defScope (top i), [], []⟩
def T : Tb := ⟨[
  ⟨dd "is_whole" 6, ["value"]⟩,
  ⟨dd "is_box" 7, ["box", "left", "top", "right", "bottom", "number"]⟩,
  ⟨dd "is_text" 12, ["text", "sign"]⟩,
  ⟨dd "is_refs" 13, ["refs", "count", "number"]⟩,
  ⟨dd "is_parent" 14, ["parent", "number"]⟩,
  ⟨dd "is_thing" 15, ["thing", "number", "count", "parent", "role", "text", "refs", "hidden", "box"]⟩,
  ⟨dd "check_things" 16, ["things", "number", "thing"]⟩,
  ⟨dd "_law_cell" 18, ["script", "k"]⟩,
  ⟨dd "_law_numbers" 19, ["cell", "count", "limit", "found", "k", "mixed"]⟩,
  ⟨dd "_law_free" 20, ["draws", "count", "size", "found", "k", "left", "top"]⟩,
  ⟨dd "_law_divided" 21, ["cell", "count", "draws", "found", "k", "at", "gap", "left", "top", "right", "bottom", "line"]⟩,
  ⟨dd "_law_wheel" 22, ["draws", "a", "b", "c", "found", "left", "top", "right", "bottom"]⟩,
  ⟨dd "_law_screen" 23, ["script", "at", "most", "cell", "draws", "kind", "count", "spare", "order", "mixed", "k", "found", "wheel", "left", "top", "right", "bottom"]⟩,
  ⟨dd "_law_things" 24, ["script", "at", "most", "draws", "count", "bits", "boxes", "roles", "texts", "found", "k", "parent", "role", "refs", "text", "hidden", "one", "other"]⟩,
  ⟨dd "_law_is" 25, ["value", "low", "high"]⟩,
  ⟨dd "_law_is_thing" 26, ["thing", "k", "count", "roles", "sign", "at", "number", "parent", "role", "text", "refs", "hidden", "box"]⟩,
  ⟨dd "_law_word" 27, ["things", "k"]⟩,
  ⟨dd "_law_told" 28, ["things", "e"]⟩,
  ⟨dd "_law_others" 29, ["thing", "k", "count", "values", "found", "at", "value"]⟩,
  ⟨dd "law" 30, ["script", "things", "draws", "kept", "k", "other", "plain", "count", "changed", "many", "j"]⟩],
  [("ROLES", .tuple [.str "page", .str "group", .str "list", .str "item", .str "heading", .str "text", .str "button", .str "link", .str "field", .str "image", .str "note", .str "table"]), ("MOST_THINGS", .int (60)), ("NO_PARENT", .int (-1))],
  ["all", "bool", "enumerate", "int", "isinstance", "len", "list", "min", "ord", "range", "str", "tuple"],
  ["InvalidThing", "WrongCount"],
  [("InvalidBox", none, [("InvalidThing", false), ("WrongCount", false)]), ("InvalidThing", none, [("InvalidThing", true), ("WrongCount", false)]), ("ScreenError", none, [("InvalidThing", true), ("WrongCount", true)]), ("WrongCount", none, [("InvalidThing", false), ("WrongCount", true)])]⟩
def loose : List Str := ["ScreenError", "InvalidBox", "InvalidThing", "WrongCount", "is_whole", "is_box", "ROLES", "MOST_THINGS", "NO_PARENT", "is_text", "is_refs", "is_parent", "is_thing", "check_things", "_law_cell", "_law_numbers", "_law_free", "_law_divided", "_law_wheel", "_law_screen", "_law_things", "_law_is", "_law_is_thing", "_law_word", "_law_told", "_law_others"]

end Law

namespace Law
open PySem Hv
/-- is_whole [value] -/
def B0 : List S := [
  (.ret (.and [(.isi (.var 0) .int), (.not (.isi (.var 0) .bool))]))]
/-- is_box [box, left, top, right, bottom, number] -/
def B1 : List S := [
  (.ife (.or [(.not (.isi (.var 0) .tuple)), (.cmp .ne (.bi .len [(.var 0)]) (.int (4))), (.not (.bi .all [(.lc [5] .seq [(.var 0)] (.name 5) [] (.call 0 [(.var 5)]))]))]) [(.ret (.bl false))] []),
  (.asgT [1, 2, 3, 4] (.var 0)),
  (.ret (.and [(.cmp .lt (.var 1) (.var 3)), (.cmp .lt (.var 2) (.var 4))]))]
/-- is_text [text, sign] -/
def B2 : List S := [
  (.ret (.and [(.isi (.var 0) .str), (.bi .all [(.lc [1] .seq [(.var 0)] (.name 1) [] (.chn .le .le (.str " ") (.var 1) (.str "~")))])]))]
/-- is_refs [refs, count, number] -/
def B3 : List S := [
  (.ife (.or [(.not (.isi (.var 0) .tuple)), (.not (.bi .all [(.lc [2] .seq [(.var 0)] (.name 2) [] (.and [(.call 0 [(.var 2)]), (.chn .le .lt (.int (0)) (.var 2) (.var 1))]))]))]) [(.ret (.bl false))] []),
  (.ret (.cmp .eq (.dkl [2] .seq [(.var 0)] (.name 2) (.var 2)) (.bi .len [(.var 0)])))]
/-- is_parent [parent, number] -/
def B4 : List S := [
  (.ret (.and [(.call 0 [(.var 0)]), (.chn .le .lt (.glob "NO_PARENT") (.var 0) (.var 1))]))]
/-- is_thing [thing, number, count, parent, role, text, refs, hidden, box] -/
def B5 : List S := [
  (.ife (.or [(.not (.isi (.var 0) .tuple)), (.cmp .ne (.bi .len [(.var 0)]) (.int (6)))]) [(.ret (.bl false))] []),
  (.asgT [3, 4, 5, 6, 7, 8] (.var 0)),
  (.ife (.or [(.not (.call 4 [(.var 3), (.var 1)])), (.cmp .nin (.var 4) (.glob "ROLES")), (.not (.call 2 [(.var 5)])), (.not (.call 3 [(.var 6), (.var 2)]))]) [(.ret (.bl false))] []),
  (.ret (.and [(.call 0 [(.var 7)]), (.cmp .in_ (.var 7) (.tup [(.int (0)), (.int (1))])), (.call 1 [(.var 8)])]))]
/-- check_things [things, number, thing] -/
def B6 : List S := [
  (.for_ .enum [(.var 0)] (.tup [1, 2]) [(.ife (.not (.call 5 [(.var 2), (.var 1), (.bi .len [(.var 0)])])) [(.raise_ "InvalidThing")] [])]),
  (.ife (.not (.chn .le .le (.int (1)) (.bi .len [(.var 0)]) (.glob "MOST_THINGS"))) [(.raise_ "WrongCount")] [])]
/-- _law_cell [script, k] -/
def B7 : List S := [
  (.ife (.cmp .lt (.var 1) (.bi .len [(.var 0)])) [(.ret (.bi .int [(.ix (.var 0) (.var 1))]))] []),
  (.ret (.int (0)))]
/-- _law_numbers [cell, count, limit, found, k, mixed] -/
def B8 : List S := [
  (.asg 3 (.lst [])),
  (.ife (.cmp .ge (.var 0) (.bin .pow (.int (10)) (.int (18)))) [(.for_ .range [(.var 1)] (.name 4) [(.app 3 [] (.bin .mod (.bi .int [(.var 0)]) (.var 2))), (.asg 0 (.bin .div (.bi .int [(.var 0)]) (.var 2)))]), (.retv 3)] []),
  (.for_ .range [(.var 1)] (.name 4) [(.asg 5 (.bin .mod (.bi .int [(.bin .add (.bin .add (.bin .mul (.var 0) (.int (48271))) (.bin .mul (.var 4) (.int (69621)))) (.int (7)))]) (.int (2147483647)))), (.asg 5 (.bin .mod (.bi .int [(.bin .add (.bin .add (.bin .add (.bin .mul (.var 5) (.var 5)) (.bin .mul (.var 5) (.int (40692)))) (.bin .mul (.var 4) (.int (16807)))) (.int (11)))]) (.int (2147483399)))), (.app 3 [] (.bin .mod (.bi .int [(.bin .div (.var 5) (.int (32)))]) (.var 2)))]),
  (.retv 3)]
/-- _law_free [draws, count, size, found, k, left, top] -/
def B9 : List S := [
  (.asg 3 (.lst [])),
  (.for_ .range [(.var 1)] (.name 4) [(.asg 5 (.bin .sub (.bin .mod (.ix (.var 0) (.bin .mul (.int (4)) (.var 4))) (.var 2)) (.int (3)))), (.asg 6 (.bin .sub (.bin .mod (.ix (.var 0) (.bin .add (.bin .mul (.int (4)) (.var 4)) (.int (1)))) (.var 2)) (.int (3)))), (.app 3 [] (.tup [(.var 5), (.var 6), (.bin .add (.bin .add (.var 5) (.int (1))) (.bin .mod (.ix (.var 0) (.bin .add (.bin .mul (.int (4)) (.var 4)) (.int (2)))) (.int (6)))), (.bin .add (.bin .add (.var 6) (.int (1))) (.bin .mod (.ix (.var 0) (.bin .add (.bin .mul (.int (4)) (.var 4)) (.int (3)))) (.int (6))))]))]),
  (.retv 3)]
/-- _law_divided [cell, count, draws, found, k, at, gap, left, top, right, bottom, line] -/
def B10 : List S := [
  (.asg 2 (.call 8 [(.var 0), (.bin .add (.bin .mul (.int (6)) (.var 1)) (.int (6))), (.int (5040))])),
  (.asg 3 (.lst [(.tup [(.bin .sub (.int (0)) (.bin .mod (.ix (.var 2) (.int (0))) (.int (50)))), (.bin .mod (.ix (.var 2) (.int (1))) (.int (50))), (.int (400)), (.int (400))])])),
  (.for_ .range [(.bin .sub (.var 1) (.int (1)))] (.name 4) [(.asg 5 (.bin .mod (.ix (.var 2) (.bin .add (.bin .mul (.int (6)) (.var 4)) (.int (2)))) (.bi .len [(.var 3)]))), (.asgT [7, 8, 9, 10] (.ix (.var 3) (.var 5))), (.asg 6 (.bin .mod (.ix (.var 2) (.bin .add (.bin .mul (.int (6)) (.var 4)) (.int (5)))) (.int (3)))), (.ife (.and [(.cmp .eq (.bin .mod (.ix (.var 2) (.bin .add (.bin .mul (.int (6)) (.var 4)) (.int (3)))) (.int (2))) (.int (0))), (.cmp .gt (.bin .sub (.var 9) (.var 7)) (.int (8)))]) [(.asg 11 (.bin .add (.bin .add (.var 7) (.int (3))) (.bin .mod (.ix (.var 2) (.bin .add (.bin .mul (.int (6)) (.var 4)) (.int (4)))) (.bin .sub (.bin .sub (.var 9) (.var 7)) (.int (5)))))), (.seti 3 [] (.var 5) (.tup [(.var 7), (.var 8), (.var 11), (.var 10)])), (.app 3 [] (.tup [(.bi .min2 [(.bin .add (.var 11) (.var 6)), (.bin .sub (.var 9) (.int (1)))]), (.var 8), (.var 9), (.var 10)]))] [(.ife (.cmp .gt (.bin .sub (.var 10) (.var 8)) (.int (8))) [(.asg 11 (.bin .add (.bin .add (.var 8) (.int (3))) (.bin .mod (.ix (.var 2) (.bin .add (.bin .mul (.int (6)) (.var 4)) (.int (4)))) (.bin .sub (.bin .sub (.var 10) (.var 8)) (.int (5)))))), (.seti 3 [] (.var 5) (.tup [(.var 7), (.var 8), (.var 9), (.var 11)])), (.app 3 [] (.tup [(.var 7), (.bi .min2 [(.bin .add (.var 11) (.var 6)), (.bin .sub (.var 10) (.int (1)))]), (.var 9), (.var 10)]))] [])])]),
  (.retv 3)]
/-- _law_wheel [draws, a, b, c, found, left, top, right, bottom] -/
def B11 : List S := [
  (.asg 1 (.bin .add (.int (1)) (.bin .mod (.ix (.var 0) (.int (0))) (.int (9))))),
  (.asg 2 (.bin .add (.bin .add (.var 1) (.int (1))) (.bin .mod (.ix (.var 0) (.int (1))) (.int (9))))),
  (.asg 3 (.bin .add (.bin .add (.var 2) (.int (1))) (.bin .mod (.ix (.var 0) (.int (2))) (.int (9))))),
  (.asg 4 (.lst [(.tup [(.int (0)), (.int (0)), (.var 2), (.var 1)]), (.tup [(.var 2), (.int (0)), (.var 3), (.var 2)]), (.tup [(.var 1), (.var 2), (.var 3), (.var 3)]), (.tup [(.int (0)), (.var 1), (.var 1), (.var 3)])])),
  (.ife (.cmp .eq (.bin .mod (.ix (.var 0) (.int (3))) (.int (3))) (.int (0))) [(.app 4 [] (.tup [(.var 1), (.var 1), (.var 2), (.var 2)]))] []),
  (.ife (.cmp .eq (.bin .mod (.ix (.var 0) (.int (3))) (.int (2))) (.int (0))) [(.asg 4 (.lc [5, 6, 7, 8] .seq [(.var 4)] (.tup [5, 6, 7, 8]) [] (.tup [(.bin .sub (.var 3) (.var 7)), (.var 6), (.bin .sub (.var 3) (.var 5)), (.var 8)])))] []),
  (.retv 4)]
/-- _law_screen [script, at, most, cell, draws, kind, count, spare, order, mixed, k, found, wheel, left, top, right, bottom] -/
def B12 : List S := [
  (.asg 3 (.call 7 [(.var 0), (.var 1)])),
  (.asg 4 (.call 8 [(.call 7 [(.var 0), (.bin .add (.var 1) (.int (1)))]), (.bin .add (.int (8)) (.bin .mul (.int (4)) (.var 2))), (.int (5040))])),
  (.asg 5 (.bin .mod (.ix (.var 4) (.int (0))) (.int (6)))),
  (.asg 6 (.bin .add (.int (1)) (.bin .mod (.ix (.var 4) (.int (1))) (.var 2)))),
  (.ife (.cmp .lt (.var 5) (.int (2))) [(.asg 11 (.call 9 [(.sl (.var 4) (some (.int (8))) none), (.var 6), (.ix (.lst [(.int (6)), (.int (14)), (.int (40))]) (.bin .mod (.ix (.var 4) (.int (2))) (.int (3))))]))] [(.asg 11 (.call 10 [(.var 3), (.var 6)])), (.ife (.and [(.cmp .eq (.var 5) (.int (3))), (.cmp .gt (.bi .len [(.var 11)]) (.int (4)))]) [(.asg 12 (.call 11 [(.sl (.var 4) (some (.int (3))) (some (.int (7))))])), (.asg 11 (.bin .add (.sl (.var 11) (some (.int (0))) (some (.bin .sub (.bi .len [(.var 11)]) (.bi .len [(.var 12)])))) (.lc [13, 14, 15, 16] .seq [(.var 12)] (.tup [13, 14, 15, 16]) [] (.tup [(.bin .add (.var 13) (.int (500))), (.bin .add (.var 14) (.int (9))), (.bin .add (.var 15) (.int (500))), (.bin .add (.var 16) (.int (9)))]))))] [(.ife (.cmp .eq (.var 5) (.int (4))) [(.asgT [13, 14, 15, 16] (.ix (.var 11) (.bin .mod (.ix (.var 4) (.int (3))) (.bi .len [(.var 11)])))), (.seti 11 [] (.bin .mod (.ix (.var 4) (.int (3))) (.bi .len [(.var 11)])) (.tup [(.bin .sub (.var 13) (.bin .mod (.ix (.var 4) (.int (4))) (.int (20)))), (.bin .sub (.var 14) (.bin .mod (.ix (.var 4) (.int (5))) (.int (20)))), (.bin .add (.var 15) (.bin .mod (.ix (.var 4) (.int (6))) (.int (20)))), (.bin .add (.var 16) (.bin .mod (.ix (.var 4) (.int (7))) (.int (9))))]))] [])])]),
  (.asg 7 (.bi .list [(.var 11)])),
  (.asg 8 (.call 8 [(.bin .add (.var 3) (.int (5))), (.bi .len [(.var 11)]), (.int (5040))])),
  (.asg 9 (.lst [])),
  (.for_ .range [(.bi .len [(.var 11)])] (.name 10) [(.appPop 9 7 (.bin .mod (.ix (.var 8) (.var 10)) (.bi .len [(.var 7)])))]),
  (.retv 9)]
/-- _law_things [script, at, most, draws, count, bits, boxes, roles, texts, found, k, parent, role, refs, text, hidden, one, other] -/
def B13 : List S := [
  (.asg 3 (.call 8 [(.call 7 [(.var 0), (.var 1)]), (.int (8)), (.int (5040))])),
  (.asg 4 (.bin .add (.int (1)) (.bin .mod (.ix (.var 3) (.int (0))) (.var 2)))),
  (.asg 5 (.call 8 [(.call 7 [(.var 0), (.bin .add (.var 1) (.int (1)))]), (.bin .mul (.int (8)) (.var 4)), (.int (5040))])),
  (.asg 6 (.call 12 [(.var 0), (.bin .add (.var 1) (.int (2))), (.var 2)])),
  (.asg 7 (.lst [(.str "page"), (.str "group"), (.str "list"), (.str "item"), (.str "heading"), (.str "text"), (.str "button"), (.str "link"), (.str "field"), (.str "image"), (.str "note"), (.str "table")])),
  (.asg 8 (.lst [(.str ""), (.str ""), (.str ""), (.str "Go"), (.str "a b"), (.str "no"), (.str "Save all"), (.str "~"), (.str "x  y"), (.str "7")])),
  (.asg 9 (.lst [])),
  (.for_ .range [(.var 4)] (.name 10) [(.asg 11 (.bin .sub (.bin .mod (.ix (.var 5) (.bin .mul (.int (8)) (.var 10))) (.bin .add (.var 10) (.int (1)))) (.int (1)))), (.ife (.cmp .eq (.bin .mod (.ix (.var 5) (.bin .add (.bin .mul (.int (8)) (.var 10)) (.int (1)))) (.int (3))) (.int (0))) [(.asg 11 (.neg (.int (1))))] []), (.asg 12 (.ix (.var 7) (.bin .mod (.ix (.var 5) (.bin .add (.bin .mul (.int (8)) (.var 10)) (.int (2)))) (.int (12))))), (.ife (.cmp .gt (.bin .mod (.bin .div (.ix (.var 5) (.bin .add (.bin .mul (.int (8)) (.var 10)) (.int (2)))) (.int (12))) (.int (3))) (.int (0))) [(.asg 12 (.ix (.lst [(.str "item"), (.str "heading"), (.str "button"), (.str "link")]) (.bin .mod (.bin .div (.ix (.var 5) (.bin .add (.bin .mul (.int (8)) (.var 10)) (.int (2)))) (.int (36))) (.int (4)))))] []), (.asg 13 (.tup [])), (.ife (.cmp .eq (.bin .mod (.ix (.var 5) (.bin .add (.bin .mul (.int (8)) (.var 10)) (.int (3)))) (.int (5))) (.int (0))) [(.asg 16 (.bin .mod (.ix (.var 5) (.bin .add (.bin .mul (.int (8)) (.var 10)) (.int (4)))) (.var 4))), (.asg 17 (.bin .mod (.ix (.var 5) (.bin .add (.bin .mul (.int (8)) (.var 10)) (.int (5)))) (.var 4))), (.asg 13 (.ix (.lst [(.tup [(.var 16)]), (.tup [(.var 16), (.var 17)]), (.tup [(.var 17)]), (.tup [(.var 10)]), (.tup [(.bi .min2 [(.var 16), (.var 10)])]), (.tup [(.var 10), (.var 16)])]) (.bin .mod (.bin .div (.ix (.var 5) (.bin .add (.bin .mul (.int (8)) (.var 10)) (.int (3)))) (.int (5))) (.int (6))))), (.ife (.and [(.cmp .eq (.bi .len [(.var 13)]) (.int (2))), (.cmp .eq (.ix (.var 13) (.int (0))) (.ix (.var 13) (.int (1))))]) [(.asg 13 (.tup [(.var 16)]))] [])] []), (.asg 14 (.ix (.var 8) (.bin .mod (.ix (.var 5) (.bin .add (.bin .mul (.int (8)) (.var 10)) (.int (6)))) (.int (10))))), (.asg 15 (.bi .int [(.cmp .eq (.bin .mod (.ix (.var 5) (.bin .add (.bin .mul (.int (8)) (.var 10)) (.int (7)))) (.int (6))) (.int (0)))])), (.app 9 [] (.tup [(.var 11), (.var 12), (.var 14), (.var 13), (.var 15), (.ix (.var 6) (.bin .mod (.var 10) (.bi .len [(.var 6)])))]))]),
  (.retv 9)]
/-- _law_is [value, low, high] -/
def B14 : List S := [
  (.ret (.and [(.isi (.var 0) .int), (.not (.isi (.var 0) .bool)), (.cmp .le (.var 1) (.var 0)), (.cmp .le (.var 0) (.var 2))]))]
/-- _law_is_thing [thing, k, count, roles, sign, at, number, parent, role, text, refs, hidden, box] -/
def B15 : List S := [
  (.ife (.or [(.not (.isi (.var 0) .tuple)), (.cmp .ne (.bi .len [(.var 0)]) (.int (6)))]) [(.ret (.bl false))] []),
  (.asgT [7, 8, 9, 10, 11, 12] (.var 0)),
  (.asg 3 (.lst [(.str "page"), (.str "group"), (.str "list"), (.str "item"), (.str "heading"), (.str "text"), (.str "button"), (.str "link"), (.str "field"), (.str "image"), (.str "note"), (.str "table")])),
  (.ife (.or [(.not (.call 14 [(.var 7), (.neg (.int (1))), (.bin .sub (.var 1) (.int (1)))])), (.not (.isi (.var 8) .str)), (.cmp .nin (.var 8) (.var 3)), (.not (.isi (.var 9) .str)), (.not (.call 14 [(.var 11), (.int (0)), (.int (1))]))]) [(.ret (.bl false))] []),
  (.for_ .seq [(.var 9)] (.name 4) [(.ife (.or [(.cmp .lt (.bi .ord [(.var 4)]) (.int (32))), (.cmp .gt (.bi .ord [(.var 4)]) (.int (126)))]) [(.ret (.bl false))] [])]),
  (.ife (.or [(.not (.isi (.var 10) .tuple)), (.not (.isi (.var 12) .tuple)), (.cmp .ne (.bi .len [(.var 12)]) (.int (4)))]) [(.ret (.bl false))] []),
  (.for_ .range [(.bi .len [(.var 10)])] (.name 5) [(.ife (.or [(.not (.call 14 [(.ix (.var 10) (.var 5)), (.int (0)), (.bin .sub (.var 2) (.int (1)))])), (.cmp .in_ (.ix (.var 10) (.var 5)) (.sl (.var 10) (some (.int (0))) (some (.var 5))))]) [(.ret (.bl false))] [])]),
  (.for_ .seq [(.var 12)] (.name 6) [(.ife (.or [(.not (.isi (.var 6) .int)), (.isi (.var 6) .bool)]) [(.ret (.bl false))] [])]),
  (.ret (.and [(.cmp .lt (.ix (.var 12) (.int (0))) (.ix (.var 12) (.int (2)))), (.cmp .lt (.ix (.var 12) (.int (1))) (.ix (.var 12) (.int (3))))]))]
/-- _law_word [things, k] -/
def B16 : List S := [
  (.for_ .range [(.bi .len [(.var 0)])] (.name 1) [(.ife (.not (.call 15 [(.ix (.var 0) (.var 1)), (.var 1), (.bi .len [(.var 0)])])) [(.ret (.str "thing"))] [])]),
  (.ret (.ix (.lst [(.str "count"), (.str "good")]) (.bi .int [(.and [(.cmp .le (.int (1)) (.bi .len [(.var 0)])), (.cmp .le (.bi .len [(.var 0)]) (.int (60)))])])))]
/-- _law_told [things, e] -/
def B17 : List S := [
  (.try_ [(.ret (.ix (.lst [(.str "told"), (.str "good")]) (.bi .int [(.cmp .isn (.call 6 [(.var 0)]) .non)])))] [([("InvalidThing", true), ("WrongCount", false)], some 1, [(.ret (.ix (.lst [(.str "thing"), (.str "other")]) (.bi .int [(.or [(.not (.ise 1 [("InvalidThing", true), ("WrongCount", true)])), (.ise 1 [("InvalidThing", false), ("WrongCount", true)])])])))]), ([("InvalidThing", false), ("WrongCount", true)], some 1, [(.ret (.ix (.lst [(.str "count"), (.str "other")]) (.bi .int [(.not (.ise 1 [("InvalidThing", true), ("WrongCount", true)]))])))])])]
/-- _law_others [thing, k, count, values, found, at, value] -/
def B18 : List S := [
  (.asg 3 (.lst [(.lst [(.neg (.int (2))), (.neg (.int (1))), (.var 1), (.bin .sub (.var 1) (.int (1))), (.bl true), .non, (.str "0")]), (.lst [(.str "text"), (.str "Text"), (.str ""), .non, (.str "image"), (.int (4))])])),
  (.app 3 [] (.lst [(.str ""), (.str "a"), (.str "a\nb"), (.str "~ "), (.str "	"), .non, (.int (5))])),
  (.app 3 [] (.lst [(.tup []), (.tup [(.int (0))]), (.tup [(.var 2)]), (.tup [(.neg (.int (1)))]), (.tup [(.int (0)), (.int (0))]), (.lst [(.int (0))]), .non, (.tup [(.bl true)]), (.tup [(.str "0")]), (.tup [(.int (0)), (.bin .sub (.var 2) (.int (1)))])])),
  (.app 3 [] (.lst [(.int (0)), (.int (1)), (.int (2)), (.neg (.int (1))), (.bl true), (.bl false), .non])),
  (.app 3 [] (.lst [(.tup [(.int (0)), (.int (0)), (.int (1)), (.int (1))]), (.tup [(.int (0)), (.int (0)), (.int (0)), (.int (1))]), (.tup [(.int (0)), (.int (0)), (.int (1))]), (.lst [(.int (0)), (.int (0)), (.int (1)), (.int (1))]), .non, (.tup [(.int (0)), (.int (0)), (.bl true), (.int (1))]), (.tup [(.int (1)), (.int (1)), (.int (0)), (.int (0))])])),
  (.asg 4 (.lst [(.var 0), (.sl (.var 0) (some (.int (0))) (some (.int (5)))), (.bin .add (.var 0) (.tup [(.int (0))])), (.bi .list [(.var 0)]), (.tup []), .non])),
  (.for_ .range [(.int (6))] (.name 5) [(.for_ .seq [(.ix (.var 3) (.var 5))] (.name 6) [(.app 4 [] (.bin .add (.bin .add (.sl (.var 0) (some (.int (0))) (some (.var 5))) (.tup [(.var 6)])) (.sl (.var 0) (some (.bin .add (.var 5) (.int (1)))) none)))])]),
  (.retv 4)]
/-- law [script, things, draws, kept, k, other, plain, count, changed, many, j] -/
def B19 : List S := [
  (.asg 1 (.call 13 [(.var 0), (.int (0)), (.int (14))])),
  (.asg 2 (.call 8 [(.call 7 [(.var 0), (.int (5))]), (.int (4)), (.int (5040))])),
  (.asg 3 (.bi .list [(.var 1)])),
  (.ife (.or [(.cmp .ne (.call 17 [(.var 1)]) (.str "good")), (.cmp .ne (.var 1) (.var 3))]) [(.ret (.bl false))] []),
  (.asg 4 (.bin .mod (.ix (.var 2) (.int (0))) (.bi .len [(.var 1)]))),
  (.for_ .seq [(.call 18 [(.ix (.var 1) (.var 4)), (.var 4), (.bi .len [(.var 1)])])] (.name 5) [(.asg 8 (.bin .add (.bin .add (.sl (.var 1) (some (.int (0))) (some (.var 4))) (.lst [(.var 5)])) (.sl (.var 1) (some (.bin .add (.var 4) (.int (1)))) none))), (.ife (.cmp .ne (.call 17 [(.var 8)]) (.call 16 [(.var 8)])) [(.ret (.bl false))] [])]),
  (.asg 6 (.tup [(.neg (.int (1))), (.str "text"), (.str "a"), (.tup []), (.int (0)), (.tup [(.int (0)), (.int (0)), (.int (1)), (.int (1))])])),
  (.for_ .seq [(.lst [(.int (0)), (.int (1)), (.int (59)), (.int (60)), (.int (61)), (.bin .add (.int (62)) (.bin .mod (.ix (.var 2) (.int (1))) (.int (40))))])] (.name 7) [(.asg 9 (.lc [10] .range [(.var 7)] (.name 10) [] (.var 6))), (.ife (.cmp .ne (.call 17 [(.var 9)]) (.call 16 [(.var 9)])) [(.ret (.bl false))] [])]),
  (.ret (.cmp .eq (.call 17 [(.bin .add (.lc [10] .range [(.int (61))] (.name 10) [] (.var 6)) (.lst [(.tup [])]))]) (.str "thing")))]
end Law

namespace Law
open PySem Hv
abbrev Bz : Sub := fun _ _ => none
noncomputable abbrev C (k : Nat) : Cal := callN T Bz k
theorem c0 (k : Nat) (a : PyData) : C (k + 1) 0 [a] = retC (svs (C k) T.G Bz B0 [some (.v a)]) := (call_eq 1 1 (by kernel_rfl)).trans (r1 rfl)
theorem c1 (k : Nat) (a : PyData) : C (k + 1) 1 [a] = retC (svs (C k) T.G Bz B1 [some (.v a), none, none, none, none, none]) := (call_eq 1 6 (by kernel_rfl)).trans (r1 rfl)
theorem c2 (k : Nat) (a : PyData) : C (k + 1) 2 [a] = retC (svs (C k) T.G Bz B2 [some (.v a), none]) := (call_eq 1 2 (by kernel_rfl)).trans (r1 rfl)
theorem c3 (k : Nat) (a b : PyData) : C (k + 1) 3 [a, b] = retC (svs (C k) T.G Bz B3 [some (.v a), some (.v b), none]) := (call_eq 2 3 (by kernel_rfl)).trans (r1 rfl)
theorem c4 (k : Nat) (a b : PyData) : C (k + 1) 4 [a, b] = retC (svs (C k) T.G Bz B4 [some (.v a), some (.v b)]) := (call_eq 2 2 (by kernel_rfl)).trans (r1 rfl)
theorem c5 (k : Nat) (a b c : PyData) : C (k + 1) 5 [a, b, c] = retC (svs (C k) T.G Bz B5 [some (.v a), some (.v b), some (.v c), none, none, none, none, none, none]) := (call_eq 3 9 (by kernel_rfl)).trans (r1 rfl)
theorem c6 (k : Nat) (a : PyData) : C (k + 1) 6 [a] = retC (svs (C k) T.G Bz B6 [some (.v a), none, none]) := (call_eq 1 3 (by kernel_rfl)).trans (r1 rfl)
theorem c7 (k : Nat) (a b : PyData) : C (k + 1) 7 [a, b] = retC (svs (C k) T.G Bz B7 [some (.v a), some (.v b)]) := (call_eq 2 2 (by kernel_rfl)).trans (r1 rfl)
theorem c8 (k : Nat) (a b c : PyData) : C (k + 1) 8 [a, b, c] = retC (svs (C k) T.G Bz B8 [some (.v a), some (.v b), some (.v c), none, none, none]) := (call_eq 3 6 (by kernel_rfl)).trans (r1 rfl)
theorem c9 (k : Nat) (a b c : PyData) : C (k + 1) 9 [a, b, c] = retC (svs (C k) T.G Bz B9 [some (.v a), some (.v b), some (.v c), none, none, none, none]) := (call_eq 3 7 (by kernel_rfl)).trans (r1 rfl)
theorem c10 (k : Nat) (a b : PyData) : C (k + 1) 10 [a, b] = retC (svs (C k) T.G Bz B10 [some (.v a), some (.v b), none, none, none, none, none, none, none, none, none, none]) := (call_eq 2 12 (by kernel_rfl)).trans (r1 rfl)
theorem c11 (k : Nat) (a : PyData) : C (k + 1) 11 [a] = retC (svs (C k) T.G Bz B11 [some (.v a), none, none, none, none, none, none, none, none]) := (call_eq 1 9 (by kernel_rfl)).trans (r1 rfl)
theorem c12 (k : Nat) (a b c : PyData) : C (k + 1) 12 [a, b, c] = retC (svs (C k) T.G Bz B12 [some (.v a), some (.v b), some (.v c), none, none, none, none, none, none, none, none, none, none, none, none, none, none]) := (call_eq 3 17 (by kernel_rfl)).trans (r1 rfl)
theorem c13 (k : Nat) (a b c : PyData) : C (k + 1) 13 [a, b, c] = retC (svs (C k) T.G Bz B13 [some (.v a), some (.v b), some (.v c), none, none, none, none, none, none, none, none, none, none, none, none, none, none, none]) := (call_eq 3 18 (by kernel_rfl)).trans (r1 rfl)
theorem c14 (k : Nat) (a b c : PyData) : C (k + 1) 14 [a, b, c] = retC (svs (C k) T.G Bz B14 [some (.v a), some (.v b), some (.v c)]) := (call_eq 3 3 (by kernel_rfl)).trans (r1 rfl)
theorem c15 (k : Nat) (a b c : PyData) : C (k + 1) 15 [a, b, c] = retC (svs (C k) T.G Bz B15 [some (.v a), some (.v b), some (.v c), none, none, none, none, none, none, none, none, none, none]) := (call_eq 3 13 (by kernel_rfl)).trans (r1 rfl)
theorem c16 (k : Nat) (a : PyData) : C (k + 1) 16 [a] = retC (svs (C k) T.G Bz B16 [some (.v a), none]) := (call_eq 1 2 (by kernel_rfl)).trans (r1 rfl)
theorem c17 (k : Nat) (a : PyData) : C (k + 1) 17 [a] = retC (svs (C k) T.G Bz B17 [some (.v a), none]) := (call_eq 1 2 (by kernel_rfl)).trans (r1 rfl)
theorem c18 (k : Nat) (a b c : PyData) : C (k + 1) 18 [a, b, c] = retC (svs (C k) T.G Bz B18 [some (.v a), some (.v b), some (.v c), none, none, none, none]) := (call_eq 3 7 (by kernel_rfl)).trans (r1 rfl)
theorem c19 (k : Nat) (a : PyData) : C (k + 1) 19 [a] = retC (svs (C k) T.G Bz B19 [some (.v a), none, none, none, none, none, none, none, none, none, none]) := (call_eq 1 11 (by kernel_rfl)).trans (r1 rfl)
end Law

namespace Law
open PySem Hv
theorem cell (k : Nat) (ns : List Int) (i : Nat) : C (k + 1) 7 [IL ns, .int i] = .ok (.v (.int (ns.getD i 0))) := by
  rw [c7]
  unfold B7
  simp (config := { implicitDefEqProofs := false }) [Hv.s1, Hv.s2, Hv.s3, Hv.s4, Hv.s5, Hv.s6, Hv.s7, Hv.s8, Hv.s9, Hv.s10, Hv.s11, Hv.s12, Hv.s13, Hv.s14, Hv.s15, Hv.s16, Hv.s17, Hv.s18, Hv.s19, Hv.s20, Hv.s21, Hv.s22, Hv.s23, Hv.s24, Hv.s25, Hv.s26, Hv.s27, Hv.s28, Hv.s29, Hv.s30, Hv.s31, Hv.s32, Hv.s33, Hv.s34, Hv.s35, Hv.s36, Hv.s37, Hv.s38, Hv.v1, Hv.v2, Hv.v3, Hv.v4, Hv.v6, Hv.v7, Hv.v8, Hv.v9, Hv.v10, Hv.v11, Hv.e1, Hv.e2, Hv.e3, Hv.e4, Hv.e5, Hv.e6, Hv.e7, Hv.e8, Hv.e9, Hv.e10, Hv.e11, Hv.e12, Hv.e13, Hv.e14, Hv.e16, Hv.e17, Hv.e18, Hv.e19, Hv.e20, Hv.e21, Hv.e22, Hv.e23, Hv.e24, Hv.e25, Hv.e26, Hv.x1, Hv.x2, Hv.x6, Hv.x7, Hv.x8, Hv.x9, Hv.x12, Hv.x13, Hv.x14, Hv.x15, Hv.x16, Hv.x17, Hv.x21, Hv.x22, Hv.x23, Hv.x24, Hv.x25, Hv.x26, Hv.x27, Hv.x28, Hv.x29, Hv.x30, Hv.y0, Hv.y1, Hv.y2, Hv.y3, Hv.y4, Hv.y5, Hv.x31, Hv.x32, Hv.x33, Hv.x34, Hv.x35, Hv.x36, Hv.x39, Hv.a1, Hv.a2, Hv.k1, Hv.k4, Hv.k6, Hv.k7, Hv.k8, Hv.k9, Hv.k10, Hv.t0, Hv.t1, Hv.t2, Hv.t3, Hv.t4, Hv.t5, Hv.t6, Hv.t7, Hv.t8, Hv.t9, Hv.t10, Hv.t11, Hv.t12, Hv.t13, Hv.t14, Hv.t14', Hv.t15, Hv.t16, Hv.t17, Hv.t18, Hv.t19, Hv.t20, Hv.t21, Hv.t22, Hv.t23, Hv.t24, Hv.t25, Hv.t26, Hv.t28, Hv.r2, Hv.r3, Hv.r4, Hv.z1, Hv.z2, Hv.z3, Hv.mutDs_int, Hv.intsOf_int, Hv.startE, Hv.isNew, List.set]
  by_cases h : i < ns.length
  · simp (config := { implicitDefEqProofs := false }) [Hv.s1, Hv.s2, Hv.s3, Hv.s4, Hv.s5, Hv.s6, Hv.s7, Hv.s8, Hv.s9, Hv.s10, Hv.s11, Hv.s12, Hv.s13, Hv.s14, Hv.s15, Hv.s16, Hv.s17, Hv.s18, Hv.s19, Hv.s20, Hv.s21, Hv.s22, Hv.s23, Hv.s24, Hv.s25, Hv.s26, Hv.s27, Hv.s28, Hv.s29, Hv.s30, Hv.s31, Hv.s32, Hv.s33, Hv.s34, Hv.s35, Hv.s36, Hv.s37, Hv.s38, Hv.v1, Hv.v2, Hv.v3, Hv.v4, Hv.v6, Hv.v7, Hv.v8, Hv.v9, Hv.v10, Hv.v11, Hv.e1, Hv.e2, Hv.e3, Hv.e4, Hv.e5, Hv.e6, Hv.e7, Hv.e8, Hv.e9, Hv.e10, Hv.e11, Hv.e12, Hv.e13, Hv.e14, Hv.e16, Hv.e17, Hv.e18, Hv.e19, Hv.e20, Hv.e21, Hv.e22, Hv.e23, Hv.e24, Hv.e25, Hv.e26, Hv.x1, Hv.x2, Hv.x6, Hv.x7, Hv.x8, Hv.x9, Hv.x12, Hv.x13, Hv.x14, Hv.x15, Hv.x16, Hv.x17, Hv.x21, Hv.x22, Hv.x23, Hv.x24, Hv.x25, Hv.x26, Hv.x27, Hv.x28, Hv.x29, Hv.x30, Hv.y0, Hv.y1, Hv.y2, Hv.y3, Hv.y4, Hv.y5, Hv.x31, Hv.x32, Hv.x33, Hv.x34, Hv.x35, Hv.x36, Hv.x39, Hv.a1, Hv.a2, Hv.k1, Hv.k4, Hv.k6, Hv.k7, Hv.k8, Hv.k9, Hv.k10, Hv.t0, Hv.t1, Hv.t2, Hv.t3, Hv.t4, Hv.t5, Hv.t6, Hv.t7, Hv.t8, Hv.t9, Hv.t10, Hv.t11, Hv.t12, Hv.t13, Hv.t14, Hv.t14', Hv.t15, Hv.t16, Hv.t17, Hv.t18, Hv.t19, Hv.t20, Hv.t21, Hv.t22, Hv.t23, Hv.t24, Hv.t25, Hv.t26, Hv.t28, Hv.r2, Hv.r3, Hv.r4, Hv.z1, Hv.z2, Hv.z3, Hv.mutDs_int, Hv.intsOf_int, Hv.startE, Hv.isNew, List.set, h]
  · simp (config := { implicitDefEqProofs := false }) [Hv.s1, Hv.s2, Hv.s3, Hv.s4, Hv.s5, Hv.s6, Hv.s7, Hv.s8, Hv.s9, Hv.s10, Hv.s11, Hv.s12, Hv.s13, Hv.s14, Hv.s15, Hv.s16, Hv.s17, Hv.s18, Hv.s19, Hv.s20, Hv.s21, Hv.s22, Hv.s23, Hv.s24, Hv.s25, Hv.s26, Hv.s27, Hv.s28, Hv.s29, Hv.s30, Hv.s31, Hv.s32, Hv.s33, Hv.s34, Hv.s35, Hv.s36, Hv.s37, Hv.s38, Hv.v1, Hv.v2, Hv.v3, Hv.v4, Hv.v6, Hv.v7, Hv.v8, Hv.v9, Hv.v10, Hv.v11, Hv.e1, Hv.e2, Hv.e3, Hv.e4, Hv.e5, Hv.e6, Hv.e7, Hv.e8, Hv.e9, Hv.e10, Hv.e11, Hv.e12, Hv.e13, Hv.e14, Hv.e16, Hv.e17, Hv.e18, Hv.e19, Hv.e20, Hv.e21, Hv.e22, Hv.e23, Hv.e24, Hv.e25, Hv.e26, Hv.x1, Hv.x2, Hv.x6, Hv.x7, Hv.x8, Hv.x9, Hv.x12, Hv.x13, Hv.x14, Hv.x15, Hv.x16, Hv.x17, Hv.x21, Hv.x22, Hv.x23, Hv.x24, Hv.x25, Hv.x26, Hv.x27, Hv.x28, Hv.x29, Hv.x30, Hv.y0, Hv.y1, Hv.y2, Hv.y3, Hv.y4, Hv.y5, Hv.x31, Hv.x32, Hv.x33, Hv.x34, Hv.x35, Hv.x36, Hv.x39, Hv.a1, Hv.a2, Hv.k1, Hv.k4, Hv.k6, Hv.k7, Hv.k8, Hv.k9, Hv.k10, Hv.t0, Hv.t1, Hv.t2, Hv.t3, Hv.t4, Hv.t5, Hv.t6, Hv.t7, Hv.t8, Hv.t9, Hv.t10, Hv.t11, Hv.t12, Hv.t13, Hv.t14, Hv.t14', Hv.t15, Hv.t16, Hv.t17, Hv.t18, Hv.t19, Hv.t20, Hv.t21, Hv.t22, Hv.t23, Hv.t24, Hv.t25, Hv.t26, Hv.t28, Hv.r2, Hv.r3, Hv.r4, Hv.z1, Hv.z2, Hv.z3, Hv.mutDs_int, Hv.intsOf_int, Hv.startE, Hv.isNew, List.set, h]
theorem pw18 (b : Bool) (al : Al) : binP .pow b al (.int 10) (.int 18) = .ok (.v (.int 1000000000000000000)) [] := by
  have : powOk 10 18 = true := by decide
  simp [binP, this]
/-- the numbers drawn: so many, each below the limit -/
theorem numbers (k : Nat) (cell : Int) (n : Nat) (limit : Int) (hn : n ≤ 1000) (h0 : 0 < limit) (h1 : limit ≤ 1000000) : ∃ ns : List Int, ns.length = n ∧ (∀ x ∈ ns, 0 ≤ x ∧ x < limit) ∧ C (k + 1) 8 [.int cell, .int n, .int limit] = .ok (oL (ns.map .int)) := by
  rw [c8]
  unfold B8
  simp (config := { implicitDefEqProofs := false }) [Hv.s1, Hv.s2, Hv.s3, Hv.s4, Hv.s5, Hv.s6, Hv.s7, Hv.s8, Hv.s9, Hv.s10, Hv.s11, Hv.s12, Hv.s13, Hv.s14, Hv.s15, Hv.s16, Hv.s17, Hv.s18, Hv.s19, Hv.s20, Hv.s21, Hv.s22, Hv.s23, Hv.s24, Hv.s25, Hv.s26, Hv.s27, Hv.s28, Hv.s29, Hv.s30, Hv.s31, Hv.s32, Hv.s33, Hv.s34, Hv.s35, Hv.s36, Hv.s37, Hv.s38, Hv.v1, Hv.v2, Hv.v3, Hv.v4, Hv.v6, Hv.v7, Hv.v8, Hv.v9, Hv.v10, Hv.v11, Hv.e1, Hv.e2, Hv.e3, Hv.e4, Hv.e5, Hv.e6, Hv.e7, Hv.e8, Hv.e9, Hv.e10, Hv.e11, Hv.e12, Hv.e13, Hv.e14, Hv.e16, Hv.e17, Hv.e18, Hv.e19, Hv.e20, Hv.e21, Hv.e22, Hv.e23, Hv.e24, Hv.e25, Hv.e26, Hv.x1, Hv.x2, Hv.x6, Hv.x7, Hv.x8, Hv.x9, Hv.x12, Hv.x13, Hv.x14, Hv.x15, Hv.x16, Hv.x17, Hv.x21, Hv.x22, Hv.x23, Hv.x24, Hv.x25, Hv.x26, Hv.x27, Hv.x28, Hv.x29, Hv.x30, Hv.y0, Hv.y1, Hv.y2, Hv.y3, Hv.y4, Hv.y5, Hv.x31, Hv.x32, Hv.x33, Hv.x34, Hv.x35, Hv.x36, Hv.x39, Hv.a1, Hv.a2, Hv.k1, Hv.k4, Hv.k6, Hv.k7, Hv.k8, Hv.k9, Hv.k10, Hv.t0, Hv.t1, Hv.t2, Hv.t3, Hv.t4, Hv.t5, Hv.t6, Hv.t7, Hv.t8, Hv.t9, Hv.t10, Hv.t11, Hv.t12, Hv.t13, Hv.t14, Hv.t14', Hv.t15, Hv.t16, Hv.t17, Hv.t18, Hv.t19, Hv.t20, Hv.t21, Hv.t22, Hv.t23, Hv.t24, Hv.t25, Hv.t26, Hv.t28, Hv.r2, Hv.r3, Hv.r4, Hv.z1, Hv.z2, Hv.z3, Hv.mutDs_int, Hv.intsOf_int, Hv.startE, Hv.isNew, List.set, pw18]
  by_cases hc : 1000000000000000000 ≤ cell
  · simp (config := { implicitDefEqProofs := false }) [Hv.s1, Hv.s2, Hv.s3, Hv.s4, Hv.s5, Hv.s6, Hv.s7, Hv.s8, Hv.s9, Hv.s10, Hv.s11, Hv.s12, Hv.s13, Hv.s14, Hv.s15, Hv.s16, Hv.s17, Hv.s18, Hv.s19, Hv.s20, Hv.s21, Hv.s22, Hv.s23, Hv.s24, Hv.s25, Hv.s26, Hv.s27, Hv.s28, Hv.s29, Hv.s30, Hv.s31, Hv.s32, Hv.s33, Hv.s34, Hv.s35, Hv.s36, Hv.s37, Hv.s38, Hv.v1, Hv.v2, Hv.v3, Hv.v4, Hv.v6, Hv.v7, Hv.v8, Hv.v9, Hv.v10, Hv.v11, Hv.e1, Hv.e2, Hv.e3, Hv.e4, Hv.e5, Hv.e6, Hv.e7, Hv.e8, Hv.e9, Hv.e10, Hv.e11, Hv.e12, Hv.e13, Hv.e14, Hv.e16, Hv.e17, Hv.e18, Hv.e19, Hv.e20, Hv.e21, Hv.e22, Hv.e23, Hv.e24, Hv.e25, Hv.e26, Hv.x1, Hv.x2, Hv.x6, Hv.x7, Hv.x8, Hv.x9, Hv.x12, Hv.x13, Hv.x14, Hv.x15, Hv.x16, Hv.x17, Hv.x21, Hv.x22, Hv.x23, Hv.x24, Hv.x25, Hv.x26, Hv.x27, Hv.x28, Hv.x29, Hv.x30, Hv.y0, Hv.y1, Hv.y2, Hv.y3, Hv.y4, Hv.y5, Hv.x31, Hv.x32, Hv.x33, Hv.x34, Hv.x35, Hv.x36, Hv.x39, Hv.a1, Hv.a2, Hv.k1, Hv.k4, Hv.k6, Hv.k7, Hv.k8, Hv.k9, Hv.k10, Hv.t0, Hv.t1, Hv.t2, Hv.t3, Hv.t4, Hv.t5, Hv.t6, Hv.t7, Hv.t8, Hv.t9, Hv.t10, Hv.t11, Hv.t12, Hv.t13, Hv.t14, Hv.t14', Hv.t15, Hv.t16, Hv.t17, Hv.t18, Hv.t19, Hv.t20, Hv.t21, Hv.t22, Hv.t23, Hv.t24, Hv.t25, Hv.t26, Hv.t28, Hv.r2, Hv.r3, Hv.r4, Hv.z1, Hv.z2, Hv.z3, Hv.mutDs_int, Hv.intsOf_int, Hv.startE, Hv.isNew, List.set, hc, f1 (show n ≤ 16777216 by omega)]
    obtain ⟨ρ', e, c, ns, a, b, hl, hb, rfl⟩ := forR_inv (body := blk (C k) T.G Bz [S.app 3 [] (E.bin BOp.mod (E.bi Bi.int [E.var 0]) (E.var 2)), S.asg 0 (E.bin BOp.div (E.bi Bi.int [E.var 0]) (E.var 2))])
      (st := fun p ρ => setT (Tg.name 4) true p ρ) (ps := (rgI 0 (n : Int)).map .int) (ρ := [some (D.v (.int cell)), some (.v (.int n)), some (.v (.int limit)), some (oL []), none, none])
      (fun i ρ => ∃ (c : Int) (ns : List Int) (a b : Option D), ns.length = i ∧ (∀ x ∈ ns, 0 ≤ x ∧ x < limit) ∧ ρ = [some (.v (.int c)), some (.v (.int n)), some (.v (.int limit)), some (oL (ns.map .int)), a, b])
      (fun i p ρ hp ⟨c, ns, a, b, hl, hb, e⟩ => by
        obtain ⟨hi, rfl⟩ := rgI_get hp
        subst e
        have hd : divOk limit = true := by
          unfold divOk
          simp only [Bool.and_eq_true, decide_eq_true_eq]
          omega
        refine ⟨_, rfl, ?_⟩
        simp (config := { implicitDefEqProofs := false }) [Hv.s1, Hv.s2, Hv.s3, Hv.s4, Hv.s5, Hv.s6, Hv.s7, Hv.s8, Hv.s9, Hv.s10, Hv.s11, Hv.s12, Hv.s13, Hv.s14, Hv.s15, Hv.s16, Hv.s17, Hv.s18, Hv.s19, Hv.s20, Hv.s21, Hv.s22, Hv.s23, Hv.s24, Hv.s25, Hv.s26, Hv.s27, Hv.s28, Hv.s29, Hv.s30, Hv.s31, Hv.s32, Hv.s33, Hv.s34, Hv.s35, Hv.s36, Hv.s37, Hv.s38, Hv.v1, Hv.v2, Hv.v3, Hv.v4, Hv.v6, Hv.v7, Hv.v8, Hv.v9, Hv.v10, Hv.v11, Hv.e1, Hv.e2, Hv.e3, Hv.e4, Hv.e5, Hv.e6, Hv.e7, Hv.e8, Hv.e9, Hv.e10, Hv.e11, Hv.e12, Hv.e13, Hv.e14, Hv.e16, Hv.e17, Hv.e18, Hv.e19, Hv.e20, Hv.e21, Hv.e22, Hv.e23, Hv.e24, Hv.e25, Hv.e26, Hv.x1, Hv.x2, Hv.x6, Hv.x7, Hv.x8, Hv.x9, Hv.x12, Hv.x13, Hv.x14, Hv.x15, Hv.x16, Hv.x17, Hv.x21, Hv.x22, Hv.x23, Hv.x24, Hv.x25, Hv.x26, Hv.x27, Hv.x28, Hv.x29, Hv.x30, Hv.y0, Hv.y1, Hv.y2, Hv.y3, Hv.y4, Hv.y5, Hv.x31, Hv.x32, Hv.x33, Hv.x34, Hv.x35, Hv.x36, Hv.x39, Hv.a1, Hv.a2, Hv.k1, Hv.k4, Hv.k6, Hv.k7, Hv.k8, Hv.k9, Hv.k10, Hv.t0, Hv.t1, Hv.t2, Hv.t3, Hv.t4, Hv.t5, Hv.t6, Hv.t7, Hv.t8, Hv.t9, Hv.t10, Hv.t11, Hv.t12, Hv.t13, Hv.t14, Hv.t14', Hv.t15, Hv.t16, Hv.t17, Hv.t18, Hv.t19, Hv.t20, Hv.t21, Hv.t22, Hv.t23, Hv.t24, Hv.t25, Hv.t26, Hv.t28, Hv.r2, Hv.r3, Hv.r4, Hv.z1, Hv.z2, Hv.z3, Hv.mutDs_int, Hv.intsOf_int, Hv.startE, Hv.isNew, List.set, x5 h0, x4 hd, t27 (ps := ns.map PyData.int) (show (ns.map PyData.int).length < 16777216 by simp; omega)]
        refine ⟨_, ns ++ [c % limit], by simp [hl], fun x hx => ?_, rfl, by simp⟩
        rcases List.mem_append.mp hx with hx | hx
        · exact hb x hx
        · rw [List.mem_singleton.mp hx]
          exact ⟨Int.emod_nonneg _ (by omega), Int.emod_lt_of_pos _ h0⟩)
      ⟨cell, [], none, none, rfl, by simp, rfl⟩
    rw [rgI_len] at hl
    exact ⟨ns, hl, hb, by rw [e]; simp (config := { implicitDefEqProofs := false }) [Hv.s1, Hv.s2, Hv.s3, Hv.s4, Hv.s5, Hv.s6, Hv.s7, Hv.s8, Hv.s9, Hv.s10, Hv.s11, Hv.s12, Hv.s13, Hv.s14, Hv.s15, Hv.s16, Hv.s17, Hv.s18, Hv.s19, Hv.s20, Hv.s21, Hv.s22, Hv.s23, Hv.s24, Hv.s25, Hv.s26, Hv.s27, Hv.s28, Hv.s29, Hv.s30, Hv.s31, Hv.s32, Hv.s33, Hv.s34, Hv.s35, Hv.s36, Hv.s37, Hv.s38, Hv.v1, Hv.v2, Hv.v3, Hv.v4, Hv.v6, Hv.v7, Hv.v8, Hv.v9, Hv.v10, Hv.v11, Hv.e1, Hv.e2, Hv.e3, Hv.e4, Hv.e5, Hv.e6, Hv.e7, Hv.e8, Hv.e9, Hv.e10, Hv.e11, Hv.e12, Hv.e13, Hv.e14, Hv.e16, Hv.e17, Hv.e18, Hv.e19, Hv.e20, Hv.e21, Hv.e22, Hv.e23, Hv.e24, Hv.e25, Hv.e26, Hv.x1, Hv.x2, Hv.x6, Hv.x7, Hv.x8, Hv.x9, Hv.x12, Hv.x13, Hv.x14, Hv.x15, Hv.x16, Hv.x17, Hv.x21, Hv.x22, Hv.x23, Hv.x24, Hv.x25, Hv.x26, Hv.x27, Hv.x28, Hv.x29, Hv.x30, Hv.y0, Hv.y1, Hv.y2, Hv.y3, Hv.y4, Hv.y5, Hv.x31, Hv.x32, Hv.x33, Hv.x34, Hv.x35, Hv.x36, Hv.x39, Hv.a1, Hv.a2, Hv.k1, Hv.k4, Hv.k6, Hv.k7, Hv.k8, Hv.k9, Hv.k10, Hv.t0, Hv.t1, Hv.t2, Hv.t3, Hv.t4, Hv.t5, Hv.t6, Hv.t7, Hv.t8, Hv.t9, Hv.t10, Hv.t11, Hv.t12, Hv.t13, Hv.t14, Hv.t14', Hv.t15, Hv.t16, Hv.t17, Hv.t18, Hv.t19, Hv.t20, Hv.t21, Hv.t22, Hv.t23, Hv.t24, Hv.t25, Hv.t26, Hv.t28, Hv.r2, Hv.r3, Hv.r4, Hv.z1, Hv.z2, Hv.z3, Hv.mutDs_int, Hv.intsOf_int, Hv.startE, Hv.isNew, List.set]⟩
  · simp (config := { implicitDefEqProofs := false }) [Hv.s1, Hv.s2, Hv.s3, Hv.s4, Hv.s5, Hv.s6, Hv.s7, Hv.s8, Hv.s9, Hv.s10, Hv.s11, Hv.s12, Hv.s13, Hv.s14, Hv.s15, Hv.s16, Hv.s17, Hv.s18, Hv.s19, Hv.s20, Hv.s21, Hv.s22, Hv.s23, Hv.s24, Hv.s25, Hv.s26, Hv.s27, Hv.s28, Hv.s29, Hv.s30, Hv.s31, Hv.s32, Hv.s33, Hv.s34, Hv.s35, Hv.s36, Hv.s37, Hv.s38, Hv.v1, Hv.v2, Hv.v3, Hv.v4, Hv.v6, Hv.v7, Hv.v8, Hv.v9, Hv.v10, Hv.v11, Hv.e1, Hv.e2, Hv.e3, Hv.e4, Hv.e5, Hv.e6, Hv.e7, Hv.e8, Hv.e9, Hv.e10, Hv.e11, Hv.e12, Hv.e13, Hv.e14, Hv.e16, Hv.e17, Hv.e18, Hv.e19, Hv.e20, Hv.e21, Hv.e22, Hv.e23, Hv.e24, Hv.e25, Hv.e26, Hv.x1, Hv.x2, Hv.x6, Hv.x7, Hv.x8, Hv.x9, Hv.x12, Hv.x13, Hv.x14, Hv.x15, Hv.x16, Hv.x17, Hv.x21, Hv.x22, Hv.x23, Hv.x24, Hv.x25, Hv.x26, Hv.x27, Hv.x28, Hv.x29, Hv.x30, Hv.y0, Hv.y1, Hv.y2, Hv.y3, Hv.y4, Hv.y5, Hv.x31, Hv.x32, Hv.x33, Hv.x34, Hv.x35, Hv.x36, Hv.x39, Hv.a1, Hv.a2, Hv.k1, Hv.k4, Hv.k6, Hv.k7, Hv.k8, Hv.k9, Hv.k10, Hv.t0, Hv.t1, Hv.t2, Hv.t3, Hv.t4, Hv.t5, Hv.t6, Hv.t7, Hv.t8, Hv.t9, Hv.t10, Hv.t11, Hv.t12, Hv.t13, Hv.t14, Hv.t14', Hv.t15, Hv.t16, Hv.t17, Hv.t18, Hv.t19, Hv.t20, Hv.t21, Hv.t22, Hv.t23, Hv.t24, Hv.t25, Hv.t26, Hv.t28, Hv.r2, Hv.r3, Hv.r4, Hv.z1, Hv.z2, Hv.z3, Hv.mutDs_int, Hv.intsOf_int, Hv.startE, Hv.isNew, List.set, hc, f1 (show n ≤ 16777216 by omega)]
    obtain ⟨ρ', e, ns, a, b, hl, hb, rfl⟩ := forR_inv (body := blk (C k) T.G Bz [S.asg 5 (E.bin BOp.mod (E.bi Bi.int [E.bin BOp.add (E.bin BOp.add (E.bin BOp.mul (E.var 0) (E.int 48271)) (E.bin BOp.mul (E.var 4) (E.int 69621))) (E.int 7)]) (E.int 2147483647)), S.asg 5 (E.bin BOp.mod (E.bi Bi.int [E.bin BOp.add (E.bin BOp.add (E.bin BOp.add (E.bin BOp.mul (E.var 5) (E.var 5)) (E.bin BOp.mul (E.var 5) (E.int 40692))) (E.bin BOp.mul (E.var 4) (E.int 16807))) (E.int 11)]) (E.int 2147483399)), S.app 3 [] (E.bin BOp.mod (E.bi Bi.int [E.bin BOp.div (E.var 5) (E.int 32)]) (E.var 2))])
      (st := fun p ρ => setT (Tg.name 4) true p ρ) (ps := (rgI 0 (n : Int)).map .int) (ρ := [some (D.v (.int cell)), some (.v (.int n)), some (.v (.int limit)), some (oL []), none, none])
      (fun i ρ => ∃ (ns : List Int) (a b : Option D), ns.length = i ∧ (∀ x ∈ ns, 0 ≤ x ∧ x < limit) ∧ ρ = [some (.v (.int cell)), some (.v (.int n)), some (.v (.int limit)), some (oL (ns.map .int)), a, b])
      (fun i p ρ hp ⟨ns, a, b, hl, hb, e⟩ => by
        obtain ⟨hi, rfl⟩ := rgI_get hp
        subst e
        refine ⟨_, rfl, ?_⟩
        have g1 : divOk 32 = true := by decide
        have g2 : ∀ x : Int, mulOk x 48271 = true := fun x => mulOk_r (by decide)
        have g3 : ∀ x : Int, mulOk x 69621 = true := fun x => mulOk_r (by decide)
        have g4 : ∀ x : Int, mulOk x 16807 = true := fun x => mulOk_r (by decide)
        have g5 : ∀ x : Int, mulOk x 40692 = true := fun x => mulOk_r (by decide)
        have g6 : (0 : Int) < 2147483647 := by decide
        have g7 : (0 : Int) < 2147483399 := by decide
        simp (config := { implicitDefEqProofs := false }) [Hv.s1, Hv.s2, Hv.s3, Hv.s4, Hv.s5, Hv.s6, Hv.s7, Hv.s8, Hv.s9, Hv.s10, Hv.s11, Hv.s12, Hv.s13, Hv.s14, Hv.s15, Hv.s16, Hv.s17, Hv.s18, Hv.s19, Hv.s20, Hv.s21, Hv.s22, Hv.s23, Hv.s24, Hv.s25, Hv.s26, Hv.s27, Hv.s28, Hv.s29, Hv.s30, Hv.s31, Hv.s32, Hv.s33, Hv.s34, Hv.s35, Hv.s36, Hv.s37, Hv.s38, Hv.v1, Hv.v2, Hv.v3, Hv.v4, Hv.v6, Hv.v7, Hv.v8, Hv.v9, Hv.v10, Hv.v11, Hv.e1, Hv.e2, Hv.e3, Hv.e4, Hv.e5, Hv.e6, Hv.e7, Hv.e8, Hv.e9, Hv.e10, Hv.e11, Hv.e12, Hv.e13, Hv.e14, Hv.e16, Hv.e17, Hv.e18, Hv.e19, Hv.e20, Hv.e21, Hv.e22, Hv.e23, Hv.e24, Hv.e25, Hv.e26, Hv.x1, Hv.x2, Hv.x6, Hv.x7, Hv.x8, Hv.x9, Hv.x12, Hv.x13, Hv.x14, Hv.x15, Hv.x16, Hv.x17, Hv.x21, Hv.x22, Hv.x23, Hv.x24, Hv.x25, Hv.x26, Hv.x27, Hv.x28, Hv.x29, Hv.x30, Hv.y0, Hv.y1, Hv.y2, Hv.y3, Hv.y4, Hv.y5, Hv.x31, Hv.x32, Hv.x33, Hv.x34, Hv.x35, Hv.x36, Hv.x39, Hv.a1, Hv.a2, Hv.k1, Hv.k4, Hv.k6, Hv.k7, Hv.k8, Hv.k9, Hv.k10, Hv.t0, Hv.t1, Hv.t2, Hv.t3, Hv.t4, Hv.t5, Hv.t6, Hv.t7, Hv.t8, Hv.t9, Hv.t10, Hv.t11, Hv.t12, Hv.t13, Hv.t14, Hv.t14', Hv.t15, Hv.t16, Hv.t17, Hv.t18, Hv.t19, Hv.t20, Hv.t21, Hv.t22, Hv.t23, Hv.t24, Hv.t25, Hv.t26, Hv.t28, Hv.r2, Hv.r3, Hv.r4, Hv.z1, Hv.z2, Hv.z3, Hv.mutDs_int, Hv.intsOf_int, Hv.startE, Hv.isNew, List.set, x5 h0, x5 g6, x5 g7, x4 g1, x3 (g2 _), x3 (g3 _), x3 (g4 _), x3 (g5 _), x3 mulOk_mod]
        generalize (_ : Int) / 32 = c
        simp (config := { implicitDefEqProofs := false }) [Hv.s1, Hv.s2, Hv.s3, Hv.s4, Hv.s5, Hv.s6, Hv.s7, Hv.s8, Hv.s9, Hv.s10, Hv.s11, Hv.s12, Hv.s13, Hv.s14, Hv.s15, Hv.s16, Hv.s17, Hv.s18, Hv.s19, Hv.s20, Hv.s21, Hv.s22, Hv.s23, Hv.s24, Hv.s25, Hv.s26, Hv.s27, Hv.s28, Hv.s29, Hv.s30, Hv.s31, Hv.s32, Hv.s33, Hv.s34, Hv.s35, Hv.s36, Hv.s37, Hv.s38, Hv.v1, Hv.v2, Hv.v3, Hv.v4, Hv.v6, Hv.v7, Hv.v8, Hv.v9, Hv.v10, Hv.v11, Hv.e1, Hv.e2, Hv.e3, Hv.e4, Hv.e5, Hv.e6, Hv.e7, Hv.e8, Hv.e9, Hv.e10, Hv.e11, Hv.e12, Hv.e13, Hv.e14, Hv.e16, Hv.e17, Hv.e18, Hv.e19, Hv.e20, Hv.e21, Hv.e22, Hv.e23, Hv.e24, Hv.e25, Hv.e26, Hv.x1, Hv.x2, Hv.x6, Hv.x7, Hv.x8, Hv.x9, Hv.x12, Hv.x13, Hv.x14, Hv.x15, Hv.x16, Hv.x17, Hv.x21, Hv.x22, Hv.x23, Hv.x24, Hv.x25, Hv.x26, Hv.x27, Hv.x28, Hv.x29, Hv.x30, Hv.y0, Hv.y1, Hv.y2, Hv.y3, Hv.y4, Hv.y5, Hv.x31, Hv.x32, Hv.x33, Hv.x34, Hv.x35, Hv.x36, Hv.x39, Hv.a1, Hv.a2, Hv.k1, Hv.k4, Hv.k6, Hv.k7, Hv.k8, Hv.k9, Hv.k10, Hv.t0, Hv.t1, Hv.t2, Hv.t3, Hv.t4, Hv.t5, Hv.t6, Hv.t7, Hv.t8, Hv.t9, Hv.t10, Hv.t11, Hv.t12, Hv.t13, Hv.t14, Hv.t14', Hv.t15, Hv.t16, Hv.t17, Hv.t18, Hv.t19, Hv.t20, Hv.t21, Hv.t22, Hv.t23, Hv.t24, Hv.t25, Hv.t26, Hv.t28, Hv.r2, Hv.r3, Hv.r4, Hv.z1, Hv.z2, Hv.z3, Hv.mutDs_int, Hv.intsOf_int, Hv.startE, Hv.isNew, List.set, x5 h0, t27 (ps := ns.map PyData.int) (show (ns.map PyData.int).length < 16777216 by simp; omega)]
        refine ⟨ns ++ [c % limit], by simp [hl], fun x hx => ?_, by simp⟩
        rcases List.mem_append.mp hx with hx | hx
        · exact hb x hx
        · rw [List.mem_singleton.mp hx]
          exact ⟨Int.emod_nonneg _ (by omega), Int.emod_lt_of_pos _ h0⟩)
      ⟨[], none, none, rfl, by simp, rfl⟩
    rw [rgI_len] at hl
    exact ⟨ns, hl, hb, by rw [e]; simp (config := { implicitDefEqProofs := false }) [Hv.s1, Hv.s2, Hv.s3, Hv.s4, Hv.s5, Hv.s6, Hv.s7, Hv.s8, Hv.s9, Hv.s10, Hv.s11, Hv.s12, Hv.s13, Hv.s14, Hv.s15, Hv.s16, Hv.s17, Hv.s18, Hv.s19, Hv.s20, Hv.s21, Hv.s22, Hv.s23, Hv.s24, Hv.s25, Hv.s26, Hv.s27, Hv.s28, Hv.s29, Hv.s30, Hv.s31, Hv.s32, Hv.s33, Hv.s34, Hv.s35, Hv.s36, Hv.s37, Hv.s38, Hv.v1, Hv.v2, Hv.v3, Hv.v4, Hv.v6, Hv.v7, Hv.v8, Hv.v9, Hv.v10, Hv.v11, Hv.e1, Hv.e2, Hv.e3, Hv.e4, Hv.e5, Hv.e6, Hv.e7, Hv.e8, Hv.e9, Hv.e10, Hv.e11, Hv.e12, Hv.e13, Hv.e14, Hv.e16, Hv.e17, Hv.e18, Hv.e19, Hv.e20, Hv.e21, Hv.e22, Hv.e23, Hv.e24, Hv.e25, Hv.e26, Hv.x1, Hv.x2, Hv.x6, Hv.x7, Hv.x8, Hv.x9, Hv.x12, Hv.x13, Hv.x14, Hv.x15, Hv.x16, Hv.x17, Hv.x21, Hv.x22, Hv.x23, Hv.x24, Hv.x25, Hv.x26, Hv.x27, Hv.x28, Hv.x29, Hv.x30, Hv.y0, Hv.y1, Hv.y2, Hv.y3, Hv.y4, Hv.y5, Hv.x31, Hv.x32, Hv.x33, Hv.x34, Hv.x35, Hv.x36, Hv.x39, Hv.a1, Hv.a2, Hv.k1, Hv.k4, Hv.k6, Hv.k7, Hv.k8, Hv.k9, Hv.k10, Hv.t0, Hv.t1, Hv.t2, Hv.t3, Hv.t4, Hv.t5, Hv.t6, Hv.t7, Hv.t8, Hv.t9, Hv.t10, Hv.t11, Hv.t12, Hv.t13, Hv.t14, Hv.t14', Hv.t15, Hv.t16, Hv.t17, Hv.t18, Hv.t19, Hv.t20, Hv.t21, Hv.t22, Hv.t23, Hv.t24, Hv.t25, Hv.t26, Hv.t28, Hv.r2, Hv.r3, Hv.r4, Hv.z1, Hv.z2, Hv.z3, Hv.mutDs_int, Hv.intsOf_int, Hv.startE, Hv.isNew, List.set]⟩
end Law

namespace Law
open PySem Hv
theorem mod_rng (a : Int) {n : Int} (h : 0 < n) : 0 ≤ a % n ∧ a % n < n := ⟨Int.emod_nonneg _ (by omega), Int.emod_lt_of_pos _ h⟩
/-- a box -/
def bx (q : Q4) : Prop := q.1 < q.2.2.1 ∧ q.2.1 < q.2.2.2
def BX (qs : List Q4) : Prop := ∀ q ∈ qs, bx q
theorem BX.nil : BX [] := fun _ h => by cases h
theorem BX.one {q : Q4} (h : bx q) : BX [q] := fun r hr => by rw [List.mem_singleton.mp hr]; exact h
theorem BX.append {a b : List Q4} (h : BX a) (h' : BX b) : BX (a ++ b) := fun q hq => (List.mem_append.mp hq).elim (h q) (h' q)
theorem BX.app {a : List Q4} {q : Q4} (h : BX a) (h' : bx q) : BX (a ++ [q]) := h.append (BX.one h')
theorem BX.set {a : List Q4} {q : Q4} {n : Nat} (h : BX a) (h' : bx q) : BX (a.set n q) := fun r hr => (List.mem_or_eq_of_mem_set hr).elim (h r) fun e => e ▸ h'
theorem BX.take {a : List Q4} {n : Nat} (h : BX a) : BX (a.take n) := fun r hr => h r (List.mem_of_mem_take hr)
theorem BX.erase {a : List Q4} {n : Nat} (h : BX a) : BX (a.eraseIdx n) := fun r hr => h r (List.mem_of_mem_eraseIdx hr)
theorem BX.map {a : List Q4} {f : Q4 → Q4} (h : BX a) (hf : ∀ q, bx q → bx (f q)) : BX (a.map f) := fun r hr => by
  obtain ⟨q, hq, rfl⟩ := List.mem_map.mp hr
  exact hf q (h q hq)
/-- boxes drawn anywhere -/
theorem free (k : Nat) (ds : List Int) (n : Nat) (size : Int) (hn : n ≤ 1000) (hd : 4 * n ≤ ds.length) (hs : 0 < size) : ∃ qs : List Q4, (qs.length = n ∧ BX qs) ∧ C (k + 1) 9 [IL ds, .int n, .int size] = .ok (oL (qs.map qd)) := by
  rw [c9]
  unfold B9
  simp (config := { implicitDefEqProofs := false }) [Hv.s1, Hv.s2, Hv.s3, Hv.s4, Hv.s5, Hv.s6, Hv.s7, Hv.s8, Hv.s9, Hv.s10, Hv.s11, Hv.s12, Hv.s13, Hv.s14, Hv.s15, Hv.s16, Hv.s17, Hv.s18, Hv.s19, Hv.s20, Hv.s21, Hv.s22, Hv.s23, Hv.s24, Hv.s25, Hv.s26, Hv.s27, Hv.s28, Hv.s29, Hv.s30, Hv.s31, Hv.s32, Hv.s33, Hv.s34, Hv.s35, Hv.s36, Hv.s37, Hv.s38, Hv.v1, Hv.v2, Hv.v3, Hv.v4, Hv.v6, Hv.v7, Hv.v8, Hv.v9, Hv.v10, Hv.v11, Hv.e1, Hv.e2, Hv.e3, Hv.e4, Hv.e5, Hv.e6, Hv.e7, Hv.e8, Hv.e9, Hv.e10, Hv.e11, Hv.e12, Hv.e13, Hv.e14, Hv.e16, Hv.e17, Hv.e18, Hv.e19, Hv.e20, Hv.e21, Hv.e22, Hv.e23, Hv.e24, Hv.e25, Hv.e26, Hv.x1, Hv.x2, Hv.x6, Hv.x7, Hv.x8, Hv.x9, Hv.x12, Hv.x13, Hv.x14, Hv.x15, Hv.x16, Hv.x17, Hv.x21, Hv.x22, Hv.x23, Hv.x24, Hv.x25, Hv.x26, Hv.x27, Hv.x28, Hv.x29, Hv.x30, Hv.y0, Hv.y1, Hv.y2, Hv.y3, Hv.y4, Hv.y5, Hv.x31, Hv.x32, Hv.x33, Hv.x34, Hv.x35, Hv.x36, Hv.x39, Hv.a1, Hv.a2, Hv.k1, Hv.k4, Hv.k6, Hv.k7, Hv.k8, Hv.k9, Hv.k10, Hv.t0, Hv.t1, Hv.t2, Hv.t3, Hv.t4, Hv.t5, Hv.t6, Hv.t7, Hv.t8, Hv.t9, Hv.t10, Hv.t11, Hv.t12, Hv.t13, Hv.t14, Hv.t14', Hv.t15, Hv.t16, Hv.t17, Hv.t18, Hv.t19, Hv.t20, Hv.t21, Hv.t22, Hv.t23, Hv.t24, Hv.t25, Hv.t26, Hv.t28, Hv.r2, Hv.r3, Hv.r4, Hv.z1, Hv.z2, Hv.z3, Hv.mutDs_int, Hv.intsOf_int, Hv.startE, Hv.isNew, List.set, f1 (show n ≤ 16777216 by omega)]
  generalize hf : forR _ _ _ _ = r
  obtain ⟨ρ', rfl, qs, a, b, c, ⟨hl, hB⟩, rfl⟩ := go_inv hf (fun i ρ => ∃ (qs : List Q4) (a b c : Option D), (qs.length = i ∧ BX qs) ∧ ρ = [some (.v (IL ds)), some (.v (.int n)), some (.v (.int size)), some (oL (qs.map qd)), a, b, c])
    ⟨[], none, none, none, ⟨rfl, BX.nil⟩, rfl⟩ (fun i p ρ hp ⟨qs, a, b, c, ⟨hl, hB⟩, e⟩ => by
      obtain ⟨hi, rfl⟩ := rgI_get hp
      subst e
      refine ⟨_, rfl, ?_⟩
      have m4 : ∀ x : Int, mulOk 4 x = true := fun x => by unfold mulOk; simp
      have g6 : (0 : Int) < 6 := by decide
      have hap : (qs.map qd).length < 16777216 := by simp; omega
      simp (config := { implicitDefEqProofs := false }) [Hv.s1, Hv.s2, Hv.s3, Hv.s4, Hv.s5, Hv.s6, Hv.s7, Hv.s8, Hv.s9, Hv.s10, Hv.s11, Hv.s12, Hv.s13, Hv.s14, Hv.s15, Hv.s16, Hv.s17, Hv.s18, Hv.s19, Hv.s20, Hv.s21, Hv.s22, Hv.s23, Hv.s24, Hv.s25, Hv.s26, Hv.s27, Hv.s28, Hv.s29, Hv.s30, Hv.s31, Hv.s32, Hv.s33, Hv.s34, Hv.s35, Hv.s36, Hv.s37, Hv.s38, Hv.v1, Hv.v2, Hv.v3, Hv.v4, Hv.v6, Hv.v7, Hv.v8, Hv.v9, Hv.v10, Hv.v11, Hv.e1, Hv.e2, Hv.e3, Hv.e4, Hv.e5, Hv.e6, Hv.e7, Hv.e8, Hv.e9, Hv.e10, Hv.e11, Hv.e12, Hv.e13, Hv.e14, Hv.e16, Hv.e17, Hv.e18, Hv.e19, Hv.e20, Hv.e21, Hv.e22, Hv.e23, Hv.e24, Hv.e25, Hv.e26, Hv.x1, Hv.x2, Hv.x6, Hv.x7, Hv.x8, Hv.x9, Hv.x12, Hv.x13, Hv.x14, Hv.x15, Hv.x16, Hv.x17, Hv.x21, Hv.x22, Hv.x23, Hv.x24, Hv.x25, Hv.x26, Hv.x27, Hv.x28, Hv.x29, Hv.x30, Hv.y0, Hv.y1, Hv.y2, Hv.y3, Hv.y4, Hv.y5, Hv.x31, Hv.x32, Hv.x33, Hv.x34, Hv.x35, Hv.x36, Hv.x39, Hv.a1, Hv.a2, Hv.k1, Hv.k4, Hv.k6, Hv.k7, Hv.k8, Hv.k9, Hv.k10, Hv.t0, Hv.t1, Hv.t2, Hv.t3, Hv.t4, Hv.t5, Hv.t6, Hv.t7, Hv.t8, Hv.t9, Hv.t10, Hv.t11, Hv.t12, Hv.t13, Hv.t14, Hv.t14', Hv.t15, Hv.t16, Hv.t17, Hv.t18, Hv.t19, Hv.t20, Hv.t21, Hv.t22, Hv.t23, Hv.t24, Hv.t25, Hv.t26, Hv.t28, Hv.r2, Hv.r3, Hv.r4, Hv.z1, Hv.z2, Hv.z3, Hv.mutDs_int, Hv.intsOf_int, Hv.startE, Hv.isNew, List.set, x3 (m4 _), ix_v (show 0 ≤ 4 * (i : Int) by omega) (show 4 * (i : Int) < ds.length by omega), ix_v (show 0 ≤ 4 * (i : Int) + 1 by omega) (show 4 * (i : Int) + 1 < ds.length by omega), ix_v (show 0 ≤ 4 * (i : Int) + 2 by omega) (show 4 * (i : Int) + 2 < ds.length by omega), ix_v (show 0 ≤ 4 * (i : Int) + 3 by omega) (show 4 * (i : Int) + 3 < ds.length by omega), x5 hs, x5 g6, tupD, isFz, md1, md5, mkT, isNews, isNew, t27 (ps := qs.map qd) hap, nx1]
      refine ⟨qs ++ [(_, _, _, _)], ⟨by simp [hl], ?_⟩, by simp; rfl⟩
      refine hB.app ⟨?_, ?_⟩
      · simp only
        have := (mod_rng (gi ds (4 * (i : Int) + 2)) g6).1
        omega
      · simp only
        have := (mod_rng (gi ds (4 * (i : Int) + 3)) g6).1
        omega)
  rw [rgI_len] at hl
  exact ⟨qs, ⟨hl, hB⟩, by simp (config := { implicitDefEqProofs := false }) [Hv.s1, Hv.s2, Hv.s3, Hv.s4, Hv.s5, Hv.s6, Hv.s7, Hv.s8, Hv.s9, Hv.s10, Hv.s11, Hv.s12, Hv.s13, Hv.s14, Hv.s15, Hv.s16, Hv.s17, Hv.s18, Hv.s19, Hv.s20, Hv.s21, Hv.s22, Hv.s23, Hv.s24, Hv.s25, Hv.s26, Hv.s27, Hv.s28, Hv.s29, Hv.s30, Hv.s31, Hv.s32, Hv.s33, Hv.s34, Hv.s35, Hv.s36, Hv.s37, Hv.s38, Hv.v1, Hv.v2, Hv.v3, Hv.v4, Hv.v6, Hv.v7, Hv.v8, Hv.v9, Hv.v10, Hv.v11, Hv.e1, Hv.e2, Hv.e3, Hv.e4, Hv.e5, Hv.e6, Hv.e7, Hv.e8, Hv.e9, Hv.e10, Hv.e11, Hv.e12, Hv.e13, Hv.e14, Hv.e16, Hv.e17, Hv.e18, Hv.e19, Hv.e20, Hv.e21, Hv.e22, Hv.e23, Hv.e24, Hv.e25, Hv.e26, Hv.x1, Hv.x2, Hv.x6, Hv.x7, Hv.x8, Hv.x9, Hv.x12, Hv.x13, Hv.x14, Hv.x15, Hv.x16, Hv.x17, Hv.x21, Hv.x22, Hv.x23, Hv.x24, Hv.x25, Hv.x26, Hv.x27, Hv.x28, Hv.x29, Hv.x30, Hv.y0, Hv.y1, Hv.y2, Hv.y3, Hv.y4, Hv.y5, Hv.x31, Hv.x32, Hv.x33, Hv.x34, Hv.x35, Hv.x36, Hv.x39, Hv.a1, Hv.a2, Hv.k1, Hv.k4, Hv.k6, Hv.k7, Hv.k8, Hv.k9, Hv.k10, Hv.t0, Hv.t1, Hv.t2, Hv.t3, Hv.t4, Hv.t5, Hv.t6, Hv.t7, Hv.t8, Hv.t9, Hv.t10, Hv.t11, Hv.t12, Hv.t13, Hv.t14, Hv.t14', Hv.t15, Hv.t16, Hv.t17, Hv.t18, Hv.t19, Hv.t20, Hv.t21, Hv.t22, Hv.t23, Hv.t24, Hv.t25, Hv.t26, Hv.t28, Hv.r2, Hv.r3, Hv.r4, Hv.z1, Hv.z2, Hv.z3, Hv.mutDs_int, Hv.intsOf_int, Hv.startE, Hv.isNew, List.set]⟩
/-- boxes that hold one another -/
theorem wheel (k : Nat) (d0 d1 d2 d3 : Int) : ∃ qs : List Q4, ((qs.length ≤ 5 ∧ 4 ≤ qs.length) ∧ BX qs) ∧ C (k + 1) 11 [IL [d0, d1, d2, d3]] = .ok (oL (qs.map qd)) := by
  rw [c11]
  unfold B11
  have g9 : (0 : Int) < 9 := by decide
  have g3 : (0 : Int) < 3 := by decide
  have g2 : (0 : Int) < 2 := by decide
  rw [t0]
  refine ex_seqE (fun a : Int => [some (.v (IL [d0, d1, d2, d3])), some (.v (.int a)), none, none, none, none, none, none, none]) (fun a => 1 ≤ a) ⟨1 + d0 % 9, by have := mod_rng d0 g9; omega, by simp (config := { implicitDefEqProofs := false }) [Hv.s1, Hv.s2, Hv.s3, Hv.s4, Hv.s5, Hv.s6, Hv.s7, Hv.s8, Hv.s9, Hv.s10, Hv.s11, Hv.s12, Hv.s13, Hv.s14, Hv.s15, Hv.s16, Hv.s17, Hv.s18, Hv.s19, Hv.s20, Hv.s21, Hv.s22, Hv.s23, Hv.s24, Hv.s25, Hv.s26, Hv.s27, Hv.s28, Hv.s29, Hv.s30, Hv.s31, Hv.s32, Hv.s33, Hv.s34, Hv.s35, Hv.s36, Hv.s37, Hv.s38, Hv.v1, Hv.v2, Hv.v3, Hv.v4, Hv.v6, Hv.v7, Hv.v8, Hv.v9, Hv.v10, Hv.v11, Hv.e1, Hv.e2, Hv.e3, Hv.e4, Hv.e5, Hv.e6, Hv.e7, Hv.e8, Hv.e9, Hv.e10, Hv.e11, Hv.e12, Hv.e13, Hv.e14, Hv.e16, Hv.e17, Hv.e18, Hv.e19, Hv.e20, Hv.e21, Hv.e22, Hv.e23, Hv.e24, Hv.e25, Hv.e26, Hv.x1, Hv.x2, Hv.x6, Hv.x7, Hv.x8, Hv.x9, Hv.x12, Hv.x13, Hv.x14, Hv.x15, Hv.x16, Hv.x17, Hv.x21, Hv.x22, Hv.x23, Hv.x24, Hv.x25, Hv.x26, Hv.x27, Hv.x28, Hv.x29, Hv.x30, Hv.y0, Hv.y1, Hv.y2, Hv.y3, Hv.y4, Hv.y5, Hv.x31, Hv.x32, Hv.x33, Hv.x34, Hv.x35, Hv.x36, Hv.x39, Hv.a1, Hv.a2, Hv.k1, Hv.k4, Hv.k6, Hv.k7, Hv.k8, Hv.k9, Hv.k10, Hv.t0, Hv.t1, Hv.t2, Hv.t3, Hv.t4, Hv.t5, Hv.t6, Hv.t7, Hv.t8, Hv.t9, Hv.t10, Hv.t11, Hv.t12, Hv.t13, Hv.t14, Hv.t14', Hv.t15, Hv.t16, Hv.t17, Hv.t18, Hv.t19, Hv.t20, Hv.t21, Hv.t22, Hv.t23, Hv.t24, Hv.t25, Hv.t26, Hv.t28, Hv.r2, Hv.r3, Hv.r4, Hv.z1, Hv.z2, Hv.z3, Hv.mutDs_int, Hv.intsOf_int, Hv.startE, Hv.isNew, List.set, y0, x5 g9]⟩ fun a ha => ?_
  rw [t7, t0]
  refine ex_seqE (fun b : Int => [some (.v (IL [d0, d1, d2, d3])), some (.v (.int a)), some (.v (.int b)), none, none, none, none, none, none]) (fun b => a < b) ⟨a + 1 + d1 % 9, by have := mod_rng d1 g9; omega, by simp (config := { implicitDefEqProofs := false }) [Hv.s1, Hv.s2, Hv.s3, Hv.s4, Hv.s5, Hv.s6, Hv.s7, Hv.s8, Hv.s9, Hv.s10, Hv.s11, Hv.s12, Hv.s13, Hv.s14, Hv.s15, Hv.s16, Hv.s17, Hv.s18, Hv.s19, Hv.s20, Hv.s21, Hv.s22, Hv.s23, Hv.s24, Hv.s25, Hv.s26, Hv.s27, Hv.s28, Hv.s29, Hv.s30, Hv.s31, Hv.s32, Hv.s33, Hv.s34, Hv.s35, Hv.s36, Hv.s37, Hv.s38, Hv.v1, Hv.v2, Hv.v3, Hv.v4, Hv.v6, Hv.v7, Hv.v8, Hv.v9, Hv.v10, Hv.v11, Hv.e1, Hv.e2, Hv.e3, Hv.e4, Hv.e5, Hv.e6, Hv.e7, Hv.e8, Hv.e9, Hv.e10, Hv.e11, Hv.e12, Hv.e13, Hv.e14, Hv.e16, Hv.e17, Hv.e18, Hv.e19, Hv.e20, Hv.e21, Hv.e22, Hv.e23, Hv.e24, Hv.e25, Hv.e26, Hv.x1, Hv.x2, Hv.x6, Hv.x7, Hv.x8, Hv.x9, Hv.x12, Hv.x13, Hv.x14, Hv.x15, Hv.x16, Hv.x17, Hv.x21, Hv.x22, Hv.x23, Hv.x24, Hv.x25, Hv.x26, Hv.x27, Hv.x28, Hv.x29, Hv.x30, Hv.y0, Hv.y1, Hv.y2, Hv.y3, Hv.y4, Hv.y5, Hv.x31, Hv.x32, Hv.x33, Hv.x34, Hv.x35, Hv.x36, Hv.x39, Hv.a1, Hv.a2, Hv.k1, Hv.k4, Hv.k6, Hv.k7, Hv.k8, Hv.k9, Hv.k10, Hv.t0, Hv.t1, Hv.t2, Hv.t3, Hv.t4, Hv.t5, Hv.t6, Hv.t7, Hv.t8, Hv.t9, Hv.t10, Hv.t11, Hv.t12, Hv.t13, Hv.t14, Hv.t14', Hv.t15, Hv.t16, Hv.t17, Hv.t18, Hv.t19, Hv.t20, Hv.t21, Hv.t22, Hv.t23, Hv.t24, Hv.t25, Hv.t26, Hv.t28, Hv.r2, Hv.r3, Hv.r4, Hv.z1, Hv.z2, Hv.z3, Hv.mutDs_int, Hv.intsOf_int, Hv.startE, Hv.isNew, List.set, y1, x5 g9]⟩ fun b hb => ?_
  rw [t7, t0]
  refine ex_seqE (fun c : Int => [some (.v (IL [d0, d1, d2, d3])), some (.v (.int a)), some (.v (.int b)), some (.v (.int c)), none, none, none, none, none]) (fun c => b < c) ⟨b + 1 + d2 % 9, by have := mod_rng d2 g9; omega, by simp (config := { implicitDefEqProofs := false }) [Hv.s1, Hv.s2, Hv.s3, Hv.s4, Hv.s5, Hv.s6, Hv.s7, Hv.s8, Hv.s9, Hv.s10, Hv.s11, Hv.s12, Hv.s13, Hv.s14, Hv.s15, Hv.s16, Hv.s17, Hv.s18, Hv.s19, Hv.s20, Hv.s21, Hv.s22, Hv.s23, Hv.s24, Hv.s25, Hv.s26, Hv.s27, Hv.s28, Hv.s29, Hv.s30, Hv.s31, Hv.s32, Hv.s33, Hv.s34, Hv.s35, Hv.s36, Hv.s37, Hv.s38, Hv.v1, Hv.v2, Hv.v3, Hv.v4, Hv.v6, Hv.v7, Hv.v8, Hv.v9, Hv.v10, Hv.v11, Hv.e1, Hv.e2, Hv.e3, Hv.e4, Hv.e5, Hv.e6, Hv.e7, Hv.e8, Hv.e9, Hv.e10, Hv.e11, Hv.e12, Hv.e13, Hv.e14, Hv.e16, Hv.e17, Hv.e18, Hv.e19, Hv.e20, Hv.e21, Hv.e22, Hv.e23, Hv.e24, Hv.e25, Hv.e26, Hv.x1, Hv.x2, Hv.x6, Hv.x7, Hv.x8, Hv.x9, Hv.x12, Hv.x13, Hv.x14, Hv.x15, Hv.x16, Hv.x17, Hv.x21, Hv.x22, Hv.x23, Hv.x24, Hv.x25, Hv.x26, Hv.x27, Hv.x28, Hv.x29, Hv.x30, Hv.y0, Hv.y1, Hv.y2, Hv.y3, Hv.y4, Hv.y5, Hv.x31, Hv.x32, Hv.x33, Hv.x34, Hv.x35, Hv.x36, Hv.x39, Hv.a1, Hv.a2, Hv.k1, Hv.k4, Hv.k6, Hv.k7, Hv.k8, Hv.k9, Hv.k10, Hv.t0, Hv.t1, Hv.t2, Hv.t3, Hv.t4, Hv.t5, Hv.t6, Hv.t7, Hv.t8, Hv.t9, Hv.t10, Hv.t11, Hv.t12, Hv.t13, Hv.t14, Hv.t14', Hv.t15, Hv.t16, Hv.t17, Hv.t18, Hv.t19, Hv.t20, Hv.t21, Hv.t22, Hv.t23, Hv.t24, Hv.t25, Hv.t26, Hv.t28, Hv.r2, Hv.r3, Hv.r4, Hv.z1, Hv.z2, Hv.z3, Hv.mutDs_int, Hv.intsOf_int, Hv.startE, Hv.isNew, List.set, y2, x5 g9]⟩ fun c hc => ?_
  rw [t7, t0]
  refine ex_seqE (fun qs : List Q4 => [some (.v (IL [d0, d1, d2, d3])), some (.v (.int a)), some (.v (.int b)), some (.v (.int c)), some (oL (qs.map qd)), none, none, none, none]) (fun qs => qs.length = 4 ∧ BX qs) ⟨[(0, 0, b, a), (b, 0, c, b), (a, b, c, c), (0, a, a, c)], ⟨rfl, fun q hq => by
    simp only [List.mem_cons, List.not_mem_nil, or_false] at hq
    rcases hq with rfl | rfl | rfl | rfl <;> (unfold bx; simp only; omega)⟩, by
    simp (config := { implicitDefEqProofs := false }) [Hv.s1, Hv.s2, Hv.s3, Hv.s4, Hv.s5, Hv.s6, Hv.s7, Hv.s8, Hv.s9, Hv.s10, Hv.s11, Hv.s12, Hv.s13, Hv.s14, Hv.s15, Hv.s16, Hv.s17, Hv.s18, Hv.s19, Hv.s20, Hv.s21, Hv.s22, Hv.s23, Hv.s24, Hv.s25, Hv.s26, Hv.s27, Hv.s28, Hv.s29, Hv.s30, Hv.s31, Hv.s32, Hv.s33, Hv.s34, Hv.s35, Hv.s36, Hv.s37, Hv.s38, Hv.v1, Hv.v2, Hv.v3, Hv.v4, Hv.v6, Hv.v7, Hv.v8, Hv.v9, Hv.v10, Hv.v11, Hv.e1, Hv.e2, Hv.e3, Hv.e4, Hv.e5, Hv.e6, Hv.e7, Hv.e8, Hv.e9, Hv.e10, Hv.e11, Hv.e12, Hv.e13, Hv.e14, Hv.e16, Hv.e17, Hv.e18, Hv.e19, Hv.e20, Hv.e21, Hv.e22, Hv.e23, Hv.e24, Hv.e25, Hv.e26, Hv.x1, Hv.x2, Hv.x6, Hv.x7, Hv.x8, Hv.x9, Hv.x12, Hv.x13, Hv.x14, Hv.x15, Hv.x16, Hv.x17, Hv.x21, Hv.x22, Hv.x23, Hv.x24, Hv.x25, Hv.x26, Hv.x27, Hv.x28, Hv.x29, Hv.x30, Hv.y0, Hv.y1, Hv.y2, Hv.y3, Hv.y4, Hv.y5, Hv.x31, Hv.x32, Hv.x33, Hv.x34, Hv.x35, Hv.x36, Hv.x39, Hv.a1, Hv.a2, Hv.k1, Hv.k4, Hv.k6, Hv.k7, Hv.k8, Hv.k9, Hv.k10, Hv.t0, Hv.t1, Hv.t2, Hv.t3, Hv.t4, Hv.t5, Hv.t6, Hv.t7, Hv.t8, Hv.t9, Hv.t10, Hv.t11, Hv.t12, Hv.t13, Hv.t14, Hv.t14', Hv.t15, Hv.t16, Hv.t17, Hv.t18, Hv.t19, Hv.t20, Hv.t21, Hv.t22, Hv.t23, Hv.t24, Hv.t25, Hv.t26, Hv.t28, Hv.r2, Hv.r3, Hv.r4, Hv.z1, Hv.z2, Hv.z3, Hv.mutDs_int, Hv.intsOf_int, Hv.startE, Hv.isNew, List.set, tupD, isFz, md1, md5, mkT, isNews, isNew, zl4]; simp only [qd_mk]⟩ fun qs ⟨hq, hB⟩ => ?_
  rw [t7, t0]
  refine ex_seqE (fun qs : List Q4 => [some (.v (IL [d0, d1, d2, d3])), some (.v (.int a)), some (.v (.int b)), some (.v (.int c)), some (oL (qs.map qd)), none, none, none, none]) (fun qs => (qs.length ≤ 5 ∧ 4 ≤ qs.length) ∧ BX qs) ?_ fun qs ⟨hq, hB⟩ => ?_
  · by_cases h3 : d3 % 3 = 0
    · exact ⟨qs ++ [(a, a, b, b)], ⟨by simp; omega, hB.app (by unfold bx; simp only; omega)⟩, by simp (config := { implicitDefEqProofs := false }) [Hv.s1, Hv.s2, Hv.s3, Hv.s4, Hv.s5, Hv.s6, Hv.s7, Hv.s8, Hv.s9, Hv.s10, Hv.s11, Hv.s12, Hv.s13, Hv.s14, Hv.s15, Hv.s16, Hv.s17, Hv.s18, Hv.s19, Hv.s20, Hv.s21, Hv.s22, Hv.s23, Hv.s24, Hv.s25, Hv.s26, Hv.s27, Hv.s28, Hv.s29, Hv.s30, Hv.s31, Hv.s32, Hv.s33, Hv.s34, Hv.s35, Hv.s36, Hv.s37, Hv.s38, Hv.v1, Hv.v2, Hv.v3, Hv.v4, Hv.v6, Hv.v7, Hv.v8, Hv.v9, Hv.v10, Hv.v11, Hv.e1, Hv.e2, Hv.e3, Hv.e4, Hv.e5, Hv.e6, Hv.e7, Hv.e8, Hv.e9, Hv.e10, Hv.e11, Hv.e12, Hv.e13, Hv.e14, Hv.e16, Hv.e17, Hv.e18, Hv.e19, Hv.e20, Hv.e21, Hv.e22, Hv.e23, Hv.e24, Hv.e25, Hv.e26, Hv.x1, Hv.x2, Hv.x6, Hv.x7, Hv.x8, Hv.x9, Hv.x12, Hv.x13, Hv.x14, Hv.x15, Hv.x16, Hv.x17, Hv.x21, Hv.x22, Hv.x23, Hv.x24, Hv.x25, Hv.x26, Hv.x27, Hv.x28, Hv.x29, Hv.x30, Hv.y0, Hv.y1, Hv.y2, Hv.y3, Hv.y4, Hv.y5, Hv.x31, Hv.x32, Hv.x33, Hv.x34, Hv.x35, Hv.x36, Hv.x39, Hv.a1, Hv.a2, Hv.k1, Hv.k4, Hv.k6, Hv.k7, Hv.k8, Hv.k9, Hv.k10, Hv.t0, Hv.t1, Hv.t2, Hv.t3, Hv.t4, Hv.t5, Hv.t6, Hv.t7, Hv.t8, Hv.t9, Hv.t10, Hv.t11, Hv.t12, Hv.t13, Hv.t14, Hv.t14', Hv.t15, Hv.t16, Hv.t17, Hv.t18, Hv.t19, Hv.t20, Hv.t21, Hv.t22, Hv.t23, Hv.t24, Hv.t25, Hv.t26, Hv.t28, Hv.r2, Hv.r3, Hv.r4, Hv.z1, Hv.z2, Hv.z3, Hv.mutDs_int, Hv.intsOf_int, Hv.startE, Hv.isNew, List.set, y3, x5 g3, cmp_eqi, h3, tupD, isFz, md1, md5, mkT, isNews, isNew, t27 (ps := qs.map qd) (show (qs.map qd).length < 16777216 by simp; omega), qd]⟩
    · exact ⟨qs, ⟨by omega, hB⟩, by simp (config := { implicitDefEqProofs := false }) [Hv.s1, Hv.s2, Hv.s3, Hv.s4, Hv.s5, Hv.s6, Hv.s7, Hv.s8, Hv.s9, Hv.s10, Hv.s11, Hv.s12, Hv.s13, Hv.s14, Hv.s15, Hv.s16, Hv.s17, Hv.s18, Hv.s19, Hv.s20, Hv.s21, Hv.s22, Hv.s23, Hv.s24, Hv.s25, Hv.s26, Hv.s27, Hv.s28, Hv.s29, Hv.s30, Hv.s31, Hv.s32, Hv.s33, Hv.s34, Hv.s35, Hv.s36, Hv.s37, Hv.s38, Hv.v1, Hv.v2, Hv.v3, Hv.v4, Hv.v6, Hv.v7, Hv.v8, Hv.v9, Hv.v10, Hv.v11, Hv.e1, Hv.e2, Hv.e3, Hv.e4, Hv.e5, Hv.e6, Hv.e7, Hv.e8, Hv.e9, Hv.e10, Hv.e11, Hv.e12, Hv.e13, Hv.e14, Hv.e16, Hv.e17, Hv.e18, Hv.e19, Hv.e20, Hv.e21, Hv.e22, Hv.e23, Hv.e24, Hv.e25, Hv.e26, Hv.x1, Hv.x2, Hv.x6, Hv.x7, Hv.x8, Hv.x9, Hv.x12, Hv.x13, Hv.x14, Hv.x15, Hv.x16, Hv.x17, Hv.x21, Hv.x22, Hv.x23, Hv.x24, Hv.x25, Hv.x26, Hv.x27, Hv.x28, Hv.x29, Hv.x30, Hv.y0, Hv.y1, Hv.y2, Hv.y3, Hv.y4, Hv.y5, Hv.x31, Hv.x32, Hv.x33, Hv.x34, Hv.x35, Hv.x36, Hv.x39, Hv.a1, Hv.a2, Hv.k1, Hv.k4, Hv.k6, Hv.k7, Hv.k8, Hv.k9, Hv.k10, Hv.t0, Hv.t1, Hv.t2, Hv.t3, Hv.t4, Hv.t5, Hv.t6, Hv.t7, Hv.t8, Hv.t9, Hv.t10, Hv.t11, Hv.t12, Hv.t13, Hv.t14, Hv.t14', Hv.t15, Hv.t16, Hv.t17, Hv.t18, Hv.t19, Hv.t20, Hv.t21, Hv.t22, Hv.t23, Hv.t24, Hv.t25, Hv.t26, Hv.t28, Hv.r2, Hv.r3, Hv.r4, Hv.z1, Hv.z2, Hv.z3, Hv.mutDs_int, Hv.intsOf_int, Hv.startE, Hv.isNew, List.set, y3, x5 g3, cmp_eqi, h3]⟩
  rw [t7, t0]
  refine ex_seqE (fun qs : List Q4 => [some (.v (IL [d0, d1, d2, d3])), some (.v (.int a)), some (.v (.int b)), some (.v (.int c)), some (oL (qs.map qd)), none, none, none, none]) (fun qs => (qs.length ≤ 5 ∧ 4 ≤ qs.length) ∧ BX qs) ?_ fun qs ⟨hq, hB⟩ => ?_
  · by_cases h2 : d3 % 2 = 0
    · have h3 : ∀ w, lcT (C k) T.G [5, 6, 7, 8] (Tg.tup [5, 6, 7, 8]) [] (E.tup [E.bin BOp.sub (E.var 3) (E.var 7), E.var 6, E.bin BOp.sub (E.var 3) (E.var 5), E.var 8]) [some (.v (IL [d0, d1, d2, d3])), some (.v (.int a)), some (.v (.int b)), some (.v (.int c)), some (oL (qs.map qd)), none, none, none, none] (qs.map qd) w = .ok (((qs.map fun q => ((c - q.2.2.1, q.2.1, c - q.1, q.2.2.2) : Q4)).map qd).map .v) [] := fun w => by
        refine lc4q _ fun q hq => ?_
        simp (config := { implicitDefEqProofs := false }) [Hv.s1, Hv.s2, Hv.s3, Hv.s4, Hv.s5, Hv.s6, Hv.s7, Hv.s8, Hv.s9, Hv.s10, Hv.s11, Hv.s12, Hv.s13, Hv.s14, Hv.s15, Hv.s16, Hv.s17, Hv.s18, Hv.s19, Hv.s20, Hv.s21, Hv.s22, Hv.s23, Hv.s24, Hv.s25, Hv.s26, Hv.s27, Hv.s28, Hv.s29, Hv.s30, Hv.s31, Hv.s32, Hv.s33, Hv.s34, Hv.s35, Hv.s36, Hv.s37, Hv.s38, Hv.v1, Hv.v2, Hv.v3, Hv.v4, Hv.v6, Hv.v7, Hv.v8, Hv.v9, Hv.v10, Hv.v11, Hv.e1, Hv.e2, Hv.e3, Hv.e4, Hv.e5, Hv.e6, Hv.e7, Hv.e8, Hv.e9, Hv.e10, Hv.e11, Hv.e12, Hv.e13, Hv.e14, Hv.e16, Hv.e17, Hv.e18, Hv.e19, Hv.e20, Hv.e21, Hv.e22, Hv.e23, Hv.e24, Hv.e25, Hv.e26, Hv.x1, Hv.x2, Hv.x6, Hv.x7, Hv.x8, Hv.x9, Hv.x12, Hv.x13, Hv.x14, Hv.x15, Hv.x16, Hv.x17, Hv.x21, Hv.x22, Hv.x23, Hv.x24, Hv.x25, Hv.x26, Hv.x27, Hv.x28, Hv.x29, Hv.x30, Hv.y0, Hv.y1, Hv.y2, Hv.y3, Hv.y4, Hv.y5, Hv.x31, Hv.x32, Hv.x33, Hv.x34, Hv.x35, Hv.x36, Hv.x39, Hv.a1, Hv.a2, Hv.k1, Hv.k4, Hv.k6, Hv.k7, Hv.k8, Hv.k9, Hv.k10, Hv.t0, Hv.t1, Hv.t2, Hv.t3, Hv.t4, Hv.t5, Hv.t6, Hv.t7, Hv.t8, Hv.t9, Hv.t10, Hv.t11, Hv.t12, Hv.t13, Hv.t14, Hv.t14', Hv.t15, Hv.t16, Hv.t17, Hv.t18, Hv.t19, Hv.t20, Hv.t21, Hv.t22, Hv.t23, Hv.t24, Hv.t25, Hv.t26, Hv.t28, Hv.r2, Hv.r3, Hv.r4, Hv.z1, Hv.z2, Hv.z3, Hv.mutDs_int, Hv.intsOf_int, Hv.startE, Hv.isNew, List.set, we0, we1, tupD, isFz, md1, md5, mkT, isNews, isNew, qd]
      refine ⟨qs.map fun q => ((c - q.2.2.1, q.2.1, c - q.1, q.2.2.2) : Q4), ⟨by simpa using hq, hB.map fun q h => by unfold bx at h ⊢; simp only; omega⟩, ?_⟩
      generalize (qs.map fun q => ((c - q.2.2.1, q.2.1, c - q.1, q.2.2.2) : Q4)) = rs at h3 ⊢
      simp (config := { implicitDefEqProofs := false }) [Hv.s1, Hv.s2, Hv.s3, Hv.s4, Hv.s5, Hv.s6, Hv.s7, Hv.s8, Hv.s9, Hv.s10, Hv.s11, Hv.s12, Hv.s13, Hv.s14, Hv.s15, Hv.s16, Hv.s17, Hv.s18, Hv.s19, Hv.s20, Hv.s21, Hv.s22, Hv.s23, Hv.s24, Hv.s25, Hv.s26, Hv.s27, Hv.s28, Hv.s29, Hv.s30, Hv.s31, Hv.s32, Hv.s33, Hv.s34, Hv.s35, Hv.s36, Hv.s37, Hv.s38, Hv.v1, Hv.v2, Hv.v3, Hv.v4, Hv.v6, Hv.v7, Hv.v8, Hv.v9, Hv.v10, Hv.v11, Hv.e1, Hv.e2, Hv.e3, Hv.e4, Hv.e5, Hv.e6, Hv.e7, Hv.e8, Hv.e9, Hv.e10, Hv.e11, Hv.e12, Hv.e13, Hv.e14, Hv.e16, Hv.e17, Hv.e18, Hv.e19, Hv.e20, Hv.e21, Hv.e22, Hv.e23, Hv.e24, Hv.e25, Hv.e26, Hv.x1, Hv.x2, Hv.x6, Hv.x7, Hv.x8, Hv.x9, Hv.x12, Hv.x13, Hv.x14, Hv.x15, Hv.x16, Hv.x17, Hv.x21, Hv.x22, Hv.x23, Hv.x24, Hv.x25, Hv.x26, Hv.x27, Hv.x28, Hv.x29, Hv.x30, Hv.y0, Hv.y1, Hv.y2, Hv.y3, Hv.y4, Hv.y5, Hv.x31, Hv.x32, Hv.x33, Hv.x34, Hv.x35, Hv.x36, Hv.x39, Hv.a1, Hv.a2, Hv.k1, Hv.k4, Hv.k6, Hv.k7, Hv.k8, Hv.k9, Hv.k10, Hv.t0, Hv.t1, Hv.t2, Hv.t3, Hv.t4, Hv.t5, Hv.t6, Hv.t7, Hv.t8, Hv.t9, Hv.t10, Hv.t11, Hv.t12, Hv.t13, Hv.t14, Hv.t14', Hv.t15, Hv.t16, Hv.t17, Hv.t18, Hv.t19, Hv.t20, Hv.t21, Hv.t22, Hv.t23, Hv.t24, Hv.t25, Hv.t26, Hv.t28, Hv.r2, Hv.r3, Hv.r4, Hv.z1, Hv.z2, Hv.z3, Hv.mutDs_int, Hv.intsOf_int, Hv.startE, Hv.isNew, List.set, y3, x5 g2, cmp_eqi, h2, mut_qds, l2n (mut_qds qs), h3, l3c (mut_qds rs)]
    · exact ⟨qs, ⟨hq, hB⟩, by simp (config := { implicitDefEqProofs := false }) [Hv.s1, Hv.s2, Hv.s3, Hv.s4, Hv.s5, Hv.s6, Hv.s7, Hv.s8, Hv.s9, Hv.s10, Hv.s11, Hv.s12, Hv.s13, Hv.s14, Hv.s15, Hv.s16, Hv.s17, Hv.s18, Hv.s19, Hv.s20, Hv.s21, Hv.s22, Hv.s23, Hv.s24, Hv.s25, Hv.s26, Hv.s27, Hv.s28, Hv.s29, Hv.s30, Hv.s31, Hv.s32, Hv.s33, Hv.s34, Hv.s35, Hv.s36, Hv.s37, Hv.s38, Hv.v1, Hv.v2, Hv.v3, Hv.v4, Hv.v6, Hv.v7, Hv.v8, Hv.v9, Hv.v10, Hv.v11, Hv.e1, Hv.e2, Hv.e3, Hv.e4, Hv.e5, Hv.e6, Hv.e7, Hv.e8, Hv.e9, Hv.e10, Hv.e11, Hv.e12, Hv.e13, Hv.e14, Hv.e16, Hv.e17, Hv.e18, Hv.e19, Hv.e20, Hv.e21, Hv.e22, Hv.e23, Hv.e24, Hv.e25, Hv.e26, Hv.x1, Hv.x2, Hv.x6, Hv.x7, Hv.x8, Hv.x9, Hv.x12, Hv.x13, Hv.x14, Hv.x15, Hv.x16, Hv.x17, Hv.x21, Hv.x22, Hv.x23, Hv.x24, Hv.x25, Hv.x26, Hv.x27, Hv.x28, Hv.x29, Hv.x30, Hv.y0, Hv.y1, Hv.y2, Hv.y3, Hv.y4, Hv.y5, Hv.x31, Hv.x32, Hv.x33, Hv.x34, Hv.x35, Hv.x36, Hv.x39, Hv.a1, Hv.a2, Hv.k1, Hv.k4, Hv.k6, Hv.k7, Hv.k8, Hv.k9, Hv.k10, Hv.t0, Hv.t1, Hv.t2, Hv.t3, Hv.t4, Hv.t5, Hv.t6, Hv.t7, Hv.t8, Hv.t9, Hv.t10, Hv.t11, Hv.t12, Hv.t13, Hv.t14, Hv.t14', Hv.t15, Hv.t16, Hv.t17, Hv.t18, Hv.t19, Hv.t20, Hv.t21, Hv.t22, Hv.t23, Hv.t24, Hv.t25, Hv.t26, Hv.t28, Hv.r2, Hv.r3, Hv.r4, Hv.z1, Hv.z2, Hv.z3, Hv.mutDs_int, Hv.intsOf_int, Hv.startE, Hv.isNew, List.set, y3, x5 g2, cmp_eqi, h2]⟩
  exact ⟨qs, ⟨hq, hB⟩, by simp (config := { implicitDefEqProofs := false }) [Hv.s1, Hv.s2, Hv.s3, Hv.s4, Hv.s5, Hv.s6, Hv.s7, Hv.s8, Hv.s9, Hv.s10, Hv.s11, Hv.s12, Hv.s13, Hv.s14, Hv.s15, Hv.s16, Hv.s17, Hv.s18, Hv.s19, Hv.s20, Hv.s21, Hv.s22, Hv.s23, Hv.s24, Hv.s25, Hv.s26, Hv.s27, Hv.s28, Hv.s29, Hv.s30, Hv.s31, Hv.s32, Hv.s33, Hv.s34, Hv.s35, Hv.s36, Hv.s37, Hv.s38, Hv.v1, Hv.v2, Hv.v3, Hv.v4, Hv.v6, Hv.v7, Hv.v8, Hv.v9, Hv.v10, Hv.v11, Hv.e1, Hv.e2, Hv.e3, Hv.e4, Hv.e5, Hv.e6, Hv.e7, Hv.e8, Hv.e9, Hv.e10, Hv.e11, Hv.e12, Hv.e13, Hv.e14, Hv.e16, Hv.e17, Hv.e18, Hv.e19, Hv.e20, Hv.e21, Hv.e22, Hv.e23, Hv.e24, Hv.e25, Hv.e26, Hv.x1, Hv.x2, Hv.x6, Hv.x7, Hv.x8, Hv.x9, Hv.x12, Hv.x13, Hv.x14, Hv.x15, Hv.x16, Hv.x17, Hv.x21, Hv.x22, Hv.x23, Hv.x24, Hv.x25, Hv.x26, Hv.x27, Hv.x28, Hv.x29, Hv.x30, Hv.y0, Hv.y1, Hv.y2, Hv.y3, Hv.y4, Hv.y5, Hv.x31, Hv.x32, Hv.x33, Hv.x34, Hv.x35, Hv.x36, Hv.x39, Hv.a1, Hv.a2, Hv.k1, Hv.k4, Hv.k6, Hv.k7, Hv.k8, Hv.k9, Hv.k10, Hv.t0, Hv.t1, Hv.t2, Hv.t3, Hv.t4, Hv.t5, Hv.t6, Hv.t7, Hv.t8, Hv.t9, Hv.t10, Hv.t11, Hv.t12, Hv.t13, Hv.t14, Hv.t14', Hv.t15, Hv.t16, Hv.t17, Hv.t18, Hv.t19, Hv.t20, Hv.t21, Hv.t22, Hv.t23, Hv.t24, Hv.t25, Hv.t26, Hv.t28, Hv.r2, Hv.r3, Hv.r4, Hv.z1, Hv.z2, Hv.z3, Hv.mutDs_int, Hv.intsOf_int, Hv.startE, Hv.isNew, List.set]⟩
end Law

namespace Law
open PySem Hv
theorem numI (k : Nat) (cell m : Int) (h0 : 0 ≤ m) (h1 : m ≤ 1000) : ∃ ns : List Int, (ns.length : Int) = m ∧ (∀ x ∈ ns, 0 ≤ x ∧ x < 5040) ∧ C (k + 1) 8 [.int cell, .int m, .int 5040] = .ok (oL (ns.map .int)) := by
  obtain ⟨n, rfl⟩ := Int.eq_ofNat_of_zero_le h0
  obtain ⟨ns, a, b, c⟩ := numbers k cell n 5040 (by omega) (by decide) (by decide)
  exact ⟨ns, by omega, b, c⟩
theorem k3_n {k : List Int} {al : Al} : callR (.ok (oL (k.map .int))) al = .ok (oL (k.map .int)) [] := k3 (mutDs_int k)
theorem k3_q {k : List Q4} {al : Al} : callR (.ok (oL (k.map qd))) al = .ok (oL (k.map qd)) [] := k3 (mut_qds k)
/-- a box divided -/
theorem divided (k : Nat) (cell : Int) (m : Nat) (hm : m ≤ 100) : ∃ qs : List Q4, ((1 ≤ qs.length ∧ qs.length ≤ m + 1) ∧ BX qs) ∧ C (k + 2) 10 [.int cell, .int ((m : Int) + 1)] = .ok (oL (qs.map qd)) := by
  rw [c10]
  unfold B10
  obtain ⟨ds, e1, e2, e3⟩ := numI k cell (6 * ((m : Int) + 1) + 6) (by omega) (by omega)
  have m6 : ∀ x : Int, mulOk 6 x = true := fun x => by unfold mulOk; simp
  have g50 : (0 : Int) < 50 := by decide
  have g3 : (0 : Int) < 3 := by decide
  have g2 : (0 : Int) < 2 := by decide
  rw [t0]
  refine ex_seq [some (.v (.int cell)), some (.v (.int ((m : Int) + 1))), some (oL (ds.map .int)), none, none, none, none, none, none, none, none, none] (by simp (config := { implicitDefEqProofs := false }) [Hv.s1, Hv.s2, Hv.s3, Hv.s4, Hv.s5, Hv.s6, Hv.s7, Hv.s8, Hv.s9, Hv.s10, Hv.s11, Hv.s12, Hv.s13, Hv.s14, Hv.s15, Hv.s16, Hv.s17, Hv.s18, Hv.s19, Hv.s20, Hv.s21, Hv.s22, Hv.s23, Hv.s24, Hv.s25, Hv.s26, Hv.s27, Hv.s28, Hv.s29, Hv.s30, Hv.s31, Hv.s32, Hv.s33, Hv.s34, Hv.s35, Hv.s36, Hv.s37, Hv.s38, Hv.v1, Hv.v2, Hv.v3, Hv.v4, Hv.v6, Hv.v7, Hv.v8, Hv.v9, Hv.v10, Hv.v11, Hv.e1, Hv.e2, Hv.e3, Hv.e4, Hv.e5, Hv.e6, Hv.e7, Hv.e8, Hv.e9, Hv.e10, Hv.e11, Hv.e12, Hv.e13, Hv.e14, Hv.e16, Hv.e17, Hv.e18, Hv.e19, Hv.e20, Hv.e21, Hv.e22, Hv.e23, Hv.e24, Hv.e25, Hv.e26, Hv.x1, Hv.x2, Hv.x6, Hv.x7, Hv.x8, Hv.x9, Hv.x12, Hv.x13, Hv.x14, Hv.x15, Hv.x16, Hv.x17, Hv.x21, Hv.x22, Hv.x23, Hv.x24, Hv.x25, Hv.x26, Hv.x27, Hv.x28, Hv.x29, Hv.x30, Hv.y0, Hv.y1, Hv.y2, Hv.y3, Hv.y4, Hv.y5, Hv.x31, Hv.x32, Hv.x33, Hv.x34, Hv.x35, Hv.x36, Hv.x39, Hv.a1, Hv.a2, Hv.k1, Hv.k4, Hv.k6, Hv.k7, Hv.k8, Hv.k9, Hv.k10, Hv.t0, Hv.t1, Hv.t2, Hv.t3, Hv.t4, Hv.t5, Hv.t6, Hv.t7, Hv.t8, Hv.t9, Hv.t10, Hv.t11, Hv.t12, Hv.t13, Hv.t14, Hv.t14', Hv.t15, Hv.t16, Hv.t17, Hv.t18, Hv.t19, Hv.t20, Hv.t21, Hv.t22, Hv.t23, Hv.t24, Hv.t25, Hv.t26, Hv.t28, Hv.r2, Hv.r3, Hv.r4, Hv.z1, Hv.z2, Hv.z3, Hv.mutDs_int, Hv.intsOf_int, Hv.startE, Hv.isNew, List.set, x3 (m6 _), e3, k3_n]) ?_
  rw [t7, t0]
  refine ex_seqE (fun qs : List Q4 => [some (.v (.int cell)), some (.v (.int ((m : Int) + 1))), some (oL (ds.map .int)), some (oL (qs.map qd)), none, none, none, none, none, none, none, none]) (fun qs => qs.length = 1 ∧ BX qs) ⟨[(0 - gi ds 0 % 50, gi ds 1 % 50, 400, 400)], ⟨rfl, BX.one (by
    have h0 := mod_rng (gi ds 0) g50
    have h1 := mod_rng (gi ds 1) g50
    unfold bx; simp only; omega)⟩, by
    simp (config := { implicitDefEqProofs := false }) [Hv.s1, Hv.s2, Hv.s3, Hv.s4, Hv.s5, Hv.s6, Hv.s7, Hv.s8, Hv.s9, Hv.s10, Hv.s11, Hv.s12, Hv.s13, Hv.s14, Hv.s15, Hv.s16, Hv.s17, Hv.s18, Hv.s19, Hv.s20, Hv.s21, Hv.s22, Hv.s23, Hv.s24, Hv.s25, Hv.s26, Hv.s27, Hv.s28, Hv.s29, Hv.s30, Hv.s31, Hv.s32, Hv.s33, Hv.s34, Hv.s35, Hv.s36, Hv.s37, Hv.s38, Hv.v1, Hv.v2, Hv.v3, Hv.v4, Hv.v6, Hv.v7, Hv.v8, Hv.v9, Hv.v10, Hv.v11, Hv.e1, Hv.e2, Hv.e3, Hv.e4, Hv.e5, Hv.e6, Hv.e7, Hv.e8, Hv.e9, Hv.e10, Hv.e11, Hv.e12, Hv.e13, Hv.e14, Hv.e16, Hv.e17, Hv.e18, Hv.e19, Hv.e20, Hv.e21, Hv.e22, Hv.e23, Hv.e24, Hv.e25, Hv.e26, Hv.x1, Hv.x2, Hv.x6, Hv.x7, Hv.x8, Hv.x9, Hv.x12, Hv.x13, Hv.x14, Hv.x15, Hv.x16, Hv.x17, Hv.x21, Hv.x22, Hv.x23, Hv.x24, Hv.x25, Hv.x26, Hv.x27, Hv.x28, Hv.x29, Hv.x30, Hv.y0, Hv.y1, Hv.y2, Hv.y3, Hv.y4, Hv.y5, Hv.x31, Hv.x32, Hv.x33, Hv.x34, Hv.x35, Hv.x36, Hv.x39, Hv.a1, Hv.a2, Hv.k1, Hv.k4, Hv.k6, Hv.k7, Hv.k8, Hv.k9, Hv.k10, Hv.t0, Hv.t1, Hv.t2, Hv.t3, Hv.t4, Hv.t5, Hv.t6, Hv.t7, Hv.t8, Hv.t9, Hv.t10, Hv.t11, Hv.t12, Hv.t13, Hv.t14, Hv.t14', Hv.t15, Hv.t16, Hv.t17, Hv.t18, Hv.t19, Hv.t20, Hv.t21, Hv.t22, Hv.t23, Hv.t24, Hv.t25, Hv.t26, Hv.t28, Hv.r2, Hv.r3, Hv.r4, Hv.z1, Hv.z2, Hv.z3, Hv.mutDs_int, Hv.intsOf_int, Hv.startE, Hv.isNew, List.set, ixv_o (show (0 : Int) ≤ 0 by omega) (show (0 : Int) < ds.length by omega), ixv_o (show (0 : Int) ≤ 1 by omega) (show (1 : Int) < ds.length by omega), x5 g50, tupD, isFz, md1, md5, mkT, isNews, isNew, qd]⟩ fun qs ⟨hq, hB0⟩ => ?_
  rw [t7, t0]
  refine ex_seqE (fun z : List Q4 × (Nat → Option D) => [some (.v (.int cell)), some (.v (.int ((m : Int) + 1))), some (oL (ds.map .int)), some (oL (z.1.map qd)), z.2 4, z.2 5, z.2 6, z.2 7, z.2 8, z.2 9, z.2 10, z.2 11]) (fun z => (1 ≤ z.1.length ∧ z.1.length ≤ m + 1) ∧ BX z.1) ?_ fun z hz => ⟨z.1, hz, by simp (config := { implicitDefEqProofs := false }) [Hv.s1, Hv.s2, Hv.s3, Hv.s4, Hv.s5, Hv.s6, Hv.s7, Hv.s8, Hv.s9, Hv.s10, Hv.s11, Hv.s12, Hv.s13, Hv.s14, Hv.s15, Hv.s16, Hv.s17, Hv.s18, Hv.s19, Hv.s20, Hv.s21, Hv.s22, Hv.s23, Hv.s24, Hv.s25, Hv.s26, Hv.s27, Hv.s28, Hv.s29, Hv.s30, Hv.s31, Hv.s32, Hv.s33, Hv.s34, Hv.s35, Hv.s36, Hv.s37, Hv.s38, Hv.v1, Hv.v2, Hv.v3, Hv.v4, Hv.v6, Hv.v7, Hv.v8, Hv.v9, Hv.v10, Hv.v11, Hv.e1, Hv.e2, Hv.e3, Hv.e4, Hv.e5, Hv.e6, Hv.e7, Hv.e8, Hv.e9, Hv.e10, Hv.e11, Hv.e12, Hv.e13, Hv.e14, Hv.e16, Hv.e17, Hv.e18, Hv.e19, Hv.e20, Hv.e21, Hv.e22, Hv.e23, Hv.e24, Hv.e25, Hv.e26, Hv.x1, Hv.x2, Hv.x6, Hv.x7, Hv.x8, Hv.x9, Hv.x12, Hv.x13, Hv.x14, Hv.x15, Hv.x16, Hv.x17, Hv.x21, Hv.x22, Hv.x23, Hv.x24, Hv.x25, Hv.x26, Hv.x27, Hv.x28, Hv.x29, Hv.x30, Hv.y0, Hv.y1, Hv.y2, Hv.y3, Hv.y4, Hv.y5, Hv.x31, Hv.x32, Hv.x33, Hv.x34, Hv.x35, Hv.x36, Hv.x39, Hv.a1, Hv.a2, Hv.k1, Hv.k4, Hv.k6, Hv.k7, Hv.k8, Hv.k9, Hv.k10, Hv.t0, Hv.t1, Hv.t2, Hv.t3, Hv.t4, Hv.t5, Hv.t6, Hv.t7, Hv.t8, Hv.t9, Hv.t10, Hv.t11, Hv.t12, Hv.t13, Hv.t14, Hv.t14', Hv.t15, Hv.t16, Hv.t17, Hv.t18, Hv.t19, Hv.t20, Hv.t21, Hv.t22, Hv.t23, Hv.t24, Hv.t25, Hv.t26, Hv.t28, Hv.r2, Hv.r3, Hv.r4, Hv.z1, Hv.z2, Hv.z3, Hv.mutDs_int, Hv.intsOf_int, Hv.startE, Hv.isNew, List.set]⟩
  simp (config := { implicitDefEqProofs := false }) [Hv.s1, Hv.s2, Hv.s3, Hv.s4, Hv.s5, Hv.s6, Hv.s7, Hv.s8, Hv.s9, Hv.s10, Hv.s11, Hv.s12, Hv.s13, Hv.s14, Hv.s15, Hv.s16, Hv.s17, Hv.s18, Hv.s19, Hv.s20, Hv.s21, Hv.s22, Hv.s23, Hv.s24, Hv.s25, Hv.s26, Hv.s27, Hv.s28, Hv.s29, Hv.s30, Hv.s31, Hv.s32, Hv.s33, Hv.s34, Hv.s35, Hv.s36, Hv.s37, Hv.s38, Hv.v1, Hv.v2, Hv.v3, Hv.v4, Hv.v6, Hv.v7, Hv.v8, Hv.v9, Hv.v10, Hv.v11, Hv.e1, Hv.e2, Hv.e3, Hv.e4, Hv.e5, Hv.e6, Hv.e7, Hv.e8, Hv.e9, Hv.e10, Hv.e11, Hv.e12, Hv.e13, Hv.e14, Hv.e16, Hv.e17, Hv.e18, Hv.e19, Hv.e20, Hv.e21, Hv.e22, Hv.e23, Hv.e24, Hv.e25, Hv.e26, Hv.x1, Hv.x2, Hv.x6, Hv.x7, Hv.x8, Hv.x9, Hv.x12, Hv.x13, Hv.x14, Hv.x15, Hv.x16, Hv.x17, Hv.x21, Hv.x22, Hv.x23, Hv.x24, Hv.x25, Hv.x26, Hv.x27, Hv.x28, Hv.x29, Hv.x30, Hv.y0, Hv.y1, Hv.y2, Hv.y3, Hv.y4, Hv.y5, Hv.x31, Hv.x32, Hv.x33, Hv.x34, Hv.x35, Hv.x36, Hv.x39, Hv.a1, Hv.a2, Hv.k1, Hv.k4, Hv.k6, Hv.k7, Hv.k8, Hv.k9, Hv.k10, Hv.t0, Hv.t1, Hv.t2, Hv.t3, Hv.t4, Hv.t5, Hv.t6, Hv.t7, Hv.t8, Hv.t9, Hv.t10, Hv.t11, Hv.t12, Hv.t13, Hv.t14, Hv.t14', Hv.t15, Hv.t16, Hv.t17, Hv.t18, Hv.t19, Hv.t20, Hv.t21, Hv.t22, Hv.t23, Hv.t24, Hv.t25, Hv.t26, Hv.t28, Hv.r2, Hv.r3, Hv.r4, Hv.z1, Hv.z2, Hv.z3, Hv.mutDs_int, Hv.intsOf_int, Hv.startE, Hv.isNew, List.set, f1 (show m ≤ 16777216 by omega)]
  generalize hf : forR _ _ _ _ = r
  obtain ⟨ρ', rfl, rs, u, h1, h2, hB, rfl⟩ := go_inv hf (fun i ρ => ∃ (rs : List Q4) (u : Nat → Option D), 1 ≤ rs.length ∧ rs.length ≤ i + 1 ∧ BX rs ∧ ρ = [some (.v (.int cell)), some (.v (.int ((m : Int) + 1))), some (oL (ds.map .int)), some (oL (rs.map qd)), u 4, u 5, u 6, u 7, u 8, u 9, u 10, u 11])
    ⟨qs, fun _ => none, by omega, by omega, hB0, rfl⟩ (fun i p ρ hp ⟨rs, u, h1, h2, hB, e⟩ => by
      obtain ⟨hi, rfl⟩ := rgI_get hp
      subst e
      refine ⟨_, rfl, ?_⟩
      rw [t7, t0]
      have gl : (0 : Int) < (rs.length : Int) := by omega
      refine nx_seqI (fun a : Int => [some (.v (.int cell)), some (.v (.int ((m : Int) + 1))), some (oL (ds.map .int)), some (oL (rs.map qd)), some (.v (.int i)), some (.v (.int a)), u 6, u 7, u 8, u 9, u 10, u 11]) (fun a => 0 ≤ a ∧ a < (rs.length : Int)) ⟨gi ds (6 * (i : Int) + 2) % (rs.length : Int), mod_rng _ gl, by
        simp (config := { implicitDefEqProofs := false }) [Hv.s1, Hv.s2, Hv.s3, Hv.s4, Hv.s5, Hv.s6, Hv.s7, Hv.s8, Hv.s9, Hv.s10, Hv.s11, Hv.s12, Hv.s13, Hv.s14, Hv.s15, Hv.s16, Hv.s17, Hv.s18, Hv.s19, Hv.s20, Hv.s21, Hv.s22, Hv.s23, Hv.s24, Hv.s25, Hv.s26, Hv.s27, Hv.s28, Hv.s29, Hv.s30, Hv.s31, Hv.s32, Hv.s33, Hv.s34, Hv.s35, Hv.s36, Hv.s37, Hv.s38, Hv.v1, Hv.v2, Hv.v3, Hv.v4, Hv.v6, Hv.v7, Hv.v8, Hv.v9, Hv.v10, Hv.v11, Hv.e1, Hv.e2, Hv.e3, Hv.e4, Hv.e5, Hv.e6, Hv.e7, Hv.e8, Hv.e9, Hv.e10, Hv.e11, Hv.e12, Hv.e13, Hv.e14, Hv.e16, Hv.e17, Hv.e18, Hv.e19, Hv.e20, Hv.e21, Hv.e22, Hv.e23, Hv.e24, Hv.e25, Hv.e26, Hv.x1, Hv.x2, Hv.x6, Hv.x7, Hv.x8, Hv.x9, Hv.x12, Hv.x13, Hv.x14, Hv.x15, Hv.x16, Hv.x17, Hv.x21, Hv.x22, Hv.x23, Hv.x24, Hv.x25, Hv.x26, Hv.x27, Hv.x28, Hv.x29, Hv.x30, Hv.y0, Hv.y1, Hv.y2, Hv.y3, Hv.y4, Hv.y5, Hv.x31, Hv.x32, Hv.x33, Hv.x34, Hv.x35, Hv.x36, Hv.x39, Hv.a1, Hv.a2, Hv.k1, Hv.k4, Hv.k6, Hv.k7, Hv.k8, Hv.k9, Hv.k10, Hv.t0, Hv.t1, Hv.t2, Hv.t3, Hv.t4, Hv.t5, Hv.t6, Hv.t7, Hv.t8, Hv.t9, Hv.t10, Hv.t11, Hv.t12, Hv.t13, Hv.t14, Hv.t14', Hv.t15, Hv.t16, Hv.t17, Hv.t18, Hv.t19, Hv.t20, Hv.t21, Hv.t22, Hv.t23, Hv.t24, Hv.t25, Hv.t26, Hv.t28, Hv.r2, Hv.r3, Hv.r4, Hv.z1, Hv.z2, Hv.z3, Hv.mutDs_int, Hv.intsOf_int, Hv.startE, Hv.isNew, List.set, x3 (m6 _), ixv_o (show 0 ≤ 6 * (i : Int) + 2 by omega) (show 6 * (i : Int) + 2 < ds.length by omega), mut_qds, x5 gl]⟩ fun a ha => ?_
      obtain ⟨q, hq, hqB⟩ : ∃ q, (rs.map qd)[a.toNat]? = some (qd q) ∧ bx q := by
        obtain ⟨x, h, hm⟩ := get_in (xs := rs) ha.1 ha.2
        exact ⟨x, by simp [h], hB x hm⟩
      unfold bx at hqB
      rw [t7, t0]
      refine nx_seq [some (.v (.int cell)), some (.v (.int ((m : Int) + 1))), some (oL (ds.map .int)), some (oL (rs.map qd)), some (.v (.int i)), some (.v (.int a)), u 6, some (.v (.int q.1)), some (.v (.int q.2.1)), some (.v (.int q.2.2.1)), some (.v (.int q.2.2.2)), u 11] (by
        simp (config := { implicitDefEqProofs := false }) [Hv.s1, Hv.s2, Hv.s3, Hv.s4, Hv.s5, Hv.s6, Hv.s7, Hv.s8, Hv.s9, Hv.s10, Hv.s11, Hv.s12, Hv.s13, Hv.s14, Hv.s15, Hv.s16, Hv.s17, Hv.s18, Hv.s19, Hv.s20, Hv.s21, Hv.s22, Hv.s23, Hv.s24, Hv.s25, Hv.s26, Hv.s27, Hv.s28, Hv.s29, Hv.s30, Hv.s31, Hv.s32, Hv.s33, Hv.s34, Hv.s35, Hv.s36, Hv.s37, Hv.s38, Hv.v1, Hv.v2, Hv.v3, Hv.v4, Hv.v6, Hv.v7, Hv.v8, Hv.v9, Hv.v10, Hv.v11, Hv.e1, Hv.e2, Hv.e3, Hv.e4, Hv.e5, Hv.e6, Hv.e7, Hv.e8, Hv.e9, Hv.e10, Hv.e11, Hv.e12, Hv.e13, Hv.e14, Hv.e16, Hv.e17, Hv.e18, Hv.e19, Hv.e20, Hv.e21, Hv.e22, Hv.e23, Hv.e24, Hv.e25, Hv.e26, Hv.x1, Hv.x2, Hv.x6, Hv.x7, Hv.x8, Hv.x9, Hv.x12, Hv.x13, Hv.x14, Hv.x15, Hv.x16, Hv.x17, Hv.x21, Hv.x22, Hv.x23, Hv.x24, Hv.x25, Hv.x26, Hv.x27, Hv.x28, Hv.x29, Hv.x30, Hv.y0, Hv.y1, Hv.y2, Hv.y3, Hv.y4, Hv.y5, Hv.x31, Hv.x32, Hv.x33, Hv.x34, Hv.x35, Hv.x36, Hv.x39, Hv.a1, Hv.a2, Hv.k1, Hv.k4, Hv.k6, Hv.k7, Hv.k8, Hv.k9, Hv.k10, Hv.t0, Hv.t1, Hv.t2, Hv.t3, Hv.t4, Hv.t5, Hv.t6, Hv.t7, Hv.t8, Hv.t9, Hv.t10, Hv.t11, Hv.t12, Hv.t13, Hv.t14, Hv.t14', Hv.t15, Hv.t16, Hv.t17, Hv.t18, Hv.t19, Hv.t20, Hv.t21, Hv.t22, Hv.t23, Hv.t24, Hv.t25, Hv.t26, Hv.t28, Hv.r2, Hv.r3, Hv.r4, Hv.z1, Hv.z2, Hv.z3, Hv.mutDs_int, Hv.intsOf_int, Hv.startE, Hv.isNew, List.set, ixq_o ha.1 hq, t_asgT, asg_qd]) ?_
      rw [t7, t0]
      refine nx_seqI (fun b : Int => [some (.v (.int cell)), some (.v (.int ((m : Int) + 1))), some (oL (ds.map .int)), some (oL (rs.map qd)), some (.v (.int i)), some (.v (.int a)), some (.v (.int b)), some (.v (.int q.1)), some (.v (.int q.2.1)), some (.v (.int q.2.2.1)), some (.v (.int q.2.2.2)), u 11]) (fun b => 0 ≤ b) ⟨gi ds (6 * (i : Int) + 5) % 3, (mod_rng _ g3).1, by
        simp (config := { implicitDefEqProofs := false }) [Hv.s1, Hv.s2, Hv.s3, Hv.s4, Hv.s5, Hv.s6, Hv.s7, Hv.s8, Hv.s9, Hv.s10, Hv.s11, Hv.s12, Hv.s13, Hv.s14, Hv.s15, Hv.s16, Hv.s17, Hv.s18, Hv.s19, Hv.s20, Hv.s21, Hv.s22, Hv.s23, Hv.s24, Hv.s25, Hv.s26, Hv.s27, Hv.s28, Hv.s29, Hv.s30, Hv.s31, Hv.s32, Hv.s33, Hv.s34, Hv.s35, Hv.s36, Hv.s37, Hv.s38, Hv.v1, Hv.v2, Hv.v3, Hv.v4, Hv.v6, Hv.v7, Hv.v8, Hv.v9, Hv.v10, Hv.v11, Hv.e1, Hv.e2, Hv.e3, Hv.e4, Hv.e5, Hv.e6, Hv.e7, Hv.e8, Hv.e9, Hv.e10, Hv.e11, Hv.e12, Hv.e13, Hv.e14, Hv.e16, Hv.e17, Hv.e18, Hv.e19, Hv.e20, Hv.e21, Hv.e22, Hv.e23, Hv.e24, Hv.e25, Hv.e26, Hv.x1, Hv.x2, Hv.x6, Hv.x7, Hv.x8, Hv.x9, Hv.x12, Hv.x13, Hv.x14, Hv.x15, Hv.x16, Hv.x17, Hv.x21, Hv.x22, Hv.x23, Hv.x24, Hv.x25, Hv.x26, Hv.x27, Hv.x28, Hv.x29, Hv.x30, Hv.y0, Hv.y1, Hv.y2, Hv.y3, Hv.y4, Hv.y5, Hv.x31, Hv.x32, Hv.x33, Hv.x34, Hv.x35, Hv.x36, Hv.x39, Hv.a1, Hv.a2, Hv.k1, Hv.k4, Hv.k6, Hv.k7, Hv.k8, Hv.k9, Hv.k10, Hv.t0, Hv.t1, Hv.t2, Hv.t3, Hv.t4, Hv.t5, Hv.t6, Hv.t7, Hv.t8, Hv.t9, Hv.t10, Hv.t11, Hv.t12, Hv.t13, Hv.t14, Hv.t14', Hv.t15, Hv.t16, Hv.t17, Hv.t18, Hv.t19, Hv.t20, Hv.t21, Hv.t22, Hv.t23, Hv.t24, Hv.t25, Hv.t26, Hv.t28, Hv.r2, Hv.r3, Hv.r4, Hv.z1, Hv.z2, Hv.z3, Hv.mutDs_int, Hv.intsOf_int, Hv.startE, Hv.isNew, List.set, x3 (m6 _), ixv_o (show 0 ≤ 6 * (i : Int) + 5 by omega) (show 6 * (i : Int) + 5 < ds.length by omega), x5 g3]⟩ fun b hb0 => ?_
      have i3 := ixv_o (ns := ds) (n := 2) (al := []) (show 0 ≤ 6 * (i : Int) + 3 by omega) (show 6 * (i : Int) + 3 < ds.length by omega)
      have i4 := ixv_o (ns := ds) (n := 2) (al := []) (show 0 ≤ 6 * (i : Int) + 4 by omega) (show 6 * (i : Int) + 4 < ds.length by omega)
      generalize gi ds (6 * (i : Int) + 3) = x at i3
      generalize gi ds (6 * (i : Int) + 4) = y at i4
      have hset : ∀ t : Q4, (rs.map qd).set a.toNat (qd t) = (rs.set a.toNat t).map qd := fun t => by rw [List.map_set]
      have hap : ∀ t : Q4, ((rs.set a.toNat t).map qd).length < 16777216 := fun t => by simp; omega
      have ha2 : a < ((rs.map qd).length : Int) := by simpa using ha.2
      rw [t7, t0]
      refine nx_seqI (fun z : List Q4 × Option D => [some (.v (.int cell)), some (.v (.int ((m : Int) + 1))), some (oL (ds.map .int)), some (oL (z.1.map qd)), some (.v (.int i)), some (.v (.int a)), some (.v (.int b)), some (.v (.int q.1)), some (.v (.int q.2.1)), some (.v (.int q.2.2.1)), some (.v (.int q.2.2.2)), z.2]) (fun z => (1 ≤ z.1.length ∧ z.1.length ≤ i + 1 + 1) ∧ BX z.1) ?_ fun z hz => by
        rw [t7, t1, nx1]
        exact ⟨z.1, fun n => match n with | 4 => some (.v (.int i)) | 5 => some (.v (.int a)) | 6 => some (.v (.int b)) | 7 => some (.v (.int q.1)) | 8 => some (.v (.int q.2.1)) | 9 => some (.v (.int q.2.2.1)) | 10 => some (.v (.int q.2.2.2)) | _ => z.2, hz.1.1, hz.1.2, hz.2, rfl⟩
      refine eq_ife (decide (x % 2 = 0) && decide (8 < q.2.2.1 - q.1)) (by
        by_cases z1 : x % 2 = 0 <;> by_cases z2 : 8 < q.2.2.1 - q.1 <;> simp (config := { implicitDefEqProofs := false }) [Hv.s1, Hv.s2, Hv.s3, Hv.s4, Hv.s5, Hv.s6, Hv.s7, Hv.s8, Hv.s9, Hv.s10, Hv.s11, Hv.s12, Hv.s13, Hv.s14, Hv.s15, Hv.s16, Hv.s17, Hv.s18, Hv.s19, Hv.s20, Hv.s21, Hv.s22, Hv.s23, Hv.s24, Hv.s25, Hv.s26, Hv.s27, Hv.s28, Hv.s29, Hv.s30, Hv.s31, Hv.s32, Hv.s33, Hv.s34, Hv.s35, Hv.s36, Hv.s37, Hv.s38, Hv.v1, Hv.v2, Hv.v3, Hv.v4, Hv.v6, Hv.v7, Hv.v8, Hv.v9, Hv.v10, Hv.v11, Hv.e1, Hv.e2, Hv.e3, Hv.e4, Hv.e5, Hv.e6, Hv.e7, Hv.e8, Hv.e9, Hv.e10, Hv.e11, Hv.e12, Hv.e13, Hv.e14, Hv.e16, Hv.e17, Hv.e18, Hv.e19, Hv.e20, Hv.e21, Hv.e22, Hv.e23, Hv.e24, Hv.e25, Hv.e26, Hv.x1, Hv.x2, Hv.x6, Hv.x7, Hv.x8, Hv.x9, Hv.x12, Hv.x13, Hv.x14, Hv.x15, Hv.x16, Hv.x17, Hv.x21, Hv.x22, Hv.x23, Hv.x24, Hv.x25, Hv.x26, Hv.x27, Hv.x28, Hv.x29, Hv.x30, Hv.y0, Hv.y1, Hv.y2, Hv.y3, Hv.y4, Hv.y5, Hv.x31, Hv.x32, Hv.x33, Hv.x34, Hv.x35, Hv.x36, Hv.x39, Hv.a1, Hv.a2, Hv.k1, Hv.k4, Hv.k6, Hv.k7, Hv.k8, Hv.k9, Hv.k10, Hv.t0, Hv.t1, Hv.t2, Hv.t3, Hv.t4, Hv.t5, Hv.t6, Hv.t7, Hv.t8, Hv.t9, Hv.t10, Hv.t11, Hv.t12, Hv.t13, Hv.t14, Hv.t14', Hv.t15, Hv.t16, Hv.t17, Hv.t18, Hv.t19, Hv.t20, Hv.t21, Hv.t22, Hv.t23, Hv.t24, Hv.t25, Hv.t26, Hv.t28, Hv.r2, Hv.r3, Hv.r4, Hv.z1, Hv.z2, Hv.z3, Hv.mutDs_int, Hv.intsOf_int, Hv.startE, Hv.isNew, List.set, x3 (m6 _), i3, x5 g2, cmp_eqi, z1, z2]) (fun hv => ?_) fun hv => ?_
      · simp only [Bool.and_eq_true, decide_eq_true_eq] at hv
        have gA : 0 < q.2.2.1 - q.1 - 5 := by omega
        rw [t0]
        refine eq_seqI (fun w : Int => [some (.v (.int cell)), some (.v (.int ((m : Int) + 1))), some (oL (ds.map .int)), some (oL (rs.map qd)), some (.v (.int i)), some (.v (.int a)), some (.v (.int b)), some (.v (.int q.1)), some (.v (.int q.2.1)), some (.v (.int q.2.2.1)), some (.v (.int q.2.2.2)), some (.v (.int w))]) (fun w => q.1 < w ∧ w < q.2.2.1) ⟨q.1 + 3 + y % (q.2.2.1 - q.1 - 5), by have := mod_rng y gA; omega, by simp (config := { implicitDefEqProofs := false }) [Hv.s1, Hv.s2, Hv.s3, Hv.s4, Hv.s5, Hv.s6, Hv.s7, Hv.s8, Hv.s9, Hv.s10, Hv.s11, Hv.s12, Hv.s13, Hv.s14, Hv.s15, Hv.s16, Hv.s17, Hv.s18, Hv.s19, Hv.s20, Hv.s21, Hv.s22, Hv.s23, Hv.s24, Hv.s25, Hv.s26, Hv.s27, Hv.s28, Hv.s29, Hv.s30, Hv.s31, Hv.s32, Hv.s33, Hv.s34, Hv.s35, Hv.s36, Hv.s37, Hv.s38, Hv.v1, Hv.v2, Hv.v3, Hv.v4, Hv.v6, Hv.v7, Hv.v8, Hv.v9, Hv.v10, Hv.v11, Hv.e1, Hv.e2, Hv.e3, Hv.e4, Hv.e5, Hv.e6, Hv.e7, Hv.e8, Hv.e9, Hv.e10, Hv.e11, Hv.e12, Hv.e13, Hv.e14, Hv.e16, Hv.e17, Hv.e18, Hv.e19, Hv.e20, Hv.e21, Hv.e22, Hv.e23, Hv.e24, Hv.e25, Hv.e26, Hv.x1, Hv.x2, Hv.x6, Hv.x7, Hv.x8, Hv.x9, Hv.x12, Hv.x13, Hv.x14, Hv.x15, Hv.x16, Hv.x17, Hv.x21, Hv.x22, Hv.x23, Hv.x24, Hv.x25, Hv.x26, Hv.x27, Hv.x28, Hv.x29, Hv.x30, Hv.y0, Hv.y1, Hv.y2, Hv.y3, Hv.y4, Hv.y5, Hv.x31, Hv.x32, Hv.x33, Hv.x34, Hv.x35, Hv.x36, Hv.x39, Hv.a1, Hv.a2, Hv.k1, Hv.k4, Hv.k6, Hv.k7, Hv.k8, Hv.k9, Hv.k10, Hv.t0, Hv.t1, Hv.t2, Hv.t3, Hv.t4, Hv.t5, Hv.t6, Hv.t7, Hv.t8, Hv.t9, Hv.t10, Hv.t11, Hv.t12, Hv.t13, Hv.t14, Hv.t14', Hv.t15, Hv.t16, Hv.t17, Hv.t18, Hv.t19, Hv.t20, Hv.t21, Hv.t22, Hv.t23, Hv.t24, Hv.t25, Hv.t26, Hv.t28, Hv.r2, Hv.r3, Hv.r4, Hv.z1, Hv.z2, Hv.z3, Hv.mutDs_int, Hv.intsOf_int, Hv.startE, Hv.isNew, List.set, x3 (m6 _), i4, x5 gA]⟩ fun w hw => ?_
        rw [t7, t0]
        refine eq_seq [some (.v (.int cell)), some (.v (.int ((m : Int) + 1))), some (oL (ds.map .int)), some (oL ((rs.set a.toNat (q.1, q.2.1, w, q.2.2.2)).map qd)), some (.v (.int i)), some (.v (.int a)), some (.v (.int b)), some (.v (.int q.1)), some (.v (.int q.2.1)), some (.v (.int q.2.2.1)), some (.v (.int q.2.2.2)), some (.v (.int w))] (by
          simp (config := { implicitDefEqProofs := false }) [Hv.s1, Hv.s2, Hv.s3, Hv.s4, Hv.s5, Hv.s6, Hv.s7, Hv.s8, Hv.s9, Hv.s10, Hv.s11, Hv.s12, Hv.s13, Hv.s14, Hv.s15, Hv.s16, Hv.s17, Hv.s18, Hv.s19, Hv.s20, Hv.s21, Hv.s22, Hv.s23, Hv.s24, Hv.s25, Hv.s26, Hv.s27, Hv.s28, Hv.s29, Hv.s30, Hv.s31, Hv.s32, Hv.s33, Hv.s34, Hv.s35, Hv.s36, Hv.s37, Hv.s38, Hv.v1, Hv.v2, Hv.v3, Hv.v4, Hv.v6, Hv.v7, Hv.v8, Hv.v9, Hv.v10, Hv.v11, Hv.e1, Hv.e2, Hv.e3, Hv.e4, Hv.e5, Hv.e6, Hv.e7, Hv.e8, Hv.e9, Hv.e10, Hv.e11, Hv.e12, Hv.e13, Hv.e14, Hv.e16, Hv.e17, Hv.e18, Hv.e19, Hv.e20, Hv.e21, Hv.e22, Hv.e23, Hv.e24, Hv.e25, Hv.e26, Hv.x1, Hv.x2, Hv.x6, Hv.x7, Hv.x8, Hv.x9, Hv.x12, Hv.x13, Hv.x14, Hv.x15, Hv.x16, Hv.x17, Hv.x21, Hv.x22, Hv.x23, Hv.x24, Hv.x25, Hv.x26, Hv.x27, Hv.x28, Hv.x29, Hv.x30, Hv.y0, Hv.y1, Hv.y2, Hv.y3, Hv.y4, Hv.y5, Hv.x31, Hv.x32, Hv.x33, Hv.x34, Hv.x35, Hv.x36, Hv.x39, Hv.a1, Hv.a2, Hv.k1, Hv.k4, Hv.k6, Hv.k7, Hv.k8, Hv.k9, Hv.k10, Hv.t0, Hv.t1, Hv.t2, Hv.t3, Hv.t4, Hv.t5, Hv.t6, Hv.t7, Hv.t8, Hv.t9, Hv.t10, Hv.t11, Hv.t12, Hv.t13, Hv.t14, Hv.t14', Hv.t15, Hv.t16, Hv.t17, Hv.t18, Hv.t19, Hv.t20, Hv.t21, Hv.t22, Hv.t23, Hv.t24, Hv.t25, Hv.t26, Hv.t28, Hv.r2, Hv.r3, Hv.r4, Hv.z1, Hv.z2, Hv.z3, Hv.mutDs_int, Hv.intsOf_int, Hv.startE, Hv.isNew, List.set, tupD, isFz, md1, md5, mkT, isNews, isNew, t_seti, setR_eq, ol_set ha.1 ha2]; exact (hset (q.1, q.2.1, w, q.2.2.2)).symm ▸ rfl) ?_
        rw [t7, t0]
        refine eq_seqI (fun t : Q4 => [some (.v (.int cell)), some (.v (.int ((m : Int) + 1))), some (oL (ds.map .int)), some (oL ((rs.set a.toNat (q.1, q.2.1, w, q.2.2.2) ++ [t]).map qd)), some (.v (.int i)), some (.v (.int a)), some (.v (.int b)), some (.v (.int q.1)), some (.v (.int q.2.1)), some (.v (.int q.2.2.1)), some (.v (.int q.2.2.2)), some (.v (.int w))]) bx ⟨((if q.2.2.1 - 1 < w + b then q.2.2.1 - 1 else w + b), q.2.1, q.2.2.1, q.2.2.2), by unfold bx; simp only; split <;> omega, by
          generalize hR : rs.set a.toNat (q.1, q.2.1, w, q.2.2.2) = R
          have hRl : (R.map qd).length < 16777216 := hR ▸ hap _
          simp (config := { implicitDefEqProofs := false }) [Hv.s1, Hv.s2, Hv.s3, Hv.s4, Hv.s5, Hv.s6, Hv.s7, Hv.s8, Hv.s9, Hv.s10, Hv.s11, Hv.s12, Hv.s13, Hv.s14, Hv.s15, Hv.s16, Hv.s17, Hv.s18, Hv.s19, Hv.s20, Hv.s21, Hv.s22, Hv.s23, Hv.s24, Hv.s25, Hv.s26, Hv.s27, Hv.s28, Hv.s29, Hv.s30, Hv.s31, Hv.s32, Hv.s33, Hv.s34, Hv.s35, Hv.s36, Hv.s37, Hv.s38, Hv.v1, Hv.v2, Hv.v3, Hv.v4, Hv.v6, Hv.v7, Hv.v8, Hv.v9, Hv.v10, Hv.v11, Hv.e1, Hv.e2, Hv.e3, Hv.e4, Hv.e5, Hv.e6, Hv.e7, Hv.e8, Hv.e9, Hv.e10, Hv.e11, Hv.e12, Hv.e13, Hv.e14, Hv.e16, Hv.e17, Hv.e18, Hv.e19, Hv.e20, Hv.e21, Hv.e22, Hv.e23, Hv.e24, Hv.e25, Hv.e26, Hv.x1, Hv.x2, Hv.x6, Hv.x7, Hv.x8, Hv.x9, Hv.x12, Hv.x13, Hv.x14, Hv.x15, Hv.x16, Hv.x17, Hv.x21, Hv.x22, Hv.x23, Hv.x24, Hv.x25, Hv.x26, Hv.x27, Hv.x28, Hv.x29, Hv.x30, Hv.y0, Hv.y1, Hv.y2, Hv.y3, Hv.y4, Hv.y5, Hv.x31, Hv.x32, Hv.x33, Hv.x34, Hv.x35, Hv.x36, Hv.x39, Hv.a1, Hv.a2, Hv.k1, Hv.k4, Hv.k6, Hv.k7, Hv.k8, Hv.k9, Hv.k10, Hv.t0, Hv.t1, Hv.t2, Hv.t3, Hv.t4, Hv.t5, Hv.t6, Hv.t7, Hv.t8, Hv.t9, Hv.t10, Hv.t11, Hv.t12, Hv.t13, Hv.t14, Hv.t14', Hv.t15, Hv.t16, Hv.t17, Hv.t18, Hv.t19, Hv.t20, Hv.t21, Hv.t22, Hv.t23, Hv.t24, Hv.t25, Hv.t26, Hv.t28, Hv.r2, Hv.r3, Hv.r4, Hv.z1, Hv.z2, Hv.z3, Hv.mutDs_int, Hv.intsOf_int, Hv.startE, Hv.isNew, List.set, tupD, isFz, md1, md5, mkT, isNews, isNew, t27 hRl]
          exact congrArg oL (congrArg (R.map qd ++ ·) rfl)⟩ fun t ht => ?_
        exact eq_nil (_, _) ⟨⟨by simp, by simp; omega⟩, (hB.set (by unfold bx; simp only; omega)).app ht⟩ rfl
      · rw [t0]
        refine eq_seqI (fun z : List Q4 × Option D => [some (.v (.int cell)), some (.v (.int ((m : Int) + 1))), some (oL (ds.map .int)), some (oL (z.1.map qd)), some (.v (.int i)), some (.v (.int a)), some (.v (.int b)), some (.v (.int q.1)), some (.v (.int q.2.1)), some (.v (.int q.2.2.1)), some (.v (.int q.2.2.2)), z.2]) (fun z => (1 ≤ z.1.length ∧ z.1.length ≤ i + 1 + 1) ∧ BX z.1) ?_ fun z hz => eq_nil z hz rfl
        refine eq_ife (decide (8 < q.2.2.2 - q.2.1)) (by simp (config := { implicitDefEqProofs := false }) [Hv.s1, Hv.s2, Hv.s3, Hv.s4, Hv.s5, Hv.s6, Hv.s7, Hv.s8, Hv.s9, Hv.s10, Hv.s11, Hv.s12, Hv.s13, Hv.s14, Hv.s15, Hv.s16, Hv.s17, Hv.s18, Hv.s19, Hv.s20, Hv.s21, Hv.s22, Hv.s23, Hv.s24, Hv.s25, Hv.s26, Hv.s27, Hv.s28, Hv.s29, Hv.s30, Hv.s31, Hv.s32, Hv.s33, Hv.s34, Hv.s35, Hv.s36, Hv.s37, Hv.s38, Hv.v1, Hv.v2, Hv.v3, Hv.v4, Hv.v6, Hv.v7, Hv.v8, Hv.v9, Hv.v10, Hv.v11, Hv.e1, Hv.e2, Hv.e3, Hv.e4, Hv.e5, Hv.e6, Hv.e7, Hv.e8, Hv.e9, Hv.e10, Hv.e11, Hv.e12, Hv.e13, Hv.e14, Hv.e16, Hv.e17, Hv.e18, Hv.e19, Hv.e20, Hv.e21, Hv.e22, Hv.e23, Hv.e24, Hv.e25, Hv.e26, Hv.x1, Hv.x2, Hv.x6, Hv.x7, Hv.x8, Hv.x9, Hv.x12, Hv.x13, Hv.x14, Hv.x15, Hv.x16, Hv.x17, Hv.x21, Hv.x22, Hv.x23, Hv.x24, Hv.x25, Hv.x26, Hv.x27, Hv.x28, Hv.x29, Hv.x30, Hv.y0, Hv.y1, Hv.y2, Hv.y3, Hv.y4, Hv.y5, Hv.x31, Hv.x32, Hv.x33, Hv.x34, Hv.x35, Hv.x36, Hv.x39, Hv.a1, Hv.a2, Hv.k1, Hv.k4, Hv.k6, Hv.k7, Hv.k8, Hv.k9, Hv.k10, Hv.t0, Hv.t1, Hv.t2, Hv.t3, Hv.t4, Hv.t5, Hv.t6, Hv.t7, Hv.t8, Hv.t9, Hv.t10, Hv.t11, Hv.t12, Hv.t13, Hv.t14, Hv.t14', Hv.t15, Hv.t16, Hv.t17, Hv.t18, Hv.t19, Hv.t20, Hv.t21, Hv.t22, Hv.t23, Hv.t24, Hv.t25, Hv.t26, Hv.t28, Hv.r2, Hv.r3, Hv.r4, Hv.z1, Hv.z2, Hv.z3, Hv.mutDs_int, Hv.intsOf_int, Hv.startE, Hv.isNew, List.set]) (fun hv => ?_) fun hv => ?_
        · have hv := of_decide_eq_true hv
          have gB : 0 < q.2.2.2 - q.2.1 - 5 := by omega
          rw [t0]
          refine eq_seqI (fun w : Int => [some (.v (.int cell)), some (.v (.int ((m : Int) + 1))), some (oL (ds.map .int)), some (oL (rs.map qd)), some (.v (.int i)), some (.v (.int a)), some (.v (.int b)), some (.v (.int q.1)), some (.v (.int q.2.1)), some (.v (.int q.2.2.1)), some (.v (.int q.2.2.2)), some (.v (.int w))]) (fun w => q.2.1 < w ∧ w < q.2.2.2) ⟨q.2.1 + 3 + y % (q.2.2.2 - q.2.1 - 5), by have := mod_rng y gB; omega, by simp (config := { implicitDefEqProofs := false }) [Hv.s1, Hv.s2, Hv.s3, Hv.s4, Hv.s5, Hv.s6, Hv.s7, Hv.s8, Hv.s9, Hv.s10, Hv.s11, Hv.s12, Hv.s13, Hv.s14, Hv.s15, Hv.s16, Hv.s17, Hv.s18, Hv.s19, Hv.s20, Hv.s21, Hv.s22, Hv.s23, Hv.s24, Hv.s25, Hv.s26, Hv.s27, Hv.s28, Hv.s29, Hv.s30, Hv.s31, Hv.s32, Hv.s33, Hv.s34, Hv.s35, Hv.s36, Hv.s37, Hv.s38, Hv.v1, Hv.v2, Hv.v3, Hv.v4, Hv.v6, Hv.v7, Hv.v8, Hv.v9, Hv.v10, Hv.v11, Hv.e1, Hv.e2, Hv.e3, Hv.e4, Hv.e5, Hv.e6, Hv.e7, Hv.e8, Hv.e9, Hv.e10, Hv.e11, Hv.e12, Hv.e13, Hv.e14, Hv.e16, Hv.e17, Hv.e18, Hv.e19, Hv.e20, Hv.e21, Hv.e22, Hv.e23, Hv.e24, Hv.e25, Hv.e26, Hv.x1, Hv.x2, Hv.x6, Hv.x7, Hv.x8, Hv.x9, Hv.x12, Hv.x13, Hv.x14, Hv.x15, Hv.x16, Hv.x17, Hv.x21, Hv.x22, Hv.x23, Hv.x24, Hv.x25, Hv.x26, Hv.x27, Hv.x28, Hv.x29, Hv.x30, Hv.y0, Hv.y1, Hv.y2, Hv.y3, Hv.y4, Hv.y5, Hv.x31, Hv.x32, Hv.x33, Hv.x34, Hv.x35, Hv.x36, Hv.x39, Hv.a1, Hv.a2, Hv.k1, Hv.k4, Hv.k6, Hv.k7, Hv.k8, Hv.k9, Hv.k10, Hv.t0, Hv.t1, Hv.t2, Hv.t3, Hv.t4, Hv.t5, Hv.t6, Hv.t7, Hv.t8, Hv.t9, Hv.t10, Hv.t11, Hv.t12, Hv.t13, Hv.t14, Hv.t14', Hv.t15, Hv.t16, Hv.t17, Hv.t18, Hv.t19, Hv.t20, Hv.t21, Hv.t22, Hv.t23, Hv.t24, Hv.t25, Hv.t26, Hv.t28, Hv.r2, Hv.r3, Hv.r4, Hv.z1, Hv.z2, Hv.z3, Hv.mutDs_int, Hv.intsOf_int, Hv.startE, Hv.isNew, List.set, x3 (m6 _), i4, x5 gB]⟩ fun w hw => ?_
          rw [t7, t0]
          refine eq_seq [some (.v (.int cell)), some (.v (.int ((m : Int) + 1))), some (oL (ds.map .int)), some (oL ((rs.set a.toNat (q.1, q.2.1, q.2.2.1, w)).map qd)), some (.v (.int i)), some (.v (.int a)), some (.v (.int b)), some (.v (.int q.1)), some (.v (.int q.2.1)), some (.v (.int q.2.2.1)), some (.v (.int q.2.2.2)), some (.v (.int w))] (by
            simp (config := { implicitDefEqProofs := false }) [Hv.s1, Hv.s2, Hv.s3, Hv.s4, Hv.s5, Hv.s6, Hv.s7, Hv.s8, Hv.s9, Hv.s10, Hv.s11, Hv.s12, Hv.s13, Hv.s14, Hv.s15, Hv.s16, Hv.s17, Hv.s18, Hv.s19, Hv.s20, Hv.s21, Hv.s22, Hv.s23, Hv.s24, Hv.s25, Hv.s26, Hv.s27, Hv.s28, Hv.s29, Hv.s30, Hv.s31, Hv.s32, Hv.s33, Hv.s34, Hv.s35, Hv.s36, Hv.s37, Hv.s38, Hv.v1, Hv.v2, Hv.v3, Hv.v4, Hv.v6, Hv.v7, Hv.v8, Hv.v9, Hv.v10, Hv.v11, Hv.e1, Hv.e2, Hv.e3, Hv.e4, Hv.e5, Hv.e6, Hv.e7, Hv.e8, Hv.e9, Hv.e10, Hv.e11, Hv.e12, Hv.e13, Hv.e14, Hv.e16, Hv.e17, Hv.e18, Hv.e19, Hv.e20, Hv.e21, Hv.e22, Hv.e23, Hv.e24, Hv.e25, Hv.e26, Hv.x1, Hv.x2, Hv.x6, Hv.x7, Hv.x8, Hv.x9, Hv.x12, Hv.x13, Hv.x14, Hv.x15, Hv.x16, Hv.x17, Hv.x21, Hv.x22, Hv.x23, Hv.x24, Hv.x25, Hv.x26, Hv.x27, Hv.x28, Hv.x29, Hv.x30, Hv.y0, Hv.y1, Hv.y2, Hv.y3, Hv.y4, Hv.y5, Hv.x31, Hv.x32, Hv.x33, Hv.x34, Hv.x35, Hv.x36, Hv.x39, Hv.a1, Hv.a2, Hv.k1, Hv.k4, Hv.k6, Hv.k7, Hv.k8, Hv.k9, Hv.k10, Hv.t0, Hv.t1, Hv.t2, Hv.t3, Hv.t4, Hv.t5, Hv.t6, Hv.t7, Hv.t8, Hv.t9, Hv.t10, Hv.t11, Hv.t12, Hv.t13, Hv.t14, Hv.t14', Hv.t15, Hv.t16, Hv.t17, Hv.t18, Hv.t19, Hv.t20, Hv.t21, Hv.t22, Hv.t23, Hv.t24, Hv.t25, Hv.t26, Hv.t28, Hv.r2, Hv.r3, Hv.r4, Hv.z1, Hv.z2, Hv.z3, Hv.mutDs_int, Hv.intsOf_int, Hv.startE, Hv.isNew, List.set, tupD, isFz, md1, md5, mkT, isNews, isNew, t_seti, setR_eq, ol_set ha.1 ha2]; exact (hset (q.1, q.2.1, q.2.2.1, w)).symm ▸ rfl) ?_
          rw [t7, t0]
          refine eq_seqI (fun t : Q4 => [some (.v (.int cell)), some (.v (.int ((m : Int) + 1))), some (oL (ds.map .int)), some (oL ((rs.set a.toNat (q.1, q.2.1, q.2.2.1, w) ++ [t]).map qd)), some (.v (.int i)), some (.v (.int a)), some (.v (.int b)), some (.v (.int q.1)), some (.v (.int q.2.1)), some (.v (.int q.2.2.1)), some (.v (.int q.2.2.2)), some (.v (.int w))]) bx ⟨(q.1, (if q.2.2.2 - 1 < w + b then q.2.2.2 - 1 else w + b), q.2.2.1, q.2.2.2), by unfold bx; simp only; split <;> omega, by
            generalize hR : rs.set a.toNat (q.1, q.2.1, q.2.2.1, w) = R
            have hRl : (R.map qd).length < 16777216 := hR ▸ hap _
            simp (config := { implicitDefEqProofs := false }) [Hv.s1, Hv.s2, Hv.s3, Hv.s4, Hv.s5, Hv.s6, Hv.s7, Hv.s8, Hv.s9, Hv.s10, Hv.s11, Hv.s12, Hv.s13, Hv.s14, Hv.s15, Hv.s16, Hv.s17, Hv.s18, Hv.s19, Hv.s20, Hv.s21, Hv.s22, Hv.s23, Hv.s24, Hv.s25, Hv.s26, Hv.s27, Hv.s28, Hv.s29, Hv.s30, Hv.s31, Hv.s32, Hv.s33, Hv.s34, Hv.s35, Hv.s36, Hv.s37, Hv.s38, Hv.v1, Hv.v2, Hv.v3, Hv.v4, Hv.v6, Hv.v7, Hv.v8, Hv.v9, Hv.v10, Hv.v11, Hv.e1, Hv.e2, Hv.e3, Hv.e4, Hv.e5, Hv.e6, Hv.e7, Hv.e8, Hv.e9, Hv.e10, Hv.e11, Hv.e12, Hv.e13, Hv.e14, Hv.e16, Hv.e17, Hv.e18, Hv.e19, Hv.e20, Hv.e21, Hv.e22, Hv.e23, Hv.e24, Hv.e25, Hv.e26, Hv.x1, Hv.x2, Hv.x6, Hv.x7, Hv.x8, Hv.x9, Hv.x12, Hv.x13, Hv.x14, Hv.x15, Hv.x16, Hv.x17, Hv.x21, Hv.x22, Hv.x23, Hv.x24, Hv.x25, Hv.x26, Hv.x27, Hv.x28, Hv.x29, Hv.x30, Hv.y0, Hv.y1, Hv.y2, Hv.y3, Hv.y4, Hv.y5, Hv.x31, Hv.x32, Hv.x33, Hv.x34, Hv.x35, Hv.x36, Hv.x39, Hv.a1, Hv.a2, Hv.k1, Hv.k4, Hv.k6, Hv.k7, Hv.k8, Hv.k9, Hv.k10, Hv.t0, Hv.t1, Hv.t2, Hv.t3, Hv.t4, Hv.t5, Hv.t6, Hv.t7, Hv.t8, Hv.t9, Hv.t10, Hv.t11, Hv.t12, Hv.t13, Hv.t14, Hv.t14', Hv.t15, Hv.t16, Hv.t17, Hv.t18, Hv.t19, Hv.t20, Hv.t21, Hv.t22, Hv.t23, Hv.t24, Hv.t25, Hv.t26, Hv.t28, Hv.r2, Hv.r3, Hv.r4, Hv.z1, Hv.z2, Hv.z3, Hv.mutDs_int, Hv.intsOf_int, Hv.startE, Hv.isNew, List.set, tupD, isFz, md1, md5, mkT, isNews, isNew, t27 hRl]
            exact congrArg oL (congrArg (R.map qd ++ ·) rfl)⟩ fun t ht => ?_
          exact eq_nil (_, _) ⟨⟨by simp, by simp; omega⟩, (hB.set (by unfold bx; simp only; omega)).app ht⟩ rfl
        · exact eq_nil (rs, _) ⟨⟨h1, by simpa using Nat.le_succ_of_le h2⟩, hB⟩ rfl)
  rw [rgI_len] at h2
  exact ⟨rs, ⟨⟨h1, h2⟩, hB⟩, u, rfl⟩
end Law

namespace Law
open PySem Hv
def cl (ns : List Int) (a : Int) : Int := ns.getD a.toNat 0
theorem cellI (k : Nat) (ns : List Int) (a : Int) (h : 0 ≤ a) : C (k + 1) 7 [IL ns, .int a] = .ok (.v (.int (cl ns a))) := by
  obtain ⟨n, rfl⟩ := Int.eq_ofNat_of_zero_le h
  exact cell k ns n
theorem freeI (k : Nat) (ds : List Int) (c size : Int) (h0 : 0 ≤ c) (hn : c ≤ 1000) (hd : 4 * c ≤ ds.length) (hs : 0 < size) : ∃ qs : List Q4, ((qs.length : Int) = c ∧ BX qs) ∧ C (k + 1) 9 [IL ds, .int c, .int size] = .ok (oL (qs.map qd)) := by
  obtain ⟨n, rfl⟩ := Int.eq_ofNat_of_zero_le h0
  obtain ⟨qs, ⟨a, hB⟩, b⟩ := free k ds n size (by omega) (by omega) hs
  exact ⟨qs, ⟨by omega, hB⟩, b⟩
theorem dividedI (k : Nat) (cell c : Int) (h0 : 1 ≤ c) (hm : c ≤ 100) : ∃ qs : List Q4, ((1 ≤ qs.length ∧ (qs.length : Int) ≤ c) ∧ BX qs) ∧ C (k + 2) 10 [.int cell, .int c] = .ok (oL (qs.map qd)) := by
  obtain ⟨m, e⟩ := Int.eq_ofNat_of_zero_le (show 0 ≤ c - 1 by omega)
  have : c = (m : Int) + 1 := by omega
  subst this
  obtain ⟨qs, ⟨a, hB⟩, b⟩ := divided k cell m (by omega)
  exact ⟨qs, ⟨by omega, hB⟩, b⟩
theorem three {i : Int} (h0 : 0 ≤ i) (h1 : i < 3) : ∃ s : Int, 0 < s ∧ ([.int 6, .int 14, .int 40] : List PyData)[i.toNat]? = some (.int s) := by
  obtain ⟨n, rfl⟩ := Int.eq_ofNat_of_zero_le h0
  match n, h1 with
  | 0, _ => exact ⟨6, by decide, rfl⟩
  | 1, _ => exact ⟨14, by decide, rfl⟩
  | 2, _ => exact ⟨40, by decide, rfl⟩
theorem four4 {l : List Int} (h : l.length = 4) : ∃ a b c d, l = [a, b, c, d] := by
  match l, h with
  | [a, b, c, d], _ => exact ⟨a, b, c, d, rfl⟩
theorem wheelI (k : Nat) (es : List Int) (h : es.length = 4) : ∃ qs : List Q4, ((qs.length ≤ 5 ∧ 4 ≤ qs.length) ∧ BX qs) ∧ C (k + 1) 11 [IL es] = .ok (oL (qs.map qd)) := by
  obtain ⟨a, b, c, d, rfl⟩ := four4 h
  exact wheel k a b c d
theorem screen (k : Nat) (ns : List Int) (a m : Int) (ha : 0 ≤ a) (hm : 1 ≤ m) (hm2 : m ≤ 60) : ∃ qs : List Q4, ((1 ≤ qs.length ∧ qs.length ≤ 100) ∧ BX qs) ∧ C (k + 3) 12 [IL ns, .int a, .int m] = .ok (oL (qs.map qd)) := by
  rw [c12]
  unfold B12
  have m4 : ∀ x : Int, mulOk 4 x = true := fun x => by unfold mulOk; simp
  have g6 : (0 : Int) < 6 := by decide
  have g3 : (0 : Int) < 3 := by decide
  obtain ⟨ds, e1, e2, e3⟩ := numI (k + 1) (cl ns (a + 1)) (8 + 4 * m) (by omega) (by omega)
  rw [t0]
  refine ex_seq [some (.v (IL ns)), some (.v (.int a)), some (.v (.int m)), some (.v (.int (cl ns a))), none, none, none, none, none, none, none, none, none, none, none, none, none] (by simp (config := { implicitDefEqProofs := false }) [Hv.s1, Hv.s2, Hv.s3, Hv.s4, Hv.s5, Hv.s6, Hv.s7, Hv.s8, Hv.s9, Hv.s10, Hv.s11, Hv.s12, Hv.s13, Hv.s14, Hv.s15, Hv.s16, Hv.s17, Hv.s18, Hv.s19, Hv.s20, Hv.s21, Hv.s22, Hv.s23, Hv.s24, Hv.s25, Hv.s26, Hv.s27, Hv.s28, Hv.s29, Hv.s30, Hv.s31, Hv.s32, Hv.s33, Hv.s34, Hv.s35, Hv.s36, Hv.s37, Hv.s38, Hv.v1, Hv.v2, Hv.v3, Hv.v4, Hv.v6, Hv.v7, Hv.v8, Hv.v9, Hv.v10, Hv.v11, Hv.e1, Hv.e2, Hv.e3, Hv.e4, Hv.e5, Hv.e6, Hv.e7, Hv.e8, Hv.e9, Hv.e10, Hv.e11, Hv.e12, Hv.e13, Hv.e14, Hv.e16, Hv.e17, Hv.e18, Hv.e19, Hv.e20, Hv.e21, Hv.e22, Hv.e23, Hv.e24, Hv.e25, Hv.e26, Hv.x1, Hv.x2, Hv.x6, Hv.x7, Hv.x8, Hv.x9, Hv.x12, Hv.x13, Hv.x14, Hv.x15, Hv.x16, Hv.x17, Hv.x21, Hv.x22, Hv.x23, Hv.x24, Hv.x25, Hv.x26, Hv.x27, Hv.x28, Hv.x29, Hv.x30, Hv.y0, Hv.y1, Hv.y2, Hv.y3, Hv.y4, Hv.y5, Hv.x31, Hv.x32, Hv.x33, Hv.x34, Hv.x35, Hv.x36, Hv.x39, Hv.a1, Hv.a2, Hv.k1, Hv.k4, Hv.k6, Hv.k7, Hv.k8, Hv.k9, Hv.k10, Hv.t0, Hv.t1, Hv.t2, Hv.t3, Hv.t4, Hv.t5, Hv.t6, Hv.t7, Hv.t8, Hv.t9, Hv.t10, Hv.t11, Hv.t12, Hv.t13, Hv.t14, Hv.t14', Hv.t15, Hv.t16, Hv.t17, Hv.t18, Hv.t19, Hv.t20, Hv.t21, Hv.t22, Hv.t23, Hv.t24, Hv.t25, Hv.t26, Hv.t28, Hv.r2, Hv.r3, Hv.r4, Hv.z1, Hv.z2, Hv.z3, Hv.mutDs_int, Hv.intsOf_int, Hv.startE, Hv.isNew, List.set, cellI (k + 1) ns a ha, k2i]) ?_
  rw [t7, t0]
  refine ex_seq [some (.v (IL ns)), some (.v (.int a)), some (.v (.int m)), some (.v (.int (cl ns a))), some (oL (ds.map .int)), none, none, none, none, none, none, none, none, none, none, none, none] (by simp (config := { implicitDefEqProofs := false }) [Hv.s1, Hv.s2, Hv.s3, Hv.s4, Hv.s5, Hv.s6, Hv.s7, Hv.s8, Hv.s9, Hv.s10, Hv.s11, Hv.s12, Hv.s13, Hv.s14, Hv.s15, Hv.s16, Hv.s17, Hv.s18, Hv.s19, Hv.s20, Hv.s21, Hv.s22, Hv.s23, Hv.s24, Hv.s25, Hv.s26, Hv.s27, Hv.s28, Hv.s29, Hv.s30, Hv.s31, Hv.s32, Hv.s33, Hv.s34, Hv.s35, Hv.s36, Hv.s37, Hv.s38, Hv.v1, Hv.v2, Hv.v3, Hv.v4, Hv.v6, Hv.v7, Hv.v8, Hv.v9, Hv.v10, Hv.v11, Hv.e1, Hv.e2, Hv.e3, Hv.e4, Hv.e5, Hv.e6, Hv.e7, Hv.e8, Hv.e9, Hv.e10, Hv.e11, Hv.e12, Hv.e13, Hv.e14, Hv.e16, Hv.e17, Hv.e18, Hv.e19, Hv.e20, Hv.e21, Hv.e22, Hv.e23, Hv.e24, Hv.e25, Hv.e26, Hv.x1, Hv.x2, Hv.x6, Hv.x7, Hv.x8, Hv.x9, Hv.x12, Hv.x13, Hv.x14, Hv.x15, Hv.x16, Hv.x17, Hv.x21, Hv.x22, Hv.x23, Hv.x24, Hv.x25, Hv.x26, Hv.x27, Hv.x28, Hv.x29, Hv.x30, Hv.y0, Hv.y1, Hv.y2, Hv.y3, Hv.y4, Hv.y5, Hv.x31, Hv.x32, Hv.x33, Hv.x34, Hv.x35, Hv.x36, Hv.x39, Hv.a1, Hv.a2, Hv.k1, Hv.k4, Hv.k6, Hv.k7, Hv.k8, Hv.k9, Hv.k10, Hv.t0, Hv.t1, Hv.t2, Hv.t3, Hv.t4, Hv.t5, Hv.t6, Hv.t7, Hv.t8, Hv.t9, Hv.t10, Hv.t11, Hv.t12, Hv.t13, Hv.t14, Hv.t14', Hv.t15, Hv.t16, Hv.t17, Hv.t18, Hv.t19, Hv.t20, Hv.t21, Hv.t22, Hv.t23, Hv.t24, Hv.t25, Hv.t26, Hv.t28, Hv.r2, Hv.r3, Hv.r4, Hv.z1, Hv.z2, Hv.z3, Hv.mutDs_int, Hv.intsOf_int, Hv.startE, Hv.isNew, List.set, cellI (k + 1) ns (a + 1) (by omega), k2i, x3 (m4 _), e3, k3_n]) ?_
  rw [t7, t0]
  have i0 := ixv_o (ns := ds) (n := 4) (al := []) (show (0 : Int) ≤ 0 by omega) (show (0 : Int) < ds.length by omega)
  have i1 := ixv_o (ns := ds) (n := 4) (al := []) (show (0 : Int) ≤ 1 by omega) (show (1 : Int) < ds.length by omega)
  have i2 := ixv_o (ns := ds) (n := 4) (al := []) (show (0 : Int) ≤ 2 by omega) (show (2 : Int) < ds.length by omega)
  have i3 := ixv_o (ns := ds) (n := 4) (al := []) (show (0 : Int) ≤ 3 by omega) (show (3 : Int) < ds.length by omega)
  have i4 := ixv_o (ns := ds) (n := 4) (al := []) (show (0 : Int) ≤ 4 by omega) (show (4 : Int) < ds.length by omega)
  have i5 := ixv_o (ns := ds) (n := 4) (al := []) (show (0 : Int) ≤ 5 by omega) (show (5 : Int) < ds.length by omega)
  have i6 := ixv_o (ns := ds) (n := 4) (al := []) (show (0 : Int) ≤ 6 by omega) (show (6 : Int) < ds.length by omega)
  have i7 := ixv_o (ns := ds) (n := 4) (al := []) (show (0 : Int) ≤ 7 by omega) (show (7 : Int) < ds.length by omega)
  refine ex_seqE (fun kd : Int => [some (.v (IL ns)), some (.v (.int a)), some (.v (.int m)), some (.v (.int (cl ns a))), some (oL (ds.map .int)), some (.v (.int kd)), none, none, none, none, none, none, none, none, none, none, none]) (fun _ => True) ⟨_, trivial, by simp (config := { implicitDefEqProofs := false }) [Hv.s1, Hv.s2, Hv.s3, Hv.s4, Hv.s5, Hv.s6, Hv.s7, Hv.s8, Hv.s9, Hv.s10, Hv.s11, Hv.s12, Hv.s13, Hv.s14, Hv.s15, Hv.s16, Hv.s17, Hv.s18, Hv.s19, Hv.s20, Hv.s21, Hv.s22, Hv.s23, Hv.s24, Hv.s25, Hv.s26, Hv.s27, Hv.s28, Hv.s29, Hv.s30, Hv.s31, Hv.s32, Hv.s33, Hv.s34, Hv.s35, Hv.s36, Hv.s37, Hv.s38, Hv.v1, Hv.v2, Hv.v3, Hv.v4, Hv.v6, Hv.v7, Hv.v8, Hv.v9, Hv.v10, Hv.v11, Hv.e1, Hv.e2, Hv.e3, Hv.e4, Hv.e5, Hv.e6, Hv.e7, Hv.e8, Hv.e9, Hv.e10, Hv.e11, Hv.e12, Hv.e13, Hv.e14, Hv.e16, Hv.e17, Hv.e18, Hv.e19, Hv.e20, Hv.e21, Hv.e22, Hv.e23, Hv.e24, Hv.e25, Hv.e26, Hv.x1, Hv.x2, Hv.x6, Hv.x7, Hv.x8, Hv.x9, Hv.x12, Hv.x13, Hv.x14, Hv.x15, Hv.x16, Hv.x17, Hv.x21, Hv.x22, Hv.x23, Hv.x24, Hv.x25, Hv.x26, Hv.x27, Hv.x28, Hv.x29, Hv.x30, Hv.y0, Hv.y1, Hv.y2, Hv.y3, Hv.y4, Hv.y5, Hv.x31, Hv.x32, Hv.x33, Hv.x34, Hv.x35, Hv.x36, Hv.x39, Hv.a1, Hv.a2, Hv.k1, Hv.k4, Hv.k6, Hv.k7, Hv.k8, Hv.k9, Hv.k10, Hv.t0, Hv.t1, Hv.t2, Hv.t3, Hv.t4, Hv.t5, Hv.t6, Hv.t7, Hv.t8, Hv.t9, Hv.t10, Hv.t11, Hv.t12, Hv.t13, Hv.t14, Hv.t14', Hv.t15, Hv.t16, Hv.t17, Hv.t18, Hv.t19, Hv.t20, Hv.t21, Hv.t22, Hv.t23, Hv.t24, Hv.t25, Hv.t26, Hv.t28, Hv.r2, Hv.r3, Hv.r4, Hv.z1, Hv.z2, Hv.z3, Hv.mutDs_int, Hv.intsOf_int, Hv.startE, Hv.isNew, List.set, i0, x5 g6]; rfl⟩ fun kd _ => ?_
  rw [t7, t0]
  have gm : 0 < m := by omega
  refine ex_seqE (fun c : Int => [some (.v (IL ns)), some (.v (.int a)), some (.v (.int m)), some (.v (.int (cl ns a))), some (oL (ds.map .int)), some (.v (.int kd)), some (.v (.int c)), none, none, none, none, none, none, none, none, none, none]) (fun c => 1 ≤ c ∧ c ≤ m) ⟨1 + gi ds 1 % m, by have := mod_rng (gi ds 1) gm; omega, by simp (config := { implicitDefEqProofs := false }) [Hv.s1, Hv.s2, Hv.s3, Hv.s4, Hv.s5, Hv.s6, Hv.s7, Hv.s8, Hv.s9, Hv.s10, Hv.s11, Hv.s12, Hv.s13, Hv.s14, Hv.s15, Hv.s16, Hv.s17, Hv.s18, Hv.s19, Hv.s20, Hv.s21, Hv.s22, Hv.s23, Hv.s24, Hv.s25, Hv.s26, Hv.s27, Hv.s28, Hv.s29, Hv.s30, Hv.s31, Hv.s32, Hv.s33, Hv.s34, Hv.s35, Hv.s36, Hv.s37, Hv.s38, Hv.v1, Hv.v2, Hv.v3, Hv.v4, Hv.v6, Hv.v7, Hv.v8, Hv.v9, Hv.v10, Hv.v11, Hv.e1, Hv.e2, Hv.e3, Hv.e4, Hv.e5, Hv.e6, Hv.e7, Hv.e8, Hv.e9, Hv.e10, Hv.e11, Hv.e12, Hv.e13, Hv.e14, Hv.e16, Hv.e17, Hv.e18, Hv.e19, Hv.e20, Hv.e21, Hv.e22, Hv.e23, Hv.e24, Hv.e25, Hv.e26, Hv.x1, Hv.x2, Hv.x6, Hv.x7, Hv.x8, Hv.x9, Hv.x12, Hv.x13, Hv.x14, Hv.x15, Hv.x16, Hv.x17, Hv.x21, Hv.x22, Hv.x23, Hv.x24, Hv.x25, Hv.x26, Hv.x27, Hv.x28, Hv.x29, Hv.x30, Hv.y0, Hv.y1, Hv.y2, Hv.y3, Hv.y4, Hv.y5, Hv.x31, Hv.x32, Hv.x33, Hv.x34, Hv.x35, Hv.x36, Hv.x39, Hv.a1, Hv.a2, Hv.k1, Hv.k4, Hv.k6, Hv.k7, Hv.k8, Hv.k9, Hv.k10, Hv.t0, Hv.t1, Hv.t2, Hv.t3, Hv.t4, Hv.t5, Hv.t6, Hv.t7, Hv.t8, Hv.t9, Hv.t10, Hv.t11, Hv.t12, Hv.t13, Hv.t14, Hv.t14', Hv.t15, Hv.t16, Hv.t17, Hv.t18, Hv.t19, Hv.t20, Hv.t21, Hv.t22, Hv.t23, Hv.t24, Hv.t25, Hv.t26, Hv.t28, Hv.r2, Hv.r3, Hv.r4, Hv.z1, Hv.z2, Hv.z3, Hv.mutDs_int, Hv.intsOf_int, Hv.startE, Hv.isNew, List.set, i1, x5 gm]⟩ fun c hc => ?_
  rw [t7, t0]
  refine ex_seqE (fun z : List Q4 × (Nat → Option D) => [some (.v (IL ns)), some (.v (.int a)), some (.v (.int m)), some (.v (.int (cl ns a))), some (oL (ds.map .int)), some (.v (.int kd)), some (.v (.int c)), none, none, none, none, some (oL (z.1.map qd)), z.2 12, z.2 13, z.2 14, z.2 15, z.2 16]) (fun z => (1 ≤ z.1.length ∧ z.1.length ≤ 100) ∧ BX z.1) ?_ fun z hz => ?_
  · refine eq_ife (decide (kd < 2)) (by simp (config := { implicitDefEqProofs := false }) [Hv.s1, Hv.s2, Hv.s3, Hv.s4, Hv.s5, Hv.s6, Hv.s7, Hv.s8, Hv.s9, Hv.s10, Hv.s11, Hv.s12, Hv.s13, Hv.s14, Hv.s15, Hv.s16, Hv.s17, Hv.s18, Hv.s19, Hv.s20, Hv.s21, Hv.s22, Hv.s23, Hv.s24, Hv.s25, Hv.s26, Hv.s27, Hv.s28, Hv.s29, Hv.s30, Hv.s31, Hv.s32, Hv.s33, Hv.s34, Hv.s35, Hv.s36, Hv.s37, Hv.s38, Hv.v1, Hv.v2, Hv.v3, Hv.v4, Hv.v6, Hv.v7, Hv.v8, Hv.v9, Hv.v10, Hv.v11, Hv.e1, Hv.e2, Hv.e3, Hv.e4, Hv.e5, Hv.e6, Hv.e7, Hv.e8, Hv.e9, Hv.e10, Hv.e11, Hv.e12, Hv.e13, Hv.e14, Hv.e16, Hv.e17, Hv.e18, Hv.e19, Hv.e20, Hv.e21, Hv.e22, Hv.e23, Hv.e24, Hv.e25, Hv.e26, Hv.x1, Hv.x2, Hv.x6, Hv.x7, Hv.x8, Hv.x9, Hv.x12, Hv.x13, Hv.x14, Hv.x15, Hv.x16, Hv.x17, Hv.x21, Hv.x22, Hv.x23, Hv.x24, Hv.x25, Hv.x26, Hv.x27, Hv.x28, Hv.x29, Hv.x30, Hv.y0, Hv.y1, Hv.y2, Hv.y3, Hv.y4, Hv.y5, Hv.x31, Hv.x32, Hv.x33, Hv.x34, Hv.x35, Hv.x36, Hv.x39, Hv.a1, Hv.a2, Hv.k1, Hv.k4, Hv.k6, Hv.k7, Hv.k8, Hv.k9, Hv.k10, Hv.t0, Hv.t1, Hv.t2, Hv.t3, Hv.t4, Hv.t5, Hv.t6, Hv.t7, Hv.t8, Hv.t9, Hv.t10, Hv.t11, Hv.t12, Hv.t13, Hv.t14, Hv.t14', Hv.t15, Hv.t16, Hv.t17, Hv.t18, Hv.t19, Hv.t20, Hv.t21, Hv.t22, Hv.t23, Hv.t24, Hv.t25, Hv.t26, Hv.t28, Hv.r2, Hv.r3, Hv.r4, Hv.z1, Hv.z2, Hv.z3, Hv.mutDs_int, Hv.intsOf_int, Hv.startE, Hv.isNew, List.set]) (fun hv => ?_) fun hv => ?_
    · rw [t0]
      obtain ⟨sz, z1, z2⟩ := three (mod_rng (gi ds 2) g3).1 (mod_rng (gi ds 2) g3).2
      obtain ⟨es, hes⟩ : ∃ es, es = ds.drop 8 := ⟨_, rfl⟩
      have hcut : cutP (ds.map PyData.int) (some 8) none = es.map .int := by
        rw [show (8 : Int) = ((8 : Nat) : Int) from rfl, cut_from, hes, List.map_drop]
      have hel : (es.length : Int) = 4 * m := by rw [hes, List.length_drop]; omega
      obtain ⟨qs, ⟨q1, qB⟩, q2⟩ := freeI (k + 1) es c sz (by omega) (by omega) (by omega) z1
      refine eq_seq [some (.v (IL ns)), some (.v (.int a)), some (.v (.int m)), some (.v (.int (cl ns a))), some (oL (ds.map .int)), some (.v (.int kd)), some (.v (.int c)), none, none, none, none, some (oL (qs.map qd)), none, none, none, none, none] (by
        simp (config := { implicitDefEqProofs := false }) [Hv.s1, Hv.s2, Hv.s3, Hv.s4, Hv.s5, Hv.s6, Hv.s7, Hv.s8, Hv.s9, Hv.s10, Hv.s11, Hv.s12, Hv.s13, Hv.s14, Hv.s15, Hv.s16, Hv.s17, Hv.s18, Hv.s19, Hv.s20, Hv.s21, Hv.s22, Hv.s23, Hv.s24, Hv.s25, Hv.s26, Hv.s27, Hv.s28, Hv.s29, Hv.s30, Hv.s31, Hv.s32, Hv.s33, Hv.s34, Hv.s35, Hv.s36, Hv.s37, Hv.s38, Hv.v1, Hv.v2, Hv.v3, Hv.v4, Hv.v6, Hv.v7, Hv.v8, Hv.v9, Hv.v10, Hv.v11, Hv.e1, Hv.e2, Hv.e3, Hv.e4, Hv.e5, Hv.e6, Hv.e7, Hv.e8, Hv.e9, Hv.e10, Hv.e11, Hv.e12, Hv.e13, Hv.e14, Hv.e16, Hv.e17, Hv.e18, Hv.e19, Hv.e20, Hv.e21, Hv.e22, Hv.e23, Hv.e24, Hv.e25, Hv.e26, Hv.x1, Hv.x2, Hv.x6, Hv.x7, Hv.x8, Hv.x9, Hv.x12, Hv.x13, Hv.x14, Hv.x15, Hv.x16, Hv.x17, Hv.x21, Hv.x22, Hv.x23, Hv.x24, Hv.x25, Hv.x26, Hv.x27, Hv.x28, Hv.x29, Hv.x30, Hv.y0, Hv.y1, Hv.y2, Hv.y3, Hv.y4, Hv.y5, Hv.x31, Hv.x32, Hv.x33, Hv.x34, Hv.x35, Hv.x36, Hv.x39, Hv.a1, Hv.a2, Hv.k1, Hv.k4, Hv.k6, Hv.k7, Hv.k8, Hv.k9, Hv.k10, Hv.t0, Hv.t1, Hv.t2, Hv.t3, Hv.t4, Hv.t5, Hv.t6, Hv.t7, Hv.t8, Hv.t9, Hv.t10, Hv.t11, Hv.t12, Hv.t13, Hv.t14, Hv.t14', Hv.t15, Hv.t16, Hv.t17, Hv.t18, Hv.t19, Hv.t20, Hv.t21, Hv.t22, Hv.t23, Hv.t24, Hv.t25, Hv.t26, Hv.t28, Hv.r2, Hv.r3, Hv.r4, Hv.z1, Hv.z2, Hv.z3, Hv.mutDs_int, Hv.intsOf_int, Hv.startE, Hv.isNew, List.set, mutDs_int, sl_ln (show mutDs (cutP (ds.map PyData.int) (some 8) none) = false by rw [hcut]; exact mutDs_int _), hcut, ei_lst, zl3, i2, x5 g3, ixq_v (mod_rng (gi ds 2) g3).1 z2, q2, k3_q]) ?_
      exact eq_nil (qs, fun _ => none) ⟨⟨show 1 ≤ qs.length by omega, show qs.length ≤ 100 by omega⟩, qB⟩ rfl
    · rw [t0]
      obtain ⟨qs, ⟨q1, qB⟩, q2⟩ := dividedI k (cl ns a) c (by omega) (by omega)
      refine eq_seq [some (.v (IL ns)), some (.v (.int a)), some (.v (.int m)), some (.v (.int (cl ns a))), some (oL (ds.map .int)), some (.v (.int kd)), some (.v (.int c)), none, none, none, none, some (oL (qs.map qd)), none, none, none, none, none] (by simp (config := { implicitDefEqProofs := false }) [Hv.s1, Hv.s2, Hv.s3, Hv.s4, Hv.s5, Hv.s6, Hv.s7, Hv.s8, Hv.s9, Hv.s10, Hv.s11, Hv.s12, Hv.s13, Hv.s14, Hv.s15, Hv.s16, Hv.s17, Hv.s18, Hv.s19, Hv.s20, Hv.s21, Hv.s22, Hv.s23, Hv.s24, Hv.s25, Hv.s26, Hv.s27, Hv.s28, Hv.s29, Hv.s30, Hv.s31, Hv.s32, Hv.s33, Hv.s34, Hv.s35, Hv.s36, Hv.s37, Hv.s38, Hv.v1, Hv.v2, Hv.v3, Hv.v4, Hv.v6, Hv.v7, Hv.v8, Hv.v9, Hv.v10, Hv.v11, Hv.e1, Hv.e2, Hv.e3, Hv.e4, Hv.e5, Hv.e6, Hv.e7, Hv.e8, Hv.e9, Hv.e10, Hv.e11, Hv.e12, Hv.e13, Hv.e14, Hv.e16, Hv.e17, Hv.e18, Hv.e19, Hv.e20, Hv.e21, Hv.e22, Hv.e23, Hv.e24, Hv.e25, Hv.e26, Hv.x1, Hv.x2, Hv.x6, Hv.x7, Hv.x8, Hv.x9, Hv.x12, Hv.x13, Hv.x14, Hv.x15, Hv.x16, Hv.x17, Hv.x21, Hv.x22, Hv.x23, Hv.x24, Hv.x25, Hv.x26, Hv.x27, Hv.x28, Hv.x29, Hv.x30, Hv.y0, Hv.y1, Hv.y2, Hv.y3, Hv.y4, Hv.y5, Hv.x31, Hv.x32, Hv.x33, Hv.x34, Hv.x35, Hv.x36, Hv.x39, Hv.a1, Hv.a2, Hv.k1, Hv.k4, Hv.k6, Hv.k7, Hv.k8, Hv.k9, Hv.k10, Hv.t0, Hv.t1, Hv.t2, Hv.t3, Hv.t4, Hv.t5, Hv.t6, Hv.t7, Hv.t8, Hv.t9, Hv.t10, Hv.t11, Hv.t12, Hv.t13, Hv.t14, Hv.t14', Hv.t15, Hv.t16, Hv.t17, Hv.t18, Hv.t19, Hv.t20, Hv.t21, Hv.t22, Hv.t23, Hv.t24, Hv.t25, Hv.t26, Hv.t28, Hv.r2, Hv.r3, Hv.r4, Hv.z1, Hv.z2, Hv.z3, Hv.mutDs_int, Hv.intsOf_int, Hv.startE, Hv.isNew, List.set, q2, k3_q]) ?_
      rw [t7, t0]
      refine eq_seqI (fun z : List Q4 × (Nat → Option D) => [some (.v (IL ns)), some (.v (.int a)), some (.v (.int m)), some (.v (.int (cl ns a))), some (oL (ds.map .int)), some (.v (.int kd)), some (.v (.int c)), none, none, none, none, some (oL (z.1.map qd)), z.2 12, z.2 13, z.2 14, z.2 15, z.2 16]) (fun z => (1 ≤ z.1.length ∧ z.1.length ≤ 100) ∧ BX z.1) ?_ fun z hz => eq_nil z hz rfl
      refine eq_ife (decide (kd = 3) && decide (4 < (qs.length : Int))) (by
        by_cases h1 : kd = 3 <;> by_cases h2 : 4 < qs.length <;> simp (config := { implicitDefEqProofs := false }) [Hv.s1, Hv.s2, Hv.s3, Hv.s4, Hv.s5, Hv.s6, Hv.s7, Hv.s8, Hv.s9, Hv.s10, Hv.s11, Hv.s12, Hv.s13, Hv.s14, Hv.s15, Hv.s16, Hv.s17, Hv.s18, Hv.s19, Hv.s20, Hv.s21, Hv.s22, Hv.s23, Hv.s24, Hv.s25, Hv.s26, Hv.s27, Hv.s28, Hv.s29, Hv.s30, Hv.s31, Hv.s32, Hv.s33, Hv.s34, Hv.s35, Hv.s36, Hv.s37, Hv.s38, Hv.v1, Hv.v2, Hv.v3, Hv.v4, Hv.v6, Hv.v7, Hv.v8, Hv.v9, Hv.v10, Hv.v11, Hv.e1, Hv.e2, Hv.e3, Hv.e4, Hv.e5, Hv.e6, Hv.e7, Hv.e8, Hv.e9, Hv.e10, Hv.e11, Hv.e12, Hv.e13, Hv.e14, Hv.e16, Hv.e17, Hv.e18, Hv.e19, Hv.e20, Hv.e21, Hv.e22, Hv.e23, Hv.e24, Hv.e25, Hv.e26, Hv.x1, Hv.x2, Hv.x6, Hv.x7, Hv.x8, Hv.x9, Hv.x12, Hv.x13, Hv.x14, Hv.x15, Hv.x16, Hv.x17, Hv.x21, Hv.x22, Hv.x23, Hv.x24, Hv.x25, Hv.x26, Hv.x27, Hv.x28, Hv.x29, Hv.x30, Hv.y0, Hv.y1, Hv.y2, Hv.y3, Hv.y4, Hv.y5, Hv.x31, Hv.x32, Hv.x33, Hv.x34, Hv.x35, Hv.x36, Hv.x39, Hv.a1, Hv.a2, Hv.k1, Hv.k4, Hv.k6, Hv.k7, Hv.k8, Hv.k9, Hv.k10, Hv.t0, Hv.t1, Hv.t2, Hv.t3, Hv.t4, Hv.t5, Hv.t6, Hv.t7, Hv.t8, Hv.t9, Hv.t10, Hv.t11, Hv.t12, Hv.t13, Hv.t14, Hv.t14', Hv.t15, Hv.t16, Hv.t17, Hv.t18, Hv.t19, Hv.t20, Hv.t21, Hv.t22, Hv.t23, Hv.t24, Hv.t25, Hv.t26, Hv.t28, Hv.r2, Hv.r3, Hv.r4, Hv.z1, Hv.z2, Hv.z3, Hv.mutDs_int, Hv.intsOf_int, Hv.startE, Hv.isNew, List.set, mut_qds, cmp_eqi, h1, h2]) (fun hv => ?_) fun hv => ?_
      · simp only [Bool.and_eq_true, decide_eq_true_eq] at hv
        obtain ⟨es, hes⟩ : ∃ es, es = (ds.drop 3).take 4 := ⟨_, rfl⟩
        have hcut : cutP (ds.map PyData.int) (some 3) (some 7) = es.map .int := by
          rw [show (3 : Int) = ((3 : Nat) : Int) from rfl, show (7 : Int) = ((7 : Nat) : Int) from rfl, cut_ft (by simp; omega), hes, List.map_take, List.map_drop]
        have hel : es.length = 4 := by rw [hes, List.length_take, List.length_drop]; omega
        obtain ⟨ws, ⟨h5, wB⟩, h6⟩ := wheelI (k + 1) es hel
        rw [t0]
        refine eq_seq [some (.v (IL ns)), some (.v (.int a)), some (.v (.int m)), some (.v (.int (cl ns a))), some (oL (ds.map .int)), some (.v (.int kd)), some (.v (.int c)), none, none, none, none, some (oL (qs.map qd)), some (oL (ws.map qd)), none, none, none, none] (by
          simp (config := { implicitDefEqProofs := false }) [Hv.s1, Hv.s2, Hv.s3, Hv.s4, Hv.s5, Hv.s6, Hv.s7, Hv.s8, Hv.s9, Hv.s10, Hv.s11, Hv.s12, Hv.s13, Hv.s14, Hv.s15, Hv.s16, Hv.s17, Hv.s18, Hv.s19, Hv.s20, Hv.s21, Hv.s22, Hv.s23, Hv.s24, Hv.s25, Hv.s26, Hv.s27, Hv.s28, Hv.s29, Hv.s30, Hv.s31, Hv.s32, Hv.s33, Hv.s34, Hv.s35, Hv.s36, Hv.s37, Hv.s38, Hv.v1, Hv.v2, Hv.v3, Hv.v4, Hv.v6, Hv.v7, Hv.v8, Hv.v9, Hv.v10, Hv.v11, Hv.e1, Hv.e2, Hv.e3, Hv.e4, Hv.e5, Hv.e6, Hv.e7, Hv.e8, Hv.e9, Hv.e10, Hv.e11, Hv.e12, Hv.e13, Hv.e14, Hv.e16, Hv.e17, Hv.e18, Hv.e19, Hv.e20, Hv.e21, Hv.e22, Hv.e23, Hv.e24, Hv.e25, Hv.e26, Hv.x1, Hv.x2, Hv.x6, Hv.x7, Hv.x8, Hv.x9, Hv.x12, Hv.x13, Hv.x14, Hv.x15, Hv.x16, Hv.x17, Hv.x21, Hv.x22, Hv.x23, Hv.x24, Hv.x25, Hv.x26, Hv.x27, Hv.x28, Hv.x29, Hv.x30, Hv.y0, Hv.y1, Hv.y2, Hv.y3, Hv.y4, Hv.y5, Hv.x31, Hv.x32, Hv.x33, Hv.x34, Hv.x35, Hv.x36, Hv.x39, Hv.a1, Hv.a2, Hv.k1, Hv.k4, Hv.k6, Hv.k7, Hv.k8, Hv.k9, Hv.k10, Hv.t0, Hv.t1, Hv.t2, Hv.t3, Hv.t4, Hv.t5, Hv.t6, Hv.t7, Hv.t8, Hv.t9, Hv.t10, Hv.t11, Hv.t12, Hv.t13, Hv.t14, Hv.t14', Hv.t15, Hv.t16, Hv.t17, Hv.t18, Hv.t19, Hv.t20, Hv.t21, Hv.t22, Hv.t23, Hv.t24, Hv.t25, Hv.t26, Hv.t28, Hv.r2, Hv.r3, Hv.r4, Hv.z1, Hv.z2, Hv.z3, Hv.mutDs_int, Hv.intsOf_int, Hv.startE, Hv.isNew, List.set, mutDs_int, sl_ln (show mutDs (cutP (ds.map PyData.int) (some 3) (some 7)) = false by rw [hcut]; exact mutDs_int _), hcut, h6, k3_q]) ?_
        rw [t7, t0]
        obtain ⟨j, hj⟩ := Int.eq_ofNat_of_zero_le (show 0 ≤ (qs.length : Int) - (ws.length : Int) by omega)
        have hct : cutP (qs.map qd) (some 0) (some (j : Int)) = (qs.take j).map qd := by rw [cut_to, List.map_take]
        have h3 : ∀ w, lcT (C (k + 2)) T.G [13, 14, 15, 16] (Tg.tup [13, 14, 15, 16]) [] (E.tup [E.bin BOp.add (E.var 13) (E.int 500), E.bin BOp.add (E.var 14) (E.int 9), E.bin BOp.add (E.var 15) (E.int 500), E.bin BOp.add (E.var 16) (E.int 9)]) [some (.v (IL ns)), some (.v (.int a)), some (.v (.int m)), some (.v (.int (cl ns a))), some (oL (ds.map .int)), some (.v (.int kd)), some (.v (.int c)), none, none, none, none, some (oL (qs.map qd)), some (oL (ws.map qd)), none, none, none, none] (ws.map qd) w = .ok (((ws.map fun q => ((q.1 + 500, q.2.1 + 9, q.2.2.1 + 500, q.2.2.2 + 9) : Q4)).map qd).map .v) [] := fun w => by
          refine lc4q _ fun q hq => ?_
          simp (config := { implicitDefEqProofs := false }) [Hv.s1, Hv.s2, Hv.s3, Hv.s4, Hv.s5, Hv.s6, Hv.s7, Hv.s8, Hv.s9, Hv.s10, Hv.s11, Hv.s12, Hv.s13, Hv.s14, Hv.s15, Hv.s16, Hv.s17, Hv.s18, Hv.s19, Hv.s20, Hv.s21, Hv.s22, Hv.s23, Hv.s24, Hv.s25, Hv.s26, Hv.s27, Hv.s28, Hv.s29, Hv.s30, Hv.s31, Hv.s32, Hv.s33, Hv.s34, Hv.s35, Hv.s36, Hv.s37, Hv.s38, Hv.v1, Hv.v2, Hv.v3, Hv.v4, Hv.v6, Hv.v7, Hv.v8, Hv.v9, Hv.v10, Hv.v11, Hv.e1, Hv.e2, Hv.e3, Hv.e4, Hv.e5, Hv.e6, Hv.e7, Hv.e8, Hv.e9, Hv.e10, Hv.e11, Hv.e12, Hv.e13, Hv.e14, Hv.e16, Hv.e17, Hv.e18, Hv.e19, Hv.e20, Hv.e21, Hv.e22, Hv.e23, Hv.e24, Hv.e25, Hv.e26, Hv.x1, Hv.x2, Hv.x6, Hv.x7, Hv.x8, Hv.x9, Hv.x12, Hv.x13, Hv.x14, Hv.x15, Hv.x16, Hv.x17, Hv.x21, Hv.x22, Hv.x23, Hv.x24, Hv.x25, Hv.x26, Hv.x27, Hv.x28, Hv.x29, Hv.x30, Hv.y0, Hv.y1, Hv.y2, Hv.y3, Hv.y4, Hv.y5, Hv.x31, Hv.x32, Hv.x33, Hv.x34, Hv.x35, Hv.x36, Hv.x39, Hv.a1, Hv.a2, Hv.k1, Hv.k4, Hv.k6, Hv.k7, Hv.k8, Hv.k9, Hv.k10, Hv.t0, Hv.t1, Hv.t2, Hv.t3, Hv.t4, Hv.t5, Hv.t6, Hv.t7, Hv.t8, Hv.t9, Hv.t10, Hv.t11, Hv.t12, Hv.t13, Hv.t14, Hv.t14', Hv.t15, Hv.t16, Hv.t17, Hv.t18, Hv.t19, Hv.t20, Hv.t21, Hv.t22, Hv.t23, Hv.t24, Hv.t25, Hv.t26, Hv.t28, Hv.r2, Hv.r3, Hv.r4, Hv.z1, Hv.z2, Hv.z3, Hv.mutDs_int, Hv.intsOf_int, Hv.startE, Hv.isNew, List.set, we0, we1, tupD, isFz, md1, md5, mkT, isNews, isNew, qd]
        have hwl : (ws.map fun q => ((q.1 + 500, q.2.1 + 9, q.2.2.1 + 500, q.2.2.2 + 9) : Q4)).length = ws.length := by simp
        have vB : BX (ws.map fun q => ((q.1 + 500, q.2.1 + 9, q.2.2.1 + 500, q.2.2.2 + 9) : Q4)) := wB.map fun q h => by unfold bx at h ⊢; simp only; omega
        generalize (ws.map fun q => ((q.1 + 500, q.2.1 + 9, q.2.2.1 + 500, q.2.2.2 + 9) : Q4)) = vs at h3 hwl vB
        obtain ⟨ts, hts⟩ : ∃ ts, ts = qs.take j := ⟨_, rfl⟩
        rw [← hts] at hct
        have tB : BX ts := by rw [hts]; exact qB.take
        have htl : ts.length ≤ j := by rw [hts]; simp; omega
        have hcat : ∀ (b : Bool) (al : Al), binP .add b al (.list (ts.map qd)) (.list (vs.map qd)) = .ok (oL ((ts ++ vs).map qd)) [] := fun b al => by
          rw [cat_lst (by rw [mutDs_app, mut_qds, mut_qds]; rfl) (by simp; omega), List.map_append]
        refine eq_seq [some (.v (IL ns)), some (.v (.int a)), some (.v (.int m)), some (.v (.int (cl ns a))), some (oL (ds.map .int)), some (.v (.int kd)), some (.v (.int c)), none, none, none, none, some (oL ((ts ++ vs).map qd)), some (oL (ws.map qd)), none, none, none, none] (by
          generalize hU : ts ++ vs = U at hcat
          simp (config := { implicitDefEqProofs := false }) [Hv.s1, Hv.s2, Hv.s3, Hv.s4, Hv.s5, Hv.s6, Hv.s7, Hv.s8, Hv.s9, Hv.s10, Hv.s11, Hv.s12, Hv.s13, Hv.s14, Hv.s15, Hv.s16, Hv.s17, Hv.s18, Hv.s19, Hv.s20, Hv.s21, Hv.s22, Hv.s23, Hv.s24, Hv.s25, Hv.s26, Hv.s27, Hv.s28, Hv.s29, Hv.s30, Hv.s31, Hv.s32, Hv.s33, Hv.s34, Hv.s35, Hv.s36, Hv.s37, Hv.s38, Hv.v1, Hv.v2, Hv.v3, Hv.v4, Hv.v6, Hv.v7, Hv.v8, Hv.v9, Hv.v10, Hv.v11, Hv.e1, Hv.e2, Hv.e3, Hv.e4, Hv.e5, Hv.e6, Hv.e7, Hv.e8, Hv.e9, Hv.e10, Hv.e11, Hv.e12, Hv.e13, Hv.e14, Hv.e16, Hv.e17, Hv.e18, Hv.e19, Hv.e20, Hv.e21, Hv.e22, Hv.e23, Hv.e24, Hv.e25, Hv.e26, Hv.x1, Hv.x2, Hv.x6, Hv.x7, Hv.x8, Hv.x9, Hv.x12, Hv.x13, Hv.x14, Hv.x15, Hv.x16, Hv.x17, Hv.x21, Hv.x22, Hv.x23, Hv.x24, Hv.x25, Hv.x26, Hv.x27, Hv.x28, Hv.x29, Hv.x30, Hv.y0, Hv.y1, Hv.y2, Hv.y3, Hv.y4, Hv.y5, Hv.x31, Hv.x32, Hv.x33, Hv.x34, Hv.x35, Hv.x36, Hv.x39, Hv.a1, Hv.a2, Hv.k1, Hv.k4, Hv.k6, Hv.k7, Hv.k8, Hv.k9, Hv.k10, Hv.t0, Hv.t1, Hv.t2, Hv.t3, Hv.t4, Hv.t5, Hv.t6, Hv.t7, Hv.t8, Hv.t9, Hv.t10, Hv.t11, Hv.t12, Hv.t13, Hv.t14, Hv.t14', Hv.t15, Hv.t16, Hv.t17, Hv.t18, Hv.t19, Hv.t20, Hv.t21, Hv.t22, Hv.t23, Hv.t24, Hv.t25, Hv.t26, Hv.t28, Hv.r2, Hv.r3, Hv.r4, Hv.z1, Hv.z2, Hv.z3, Hv.mutDs_int, Hv.intsOf_int, Hv.startE, Hv.isNew, List.set, mut_qds, hj, sl_ln (show mutDs (cutP (qs.map qd) (some 0) (some (j : Int))) = false by rw [hct]; exact mut_qds _), hct, l2n (mut_qds ws), h3, l3c (mut_qds vs), hcat]) ?_
        exact eq_nil (ts ++ vs, fun n => match n with | 12 => some (oL (ws.map qd)) | _ => none) ⟨⟨show 1 ≤ (ts ++ vs).length by simp; omega, show (ts ++ vs).length ≤ 100 by simp; omega⟩, tB.append vB⟩ rfl
      · rw [t0]
        refine eq_seqI (fun z : List Q4 × (Nat → Option D) => [some (.v (IL ns)), some (.v (.int a)), some (.v (.int m)), some (.v (.int (cl ns a))), some (oL (ds.map .int)), some (.v (.int kd)), some (.v (.int c)), none, none, none, none, some (oL (z.1.map qd)), z.2 12, z.2 13, z.2 14, z.2 15, z.2 16]) (fun z => (1 ≤ z.1.length ∧ z.1.length ≤ 100) ∧ BX z.1) ?_ fun z hz => eq_nil z hz rfl
        have gl : 0 < (qs.length : Int) := by omega
        have g20 : (0 : Int) < 20 := by decide
        have g9 : (0 : Int) < 9 := by decide
        refine eq_ife (decide (kd = 4)) (by by_cases h1 : kd = 4 <;> simp (config := { implicitDefEqProofs := false }) [Hv.s1, Hv.s2, Hv.s3, Hv.s4, Hv.s5, Hv.s6, Hv.s7, Hv.s8, Hv.s9, Hv.s10, Hv.s11, Hv.s12, Hv.s13, Hv.s14, Hv.s15, Hv.s16, Hv.s17, Hv.s18, Hv.s19, Hv.s20, Hv.s21, Hv.s22, Hv.s23, Hv.s24, Hv.s25, Hv.s26, Hv.s27, Hv.s28, Hv.s29, Hv.s30, Hv.s31, Hv.s32, Hv.s33, Hv.s34, Hv.s35, Hv.s36, Hv.s37, Hv.s38, Hv.v1, Hv.v2, Hv.v3, Hv.v4, Hv.v6, Hv.v7, Hv.v8, Hv.v9, Hv.v10, Hv.v11, Hv.e1, Hv.e2, Hv.e3, Hv.e4, Hv.e5, Hv.e6, Hv.e7, Hv.e8, Hv.e9, Hv.e10, Hv.e11, Hv.e12, Hv.e13, Hv.e14, Hv.e16, Hv.e17, Hv.e18, Hv.e19, Hv.e20, Hv.e21, Hv.e22, Hv.e23, Hv.e24, Hv.e25, Hv.e26, Hv.x1, Hv.x2, Hv.x6, Hv.x7, Hv.x8, Hv.x9, Hv.x12, Hv.x13, Hv.x14, Hv.x15, Hv.x16, Hv.x17, Hv.x21, Hv.x22, Hv.x23, Hv.x24, Hv.x25, Hv.x26, Hv.x27, Hv.x28, Hv.x29, Hv.x30, Hv.y0, Hv.y1, Hv.y2, Hv.y3, Hv.y4, Hv.y5, Hv.x31, Hv.x32, Hv.x33, Hv.x34, Hv.x35, Hv.x36, Hv.x39, Hv.a1, Hv.a2, Hv.k1, Hv.k4, Hv.k6, Hv.k7, Hv.k8, Hv.k9, Hv.k10, Hv.t0, Hv.t1, Hv.t2, Hv.t3, Hv.t4, Hv.t5, Hv.t6, Hv.t7, Hv.t8, Hv.t9, Hv.t10, Hv.t11, Hv.t12, Hv.t13, Hv.t14, Hv.t14', Hv.t15, Hv.t16, Hv.t17, Hv.t18, Hv.t19, Hv.t20, Hv.t21, Hv.t22, Hv.t23, Hv.t24, Hv.t25, Hv.t26, Hv.t28, Hv.r2, Hv.r3, Hv.r4, Hv.z1, Hv.z2, Hv.z3, Hv.mutDs_int, Hv.intsOf_int, Hv.startE, Hv.isNew, List.set, cmp_eqi, h1]) (fun hv => ?_) fun hv => eq_nil (qs, fun _ => none) ⟨⟨q1.1, show qs.length ≤ 100 by omega⟩, qB⟩ rfl
        obtain ⟨r0, r1⟩ := mod_rng (gi ds 3) gl
        obtain ⟨q, hq, hqB⟩ : ∃ q, (qs.map qd)[(gi ds 3 % (qs.length : Int)).toNat]? = some (qd q) ∧ bx q := by
          obtain ⟨x, h, hm⟩ := get_in (xs := qs) r0 r1
          exact ⟨x, by simp [h], qB x hm⟩
        unfold bx at hqB
        rw [t0]
        refine eq_seq [some (.v (IL ns)), some (.v (.int a)), some (.v (.int m)), some (.v (.int (cl ns a))), some (oL (ds.map .int)), some (.v (.int kd)), some (.v (.int c)), none, none, none, none, some (oL (qs.map qd)), none, some (.v (.int q.1)), some (.v (.int q.2.1)), some (.v (.int q.2.2.1)), some (.v (.int q.2.2.2))] (by
          simp (config := { implicitDefEqProofs := false }) [Hv.s1, Hv.s2, Hv.s3, Hv.s4, Hv.s5, Hv.s6, Hv.s7, Hv.s8, Hv.s9, Hv.s10, Hv.s11, Hv.s12, Hv.s13, Hv.s14, Hv.s15, Hv.s16, Hv.s17, Hv.s18, Hv.s19, Hv.s20, Hv.s21, Hv.s22, Hv.s23, Hv.s24, Hv.s25, Hv.s26, Hv.s27, Hv.s28, Hv.s29, Hv.s30, Hv.s31, Hv.s32, Hv.s33, Hv.s34, Hv.s35, Hv.s36, Hv.s37, Hv.s38, Hv.v1, Hv.v2, Hv.v3, Hv.v4, Hv.v6, Hv.v7, Hv.v8, Hv.v9, Hv.v10, Hv.v11, Hv.e1, Hv.e2, Hv.e3, Hv.e4, Hv.e5, Hv.e6, Hv.e7, Hv.e8, Hv.e9, Hv.e10, Hv.e11, Hv.e12, Hv.e13, Hv.e14, Hv.e16, Hv.e17, Hv.e18, Hv.e19, Hv.e20, Hv.e21, Hv.e22, Hv.e23, Hv.e24, Hv.e25, Hv.e26, Hv.x1, Hv.x2, Hv.x6, Hv.x7, Hv.x8, Hv.x9, Hv.x12, Hv.x13, Hv.x14, Hv.x15, Hv.x16, Hv.x17, Hv.x21, Hv.x22, Hv.x23, Hv.x24, Hv.x25, Hv.x26, Hv.x27, Hv.x28, Hv.x29, Hv.x30, Hv.y0, Hv.y1, Hv.y2, Hv.y3, Hv.y4, Hv.y5, Hv.x31, Hv.x32, Hv.x33, Hv.x34, Hv.x35, Hv.x36, Hv.x39, Hv.a1, Hv.a2, Hv.k1, Hv.k4, Hv.k6, Hv.k7, Hv.k8, Hv.k9, Hv.k10, Hv.t0, Hv.t1, Hv.t2, Hv.t3, Hv.t4, Hv.t5, Hv.t6, Hv.t7, Hv.t8, Hv.t9, Hv.t10, Hv.t11, Hv.t12, Hv.t13, Hv.t14, Hv.t14', Hv.t15, Hv.t16, Hv.t17, Hv.t18, Hv.t19, Hv.t20, Hv.t21, Hv.t22, Hv.t23, Hv.t24, Hv.t25, Hv.t26, Hv.t28, Hv.r2, Hv.r3, Hv.r4, Hv.z1, Hv.z2, Hv.z3, Hv.mutDs_int, Hv.intsOf_int, Hv.startE, Hv.isNew, List.set, i3, mut_qds, x5 gl, ixq_o r0 hq, t_asgT, asg_qd]) ?_
        rw [t7, t0]
        have r2 : gi ds 3 % (qs.length : Int) < ((qs.map qd).length : Int) := by simpa using r1
        refine eq_seqI (fun t : Q4 => [some (.v (IL ns)), some (.v (.int a)), some (.v (.int m)), some (.v (.int (cl ns a))), some (oL (ds.map .int)), some (.v (.int kd)), some (.v (.int c)), none, none, none, none, some (oL ((qs.set (gi ds 3 % (qs.length : Int)).toNat t).map qd)), none, some (.v (.int q.1)), some (.v (.int q.2.1)), some (.v (.int q.2.2.1)), some (.v (.int q.2.2.2))]) bx ⟨(q.1 - gi ds 4 % 20, q.2.1 - gi ds 5 % 20, q.2.2.1 + gi ds 6 % 20, q.2.2.2 + gi ds 7 % 9), by
          have v4 := mod_rng (gi ds 4) g20
          have v5 := mod_rng (gi ds 5) g20
          have v6 := mod_rng (gi ds 6) g20
          have v7 := mod_rng (gi ds 7) g9
          unfold bx; simp only; omega, by
          rw [List.map_set]
          simp (config := { implicitDefEqProofs := false }) [Hv.s1, Hv.s2, Hv.s3, Hv.s4, Hv.s5, Hv.s6, Hv.s7, Hv.s8, Hv.s9, Hv.s10, Hv.s11, Hv.s12, Hv.s13, Hv.s14, Hv.s15, Hv.s16, Hv.s17, Hv.s18, Hv.s19, Hv.s20, Hv.s21, Hv.s22, Hv.s23, Hv.s24, Hv.s25, Hv.s26, Hv.s27, Hv.s28, Hv.s29, Hv.s30, Hv.s31, Hv.s32, Hv.s33, Hv.s34, Hv.s35, Hv.s36, Hv.s37, Hv.s38, Hv.v1, Hv.v2, Hv.v3, Hv.v4, Hv.v6, Hv.v7, Hv.v8, Hv.v9, Hv.v10, Hv.v11, Hv.e1, Hv.e2, Hv.e3, Hv.e4, Hv.e5, Hv.e6, Hv.e7, Hv.e8, Hv.e9, Hv.e10, Hv.e11, Hv.e12, Hv.e13, Hv.e14, Hv.e16, Hv.e17, Hv.e18, Hv.e19, Hv.e20, Hv.e21, Hv.e22, Hv.e23, Hv.e24, Hv.e25, Hv.e26, Hv.x1, Hv.x2, Hv.x6, Hv.x7, Hv.x8, Hv.x9, Hv.x12, Hv.x13, Hv.x14, Hv.x15, Hv.x16, Hv.x17, Hv.x21, Hv.x22, Hv.x23, Hv.x24, Hv.x25, Hv.x26, Hv.x27, Hv.x28, Hv.x29, Hv.x30, Hv.y0, Hv.y1, Hv.y2, Hv.y3, Hv.y4, Hv.y5, Hv.x31, Hv.x32, Hv.x33, Hv.x34, Hv.x35, Hv.x36, Hv.x39, Hv.a1, Hv.a2, Hv.k1, Hv.k4, Hv.k6, Hv.k7, Hv.k8, Hv.k9, Hv.k10, Hv.t0, Hv.t1, Hv.t2, Hv.t3, Hv.t4, Hv.t5, Hv.t6, Hv.t7, Hv.t8, Hv.t9, Hv.t10, Hv.t11, Hv.t12, Hv.t13, Hv.t14, Hv.t14', Hv.t15, Hv.t16, Hv.t17, Hv.t18, Hv.t19, Hv.t20, Hv.t21, Hv.t22, Hv.t23, Hv.t24, Hv.t25, Hv.t26, Hv.t28, Hv.r2, Hv.r3, Hv.r4, Hv.z1, Hv.z2, Hv.z3, Hv.mutDs_int, Hv.intsOf_int, Hv.startE, Hv.isNew, List.set, t_seti, i3, i4, i5, i6, i7, mut_qds, x5 gl, x5 g20, x5 g9, tupD, isFz, md1, md5, mkT, isNews, isNew, setR_eq, ol_set r0 r2, qd]⟩ fun t ht => ?_
        exact eq_nil (_, fun n => match n with | 13 => some (.v (.int q.1)) | 14 => some (.v (.int q.2.1)) | 15 => some (.v (.int q.2.2.1)) | 16 => some (.v (.int q.2.2.2)) | _ => none) ⟨⟨by simpa using q1.1, by simp; omega⟩, qB.set ht⟩ rfl
  obtain ⟨qs, u⟩ := z
  simp only at hz
  rw [t7, t0]
  refine ex_seq [some (.v (IL ns)), some (.v (.int a)), some (.v (.int m)), some (.v (.int (cl ns a))), some (oL (ds.map .int)), some (.v (.int kd)), some (.v (.int c)), some (oL (qs.map qd)), none, none, none, some (oL (qs.map qd)), u 12, u 13, u 14, u 15, u 16] (by simp (config := { implicitDefEqProofs := false }) [Hv.s1, Hv.s2, Hv.s3, Hv.s4, Hv.s5, Hv.s6, Hv.s7, Hv.s8, Hv.s9, Hv.s10, Hv.s11, Hv.s12, Hv.s13, Hv.s14, Hv.s15, Hv.s16, Hv.s17, Hv.s18, Hv.s19, Hv.s20, Hv.s21, Hv.s22, Hv.s23, Hv.s24, Hv.s25, Hv.s26, Hv.s27, Hv.s28, Hv.s29, Hv.s30, Hv.s31, Hv.s32, Hv.s33, Hv.s34, Hv.s35, Hv.s36, Hv.s37, Hv.s38, Hv.v1, Hv.v2, Hv.v3, Hv.v4, Hv.v6, Hv.v7, Hv.v8, Hv.v9, Hv.v10, Hv.v11, Hv.e1, Hv.e2, Hv.e3, Hv.e4, Hv.e5, Hv.e6, Hv.e7, Hv.e8, Hv.e9, Hv.e10, Hv.e11, Hv.e12, Hv.e13, Hv.e14, Hv.e16, Hv.e17, Hv.e18, Hv.e19, Hv.e20, Hv.e21, Hv.e22, Hv.e23, Hv.e24, Hv.e25, Hv.e26, Hv.x1, Hv.x2, Hv.x6, Hv.x7, Hv.x8, Hv.x9, Hv.x12, Hv.x13, Hv.x14, Hv.x15, Hv.x16, Hv.x17, Hv.x21, Hv.x22, Hv.x23, Hv.x24, Hv.x25, Hv.x26, Hv.x27, Hv.x28, Hv.x29, Hv.x30, Hv.y0, Hv.y1, Hv.y2, Hv.y3, Hv.y4, Hv.y5, Hv.x31, Hv.x32, Hv.x33, Hv.x34, Hv.x35, Hv.x36, Hv.x39, Hv.a1, Hv.a2, Hv.k1, Hv.k4, Hv.k6, Hv.k7, Hv.k8, Hv.k9, Hv.k10, Hv.t0, Hv.t1, Hv.t2, Hv.t3, Hv.t4, Hv.t5, Hv.t6, Hv.t7, Hv.t8, Hv.t9, Hv.t10, Hv.t11, Hv.t12, Hv.t13, Hv.t14, Hv.t14', Hv.t15, Hv.t16, Hv.t17, Hv.t18, Hv.t19, Hv.t20, Hv.t21, Hv.t22, Hv.t23, Hv.t24, Hv.t25, Hv.t26, Hv.t28, Hv.r2, Hv.r3, Hv.r4, Hv.z1, Hv.z2, Hv.z3, Hv.mutDs_int, Hv.intsOf_int, Hv.startE, Hv.isNew, List.set, mut_qds, list_q]) ?_
  rw [t7, t0]
  obtain ⟨os, o1, o2, o3⟩ := numI (k + 1) (cl ns a + 5) (qs.length : Int) (by omega) (by omega)
  refine ex_seq [some (.v (IL ns)), some (.v (.int a)), some (.v (.int m)), some (.v (.int (cl ns a))), some (oL (ds.map .int)), some (.v (.int kd)), some (.v (.int c)), some (oL (qs.map qd)), some (oL (os.map .int)), none, none, some (oL (qs.map qd)), u 12, u 13, u 14, u 15, u 16] (by simp (config := { implicitDefEqProofs := false }) [Hv.s1, Hv.s2, Hv.s3, Hv.s4, Hv.s5, Hv.s6, Hv.s7, Hv.s8, Hv.s9, Hv.s10, Hv.s11, Hv.s12, Hv.s13, Hv.s14, Hv.s15, Hv.s16, Hv.s17, Hv.s18, Hv.s19, Hv.s20, Hv.s21, Hv.s22, Hv.s23, Hv.s24, Hv.s25, Hv.s26, Hv.s27, Hv.s28, Hv.s29, Hv.s30, Hv.s31, Hv.s32, Hv.s33, Hv.s34, Hv.s35, Hv.s36, Hv.s37, Hv.s38, Hv.v1, Hv.v2, Hv.v3, Hv.v4, Hv.v6, Hv.v7, Hv.v8, Hv.v9, Hv.v10, Hv.v11, Hv.e1, Hv.e2, Hv.e3, Hv.e4, Hv.e5, Hv.e6, Hv.e7, Hv.e8, Hv.e9, Hv.e10, Hv.e11, Hv.e12, Hv.e13, Hv.e14, Hv.e16, Hv.e17, Hv.e18, Hv.e19, Hv.e20, Hv.e21, Hv.e22, Hv.e23, Hv.e24, Hv.e25, Hv.e26, Hv.x1, Hv.x2, Hv.x6, Hv.x7, Hv.x8, Hv.x9, Hv.x12, Hv.x13, Hv.x14, Hv.x15, Hv.x16, Hv.x17, Hv.x21, Hv.x22, Hv.x23, Hv.x24, Hv.x25, Hv.x26, Hv.x27, Hv.x28, Hv.x29, Hv.x30, Hv.y0, Hv.y1, Hv.y2, Hv.y3, Hv.y4, Hv.y5, Hv.x31, Hv.x32, Hv.x33, Hv.x34, Hv.x35, Hv.x36, Hv.x39, Hv.a1, Hv.a2, Hv.k1, Hv.k4, Hv.k6, Hv.k7, Hv.k8, Hv.k9, Hv.k10, Hv.t0, Hv.t1, Hv.t2, Hv.t3, Hv.t4, Hv.t5, Hv.t6, Hv.t7, Hv.t8, Hv.t9, Hv.t10, Hv.t11, Hv.t12, Hv.t13, Hv.t14, Hv.t14', Hv.t15, Hv.t16, Hv.t17, Hv.t18, Hv.t19, Hv.t20, Hv.t21, Hv.t22, Hv.t23, Hv.t24, Hv.t25, Hv.t26, Hv.t28, Hv.r2, Hv.r3, Hv.r4, Hv.z1, Hv.z2, Hv.z3, Hv.mutDs_int, Hv.intsOf_int, Hv.startE, Hv.isNew, List.set, mut_qds, o3, k3_n]) ?_
  rw [t7, t0]
  refine ex_seq [some (.v (IL ns)), some (.v (.int a)), some (.v (.int m)), some (.v (.int (cl ns a))), some (oL (ds.map .int)), some (.v (.int kd)), some (.v (.int c)), some (oL (qs.map qd)), some (oL (os.map .int)), some (oL []), none, some (oL (qs.map qd)), u 12, u 13, u 14, u 15, u 16] (by simp (config := { implicitDefEqProofs := false }) [Hv.s1, Hv.s2, Hv.s3, Hv.s4, Hv.s5, Hv.s6, Hv.s7, Hv.s8, Hv.s9, Hv.s10, Hv.s11, Hv.s12, Hv.s13, Hv.s14, Hv.s15, Hv.s16, Hv.s17, Hv.s18, Hv.s19, Hv.s20, Hv.s21, Hv.s22, Hv.s23, Hv.s24, Hv.s25, Hv.s26, Hv.s27, Hv.s28, Hv.s29, Hv.s30, Hv.s31, Hv.s32, Hv.s33, Hv.s34, Hv.s35, Hv.s36, Hv.s37, Hv.s38, Hv.v1, Hv.v2, Hv.v3, Hv.v4, Hv.v6, Hv.v7, Hv.v8, Hv.v9, Hv.v10, Hv.v11, Hv.e1, Hv.e2, Hv.e3, Hv.e4, Hv.e5, Hv.e6, Hv.e7, Hv.e8, Hv.e9, Hv.e10, Hv.e11, Hv.e12, Hv.e13, Hv.e14, Hv.e16, Hv.e17, Hv.e18, Hv.e19, Hv.e20, Hv.e21, Hv.e22, Hv.e23, Hv.e24, Hv.e25, Hv.e26, Hv.x1, Hv.x2, Hv.x6, Hv.x7, Hv.x8, Hv.x9, Hv.x12, Hv.x13, Hv.x14, Hv.x15, Hv.x16, Hv.x17, Hv.x21, Hv.x22, Hv.x23, Hv.x24, Hv.x25, Hv.x26, Hv.x27, Hv.x28, Hv.x29, Hv.x30, Hv.y0, Hv.y1, Hv.y2, Hv.y3, Hv.y4, Hv.y5, Hv.x31, Hv.x32, Hv.x33, Hv.x34, Hv.x35, Hv.x36, Hv.x39, Hv.a1, Hv.a2, Hv.k1, Hv.k4, Hv.k6, Hv.k7, Hv.k8, Hv.k9, Hv.k10, Hv.t0, Hv.t1, Hv.t2, Hv.t3, Hv.t4, Hv.t5, Hv.t6, Hv.t7, Hv.t8, Hv.t9, Hv.t10, Hv.t11, Hv.t12, Hv.t13, Hv.t14, Hv.t14', Hv.t15, Hv.t16, Hv.t17, Hv.t18, Hv.t19, Hv.t20, Hv.t21, Hv.t22, Hv.t23, Hv.t24, Hv.t25, Hv.t26, Hv.t28, Hv.r2, Hv.r3, Hv.r4, Hv.z1, Hv.z2, Hv.z3, Hv.mutDs_int, Hv.intsOf_int, Hv.startE, Hv.isNew, List.set]) ?_
  rw [t7, t0]
  refine ex_seqE (fun z : List Q4 × (List Q4 × Option D) => [some (.v (IL ns)), some (.v (.int a)), some (.v (.int m)), some (.v (.int (cl ns a))), some (oL (ds.map .int)), some (.v (.int kd)), some (.v (.int c)), some (oL (z.2.1.map qd)), some (oL (os.map .int)), some (oL (z.1.map qd)), z.2.2, some (oL (qs.map qd)), u 12, u 13, u 14, u 15, u 16]) (fun z => (1 ≤ z.1.length ∧ z.1.length ≤ 100) ∧ BX z.1) ?_ fun z hz => ⟨z.1, hz, by simp (config := { implicitDefEqProofs := false }) [Hv.s1, Hv.s2, Hv.s3, Hv.s4, Hv.s5, Hv.s6, Hv.s7, Hv.s8, Hv.s9, Hv.s10, Hv.s11, Hv.s12, Hv.s13, Hv.s14, Hv.s15, Hv.s16, Hv.s17, Hv.s18, Hv.s19, Hv.s20, Hv.s21, Hv.s22, Hv.s23, Hv.s24, Hv.s25, Hv.s26, Hv.s27, Hv.s28, Hv.s29, Hv.s30, Hv.s31, Hv.s32, Hv.s33, Hv.s34, Hv.s35, Hv.s36, Hv.s37, Hv.s38, Hv.v1, Hv.v2, Hv.v3, Hv.v4, Hv.v6, Hv.v7, Hv.v8, Hv.v9, Hv.v10, Hv.v11, Hv.e1, Hv.e2, Hv.e3, Hv.e4, Hv.e5, Hv.e6, Hv.e7, Hv.e8, Hv.e9, Hv.e10, Hv.e11, Hv.e12, Hv.e13, Hv.e14, Hv.e16, Hv.e17, Hv.e18, Hv.e19, Hv.e20, Hv.e21, Hv.e22, Hv.e23, Hv.e24, Hv.e25, Hv.e26, Hv.x1, Hv.x2, Hv.x6, Hv.x7, Hv.x8, Hv.x9, Hv.x12, Hv.x13, Hv.x14, Hv.x15, Hv.x16, Hv.x17, Hv.x21, Hv.x22, Hv.x23, Hv.x24, Hv.x25, Hv.x26, Hv.x27, Hv.x28, Hv.x29, Hv.x30, Hv.y0, Hv.y1, Hv.y2, Hv.y3, Hv.y4, Hv.y5, Hv.x31, Hv.x32, Hv.x33, Hv.x34, Hv.x35, Hv.x36, Hv.x39, Hv.a1, Hv.a2, Hv.k1, Hv.k4, Hv.k6, Hv.k7, Hv.k8, Hv.k9, Hv.k10, Hv.t0, Hv.t1, Hv.t2, Hv.t3, Hv.t4, Hv.t5, Hv.t6, Hv.t7, Hv.t8, Hv.t9, Hv.t10, Hv.t11, Hv.t12, Hv.t13, Hv.t14, Hv.t14', Hv.t15, Hv.t16, Hv.t17, Hv.t18, Hv.t19, Hv.t20, Hv.t21, Hv.t22, Hv.t23, Hv.t24, Hv.t25, Hv.t26, Hv.t28, Hv.r2, Hv.r3, Hv.r4, Hv.z1, Hv.z2, Hv.z3, Hv.mutDs_int, Hv.intsOf_int, Hv.startE, Hv.isNew, List.set]⟩
  rw [t13]
  have e9 : seqR (evs (C (k + 2)) T.G [E.bi Bi.len [E.var 11]] [some (.v (IL ns)), some (.v (.int a)), some (.v (.int m)), some (.v (.int (cl ns a))), some (oL (ds.map .int)), some (.v (.int kd)), some (.v (.int c)), some (oL (qs.map qd)), some (oL (os.map .int)), some (oL []), none, some (oL (qs.map qd)), u 12, u 13, u 14, u 15, u 16]) = .ok [.v (.int (qs.length : Nat))] [] := by simp (config := { implicitDefEqProofs := false }) [Hv.s1, Hv.s2, Hv.s3, Hv.s4, Hv.s5, Hv.s6, Hv.s7, Hv.s8, Hv.s9, Hv.s10, Hv.s11, Hv.s12, Hv.s13, Hv.s14, Hv.s15, Hv.s16, Hv.s17, Hv.s18, Hv.s19, Hv.s20, Hv.s21, Hv.s22, Hv.s23, Hv.s24, Hv.s25, Hv.s26, Hv.s27, Hv.s28, Hv.s29, Hv.s30, Hv.s31, Hv.s32, Hv.s33, Hv.s34, Hv.s35, Hv.s36, Hv.s37, Hv.s38, Hv.v1, Hv.v2, Hv.v3, Hv.v4, Hv.v6, Hv.v7, Hv.v8, Hv.v9, Hv.v10, Hv.v11, Hv.e1, Hv.e2, Hv.e3, Hv.e4, Hv.e5, Hv.e6, Hv.e7, Hv.e8, Hv.e9, Hv.e10, Hv.e11, Hv.e12, Hv.e13, Hv.e14, Hv.e16, Hv.e17, Hv.e18, Hv.e19, Hv.e20, Hv.e21, Hv.e22, Hv.e23, Hv.e24, Hv.e25, Hv.e26, Hv.x1, Hv.x2, Hv.x6, Hv.x7, Hv.x8, Hv.x9, Hv.x12, Hv.x13, Hv.x14, Hv.x15, Hv.x16, Hv.x17, Hv.x21, Hv.x22, Hv.x23, Hv.x24, Hv.x25, Hv.x26, Hv.x27, Hv.x28, Hv.x29, Hv.x30, Hv.y0, Hv.y1, Hv.y2, Hv.y3, Hv.y4, Hv.y5, Hv.x31, Hv.x32, Hv.x33, Hv.x34, Hv.x35, Hv.x36, Hv.x39, Hv.a1, Hv.a2, Hv.k1, Hv.k4, Hv.k6, Hv.k7, Hv.k8, Hv.k9, Hv.k10, Hv.t0, Hv.t1, Hv.t2, Hv.t3, Hv.t4, Hv.t5, Hv.t6, Hv.t7, Hv.t8, Hv.t9, Hv.t10, Hv.t11, Hv.t12, Hv.t13, Hv.t14, Hv.t14', Hv.t15, Hv.t16, Hv.t17, Hv.t18, Hv.t19, Hv.t20, Hv.t21, Hv.t22, Hv.t23, Hv.t24, Hv.t25, Hv.t26, Hv.t28, Hv.r2, Hv.r3, Hv.r4, Hv.z1, Hv.z2, Hv.z3, Hv.mutDs_int, Hv.intsOf_int, Hv.startE, Hv.isNew, List.set, mut_qds]
  rw [e9, s7, f1 (by omega)]
  generalize hf : forR _ _ _ _ = r
  obtain ⟨ρ', rfl, ms, ss, v, h1, h2, hmB, hsB, rfl⟩ := go_inv hf (fun i ρ => ∃ (ms ss : List Q4) (v : Option D), ms.length = i ∧ ss.length = qs.length - i ∧ BX ms ∧ BX ss ∧ ρ = [some (.v (IL ns)), some (.v (.int a)), some (.v (.int m)), some (.v (.int (cl ns a))), some (oL (ds.map .int)), some (.v (.int kd)), some (.v (.int c)), some (oL (ss.map qd)), some (oL (os.map .int)), some (oL (ms.map qd)), v, some (oL (qs.map qd)), u 12, u 13, u 14, u 15, u 16])
    ⟨[], qs, none, rfl, rfl, BX.nil, hz.2, rfl⟩ (fun i p ρ hp ⟨ms, ss, v, h1, h2, hmB, hsB, e⟩ => by
      obtain ⟨hi, rfl⟩ := rgI_get hp
      subst e
      refine ⟨_, rfl, ?_⟩
      have gl : 0 < (ss.length : Int) := by omega
      obtain ⟨r0, r1⟩ := mod_rng (gi os i) gl
      obtain ⟨q, hq, hqB⟩ : ∃ q, (ss.map qd)[(gi os i % (ss.length : Int)).toNat]? = some (qd q) ∧ bx q := by
        obtain ⟨x, h, hm⟩ := get_in (xs := ss) r0 r1
        exact ⟨x, by simp [h], hsB x hm⟩
      rw [t7, t0, t_appPop]
      have ei : (ev (C (k + 2)) T.G (E.bin BOp.mod ((E.var 8).ix (E.var 10)) (E.bi Bi.len [E.var 7])) [some (.v (IL ns)), some (.v (.int a)), some (.v (.int m)), some (.v (.int (cl ns a))), some (oL (ds.map .int)), some (.v (.int kd)), some (.v (.int c)), some (oL (ss.map qd)), some (oL (os.map .int)), some (oL (ms.map qd)), some (.v (.int i)), some (oL (qs.map qd)), u 12, u 13, u 14, u 15, u 16]).e = .ok (.v (.int (gi os i % (ss.length : Int)))) [] := by
        simp (config := { implicitDefEqProofs := false }) [Hv.s1, Hv.s2, Hv.s3, Hv.s4, Hv.s5, Hv.s6, Hv.s7, Hv.s8, Hv.s9, Hv.s10, Hv.s11, Hv.s12, Hv.s13, Hv.s14, Hv.s15, Hv.s16, Hv.s17, Hv.s18, Hv.s19, Hv.s20, Hv.s21, Hv.s22, Hv.s23, Hv.s24, Hv.s25, Hv.s26, Hv.s27, Hv.s28, Hv.s29, Hv.s30, Hv.s31, Hv.s32, Hv.s33, Hv.s34, Hv.s35, Hv.s36, Hv.s37, Hv.s38, Hv.v1, Hv.v2, Hv.v3, Hv.v4, Hv.v6, Hv.v7, Hv.v8, Hv.v9, Hv.v10, Hv.v11, Hv.e1, Hv.e2, Hv.e3, Hv.e4, Hv.e5, Hv.e6, Hv.e7, Hv.e8, Hv.e9, Hv.e10, Hv.e11, Hv.e12, Hv.e13, Hv.e14, Hv.e16, Hv.e17, Hv.e18, Hv.e19, Hv.e20, Hv.e21, Hv.e22, Hv.e23, Hv.e24, Hv.e25, Hv.e26, Hv.x1, Hv.x2, Hv.x6, Hv.x7, Hv.x8, Hv.x9, Hv.x12, Hv.x13, Hv.x14, Hv.x15, Hv.x16, Hv.x17, Hv.x21, Hv.x22, Hv.x23, Hv.x24, Hv.x25, Hv.x26, Hv.x27, Hv.x28, Hv.x29, Hv.x30, Hv.y0, Hv.y1, Hv.y2, Hv.y3, Hv.y4, Hv.y5, Hv.x31, Hv.x32, Hv.x33, Hv.x34, Hv.x35, Hv.x36, Hv.x39, Hv.a1, Hv.a2, Hv.k1, Hv.k4, Hv.k6, Hv.k7, Hv.k8, Hv.k9, Hv.k10, Hv.t0, Hv.t1, Hv.t2, Hv.t3, Hv.t4, Hv.t5, Hv.t6, Hv.t7, Hv.t8, Hv.t9, Hv.t10, Hv.t11, Hv.t12, Hv.t13, Hv.t14, Hv.t14', Hv.t15, Hv.t16, Hv.t17, Hv.t18, Hv.t19, Hv.t20, Hv.t21, Hv.t22, Hv.t23, Hv.t24, Hv.t25, Hv.t26, Hv.t28, Hv.r2, Hv.r3, Hv.r4, Hv.z1, Hv.z2, Hv.z3, Hv.mutDs_int, Hv.intsOf_int, Hv.startE, Hv.isNew, List.set, ixv_o (ns := os) (show (0 : Int) ≤ (i : Int) by omega) (show (i : Int) < os.length by omega), mut_qds, x5 gl]
      show Nx (seqS (appPopR 9 7 (ev (C (k + 2)) T.G (E.bin BOp.mod ((E.var 8).ix (E.var 10)) (E.bi Bi.len [E.var 7])) [some (.v (IL ns)), some (.v (.int a)), some (.v (.int m)), some (.v (.int (cl ns a))), some (oL (ds.map .int)), some (.v (.int kd)), some (.v (.int c)), some (oL (ss.map qd)), some (oL (os.map .int)), some (oL (ms.map qd)), some (.v (.int i)), some (oL (qs.map qd)), u 12, u 13, u 14, u 15, u 16]).e [some (.v (IL ns)), some (.v (.int a)), some (.v (.int m)), some (.v (.int (cl ns a))), some (oL (ds.map .int)), some (.v (.int kd)), some (.v (.int c)), some (oL (ss.map qd)), some (oL (os.map .int)), some (oL (ms.map qd)), some (.v (.int i)), some (oL (qs.map qd)), u 12, u 13, u 14, u 15, u 16]) _) _
      rw [ei, app_pop (i := 9) (j := 7) (ss := ss.map qd) (ms := ms.map qd) (p := qd q) (by decide) rfl rfl r0 hq rfl (by simp; omega) (by simp; omega), t2, t7, t1, nx1]
      have hlt : (gi os i % (ss.length : Int)).toNat < ss.length := by omega
      exact ⟨ms ++ [q], ss.eraseIdx (gi os i % (ss.length : Int)).toNat, some (.v (.int i)), by simp [h1], by rw [List.length_eraseIdx_of_lt hlt]; omega, hmB.app hqB, hsB.erase, by rw [er_map, List.map_append]; rfl⟩)
  rw [rgI_len] at h1
  exact ⟨(ms, ss, v), ⟨⟨show 1 ≤ ms.length by omega, show ms.length ≤ 100 by omega⟩, hmB⟩, rfl⟩
end Law

namespace Law
open PySem Hv
structure Th where
  par : Int
  role : Str
  text : Str
  refs : List Int
  hid : Int
  q : Q4
def th (t : Th) : PyData := .tuple [.int t.par, .str t.role, .str t.text, .tuple (t.refs.map .int), .int t.hid, qd t.q]
theorem mut_th (t : Th) : mutD (th t) = false := by
  unfold th
  simp only [md6, md5, md1, md3, mutDs_int, mut_qd, x39, Bool.or_self]
theorem mut_ths : ∀ ts : List Th, mutDs (ts.map th) = false
  | [] => rfl
  | t :: ts => by rw [List.map_cons, md5, mut_th, mut_ths ts]; rfl
theorem k3_t {k : List Th} {al : Al} : callR (.ok (oL (k.map th))) al = .ok (oL (k.map th)) [] := k3 (mut_ths k)
theorem strs_get {P : Str → Prop} {L : List PyData} (hL : ∀ p ∈ L, ∃ x, P x ∧ p = .str x) {i : Int} (h0 : 0 ≤ i) (h1 : i < L.length) : ∃ x : Str, P x ∧ L[i.toNat]? = some (.str x) := by
  obtain ⟨p, h, hm⟩ := get_in (xs := L) h0 h1
  obtain ⟨x, hx, rfl⟩ := hL p hm
  exact ⟨x, hx, h⟩
def ROL : List Str := ["page", "group", "list", "item", "heading", "text", "button", "link", "field", "image", "note", "table"]
def okTx (x : Str) : Bool := x.cps.toList.all fun c => decide (32 ≤ c) && decide (c ≤ 126)
/-- a thing among n, with k ahead -/
def OkT (n : Int) (i : Int) (t : Th) : Prop := (-1 ≤ t.par ∧ t.par < i) ∧ t.role ∈ ROL ∧ (okTx t.text = true ∧ t.text.length ≤ 100) ∧ ((t.refs.Nodup ∧ ∀ r ∈ t.refs, 0 ≤ r ∧ r < n) ∧ t.refs.length ≤ 2) ∧ (t.hid = 0 ∨ t.hid = 1) ∧ bx t.q
theorem tups_get {P : List Int → Prop} {L : List PyData} (hL : ∀ p ∈ L, ∃ x : List Int, (x.length ≤ 2 ∧ P x) ∧ p = .tuple (x.map .int)) {i : Int} (h0 : 0 ≤ i) (h1 : i < L.length) : ∃ x : List Int, (x.length ≤ 2 ∧ P x) ∧ L[i.toNat]? = some (.tuple (x.map .int)) := by
  obtain ⟨p, h, hm⟩ := get_in (xs := L) h0 h1
  obtain ⟨x, hx, rfl⟩ := hL p hm
  exact ⟨x, hx, h⟩
/-- each parent stands ahead -/
def Ahead (n : Int) (ts : List Th) : Prop := ∀ (i : Nat) (t : Th), ts[i]? = some t → OkT n i t
theorem things (k : Nat) (ns : List Int) : ∃ ts : List Th, (Ahead ts.length ts ∧ 1 ≤ ts.length ∧ ts.length ≤ 14) ∧ C (k + 4) 13 [IL ns, .int 0, .int 14] = .ok (oL (ts.map th)) := by
  rw [c13]
  unfold B13
  have m8 : ∀ x : Int, mulOk 8 x = true := fun x => by unfold mulOk; simp
  have g14 : (0 : Int) < 14 := by decide
  have g3 : (0 : Int) < 3 := by decide
  have g12 : (0 : Int) < 12 := by decide
  have g4 : (0 : Int) < 4 := by decide
  have g5 : (0 : Int) < 5 := by decide
  have g6 : (0 : Int) < 6 := by decide
  have g10 : (0 : Int) < 10 := by decide
  have q12 : divOk 12 = true := by decide
  have q36 : divOk 36 = true := by decide
  have q5 : divOk 5 = true := by decide
  obtain ⟨d8, a1, a2, a3⟩ := numI (k + 2) (cl ns 0) 8 (by omega) (by omega)
  rw [t0]
  refine ex_seq [some (.v (IL ns)), some (.v (.int 0)), some (.v (.int 14)), some (oL (d8.map .int)), none, none, none, none, none, none, none, none, none, none, none, none, none, none] (by simp (config := { implicitDefEqProofs := false }) [Hv.s1, Hv.s2, Hv.s3, Hv.s4, Hv.s5, Hv.s6, Hv.s7, Hv.s8, Hv.s9, Hv.s10, Hv.s11, Hv.s12, Hv.s13, Hv.s14, Hv.s15, Hv.s16, Hv.s17, Hv.s18, Hv.s19, Hv.s20, Hv.s21, Hv.s22, Hv.s23, Hv.s24, Hv.s25, Hv.s26, Hv.s27, Hv.s28, Hv.s29, Hv.s30, Hv.s31, Hv.s32, Hv.s33, Hv.s34, Hv.s35, Hv.s36, Hv.s37, Hv.s38, Hv.v1, Hv.v2, Hv.v3, Hv.v4, Hv.v6, Hv.v7, Hv.v8, Hv.v9, Hv.v10, Hv.v11, Hv.e1, Hv.e2, Hv.e3, Hv.e4, Hv.e5, Hv.e6, Hv.e7, Hv.e8, Hv.e9, Hv.e10, Hv.e11, Hv.e12, Hv.e13, Hv.e14, Hv.e16, Hv.e17, Hv.e18, Hv.e19, Hv.e20, Hv.e21, Hv.e22, Hv.e23, Hv.e24, Hv.e25, Hv.e26, Hv.x1, Hv.x2, Hv.x6, Hv.x7, Hv.x8, Hv.x9, Hv.x12, Hv.x13, Hv.x14, Hv.x15, Hv.x16, Hv.x17, Hv.x21, Hv.x22, Hv.x23, Hv.x24, Hv.x25, Hv.x26, Hv.x27, Hv.x28, Hv.x29, Hv.x30, Hv.y0, Hv.y1, Hv.y2, Hv.y3, Hv.y4, Hv.y5, Hv.x31, Hv.x32, Hv.x33, Hv.x34, Hv.x35, Hv.x36, Hv.x39, Hv.a1, Hv.a2, Hv.k1, Hv.k4, Hv.k6, Hv.k7, Hv.k8, Hv.k9, Hv.k10, Hv.t0, Hv.t1, Hv.t2, Hv.t3, Hv.t4, Hv.t5, Hv.t6, Hv.t7, Hv.t8, Hv.t9, Hv.t10, Hv.t11, Hv.t12, Hv.t13, Hv.t14, Hv.t14', Hv.t15, Hv.t16, Hv.t17, Hv.t18, Hv.t19, Hv.t20, Hv.t21, Hv.t22, Hv.t23, Hv.t24, Hv.t25, Hv.t26, Hv.t28, Hv.r2, Hv.r3, Hv.r4, Hv.z1, Hv.z2, Hv.z3, Hv.mutDs_int, Hv.intsOf_int, Hv.startE, Hv.isNew, List.set, cellI (k + 2) ns 0 (by omega), k2i, a3, k3_n]) ?_
  rw [t7, t0]
  refine ex_seqE (fun c : Int => [some (.v (IL ns)), some (.v (.int 0)), some (.v (.int 14)), some (oL (d8.map .int)), some (.v (.int c)), none, none, none, none, none, none, none, none, none, none, none, none, none]) (fun c => 1 ≤ c ∧ c ≤ 14) ⟨1 + gi d8 0 % 14, by have := mod_rng (gi d8 0) g14; omega, by
    simp (config := { implicitDefEqProofs := false }) [Hv.s1, Hv.s2, Hv.s3, Hv.s4, Hv.s5, Hv.s6, Hv.s7, Hv.s8, Hv.s9, Hv.s10, Hv.s11, Hv.s12, Hv.s13, Hv.s14, Hv.s15, Hv.s16, Hv.s17, Hv.s18, Hv.s19, Hv.s20, Hv.s21, Hv.s22, Hv.s23, Hv.s24, Hv.s25, Hv.s26, Hv.s27, Hv.s28, Hv.s29, Hv.s30, Hv.s31, Hv.s32, Hv.s33, Hv.s34, Hv.s35, Hv.s36, Hv.s37, Hv.s38, Hv.v1, Hv.v2, Hv.v3, Hv.v4, Hv.v6, Hv.v7, Hv.v8, Hv.v9, Hv.v10, Hv.v11, Hv.e1, Hv.e2, Hv.e3, Hv.e4, Hv.e5, Hv.e6, Hv.e7, Hv.e8, Hv.e9, Hv.e10, Hv.e11, Hv.e12, Hv.e13, Hv.e14, Hv.e16, Hv.e17, Hv.e18, Hv.e19, Hv.e20, Hv.e21, Hv.e22, Hv.e23, Hv.e24, Hv.e25, Hv.e26, Hv.x1, Hv.x2, Hv.x6, Hv.x7, Hv.x8, Hv.x9, Hv.x12, Hv.x13, Hv.x14, Hv.x15, Hv.x16, Hv.x17, Hv.x21, Hv.x22, Hv.x23, Hv.x24, Hv.x25, Hv.x26, Hv.x27, Hv.x28, Hv.x29, Hv.x30, Hv.y0, Hv.y1, Hv.y2, Hv.y3, Hv.y4, Hv.y5, Hv.x31, Hv.x32, Hv.x33, Hv.x34, Hv.x35, Hv.x36, Hv.x39, Hv.a1, Hv.a2, Hv.k1, Hv.k4, Hv.k6, Hv.k7, Hv.k8, Hv.k9, Hv.k10, Hv.t0, Hv.t1, Hv.t2, Hv.t3, Hv.t4, Hv.t5, Hv.t6, Hv.t7, Hv.t8, Hv.t9, Hv.t10, Hv.t11, Hv.t12, Hv.t13, Hv.t14, Hv.t14', Hv.t15, Hv.t16, Hv.t17, Hv.t18, Hv.t19, Hv.t20, Hv.t21, Hv.t22, Hv.t23, Hv.t24, Hv.t25, Hv.t26, Hv.t28, Hv.r2, Hv.r3, Hv.r4, Hv.z1, Hv.z2, Hv.z3, Hv.mutDs_int, Hv.intsOf_int, Hv.startE, Hv.isNew, List.set, ixv_o (ns := d8) (show (0 : Int) ≤ 0 by omega) (show (0 : Int) < d8.length by omega), x5 g14]⟩ fun c hc => ?_
  obtain ⟨ds, e1, e2, e3⟩ := numI (k + 2) (cl ns 1) (8 * c) (by omega) (by omega)
  rw [t7, t0]
  refine ex_seq [some (.v (IL ns)), some (.v (.int 0)), some (.v (.int 14)), some (oL (d8.map .int)), some (.v (.int c)), some (oL (ds.map .int)), none, none, none, none, none, none, none, none, none, none, none, none] (by simp (config := { implicitDefEqProofs := false }) [Hv.s1, Hv.s2, Hv.s3, Hv.s4, Hv.s5, Hv.s6, Hv.s7, Hv.s8, Hv.s9, Hv.s10, Hv.s11, Hv.s12, Hv.s13, Hv.s14, Hv.s15, Hv.s16, Hv.s17, Hv.s18, Hv.s19, Hv.s20, Hv.s21, Hv.s22, Hv.s23, Hv.s24, Hv.s25, Hv.s26, Hv.s27, Hv.s28, Hv.s29, Hv.s30, Hv.s31, Hv.s32, Hv.s33, Hv.s34, Hv.s35, Hv.s36, Hv.s37, Hv.s38, Hv.v1, Hv.v2, Hv.v3, Hv.v4, Hv.v6, Hv.v7, Hv.v8, Hv.v9, Hv.v10, Hv.v11, Hv.e1, Hv.e2, Hv.e3, Hv.e4, Hv.e5, Hv.e6, Hv.e7, Hv.e8, Hv.e9, Hv.e10, Hv.e11, Hv.e12, Hv.e13, Hv.e14, Hv.e16, Hv.e17, Hv.e18, Hv.e19, Hv.e20, Hv.e21, Hv.e22, Hv.e23, Hv.e24, Hv.e25, Hv.e26, Hv.x1, Hv.x2, Hv.x6, Hv.x7, Hv.x8, Hv.x9, Hv.x12, Hv.x13, Hv.x14, Hv.x15, Hv.x16, Hv.x17, Hv.x21, Hv.x22, Hv.x23, Hv.x24, Hv.x25, Hv.x26, Hv.x27, Hv.x28, Hv.x29, Hv.x30, Hv.y0, Hv.y1, Hv.y2, Hv.y3, Hv.y4, Hv.y5, Hv.x31, Hv.x32, Hv.x33, Hv.x34, Hv.x35, Hv.x36, Hv.x39, Hv.a1, Hv.a2, Hv.k1, Hv.k4, Hv.k6, Hv.k7, Hv.k8, Hv.k9, Hv.k10, Hv.t0, Hv.t1, Hv.t2, Hv.t3, Hv.t4, Hv.t5, Hv.t6, Hv.t7, Hv.t8, Hv.t9, Hv.t10, Hv.t11, Hv.t12, Hv.t13, Hv.t14, Hv.t14', Hv.t15, Hv.t16, Hv.t17, Hv.t18, Hv.t19, Hv.t20, Hv.t21, Hv.t22, Hv.t23, Hv.t24, Hv.t25, Hv.t26, Hv.t28, Hv.r2, Hv.r3, Hv.r4, Hv.z1, Hv.z2, Hv.z3, Hv.mutDs_int, Hv.intsOf_int, Hv.startE, Hv.isNew, List.set, cellI (k + 2) ns 1 (by omega), k2i, x3 (m8 _), e3, k3_n]) ?_
  obtain ⟨qs, ⟨s1, sB⟩, s2⟩ := screen k ns 2 14 (by omega) (by omega) (by omega)
  rw [t7, t0]
  refine ex_seq [some (.v (IL ns)), some (.v (.int 0)), some (.v (.int 14)), some (oL (d8.map .int)), some (.v (.int c)), some (oL (ds.map .int)), some (oL (qs.map qd)), none, none, none, none, none, none, none, none, none, none, none] (by simp (config := { implicitDefEqProofs := false }) [Hv.s1, Hv.s2, Hv.s3, Hv.s4, Hv.s5, Hv.s6, Hv.s7, Hv.s8, Hv.s9, Hv.s10, Hv.s11, Hv.s12, Hv.s13, Hv.s14, Hv.s15, Hv.s16, Hv.s17, Hv.s18, Hv.s19, Hv.s20, Hv.s21, Hv.s22, Hv.s23, Hv.s24, Hv.s25, Hv.s26, Hv.s27, Hv.s28, Hv.s29, Hv.s30, Hv.s31, Hv.s32, Hv.s33, Hv.s34, Hv.s35, Hv.s36, Hv.s37, Hv.s38, Hv.v1, Hv.v2, Hv.v3, Hv.v4, Hv.v6, Hv.v7, Hv.v8, Hv.v9, Hv.v10, Hv.v11, Hv.e1, Hv.e2, Hv.e3, Hv.e4, Hv.e5, Hv.e6, Hv.e7, Hv.e8, Hv.e9, Hv.e10, Hv.e11, Hv.e12, Hv.e13, Hv.e14, Hv.e16, Hv.e17, Hv.e18, Hv.e19, Hv.e20, Hv.e21, Hv.e22, Hv.e23, Hv.e24, Hv.e25, Hv.e26, Hv.x1, Hv.x2, Hv.x6, Hv.x7, Hv.x8, Hv.x9, Hv.x12, Hv.x13, Hv.x14, Hv.x15, Hv.x16, Hv.x17, Hv.x21, Hv.x22, Hv.x23, Hv.x24, Hv.x25, Hv.x26, Hv.x27, Hv.x28, Hv.x29, Hv.x30, Hv.y0, Hv.y1, Hv.y2, Hv.y3, Hv.y4, Hv.y5, Hv.x31, Hv.x32, Hv.x33, Hv.x34, Hv.x35, Hv.x36, Hv.x39, Hv.a1, Hv.a2, Hv.k1, Hv.k4, Hv.k6, Hv.k7, Hv.k8, Hv.k9, Hv.k10, Hv.t0, Hv.t1, Hv.t2, Hv.t3, Hv.t4, Hv.t5, Hv.t6, Hv.t7, Hv.t8, Hv.t9, Hv.t10, Hv.t11, Hv.t12, Hv.t13, Hv.t14, Hv.t14', Hv.t15, Hv.t16, Hv.t17, Hv.t18, Hv.t19, Hv.t20, Hv.t21, Hv.t22, Hv.t23, Hv.t24, Hv.t25, Hv.t26, Hv.t28, Hv.r2, Hv.r3, Hv.r4, Hv.z1, Hv.z2, Hv.z3, Hv.mutDs_int, Hv.intsOf_int, Hv.startE, Hv.isNew, List.set, s2, k3_q]) ?_
  rw [t7, t0]
  refine ex_seqE (fun RL : List PyData => [some (.v (IL ns)), some (.v (.int 0)), some (.v (.int 14)), some (oL (d8.map .int)), some (.v (.int c)), some (oL (ds.map .int)), some (oL (qs.map qd)), some (oL RL), none, none, none, none, none, none, none, none, none, none]) (fun RL => RL.length = 12 ∧ ∀ p ∈ RL, ∃ x, x ∈ ROL ∧ p = .str x) ⟨[.str "page", .str "group", .str "list", .str "item", .str "heading", .str "text", .str "button", .str "link", .str "field", .str "image", .str "note", .str "table"], ⟨rfl, fun p hp => by obtain ⟨x, hx, e⟩ := List.mem_map.mp (show p ∈ ROL.map PyData.str from hp); exact ⟨x, hx, e.symm⟩⟩, by simp (config := { implicitDefEqProofs := false }) [Hv.s1, Hv.s2, Hv.s3, Hv.s4, Hv.s5, Hv.s6, Hv.s7, Hv.s8, Hv.s9, Hv.s10, Hv.s11, Hv.s12, Hv.s13, Hv.s14, Hv.s15, Hv.s16, Hv.s17, Hv.s18, Hv.s19, Hv.s20, Hv.s21, Hv.s22, Hv.s23, Hv.s24, Hv.s25, Hv.s26, Hv.s27, Hv.s28, Hv.s29, Hv.s30, Hv.s31, Hv.s32, Hv.s33, Hv.s34, Hv.s35, Hv.s36, Hv.s37, Hv.s38, Hv.v1, Hv.v2, Hv.v3, Hv.v4, Hv.v6, Hv.v7, Hv.v8, Hv.v9, Hv.v10, Hv.v11, Hv.e1, Hv.e2, Hv.e3, Hv.e4, Hv.e5, Hv.e6, Hv.e7, Hv.e8, Hv.e9, Hv.e10, Hv.e11, Hv.e12, Hv.e13, Hv.e14, Hv.e16, Hv.e17, Hv.e18, Hv.e19, Hv.e20, Hv.e21, Hv.e22, Hv.e23, Hv.e24, Hv.e25, Hv.e26, Hv.x1, Hv.x2, Hv.x6, Hv.x7, Hv.x8, Hv.x9, Hv.x12, Hv.x13, Hv.x14, Hv.x15, Hv.x16, Hv.x17, Hv.x21, Hv.x22, Hv.x23, Hv.x24, Hv.x25, Hv.x26, Hv.x27, Hv.x28, Hv.x29, Hv.x30, Hv.y0, Hv.y1, Hv.y2, Hv.y3, Hv.y4, Hv.y5, Hv.x31, Hv.x32, Hv.x33, Hv.x34, Hv.x35, Hv.x36, Hv.x39, Hv.a1, Hv.a2, Hv.k1, Hv.k4, Hv.k6, Hv.k7, Hv.k8, Hv.k9, Hv.k10, Hv.t0, Hv.t1, Hv.t2, Hv.t3, Hv.t4, Hv.t5, Hv.t6, Hv.t7, Hv.t8, Hv.t9, Hv.t10, Hv.t11, Hv.t12, Hv.t13, Hv.t14, Hv.t14', Hv.t15, Hv.t16, Hv.t17, Hv.t18, Hv.t19, Hv.t20, Hv.t21, Hv.t22, Hv.t23, Hv.t24, Hv.t25, Hv.t26, Hv.t28, Hv.r2, Hv.r3, Hv.r4, Hv.z1, Hv.z2, Hv.z3, Hv.mutDs_int, Hv.intsOf_int, Hv.startE, Hv.isNew, List.set, zl12]⟩ fun RL hRL => ?_
  rw [t7, t0]
  refine ex_seqE (fun TL : List PyData => [some (.v (IL ns)), some (.v (.int 0)), some (.v (.int 14)), some (oL (d8.map .int)), some (.v (.int c)), some (oL (ds.map .int)), some (oL (qs.map qd)), some (oL RL), some (oL TL), none, none, none, none, none, none, none, none, none]) (fun TL => TL.length = 10 ∧ ∀ p ∈ TL, ∃ x, (okTx x = true ∧ x.length ≤ 100) ∧ p = .str x) ⟨[.str "", .str "", .str "", .str "Go", .str "a b", .str "no", .str "Save all", .str "~", .str "x  y", .str "7"], ⟨rfl, fun p hp => by obtain ⟨x, hx, e⟩ := List.mem_map.mp (show p ∈ (["", "", "", "Go", "a b", "no", "Save all", "~", "x  y", "7"] : List Str).map PyData.str from hp); exact ⟨x, (by decide +kernel : ∀ x ∈ (["", "", "", "Go", "a b", "no", "Save all", "~", "x  y", "7"] : List Str), okTx x = true ∧ x.length ≤ 100) x hx, e.symm⟩⟩, by simp (config := { implicitDefEqProofs := false }) [Hv.s1, Hv.s2, Hv.s3, Hv.s4, Hv.s5, Hv.s6, Hv.s7, Hv.s8, Hv.s9, Hv.s10, Hv.s11, Hv.s12, Hv.s13, Hv.s14, Hv.s15, Hv.s16, Hv.s17, Hv.s18, Hv.s19, Hv.s20, Hv.s21, Hv.s22, Hv.s23, Hv.s24, Hv.s25, Hv.s26, Hv.s27, Hv.s28, Hv.s29, Hv.s30, Hv.s31, Hv.s32, Hv.s33, Hv.s34, Hv.s35, Hv.s36, Hv.s37, Hv.s38, Hv.v1, Hv.v2, Hv.v3, Hv.v4, Hv.v6, Hv.v7, Hv.v8, Hv.v9, Hv.v10, Hv.v11, Hv.e1, Hv.e2, Hv.e3, Hv.e4, Hv.e5, Hv.e6, Hv.e7, Hv.e8, Hv.e9, Hv.e10, Hv.e11, Hv.e12, Hv.e13, Hv.e14, Hv.e16, Hv.e17, Hv.e18, Hv.e19, Hv.e20, Hv.e21, Hv.e22, Hv.e23, Hv.e24, Hv.e25, Hv.e26, Hv.x1, Hv.x2, Hv.x6, Hv.x7, Hv.x8, Hv.x9, Hv.x12, Hv.x13, Hv.x14, Hv.x15, Hv.x16, Hv.x17, Hv.x21, Hv.x22, Hv.x23, Hv.x24, Hv.x25, Hv.x26, Hv.x27, Hv.x28, Hv.x29, Hv.x30, Hv.y0, Hv.y1, Hv.y2, Hv.y3, Hv.y4, Hv.y5, Hv.x31, Hv.x32, Hv.x33, Hv.x34, Hv.x35, Hv.x36, Hv.x39, Hv.a1, Hv.a2, Hv.k1, Hv.k4, Hv.k6, Hv.k7, Hv.k8, Hv.k9, Hv.k10, Hv.t0, Hv.t1, Hv.t2, Hv.t3, Hv.t4, Hv.t5, Hv.t6, Hv.t7, Hv.t8, Hv.t9, Hv.t10, Hv.t11, Hv.t12, Hv.t13, Hv.t14, Hv.t14', Hv.t15, Hv.t16, Hv.t17, Hv.t18, Hv.t19, Hv.t20, Hv.t21, Hv.t22, Hv.t23, Hv.t24, Hv.t25, Hv.t26, Hv.t28, Hv.r2, Hv.r3, Hv.r4, Hv.z1, Hv.z2, Hv.z3, Hv.mutDs_int, Hv.intsOf_int, Hv.startE, Hv.isNew, List.set, zl10]⟩ fun TL hTL => ?_
  rw [t7, t0]
  refine ex_seq [some (.v (IL ns)), some (.v (.int 0)), some (.v (.int 14)), some (oL (d8.map .int)), some (.v (.int c)), some (oL (ds.map .int)), some (oL (qs.map qd)), some (oL RL), some (oL TL), some (oL []), none, none, none, none, none, none, none, none] (by simp (config := { implicitDefEqProofs := false }) [Hv.s1, Hv.s2, Hv.s3, Hv.s4, Hv.s5, Hv.s6, Hv.s7, Hv.s8, Hv.s9, Hv.s10, Hv.s11, Hv.s12, Hv.s13, Hv.s14, Hv.s15, Hv.s16, Hv.s17, Hv.s18, Hv.s19, Hv.s20, Hv.s21, Hv.s22, Hv.s23, Hv.s24, Hv.s25, Hv.s26, Hv.s27, Hv.s28, Hv.s29, Hv.s30, Hv.s31, Hv.s32, Hv.s33, Hv.s34, Hv.s35, Hv.s36, Hv.s37, Hv.s38, Hv.v1, Hv.v2, Hv.v3, Hv.v4, Hv.v6, Hv.v7, Hv.v8, Hv.v9, Hv.v10, Hv.v11, Hv.e1, Hv.e2, Hv.e3, Hv.e4, Hv.e5, Hv.e6, Hv.e7, Hv.e8, Hv.e9, Hv.e10, Hv.e11, Hv.e12, Hv.e13, Hv.e14, Hv.e16, Hv.e17, Hv.e18, Hv.e19, Hv.e20, Hv.e21, Hv.e22, Hv.e23, Hv.e24, Hv.e25, Hv.e26, Hv.x1, Hv.x2, Hv.x6, Hv.x7, Hv.x8, Hv.x9, Hv.x12, Hv.x13, Hv.x14, Hv.x15, Hv.x16, Hv.x17, Hv.x21, Hv.x22, Hv.x23, Hv.x24, Hv.x25, Hv.x26, Hv.x27, Hv.x28, Hv.x29, Hv.x30, Hv.y0, Hv.y1, Hv.y2, Hv.y3, Hv.y4, Hv.y5, Hv.x31, Hv.x32, Hv.x33, Hv.x34, Hv.x35, Hv.x36, Hv.x39, Hv.a1, Hv.a2, Hv.k1, Hv.k4, Hv.k6, Hv.k7, Hv.k8, Hv.k9, Hv.k10, Hv.t0, Hv.t1, Hv.t2, Hv.t3, Hv.t4, Hv.t5, Hv.t6, Hv.t7, Hv.t8, Hv.t9, Hv.t10, Hv.t11, Hv.t12, Hv.t13, Hv.t14, Hv.t14', Hv.t15, Hv.t16, Hv.t17, Hv.t18, Hv.t19, Hv.t20, Hv.t21, Hv.t22, Hv.t23, Hv.t24, Hv.t25, Hv.t26, Hv.t28, Hv.r2, Hv.r3, Hv.r4, Hv.z1, Hv.z2, Hv.z3, Hv.mutDs_int, Hv.intsOf_int, Hv.startE, Hv.isNew, List.set]) ?_
  rw [t7, t0]
  refine ex_seqE (fun z : List Th × (Nat → Option D) => [some (.v (IL ns)), some (.v (.int 0)), some (.v (.int 14)), some (oL (d8.map .int)), some (.v (.int c)), some (oL (ds.map .int)), some (oL (qs.map qd)), some (oL RL), some (oL TL), some (oL (z.1.map th)), z.2 10, z.2 11, z.2 12, z.2 13, z.2 14, z.2 15, z.2 16, z.2 17]) (fun z => Ahead z.1.length z.1 ∧ 1 ≤ z.1.length ∧ z.1.length ≤ 14) ?_ fun z hz => ⟨z.1, hz, by simp (config := { implicitDefEqProofs := false }) [Hv.s1, Hv.s2, Hv.s3, Hv.s4, Hv.s5, Hv.s6, Hv.s7, Hv.s8, Hv.s9, Hv.s10, Hv.s11, Hv.s12, Hv.s13, Hv.s14, Hv.s15, Hv.s16, Hv.s17, Hv.s18, Hv.s19, Hv.s20, Hv.s21, Hv.s22, Hv.s23, Hv.s24, Hv.s25, Hv.s26, Hv.s27, Hv.s28, Hv.s29, Hv.s30, Hv.s31, Hv.s32, Hv.s33, Hv.s34, Hv.s35, Hv.s36, Hv.s37, Hv.s38, Hv.v1, Hv.v2, Hv.v3, Hv.v4, Hv.v6, Hv.v7, Hv.v8, Hv.v9, Hv.v10, Hv.v11, Hv.e1, Hv.e2, Hv.e3, Hv.e4, Hv.e5, Hv.e6, Hv.e7, Hv.e8, Hv.e9, Hv.e10, Hv.e11, Hv.e12, Hv.e13, Hv.e14, Hv.e16, Hv.e17, Hv.e18, Hv.e19, Hv.e20, Hv.e21, Hv.e22, Hv.e23, Hv.e24, Hv.e25, Hv.e26, Hv.x1, Hv.x2, Hv.x6, Hv.x7, Hv.x8, Hv.x9, Hv.x12, Hv.x13, Hv.x14, Hv.x15, Hv.x16, Hv.x17, Hv.x21, Hv.x22, Hv.x23, Hv.x24, Hv.x25, Hv.x26, Hv.x27, Hv.x28, Hv.x29, Hv.x30, Hv.y0, Hv.y1, Hv.y2, Hv.y3, Hv.y4, Hv.y5, Hv.x31, Hv.x32, Hv.x33, Hv.x34, Hv.x35, Hv.x36, Hv.x39, Hv.a1, Hv.a2, Hv.k1, Hv.k4, Hv.k6, Hv.k7, Hv.k8, Hv.k9, Hv.k10, Hv.t0, Hv.t1, Hv.t2, Hv.t3, Hv.t4, Hv.t5, Hv.t6, Hv.t7, Hv.t8, Hv.t9, Hv.t10, Hv.t11, Hv.t12, Hv.t13, Hv.t14, Hv.t14', Hv.t15, Hv.t16, Hv.t17, Hv.t18, Hv.t19, Hv.t20, Hv.t21, Hv.t22, Hv.t23, Hv.t24, Hv.t25, Hv.t26, Hv.t28, Hv.r2, Hv.r3, Hv.r4, Hv.z1, Hv.z2, Hv.z3, Hv.mutDs_int, Hv.intsOf_int, Hv.startE, Hv.isNew, List.set]⟩
  obtain ⟨n, rfl⟩ := Int.eq_ofNat_of_zero_le (show 0 ≤ c by omega)
  rw [t13]
  have e9 : seqR (evs (C (k + 3)) T.G [E.var 4] [some (.v (IL ns)), some (.v (.int 0)), some (.v (.int 14)), some (oL (d8.map .int)), some (.v (.int (n : Nat))), some (oL (ds.map .int)), some (oL (qs.map qd)), some (oL RL), some (oL TL), some (oL []), none, none, none, none, none, none, none, none]) = .ok [.v (.int (n : Nat))] [] := by simp (config := { implicitDefEqProofs := false }) [Hv.s1, Hv.s2, Hv.s3, Hv.s4, Hv.s5, Hv.s6, Hv.s7, Hv.s8, Hv.s9, Hv.s10, Hv.s11, Hv.s12, Hv.s13, Hv.s14, Hv.s15, Hv.s16, Hv.s17, Hv.s18, Hv.s19, Hv.s20, Hv.s21, Hv.s22, Hv.s23, Hv.s24, Hv.s25, Hv.s26, Hv.s27, Hv.s28, Hv.s29, Hv.s30, Hv.s31, Hv.s32, Hv.s33, Hv.s34, Hv.s35, Hv.s36, Hv.s37, Hv.s38, Hv.v1, Hv.v2, Hv.v3, Hv.v4, Hv.v6, Hv.v7, Hv.v8, Hv.v9, Hv.v10, Hv.v11, Hv.e1, Hv.e2, Hv.e3, Hv.e4, Hv.e5, Hv.e6, Hv.e7, Hv.e8, Hv.e9, Hv.e10, Hv.e11, Hv.e12, Hv.e13, Hv.e14, Hv.e16, Hv.e17, Hv.e18, Hv.e19, Hv.e20, Hv.e21, Hv.e22, Hv.e23, Hv.e24, Hv.e25, Hv.e26, Hv.x1, Hv.x2, Hv.x6, Hv.x7, Hv.x8, Hv.x9, Hv.x12, Hv.x13, Hv.x14, Hv.x15, Hv.x16, Hv.x17, Hv.x21, Hv.x22, Hv.x23, Hv.x24, Hv.x25, Hv.x26, Hv.x27, Hv.x28, Hv.x29, Hv.x30, Hv.y0, Hv.y1, Hv.y2, Hv.y3, Hv.y4, Hv.y5, Hv.x31, Hv.x32, Hv.x33, Hv.x34, Hv.x35, Hv.x36, Hv.x39, Hv.a1, Hv.a2, Hv.k1, Hv.k4, Hv.k6, Hv.k7, Hv.k8, Hv.k9, Hv.k10, Hv.t0, Hv.t1, Hv.t2, Hv.t3, Hv.t4, Hv.t5, Hv.t6, Hv.t7, Hv.t8, Hv.t9, Hv.t10, Hv.t11, Hv.t12, Hv.t13, Hv.t14, Hv.t14', Hv.t15, Hv.t16, Hv.t17, Hv.t18, Hv.t19, Hv.t20, Hv.t21, Hv.t22, Hv.t23, Hv.t24, Hv.t25, Hv.t26, Hv.t28, Hv.r2, Hv.r3, Hv.r4, Hv.z1, Hv.z2, Hv.z3, Hv.mutDs_int, Hv.intsOf_int, Hv.startE, Hv.isNew, List.set]
  rw [e9, s7, f1 (by omega)]
  generalize hf : forR _ _ _ _ = r
  obtain ⟨ρ', rfl, ts, u, h1, h2, rfl⟩ := go_inv hf (fun i ρ => ∃ (ts : List Th) (u : Nat → Option D), ts.length = i ∧ Ahead n ts ∧ ρ = [some (.v (IL ns)), some (.v (.int 0)), some (.v (.int 14)), some (oL (d8.map .int)), some (.v (.int (n : Nat))), some (oL (ds.map .int)), some (oL (qs.map qd)), some (oL RL), some (oL TL), some (oL (ts.map th)), u 10, u 11, u 12, u 13, u 14, u 15, u 16, u 17])
    ⟨[], fun _ => none, rfl, fun i t h => by simp at h, rfl⟩ (fun i p ρ hp ⟨ts, u, h1, h2, e⟩ => by
      obtain ⟨hi, rfl⟩ := rgI_get hp
      subst e
      refine ⟨_, rfl, ?_⟩
      have gi1 : 0 < (i : Int) + 1 := by omega
      have gn : 0 < (n : Int) := by omega
      have gq : 0 < (qs.length : Int) := by omega
      have ix : ∀ j : Int, 0 ≤ j → j ≤ 7 → ixvD 5 (some (some (oL (ds.map .int)))) (.ok (.v (.int (8 * (i : Int) + j))) []) = .ok (.v (.int (gi ds (8 * (i : Int) + j)))) [] := fun j j0 j7 => ixv_o (by omega) (by omega)
      have ix0 : ixvD 5 (some (some (oL (ds.map .int)))) (.ok (.v (.int (8 * (i : Int)))) []) = .ok (.v (.int (gi ds (8 * (i : Int))))) [] := ixv_o (by omega) (by omega)
      have ix1 := ix 1 (by decide) (by decide)
      have ix2 := ix 2 (by decide) (by decide)
      have ix3 := ix 3 (by decide) (by decide)
      have ix4 := ix 4 (by decide) (by decide)
      have ix5 := ix 5 (by decide) (by decide)
      have ix6 := ix 6 (by decide) (by decide)
      have ix7 := ix 7 (by decide) (by decide)
      generalize gi ds (8 * (i : Int)) = y0 at ix0
      generalize gi ds (8 * (i : Int) + 1) = y1 at ix1
      generalize gi ds (8 * (i : Int) + 2) = y2 at ix2
      generalize gi ds (8 * (i : Int) + 3) = y3 at ix3
      generalize gi ds (8 * (i : Int) + 4) = y4 at ix4
      generalize gi ds (8 * (i : Int) + 5) = y5 at ix5
      generalize gi ds (8 * (i : Int) + 6) = y6 at ix6
      generalize gi ds (8 * (i : Int) + 7) = y7 at ix7
      clear ix
      rw [t7, t0]
      refine nx_seqI (fun a : Int => [some (.v (IL ns)), some (.v (.int 0)), some (.v (.int 14)), some (oL (d8.map .int)), some (.v (.int (n : Nat))), some (oL (ds.map .int)), some (oL (qs.map qd)), some (oL RL), some (oL TL), some (oL (ts.map th)), some (.v (.int i)), some (.v (.int a)), u 12, u 13, u 14, u 15, u 16, u 17]) (fun a => -1 ≤ a ∧ a < (i : Int)) ⟨y0 % ((i : Int) + 1) - 1, by have := mod_rng y0 gi1; omega, by simp (config := { implicitDefEqProofs := false }) [Hv.s1, Hv.s2, Hv.s3, Hv.s4, Hv.s5, Hv.s6, Hv.s7, Hv.s8, Hv.s9, Hv.s10, Hv.s11, Hv.s12, Hv.s13, Hv.s14, Hv.s15, Hv.s16, Hv.s17, Hv.s18, Hv.s19, Hv.s20, Hv.s21, Hv.s22, Hv.s23, Hv.s24, Hv.s25, Hv.s26, Hv.s27, Hv.s28, Hv.s29, Hv.s30, Hv.s31, Hv.s32, Hv.s33, Hv.s34, Hv.s35, Hv.s36, Hv.s37, Hv.s38, Hv.v1, Hv.v2, Hv.v3, Hv.v4, Hv.v6, Hv.v7, Hv.v8, Hv.v9, Hv.v10, Hv.v11, Hv.e1, Hv.e2, Hv.e3, Hv.e4, Hv.e5, Hv.e6, Hv.e7, Hv.e8, Hv.e9, Hv.e10, Hv.e11, Hv.e12, Hv.e13, Hv.e14, Hv.e16, Hv.e17, Hv.e18, Hv.e19, Hv.e20, Hv.e21, Hv.e22, Hv.e23, Hv.e24, Hv.e25, Hv.e26, Hv.x1, Hv.x2, Hv.x6, Hv.x7, Hv.x8, Hv.x9, Hv.x12, Hv.x13, Hv.x14, Hv.x15, Hv.x16, Hv.x17, Hv.x21, Hv.x22, Hv.x23, Hv.x24, Hv.x25, Hv.x26, Hv.x27, Hv.x28, Hv.x29, Hv.x30, Hv.y0, Hv.y1, Hv.y2, Hv.y3, Hv.y4, Hv.y5, Hv.x31, Hv.x32, Hv.x33, Hv.x34, Hv.x35, Hv.x36, Hv.x39, Hv.a1, Hv.a2, Hv.k1, Hv.k4, Hv.k6, Hv.k7, Hv.k8, Hv.k9, Hv.k10, Hv.t0, Hv.t1, Hv.t2, Hv.t3, Hv.t4, Hv.t5, Hv.t6, Hv.t7, Hv.t8, Hv.t9, Hv.t10, Hv.t11, Hv.t12, Hv.t13, Hv.t14, Hv.t14', Hv.t15, Hv.t16, Hv.t17, Hv.t18, Hv.t19, Hv.t20, Hv.t21, Hv.t22, Hv.t23, Hv.t24, Hv.t25, Hv.t26, Hv.t28, Hv.r2, Hv.r3, Hv.r4, Hv.z1, Hv.z2, Hv.z3, Hv.mutDs_int, Hv.intsOf_int, Hv.startE, Hv.isNew, List.set, x3 (m8 _), ix0, x5 gi1]⟩ fun a0 ha0 => ?_
      rw [t7, t0]
      refine nx_seqI (fun a : Int => [some (.v (IL ns)), some (.v (.int 0)), some (.v (.int 14)), some (oL (d8.map .int)), some (.v (.int (n : Nat))), some (oL (ds.map .int)), some (oL (qs.map qd)), some (oL RL), some (oL TL), some (oL (ts.map th)), some (.v (.int i)), some (.v (.int a)), u 12, u 13, u 14, u 15, u 16, u 17]) (fun a => -1 ≤ a ∧ a < (i : Int)) (by
        by_cases h : y1 % 3 = 0
        · exact ⟨-1, by omega, by simp (config := { implicitDefEqProofs := false }) [Hv.s1, Hv.s2, Hv.s3, Hv.s4, Hv.s5, Hv.s6, Hv.s7, Hv.s8, Hv.s9, Hv.s10, Hv.s11, Hv.s12, Hv.s13, Hv.s14, Hv.s15, Hv.s16, Hv.s17, Hv.s18, Hv.s19, Hv.s20, Hv.s21, Hv.s22, Hv.s23, Hv.s24, Hv.s25, Hv.s26, Hv.s27, Hv.s28, Hv.s29, Hv.s30, Hv.s31, Hv.s32, Hv.s33, Hv.s34, Hv.s35, Hv.s36, Hv.s37, Hv.s38, Hv.v1, Hv.v2, Hv.v3, Hv.v4, Hv.v6, Hv.v7, Hv.v8, Hv.v9, Hv.v10, Hv.v11, Hv.e1, Hv.e2, Hv.e3, Hv.e4, Hv.e5, Hv.e6, Hv.e7, Hv.e8, Hv.e9, Hv.e10, Hv.e11, Hv.e12, Hv.e13, Hv.e14, Hv.e16, Hv.e17, Hv.e18, Hv.e19, Hv.e20, Hv.e21, Hv.e22, Hv.e23, Hv.e24, Hv.e25, Hv.e26, Hv.x1, Hv.x2, Hv.x6, Hv.x7, Hv.x8, Hv.x9, Hv.x12, Hv.x13, Hv.x14, Hv.x15, Hv.x16, Hv.x17, Hv.x21, Hv.x22, Hv.x23, Hv.x24, Hv.x25, Hv.x26, Hv.x27, Hv.x28, Hv.x29, Hv.x30, Hv.y0, Hv.y1, Hv.y2, Hv.y3, Hv.y4, Hv.y5, Hv.x31, Hv.x32, Hv.x33, Hv.x34, Hv.x35, Hv.x36, Hv.x39, Hv.a1, Hv.a2, Hv.k1, Hv.k4, Hv.k6, Hv.k7, Hv.k8, Hv.k9, Hv.k10, Hv.t0, Hv.t1, Hv.t2, Hv.t3, Hv.t4, Hv.t5, Hv.t6, Hv.t7, Hv.t8, Hv.t9, Hv.t10, Hv.t11, Hv.t12, Hv.t13, Hv.t14, Hv.t14', Hv.t15, Hv.t16, Hv.t17, Hv.t18, Hv.t19, Hv.t20, Hv.t21, Hv.t22, Hv.t23, Hv.t24, Hv.t25, Hv.t26, Hv.t28, Hv.r2, Hv.r3, Hv.r4, Hv.z1, Hv.z2, Hv.z3, Hv.mutDs_int, Hv.intsOf_int, Hv.startE, Hv.isNew, List.set, x3 (m8 _), ix1, x5 g3, cmp_eqi, h]⟩
        · exact ⟨a0, ha0, by simp (config := { implicitDefEqProofs := false }) [Hv.s1, Hv.s2, Hv.s3, Hv.s4, Hv.s5, Hv.s6, Hv.s7, Hv.s8, Hv.s9, Hv.s10, Hv.s11, Hv.s12, Hv.s13, Hv.s14, Hv.s15, Hv.s16, Hv.s17, Hv.s18, Hv.s19, Hv.s20, Hv.s21, Hv.s22, Hv.s23, Hv.s24, Hv.s25, Hv.s26, Hv.s27, Hv.s28, Hv.s29, Hv.s30, Hv.s31, Hv.s32, Hv.s33, Hv.s34, Hv.s35, Hv.s36, Hv.s37, Hv.s38, Hv.v1, Hv.v2, Hv.v3, Hv.v4, Hv.v6, Hv.v7, Hv.v8, Hv.v9, Hv.v10, Hv.v11, Hv.e1, Hv.e2, Hv.e3, Hv.e4, Hv.e5, Hv.e6, Hv.e7, Hv.e8, Hv.e9, Hv.e10, Hv.e11, Hv.e12, Hv.e13, Hv.e14, Hv.e16, Hv.e17, Hv.e18, Hv.e19, Hv.e20, Hv.e21, Hv.e22, Hv.e23, Hv.e24, Hv.e25, Hv.e26, Hv.x1, Hv.x2, Hv.x6, Hv.x7, Hv.x8, Hv.x9, Hv.x12, Hv.x13, Hv.x14, Hv.x15, Hv.x16, Hv.x17, Hv.x21, Hv.x22, Hv.x23, Hv.x24, Hv.x25, Hv.x26, Hv.x27, Hv.x28, Hv.x29, Hv.x30, Hv.y0, Hv.y1, Hv.y2, Hv.y3, Hv.y4, Hv.y5, Hv.x31, Hv.x32, Hv.x33, Hv.x34, Hv.x35, Hv.x36, Hv.x39, Hv.a1, Hv.a2, Hv.k1, Hv.k4, Hv.k6, Hv.k7, Hv.k8, Hv.k9, Hv.k10, Hv.t0, Hv.t1, Hv.t2, Hv.t3, Hv.t4, Hv.t5, Hv.t6, Hv.t7, Hv.t8, Hv.t9, Hv.t10, Hv.t11, Hv.t12, Hv.t13, Hv.t14, Hv.t14', Hv.t15, Hv.t16, Hv.t17, Hv.t18, Hv.t19, Hv.t20, Hv.t21, Hv.t22, Hv.t23, Hv.t24, Hv.t25, Hv.t26, Hv.t28, Hv.r2, Hv.r3, Hv.r4, Hv.z1, Hv.z2, Hv.z3, Hv.mutDs_int, Hv.intsOf_int, Hv.startE, Hv.isNew, List.set, x3 (m8 _), ix1, x5 g3, cmp_eqi, h]⟩) fun pa hpa => ?_
      rw [t7, t0]
      refine nx_seqI (fun r : Str => [some (.v (IL ns)), some (.v (.int 0)), some (.v (.int 14)), some (oL (d8.map .int)), some (.v (.int (n : Nat))), some (oL (ds.map .int)), some (oL (qs.map qd)), some (oL RL), some (oL TL), some (oL (ts.map th)), some (.v (.int i)), some (.v (.int pa)), some (.v (.str r)), u 13, u 14, u 15, u 16, u 17]) (fun r => r ∈ ROL) (by
        obtain ⟨r, hrm, hr⟩ := strs_get hRL.2 (mod_rng y2 g12).1 (by have := (mod_rng y2 g12).2; omega)
        exact ⟨r, hrm, by simp (config := { implicitDefEqProofs := false }) [Hv.s1, Hv.s2, Hv.s3, Hv.s4, Hv.s5, Hv.s6, Hv.s7, Hv.s8, Hv.s9, Hv.s10, Hv.s11, Hv.s12, Hv.s13, Hv.s14, Hv.s15, Hv.s16, Hv.s17, Hv.s18, Hv.s19, Hv.s20, Hv.s21, Hv.s22, Hv.s23, Hv.s24, Hv.s25, Hv.s26, Hv.s27, Hv.s28, Hv.s29, Hv.s30, Hv.s31, Hv.s32, Hv.s33, Hv.s34, Hv.s35, Hv.s36, Hv.s37, Hv.s38, Hv.v1, Hv.v2, Hv.v3, Hv.v4, Hv.v6, Hv.v7, Hv.v8, Hv.v9, Hv.v10, Hv.v11, Hv.e1, Hv.e2, Hv.e3, Hv.e4, Hv.e5, Hv.e6, Hv.e7, Hv.e8, Hv.e9, Hv.e10, Hv.e11, Hv.e12, Hv.e13, Hv.e14, Hv.e16, Hv.e17, Hv.e18, Hv.e19, Hv.e20, Hv.e21, Hv.e22, Hv.e23, Hv.e24, Hv.e25, Hv.e26, Hv.x1, Hv.x2, Hv.x6, Hv.x7, Hv.x8, Hv.x9, Hv.x12, Hv.x13, Hv.x14, Hv.x15, Hv.x16, Hv.x17, Hv.x21, Hv.x22, Hv.x23, Hv.x24, Hv.x25, Hv.x26, Hv.x27, Hv.x28, Hv.x29, Hv.x30, Hv.y0, Hv.y1, Hv.y2, Hv.y3, Hv.y4, Hv.y5, Hv.x31, Hv.x32, Hv.x33, Hv.x34, Hv.x35, Hv.x36, Hv.x39, Hv.a1, Hv.a2, Hv.k1, Hv.k4, Hv.k6, Hv.k7, Hv.k8, Hv.k9, Hv.k10, Hv.t0, Hv.t1, Hv.t2, Hv.t3, Hv.t4, Hv.t5, Hv.t6, Hv.t7, Hv.t8, Hv.t9, Hv.t10, Hv.t11, Hv.t12, Hv.t13, Hv.t14, Hv.t14', Hv.t15, Hv.t16, Hv.t17, Hv.t18, Hv.t19, Hv.t20, Hv.t21, Hv.t22, Hv.t23, Hv.t24, Hv.t25, Hv.t26, Hv.t28, Hv.r2, Hv.r3, Hv.r4, Hv.z1, Hv.z2, Hv.z3, Hv.mutDs_int, Hv.intsOf_int, Hv.startE, Hv.isNew, List.set, x3 (m8 _), ix2, x5 g12, ixq_o (mod_rng y2 g12).1 hr]⟩) fun r0 hr0 => ?_
      rw [t7, t0]
      refine nx_seqI (fun r : Str => [some (.v (IL ns)), some (.v (.int 0)), some (.v (.int 14)), some (oL (d8.map .int)), some (.v (.int (n : Nat))), some (oL (ds.map .int)), some (oL (qs.map qd)), some (oL RL), some (oL TL), some (oL (ts.map th)), some (.v (.int i)), some (.v (.int pa)), some (.v (.str r)), u 13, u 14, u 15, u 16, u 17]) (fun r => r ∈ ROL) (by
        by_cases h : 0 < y2 / 12 % 3
        · obtain ⟨r, hrm, hr⟩ := strs_get (P := fun r => r ∈ ROL) (L := [.str "item", .str "heading", .str "button", .str "link"]) (fun p hp => by obtain ⟨x, hx, e⟩ := List.mem_map.mp (show p ∈ (["item", "heading", "button", "link"] : List Str).map PyData.str from hp); exact ⟨x, (by decide +kernel : ∀ x ∈ (["item", "heading", "button", "link"] : List Str), x ∈ ROL) x hx, e.symm⟩) (mod_rng (y2 / 36) g4).1 (by have := (mod_rng (y2 / 36) g4).2; exact this)
          exact ⟨r, hrm, by simp (config := { implicitDefEqProofs := false }) [Hv.s1, Hv.s2, Hv.s3, Hv.s4, Hv.s5, Hv.s6, Hv.s7, Hv.s8, Hv.s9, Hv.s10, Hv.s11, Hv.s12, Hv.s13, Hv.s14, Hv.s15, Hv.s16, Hv.s17, Hv.s18, Hv.s19, Hv.s20, Hv.s21, Hv.s22, Hv.s23, Hv.s24, Hv.s25, Hv.s26, Hv.s27, Hv.s28, Hv.s29, Hv.s30, Hv.s31, Hv.s32, Hv.s33, Hv.s34, Hv.s35, Hv.s36, Hv.s37, Hv.s38, Hv.v1, Hv.v2, Hv.v3, Hv.v4, Hv.v6, Hv.v7, Hv.v8, Hv.v9, Hv.v10, Hv.v11, Hv.e1, Hv.e2, Hv.e3, Hv.e4, Hv.e5, Hv.e6, Hv.e7, Hv.e8, Hv.e9, Hv.e10, Hv.e11, Hv.e12, Hv.e13, Hv.e14, Hv.e16, Hv.e17, Hv.e18, Hv.e19, Hv.e20, Hv.e21, Hv.e22, Hv.e23, Hv.e24, Hv.e25, Hv.e26, Hv.x1, Hv.x2, Hv.x6, Hv.x7, Hv.x8, Hv.x9, Hv.x12, Hv.x13, Hv.x14, Hv.x15, Hv.x16, Hv.x17, Hv.x21, Hv.x22, Hv.x23, Hv.x24, Hv.x25, Hv.x26, Hv.x27, Hv.x28, Hv.x29, Hv.x30, Hv.y0, Hv.y1, Hv.y2, Hv.y3, Hv.y4, Hv.y5, Hv.x31, Hv.x32, Hv.x33, Hv.x34, Hv.x35, Hv.x36, Hv.x39, Hv.a1, Hv.a2, Hv.k1, Hv.k4, Hv.k6, Hv.k7, Hv.k8, Hv.k9, Hv.k10, Hv.t0, Hv.t1, Hv.t2, Hv.t3, Hv.t4, Hv.t5, Hv.t6, Hv.t7, Hv.t8, Hv.t9, Hv.t10, Hv.t11, Hv.t12, Hv.t13, Hv.t14, Hv.t14', Hv.t15, Hv.t16, Hv.t17, Hv.t18, Hv.t19, Hv.t20, Hv.t21, Hv.t22, Hv.t23, Hv.t24, Hv.t25, Hv.t26, Hv.t28, Hv.r2, Hv.r3, Hv.r4, Hv.z1, Hv.z2, Hv.z3, Hv.mutDs_int, Hv.intsOf_int, Hv.startE, Hv.isNew, List.set, x3 (m8 _), ix2, x4 q12, x5 g3, h, ei_lst, zl4, x4 q36, x5 g4, ixq_v (mod_rng (y2 / 36) g4).1 hr, itR_s]⟩
        · exact ⟨r0, hr0, by simp (config := { implicitDefEqProofs := false }) [Hv.s1, Hv.s2, Hv.s3, Hv.s4, Hv.s5, Hv.s6, Hv.s7, Hv.s8, Hv.s9, Hv.s10, Hv.s11, Hv.s12, Hv.s13, Hv.s14, Hv.s15, Hv.s16, Hv.s17, Hv.s18, Hv.s19, Hv.s20, Hv.s21, Hv.s22, Hv.s23, Hv.s24, Hv.s25, Hv.s26, Hv.s27, Hv.s28, Hv.s29, Hv.s30, Hv.s31, Hv.s32, Hv.s33, Hv.s34, Hv.s35, Hv.s36, Hv.s37, Hv.s38, Hv.v1, Hv.v2, Hv.v3, Hv.v4, Hv.v6, Hv.v7, Hv.v8, Hv.v9, Hv.v10, Hv.v11, Hv.e1, Hv.e2, Hv.e3, Hv.e4, Hv.e5, Hv.e6, Hv.e7, Hv.e8, Hv.e9, Hv.e10, Hv.e11, Hv.e12, Hv.e13, Hv.e14, Hv.e16, Hv.e17, Hv.e18, Hv.e19, Hv.e20, Hv.e21, Hv.e22, Hv.e23, Hv.e24, Hv.e25, Hv.e26, Hv.x1, Hv.x2, Hv.x6, Hv.x7, Hv.x8, Hv.x9, Hv.x12, Hv.x13, Hv.x14, Hv.x15, Hv.x16, Hv.x17, Hv.x21, Hv.x22, Hv.x23, Hv.x24, Hv.x25, Hv.x26, Hv.x27, Hv.x28, Hv.x29, Hv.x30, Hv.y0, Hv.y1, Hv.y2, Hv.y3, Hv.y4, Hv.y5, Hv.x31, Hv.x32, Hv.x33, Hv.x34, Hv.x35, Hv.x36, Hv.x39, Hv.a1, Hv.a2, Hv.k1, Hv.k4, Hv.k6, Hv.k7, Hv.k8, Hv.k9, Hv.k10, Hv.t0, Hv.t1, Hv.t2, Hv.t3, Hv.t4, Hv.t5, Hv.t6, Hv.t7, Hv.t8, Hv.t9, Hv.t10, Hv.t11, Hv.t12, Hv.t13, Hv.t14, Hv.t14', Hv.t15, Hv.t16, Hv.t17, Hv.t18, Hv.t19, Hv.t20, Hv.t21, Hv.t22, Hv.t23, Hv.t24, Hv.t25, Hv.t26, Hv.t28, Hv.r2, Hv.r3, Hv.r4, Hv.z1, Hv.z2, Hv.z3, Hv.mutDs_int, Hv.intsOf_int, Hv.startE, Hv.isNew, List.set, x3 (m8 _), ix2, x4 q12, x5 g3, h]⟩) fun ro hro => ?_
      rw [t7, t0]
      refine nx_seq [some (.v (IL ns)), some (.v (.int 0)), some (.v (.int 14)), some (oL (d8.map .int)), some (.v (.int (n : Nat))), some (oL (ds.map .int)), some (oL (qs.map qd)), some (oL RL), some (oL TL), some (oL (ts.map th)), some (.v (.int i)), some (.v (.int pa)), some (.v (.str ro)), some (.v (.tuple [])), u 14, u 15, u 16, u 17] (by simp (config := { implicitDefEqProofs := false }) [Hv.s1, Hv.s2, Hv.s3, Hv.s4, Hv.s5, Hv.s6, Hv.s7, Hv.s8, Hv.s9, Hv.s10, Hv.s11, Hv.s12, Hv.s13, Hv.s14, Hv.s15, Hv.s16, Hv.s17, Hv.s18, Hv.s19, Hv.s20, Hv.s21, Hv.s22, Hv.s23, Hv.s24, Hv.s25, Hv.s26, Hv.s27, Hv.s28, Hv.s29, Hv.s30, Hv.s31, Hv.s32, Hv.s33, Hv.s34, Hv.s35, Hv.s36, Hv.s37, Hv.s38, Hv.v1, Hv.v2, Hv.v3, Hv.v4, Hv.v6, Hv.v7, Hv.v8, Hv.v9, Hv.v10, Hv.v11, Hv.e1, Hv.e2, Hv.e3, Hv.e4, Hv.e5, Hv.e6, Hv.e7, Hv.e8, Hv.e9, Hv.e10, Hv.e11, Hv.e12, Hv.e13, Hv.e14, Hv.e16, Hv.e17, Hv.e18, Hv.e19, Hv.e20, Hv.e21, Hv.e22, Hv.e23, Hv.e24, Hv.e25, Hv.e26, Hv.x1, Hv.x2, Hv.x6, Hv.x7, Hv.x8, Hv.x9, Hv.x12, Hv.x13, Hv.x14, Hv.x15, Hv.x16, Hv.x17, Hv.x21, Hv.x22, Hv.x23, Hv.x24, Hv.x25, Hv.x26, Hv.x27, Hv.x28, Hv.x29, Hv.x30, Hv.y0, Hv.y1, Hv.y2, Hv.y3, Hv.y4, Hv.y5, Hv.x31, Hv.x32, Hv.x33, Hv.x34, Hv.x35, Hv.x36, Hv.x39, Hv.a1, Hv.a2, Hv.k1, Hv.k4, Hv.k6, Hv.k7, Hv.k8, Hv.k9, Hv.k10, Hv.t0, Hv.t1, Hv.t2, Hv.t3, Hv.t4, Hv.t5, Hv.t6, Hv.t7, Hv.t8, Hv.t9, Hv.t10, Hv.t11, Hv.t12, Hv.t13, Hv.t14, Hv.t14', Hv.t15, Hv.t16, Hv.t17, Hv.t18, Hv.t19, Hv.t20, Hv.t21, Hv.t22, Hv.t23, Hv.t24, Hv.t25, Hv.t26, Hv.t28, Hv.r2, Hv.r3, Hv.r4, Hv.z1, Hv.z2, Hv.z3, Hv.mutDs_int, Hv.intsOf_int, Hv.startE, Hv.isNew, List.set, tupD, isNews, mkT]) ?_
      rw [t7, t0]
      refine nx_seqI (fun z : List Int × (Nat → Option D) => [some (.v (IL ns)), some (.v (.int 0)), some (.v (.int 14)), some (oL (d8.map .int)), some (.v (.int (n : Nat))), some (oL (ds.map .int)), some (oL (qs.map qd)), some (oL RL), some (oL TL), some (oL (ts.map th)), some (.v (.int i)), some (.v (.int pa)), some (.v (.str ro)), some (.v (.tuple (z.1.map .int))), u 14, u 15, z.2 16, z.2 17]) (fun z => (z.1.Nodup ∧ ∀ r ∈ z.1, 0 ≤ r ∧ r < (n : Int)) ∧ z.1.length ≤ 2) (by
        refine eq_ife (decide (y3 % 5 = 0)) (by by_cases h : y3 % 5 = 0 <;> simp (config := { implicitDefEqProofs := false }) [Hv.s1, Hv.s2, Hv.s3, Hv.s4, Hv.s5, Hv.s6, Hv.s7, Hv.s8, Hv.s9, Hv.s10, Hv.s11, Hv.s12, Hv.s13, Hv.s14, Hv.s15, Hv.s16, Hv.s17, Hv.s18, Hv.s19, Hv.s20, Hv.s21, Hv.s22, Hv.s23, Hv.s24, Hv.s25, Hv.s26, Hv.s27, Hv.s28, Hv.s29, Hv.s30, Hv.s31, Hv.s32, Hv.s33, Hv.s34, Hv.s35, Hv.s36, Hv.s37, Hv.s38, Hv.v1, Hv.v2, Hv.v3, Hv.v4, Hv.v6, Hv.v7, Hv.v8, Hv.v9, Hv.v10, Hv.v11, Hv.e1, Hv.e2, Hv.e3, Hv.e4, Hv.e5, Hv.e6, Hv.e7, Hv.e8, Hv.e9, Hv.e10, Hv.e11, Hv.e12, Hv.e13, Hv.e14, Hv.e16, Hv.e17, Hv.e18, Hv.e19, Hv.e20, Hv.e21, Hv.e22, Hv.e23, Hv.e24, Hv.e25, Hv.e26, Hv.x1, Hv.x2, Hv.x6, Hv.x7, Hv.x8, Hv.x9, Hv.x12, Hv.x13, Hv.x14, Hv.x15, Hv.x16, Hv.x17, Hv.x21, Hv.x22, Hv.x23, Hv.x24, Hv.x25, Hv.x26, Hv.x27, Hv.x28, Hv.x29, Hv.x30, Hv.y0, Hv.y1, Hv.y2, Hv.y3, Hv.y4, Hv.y5, Hv.x31, Hv.x32, Hv.x33, Hv.x34, Hv.x35, Hv.x36, Hv.x39, Hv.a1, Hv.a2, Hv.k1, Hv.k4, Hv.k6, Hv.k7, Hv.k8, Hv.k9, Hv.k10, Hv.t0, Hv.t1, Hv.t2, Hv.t3, Hv.t4, Hv.t5, Hv.t6, Hv.t7, Hv.t8, Hv.t9, Hv.t10, Hv.t11, Hv.t12, Hv.t13, Hv.t14, Hv.t14', Hv.t15, Hv.t16, Hv.t17, Hv.t18, Hv.t19, Hv.t20, Hv.t21, Hv.t22, Hv.t23, Hv.t24, Hv.t25, Hv.t26, Hv.t28, Hv.r2, Hv.r3, Hv.r4, Hv.z1, Hv.z2, Hv.z3, Hv.mutDs_int, Hv.intsOf_int, Hv.startE, Hv.isNew, List.set, x3 (m8 _), ix3, x5 g5, cmp_eqi, h]) (fun _ => ?_) fun _ => eq_nil ([], u) ⟨⟨List.nodup_nil, fun _ h => by cases h⟩, Nat.zero_le _⟩ rfl
        rw [t0]
        refine eq_seqI (fun o : Int => [some (.v (IL ns)), some (.v (.int 0)), some (.v (.int 14)), some (oL (d8.map .int)), some (.v (.int (n : Nat))), some (oL (ds.map .int)), some (oL (qs.map qd)), some (oL RL), some (oL TL), some (oL (ts.map th)), some (.v (.int i)), some (.v (.int pa)), some (.v (.str ro)), some (.v (.tuple [])), u 14, u 15, some (.v (.int o)), u 17]) (fun o => 0 ≤ o ∧ o < (n : Int)) ⟨y4 % (n : Int), mod_rng _ gn, by simp (config := { implicitDefEqProofs := false }) [Hv.s1, Hv.s2, Hv.s3, Hv.s4, Hv.s5, Hv.s6, Hv.s7, Hv.s8, Hv.s9, Hv.s10, Hv.s11, Hv.s12, Hv.s13, Hv.s14, Hv.s15, Hv.s16, Hv.s17, Hv.s18, Hv.s19, Hv.s20, Hv.s21, Hv.s22, Hv.s23, Hv.s24, Hv.s25, Hv.s26, Hv.s27, Hv.s28, Hv.s29, Hv.s30, Hv.s31, Hv.s32, Hv.s33, Hv.s34, Hv.s35, Hv.s36, Hv.s37, Hv.s38, Hv.v1, Hv.v2, Hv.v3, Hv.v4, Hv.v6, Hv.v7, Hv.v8, Hv.v9, Hv.v10, Hv.v11, Hv.e1, Hv.e2, Hv.e3, Hv.e4, Hv.e5, Hv.e6, Hv.e7, Hv.e8, Hv.e9, Hv.e10, Hv.e11, Hv.e12, Hv.e13, Hv.e14, Hv.e16, Hv.e17, Hv.e18, Hv.e19, Hv.e20, Hv.e21, Hv.e22, Hv.e23, Hv.e24, Hv.e25, Hv.e26, Hv.x1, Hv.x2, Hv.x6, Hv.x7, Hv.x8, Hv.x9, Hv.x12, Hv.x13, Hv.x14, Hv.x15, Hv.x16, Hv.x17, Hv.x21, Hv.x22, Hv.x23, Hv.x24, Hv.x25, Hv.x26, Hv.x27, Hv.x28, Hv.x29, Hv.x30, Hv.y0, Hv.y1, Hv.y2, Hv.y3, Hv.y4, Hv.y5, Hv.x31, Hv.x32, Hv.x33, Hv.x34, Hv.x35, Hv.x36, Hv.x39, Hv.a1, Hv.a2, Hv.k1, Hv.k4, Hv.k6, Hv.k7, Hv.k8, Hv.k9, Hv.k10, Hv.t0, Hv.t1, Hv.t2, Hv.t3, Hv.t4, Hv.t5, Hv.t6, Hv.t7, Hv.t8, Hv.t9, Hv.t10, Hv.t11, Hv.t12, Hv.t13, Hv.t14, Hv.t14', Hv.t15, Hv.t16, Hv.t17, Hv.t18, Hv.t19, Hv.t20, Hv.t21, Hv.t22, Hv.t23, Hv.t24, Hv.t25, Hv.t26, Hv.t28, Hv.r2, Hv.r3, Hv.r4, Hv.z1, Hv.z2, Hv.z3, Hv.mutDs_int, Hv.intsOf_int, Hv.startE, Hv.isNew, List.set, x3 (m8 _), ix4, x5 gn]⟩ fun o ho => ?_
        rw [t7, t0]
        refine eq_seqI (fun o2 : Int => [some (.v (IL ns)), some (.v (.int 0)), some (.v (.int 14)), some (oL (d8.map .int)), some (.v (.int (n : Nat))), some (oL (ds.map .int)), some (oL (qs.map qd)), some (oL RL), some (oL TL), some (oL (ts.map th)), some (.v (.int i)), some (.v (.int pa)), some (.v (.str ro)), some (.v (.tuple [])), u 14, u 15, some (.v (.int o)), some (.v (.int o2))]) (fun o => 0 ≤ o ∧ o < (n : Int)) ⟨y5 % (n : Int), mod_rng _ gn, by simp (config := { implicitDefEqProofs := false }) [Hv.s1, Hv.s2, Hv.s3, Hv.s4, Hv.s5, Hv.s6, Hv.s7, Hv.s8, Hv.s9, Hv.s10, Hv.s11, Hv.s12, Hv.s13, Hv.s14, Hv.s15, Hv.s16, Hv.s17, Hv.s18, Hv.s19, Hv.s20, Hv.s21, Hv.s22, Hv.s23, Hv.s24, Hv.s25, Hv.s26, Hv.s27, Hv.s28, Hv.s29, Hv.s30, Hv.s31, Hv.s32, Hv.s33, Hv.s34, Hv.s35, Hv.s36, Hv.s37, Hv.s38, Hv.v1, Hv.v2, Hv.v3, Hv.v4, Hv.v6, Hv.v7, Hv.v8, Hv.v9, Hv.v10, Hv.v11, Hv.e1, Hv.e2, Hv.e3, Hv.e4, Hv.e5, Hv.e6, Hv.e7, Hv.e8, Hv.e9, Hv.e10, Hv.e11, Hv.e12, Hv.e13, Hv.e14, Hv.e16, Hv.e17, Hv.e18, Hv.e19, Hv.e20, Hv.e21, Hv.e22, Hv.e23, Hv.e24, Hv.e25, Hv.e26, Hv.x1, Hv.x2, Hv.x6, Hv.x7, Hv.x8, Hv.x9, Hv.x12, Hv.x13, Hv.x14, Hv.x15, Hv.x16, Hv.x17, Hv.x21, Hv.x22, Hv.x23, Hv.x24, Hv.x25, Hv.x26, Hv.x27, Hv.x28, Hv.x29, Hv.x30, Hv.y0, Hv.y1, Hv.y2, Hv.y3, Hv.y4, Hv.y5, Hv.x31, Hv.x32, Hv.x33, Hv.x34, Hv.x35, Hv.x36, Hv.x39, Hv.a1, Hv.a2, Hv.k1, Hv.k4, Hv.k6, Hv.k7, Hv.k8, Hv.k9, Hv.k10, Hv.t0, Hv.t1, Hv.t2, Hv.t3, Hv.t4, Hv.t5, Hv.t6, Hv.t7, Hv.t8, Hv.t9, Hv.t10, Hv.t11, Hv.t12, Hv.t13, Hv.t14, Hv.t14', Hv.t15, Hv.t16, Hv.t17, Hv.t18, Hv.t19, Hv.t20, Hv.t21, Hv.t22, Hv.t23, Hv.t24, Hv.t25, Hv.t26, Hv.t28, Hv.r2, Hv.r3, Hv.r4, Hv.z1, Hv.z2, Hv.z3, Hv.mutDs_int, Hv.intsOf_int, Hv.startE, Hv.isNew, List.set, x3 (m8 _), ix5, x5 gn]⟩ fun o2 ho2 => ?_
        rw [t7, t0]
        refine eq_seqI (fun rf : List Int => [some (.v (IL ns)), some (.v (.int 0)), some (.v (.int 14)), some (oL (d8.map .int)), some (.v (.int (n : Nat))), some (oL (ds.map .int)), some (oL (qs.map qd)), some (oL RL), some (oL TL), some (oL (ts.map th)), some (.v (.int i)), some (.v (.int pa)), some (.v (.str ro)), some (.v (.tuple (rf.map .int))), u 14, u 15, some (.v (.int o)), some (.v (.int o2))]) (fun rf => rf.length ≤ 2 ∧ ∀ r ∈ rf, 0 ≤ r ∧ r < (n : Int)) (by
          obtain ⟨rf, hr2, hrf⟩ := tups_get (P := fun rf => ∀ r ∈ rf, 0 ≤ r ∧ r < (n : Int)) (L := [.tuple [.int o], .tuple [.int o, .int o2], .tuple [.int o2], .tuple [.int i], .tuple [.int (if (i : Int) < o then (i : Int) else o)], .tuple [.int i, .int o]]) (by
            intro p hp
            simp only [List.mem_cons, List.not_mem_nil, or_false] at hp
            rcases hp with rfl | rfl | rfl | rfl | rfl | rfl
            · exact ⟨[_], ⟨by simp, by simp; omega⟩, rfl⟩
            · exact ⟨[_, _], ⟨by simp, by simp; omega⟩, rfl⟩
            · exact ⟨[_], ⟨by simp, by simp; omega⟩, rfl⟩
            · exact ⟨[_], ⟨by simp, by simp; omega⟩, rfl⟩
            · exact ⟨[_], ⟨by simp, by simp; omega⟩, rfl⟩
            · exact ⟨[_, _], ⟨by simp, by simp; omega⟩, rfl⟩) (mod_rng (y3 / 5) g6).1 (by have := (mod_rng (y3 / 5) g6).2; exact this)
          refine ⟨rf, hr2, ?_⟩
          simp (config := { implicitDefEqProofs := false }) [Hv.s1, Hv.s2, Hv.s3, Hv.s4, Hv.s5, Hv.s6, Hv.s7, Hv.s8, Hv.s9, Hv.s10, Hv.s11, Hv.s12, Hv.s13, Hv.s14, Hv.s15, Hv.s16, Hv.s17, Hv.s18, Hv.s19, Hv.s20, Hv.s21, Hv.s22, Hv.s23, Hv.s24, Hv.s25, Hv.s26, Hv.s27, Hv.s28, Hv.s29, Hv.s30, Hv.s31, Hv.s32, Hv.s33, Hv.s34, Hv.s35, Hv.s36, Hv.s37, Hv.s38, Hv.v1, Hv.v2, Hv.v3, Hv.v4, Hv.v6, Hv.v7, Hv.v8, Hv.v9, Hv.v10, Hv.v11, Hv.e1, Hv.e2, Hv.e3, Hv.e4, Hv.e5, Hv.e6, Hv.e7, Hv.e8, Hv.e9, Hv.e10, Hv.e11, Hv.e12, Hv.e13, Hv.e14, Hv.e16, Hv.e17, Hv.e18, Hv.e19, Hv.e20, Hv.e21, Hv.e22, Hv.e23, Hv.e24, Hv.e25, Hv.e26, Hv.x1, Hv.x2, Hv.x6, Hv.x7, Hv.x8, Hv.x9, Hv.x12, Hv.x13, Hv.x14, Hv.x15, Hv.x16, Hv.x17, Hv.x21, Hv.x22, Hv.x23, Hv.x24, Hv.x25, Hv.x26, Hv.x27, Hv.x28, Hv.x29, Hv.x30, Hv.y0, Hv.y1, Hv.y2, Hv.y3, Hv.y4, Hv.y5, Hv.x31, Hv.x32, Hv.x33, Hv.x34, Hv.x35, Hv.x36, Hv.x39, Hv.a1, Hv.a2, Hv.k1, Hv.k4, Hv.k6, Hv.k7, Hv.k8, Hv.k9, Hv.k10, Hv.t0, Hv.t1, Hv.t2, Hv.t3, Hv.t4, Hv.t5, Hv.t6, Hv.t7, Hv.t8, Hv.t9, Hv.t10, Hv.t11, Hv.t12, Hv.t13, Hv.t14, Hv.t14', Hv.t15, Hv.t16, Hv.t17, Hv.t18, Hv.t19, Hv.t20, Hv.t21, Hv.t22, Hv.t23, Hv.t24, Hv.t25, Hv.t26, Hv.t28, Hv.r2, Hv.r3, Hv.r4, Hv.z1, Hv.z2, Hv.z3, Hv.mutDs_int, Hv.intsOf_int, Hv.startE, Hv.isNew, List.set, x3 (m8 _), ix3, x4 q5, x5 g6, ei_lst, tupD, isFz, md1, md5, mkT, isNews, isNew, zl6, ixq_v (mod_rng (y3 / 5) g6).1 hrf, x37 (show mutD (.tuple (rf.map .int)) = false by rw [md6]; exact mutDs_int rf)]) fun rf hr2 => ?_
        rw [t7, t0]
        refine eq_seqI (fun rf : List Int => [some (.v (IL ns)), some (.v (.int 0)), some (.v (.int 14)), some (oL (d8.map .int)), some (.v (.int (n : Nat))), some (oL (ds.map .int)), some (oL (qs.map qd)), some (oL RL), some (oL TL), some (oL (ts.map th)), some (.v (.int i)), some (.v (.int pa)), some (.v (.str ro)), some (.v (.tuple (rf.map .int))), u 14, u 15, some (.v (.int o)), some (.v (.int o2))]) (fun rf => (rf.Nodup ∧ ∀ r ∈ rf, 0 ≤ r ∧ r < (n : Int)) ∧ rf.length ≤ 2) (by
          have hlen : ∃ v : Bool, (v = false → rf.Nodup) ∧ (ev (C (k + 3)) T.G (E.and [E.cmp COp.eq (E.bi Bi.len [E.var 13]) (E.int 2), E.cmp COp.eq ((E.var 13).ix (E.int 0)) ((E.var 13).ix (E.int 1))]) [some (.v (IL ns)), some (.v (.int 0)), some (.v (.int 14)), some (oL (d8.map .int)), some (.v (.int (n : Nat))), some (oL (ds.map .int)), some (oL (qs.map qd)), some (oL RL), some (oL TL), some (oL (ts.map th)), some (.v (.int i)), some (.v (.int pa)), some (.v (.str ro)), some (.v (.tuple (rf.map .int))), u 14, u 15, some (.v (.int o)), some (.v (.int o2))]).t = .ok v := by
            match rf with
            | [] => exact ⟨false, fun _ => List.nodup_nil, by simp (config := { implicitDefEqProofs := false }) [Hv.s1, Hv.s2, Hv.s3, Hv.s4, Hv.s5, Hv.s6, Hv.s7, Hv.s8, Hv.s9, Hv.s10, Hv.s11, Hv.s12, Hv.s13, Hv.s14, Hv.s15, Hv.s16, Hv.s17, Hv.s18, Hv.s19, Hv.s20, Hv.s21, Hv.s22, Hv.s23, Hv.s24, Hv.s25, Hv.s26, Hv.s27, Hv.s28, Hv.s29, Hv.s30, Hv.s31, Hv.s32, Hv.s33, Hv.s34, Hv.s35, Hv.s36, Hv.s37, Hv.s38, Hv.v1, Hv.v2, Hv.v3, Hv.v4, Hv.v6, Hv.v7, Hv.v8, Hv.v9, Hv.v10, Hv.v11, Hv.e1, Hv.e2, Hv.e3, Hv.e4, Hv.e5, Hv.e6, Hv.e7, Hv.e8, Hv.e9, Hv.e10, Hv.e11, Hv.e12, Hv.e13, Hv.e14, Hv.e16, Hv.e17, Hv.e18, Hv.e19, Hv.e20, Hv.e21, Hv.e22, Hv.e23, Hv.e24, Hv.e25, Hv.e26, Hv.x1, Hv.x2, Hv.x6, Hv.x7, Hv.x8, Hv.x9, Hv.x12, Hv.x13, Hv.x14, Hv.x15, Hv.x16, Hv.x17, Hv.x21, Hv.x22, Hv.x23, Hv.x24, Hv.x25, Hv.x26, Hv.x27, Hv.x28, Hv.x29, Hv.x30, Hv.y0, Hv.y1, Hv.y2, Hv.y3, Hv.y4, Hv.y5, Hv.x31, Hv.x32, Hv.x33, Hv.x34, Hv.x35, Hv.x36, Hv.x39, Hv.a1, Hv.a2, Hv.k1, Hv.k4, Hv.k6, Hv.k7, Hv.k8, Hv.k9, Hv.k10, Hv.t0, Hv.t1, Hv.t2, Hv.t3, Hv.t4, Hv.t5, Hv.t6, Hv.t7, Hv.t8, Hv.t9, Hv.t10, Hv.t11, Hv.t12, Hv.t13, Hv.t14, Hv.t14', Hv.t15, Hv.t16, Hv.t17, Hv.t18, Hv.t19, Hv.t20, Hv.t21, Hv.t22, Hv.t23, Hv.t24, Hv.t25, Hv.t26, Hv.t28, Hv.r2, Hv.r3, Hv.r4, Hv.z1, Hv.z2, Hv.z3, Hv.mutDs_int, Hv.intsOf_int, Hv.startE, Hv.isNew, List.set, cmp_eqi]⟩
            | [x] => exact ⟨false, fun _ => by simp, by simp (config := { implicitDefEqProofs := false }) [Hv.s1, Hv.s2, Hv.s3, Hv.s4, Hv.s5, Hv.s6, Hv.s7, Hv.s8, Hv.s9, Hv.s10, Hv.s11, Hv.s12, Hv.s13, Hv.s14, Hv.s15, Hv.s16, Hv.s17, Hv.s18, Hv.s19, Hv.s20, Hv.s21, Hv.s22, Hv.s23, Hv.s24, Hv.s25, Hv.s26, Hv.s27, Hv.s28, Hv.s29, Hv.s30, Hv.s31, Hv.s32, Hv.s33, Hv.s34, Hv.s35, Hv.s36, Hv.s37, Hv.s38, Hv.v1, Hv.v2, Hv.v3, Hv.v4, Hv.v6, Hv.v7, Hv.v8, Hv.v9, Hv.v10, Hv.v11, Hv.e1, Hv.e2, Hv.e3, Hv.e4, Hv.e5, Hv.e6, Hv.e7, Hv.e8, Hv.e9, Hv.e10, Hv.e11, Hv.e12, Hv.e13, Hv.e14, Hv.e16, Hv.e17, Hv.e18, Hv.e19, Hv.e20, Hv.e21, Hv.e22, Hv.e23, Hv.e24, Hv.e25, Hv.e26, Hv.x1, Hv.x2, Hv.x6, Hv.x7, Hv.x8, Hv.x9, Hv.x12, Hv.x13, Hv.x14, Hv.x15, Hv.x16, Hv.x17, Hv.x21, Hv.x22, Hv.x23, Hv.x24, Hv.x25, Hv.x26, Hv.x27, Hv.x28, Hv.x29, Hv.x30, Hv.y0, Hv.y1, Hv.y2, Hv.y3, Hv.y4, Hv.y5, Hv.x31, Hv.x32, Hv.x33, Hv.x34, Hv.x35, Hv.x36, Hv.x39, Hv.a1, Hv.a2, Hv.k1, Hv.k4, Hv.k6, Hv.k7, Hv.k8, Hv.k9, Hv.k10, Hv.t0, Hv.t1, Hv.t2, Hv.t3, Hv.t4, Hv.t5, Hv.t6, Hv.t7, Hv.t8, Hv.t9, Hv.t10, Hv.t11, Hv.t12, Hv.t13, Hv.t14, Hv.t14', Hv.t15, Hv.t16, Hv.t17, Hv.t18, Hv.t19, Hv.t20, Hv.t21, Hv.t22, Hv.t23, Hv.t24, Hv.t25, Hv.t26, Hv.t28, Hv.r2, Hv.r3, Hv.r4, Hv.z1, Hv.z2, Hv.z3, Hv.mutDs_int, Hv.intsOf_int, Hv.startE, Hv.isNew, List.set, cmp_eqi]⟩
            | [x, y] => exact ⟨decide (x = y), fun h => by simpa using h, by simp (config := { implicitDefEqProofs := false }) [Hv.s1, Hv.s2, Hv.s3, Hv.s4, Hv.s5, Hv.s6, Hv.s7, Hv.s8, Hv.s9, Hv.s10, Hv.s11, Hv.s12, Hv.s13, Hv.s14, Hv.s15, Hv.s16, Hv.s17, Hv.s18, Hv.s19, Hv.s20, Hv.s21, Hv.s22, Hv.s23, Hv.s24, Hv.s25, Hv.s26, Hv.s27, Hv.s28, Hv.s29, Hv.s30, Hv.s31, Hv.s32, Hv.s33, Hv.s34, Hv.s35, Hv.s36, Hv.s37, Hv.s38, Hv.v1, Hv.v2, Hv.v3, Hv.v4, Hv.v6, Hv.v7, Hv.v8, Hv.v9, Hv.v10, Hv.v11, Hv.e1, Hv.e2, Hv.e3, Hv.e4, Hv.e5, Hv.e6, Hv.e7, Hv.e8, Hv.e9, Hv.e10, Hv.e11, Hv.e12, Hv.e13, Hv.e14, Hv.e16, Hv.e17, Hv.e18, Hv.e19, Hv.e20, Hv.e21, Hv.e22, Hv.e23, Hv.e24, Hv.e25, Hv.e26, Hv.x1, Hv.x2, Hv.x6, Hv.x7, Hv.x8, Hv.x9, Hv.x12, Hv.x13, Hv.x14, Hv.x15, Hv.x16, Hv.x17, Hv.x21, Hv.x22, Hv.x23, Hv.x24, Hv.x25, Hv.x26, Hv.x27, Hv.x28, Hv.x29, Hv.x30, Hv.y0, Hv.y1, Hv.y2, Hv.y3, Hv.y4, Hv.y5, Hv.x31, Hv.x32, Hv.x33, Hv.x34, Hv.x35, Hv.x36, Hv.x39, Hv.a1, Hv.a2, Hv.k1, Hv.k4, Hv.k6, Hv.k7, Hv.k8, Hv.k9, Hv.k10, Hv.t0, Hv.t1, Hv.t2, Hv.t3, Hv.t4, Hv.t5, Hv.t6, Hv.t7, Hv.t8, Hv.t9, Hv.t10, Hv.t11, Hv.t12, Hv.t13, Hv.t14, Hv.t14', Hv.t15, Hv.t16, Hv.t17, Hv.t18, Hv.t19, Hv.t20, Hv.t21, Hv.t22, Hv.t23, Hv.t24, Hv.t25, Hv.t26, Hv.t28, Hv.r2, Hv.r3, Hv.r4, Hv.z1, Hv.z2, Hv.z3, Hv.mutDs_int, Hv.intsOf_int, Hv.startE, Hv.isNew, List.set, cmp_eqi, yt0, yt1]⟩
            | x :: y :: z :: l => exact ⟨false, fun _ => by have := hr2.1; simp at this, by
                have e2 : ((l.length : Int) + 1 + 1 + 1 = 2) = False := by simp; omega
                simp (config := { implicitDefEqProofs := false }) [Hv.s1, Hv.s2, Hv.s3, Hv.s4, Hv.s5, Hv.s6, Hv.s7, Hv.s8, Hv.s9, Hv.s10, Hv.s11, Hv.s12, Hv.s13, Hv.s14, Hv.s15, Hv.s16, Hv.s17, Hv.s18, Hv.s19, Hv.s20, Hv.s21, Hv.s22, Hv.s23, Hv.s24, Hv.s25, Hv.s26, Hv.s27, Hv.s28, Hv.s29, Hv.s30, Hv.s31, Hv.s32, Hv.s33, Hv.s34, Hv.s35, Hv.s36, Hv.s37, Hv.s38, Hv.v1, Hv.v2, Hv.v3, Hv.v4, Hv.v6, Hv.v7, Hv.v8, Hv.v9, Hv.v10, Hv.v11, Hv.e1, Hv.e2, Hv.e3, Hv.e4, Hv.e5, Hv.e6, Hv.e7, Hv.e8, Hv.e9, Hv.e10, Hv.e11, Hv.e12, Hv.e13, Hv.e14, Hv.e16, Hv.e17, Hv.e18, Hv.e19, Hv.e20, Hv.e21, Hv.e22, Hv.e23, Hv.e24, Hv.e25, Hv.e26, Hv.x1, Hv.x2, Hv.x6, Hv.x7, Hv.x8, Hv.x9, Hv.x12, Hv.x13, Hv.x14, Hv.x15, Hv.x16, Hv.x17, Hv.x21, Hv.x22, Hv.x23, Hv.x24, Hv.x25, Hv.x26, Hv.x27, Hv.x28, Hv.x29, Hv.x30, Hv.y0, Hv.y1, Hv.y2, Hv.y3, Hv.y4, Hv.y5, Hv.x31, Hv.x32, Hv.x33, Hv.x34, Hv.x35, Hv.x36, Hv.x39, Hv.a1, Hv.a2, Hv.k1, Hv.k4, Hv.k6, Hv.k7, Hv.k8, Hv.k9, Hv.k10, Hv.t0, Hv.t1, Hv.t2, Hv.t3, Hv.t4, Hv.t5, Hv.t6, Hv.t7, Hv.t8, Hv.t9, Hv.t10, Hv.t11, Hv.t12, Hv.t13, Hv.t14, Hv.t14', Hv.t15, Hv.t16, Hv.t17, Hv.t18, Hv.t19, Hv.t20, Hv.t21, Hv.t22, Hv.t23, Hv.t24, Hv.t25, Hv.t26, Hv.t28, Hv.r2, Hv.r3, Hv.r4, Hv.z1, Hv.z2, Hv.z3, Hv.mutDs_int, Hv.intsOf_int, Hv.startE, Hv.isNew, List.set, cmp_eqi, e2]⟩
          obtain ⟨v, hvn, hv⟩ := hlen
          exact eq_ife v hv (fun _ => by
            rw [t0]
            refine eq_seq [some (.v (IL ns)), some (.v (.int 0)), some (.v (.int 14)), some (oL (d8.map .int)), some (.v (.int (n : Nat))), some (oL (ds.map .int)), some (oL (qs.map qd)), some (oL RL), some (oL TL), some (oL (ts.map th)), some (.v (.int i)), some (.v (.int pa)), some (.v (.str ro)), some (.v (.tuple [.int o])), u 14, u 15, some (.v (.int o)), some (.v (.int o2))] (by simp (config := { implicitDefEqProofs := false }) [Hv.s1, Hv.s2, Hv.s3, Hv.s4, Hv.s5, Hv.s6, Hv.s7, Hv.s8, Hv.s9, Hv.s10, Hv.s11, Hv.s12, Hv.s13, Hv.s14, Hv.s15, Hv.s16, Hv.s17, Hv.s18, Hv.s19, Hv.s20, Hv.s21, Hv.s22, Hv.s23, Hv.s24, Hv.s25, Hv.s26, Hv.s27, Hv.s28, Hv.s29, Hv.s30, Hv.s31, Hv.s32, Hv.s33, Hv.s34, Hv.s35, Hv.s36, Hv.s37, Hv.s38, Hv.v1, Hv.v2, Hv.v3, Hv.v4, Hv.v6, Hv.v7, Hv.v8, Hv.v9, Hv.v10, Hv.v11, Hv.e1, Hv.e2, Hv.e3, Hv.e4, Hv.e5, Hv.e6, Hv.e7, Hv.e8, Hv.e9, Hv.e10, Hv.e11, Hv.e12, Hv.e13, Hv.e14, Hv.e16, Hv.e17, Hv.e18, Hv.e19, Hv.e20, Hv.e21, Hv.e22, Hv.e23, Hv.e24, Hv.e25, Hv.e26, Hv.x1, Hv.x2, Hv.x6, Hv.x7, Hv.x8, Hv.x9, Hv.x12, Hv.x13, Hv.x14, Hv.x15, Hv.x16, Hv.x17, Hv.x21, Hv.x22, Hv.x23, Hv.x24, Hv.x25, Hv.x26, Hv.x27, Hv.x28, Hv.x29, Hv.x30, Hv.y0, Hv.y1, Hv.y2, Hv.y3, Hv.y4, Hv.y5, Hv.x31, Hv.x32, Hv.x33, Hv.x34, Hv.x35, Hv.x36, Hv.x39, Hv.a1, Hv.a2, Hv.k1, Hv.k4, Hv.k6, Hv.k7, Hv.k8, Hv.k9, Hv.k10, Hv.t0, Hv.t1, Hv.t2, Hv.t3, Hv.t4, Hv.t5, Hv.t6, Hv.t7, Hv.t8, Hv.t9, Hv.t10, Hv.t11, Hv.t12, Hv.t13, Hv.t14, Hv.t14', Hv.t15, Hv.t16, Hv.t17, Hv.t18, Hv.t19, Hv.t20, Hv.t21, Hv.t22, Hv.t23, Hv.t24, Hv.t25, Hv.t26, Hv.t28, Hv.r2, Hv.r3, Hv.r4, Hv.z1, Hv.z2, Hv.z3, Hv.mutDs_int, Hv.intsOf_int, Hv.startE, Hv.isNew, List.set, tupD, isFz, md1, md5, mkT, isNews, isNew]) ?_
            exact eq_nil [o] ⟨⟨by simp, by simp; omega⟩, by simp⟩ rfl) fun hvf => eq_nil rf ⟨⟨hvn hvf, hr2.2⟩, hr2.1⟩ rfl) fun rf hr2 => ?_
        exact eq_nil (rf, fun n => match n with | 16 => some (.v (.int o)) | _ => some (.v (.int o2))) hr2 rfl) fun ⟨rf, w⟩ hr2 => ?_
      rw [t7, t0]
      refine nx_seqI (fun tx : Str => [some (.v (IL ns)), some (.v (.int 0)), some (.v (.int 14)), some (oL (d8.map .int)), some (.v (.int (n : Nat))), some (oL (ds.map .int)), some (oL (qs.map qd)), some (oL RL), some (oL TL), some (oL (ts.map th)), some (.v (.int i)), some (.v (.int pa)), some (.v (.str ro)), some (.v (.tuple (rf.map .int))), some (.v (.str tx)), u 15, w 16, w 17]) (fun r => okTx r = true ∧ r.length ≤ 100) (by
        obtain ⟨r, hrm, hr⟩ := strs_get hTL.2 (mod_rng y6 g10).1 (by have := (mod_rng y6 g10).2; omega)
        exact ⟨r, hrm, by simp (config := { implicitDefEqProofs := false }) [Hv.s1, Hv.s2, Hv.s3, Hv.s4, Hv.s5, Hv.s6, Hv.s7, Hv.s8, Hv.s9, Hv.s10, Hv.s11, Hv.s12, Hv.s13, Hv.s14, Hv.s15, Hv.s16, Hv.s17, Hv.s18, Hv.s19, Hv.s20, Hv.s21, Hv.s22, Hv.s23, Hv.s24, Hv.s25, Hv.s26, Hv.s27, Hv.s28, Hv.s29, Hv.s30, Hv.s31, Hv.s32, Hv.s33, Hv.s34, Hv.s35, Hv.s36, Hv.s37, Hv.s38, Hv.v1, Hv.v2, Hv.v3, Hv.v4, Hv.v6, Hv.v7, Hv.v8, Hv.v9, Hv.v10, Hv.v11, Hv.e1, Hv.e2, Hv.e3, Hv.e4, Hv.e5, Hv.e6, Hv.e7, Hv.e8, Hv.e9, Hv.e10, Hv.e11, Hv.e12, Hv.e13, Hv.e14, Hv.e16, Hv.e17, Hv.e18, Hv.e19, Hv.e20, Hv.e21, Hv.e22, Hv.e23, Hv.e24, Hv.e25, Hv.e26, Hv.x1, Hv.x2, Hv.x6, Hv.x7, Hv.x8, Hv.x9, Hv.x12, Hv.x13, Hv.x14, Hv.x15, Hv.x16, Hv.x17, Hv.x21, Hv.x22, Hv.x23, Hv.x24, Hv.x25, Hv.x26, Hv.x27, Hv.x28, Hv.x29, Hv.x30, Hv.y0, Hv.y1, Hv.y2, Hv.y3, Hv.y4, Hv.y5, Hv.x31, Hv.x32, Hv.x33, Hv.x34, Hv.x35, Hv.x36, Hv.x39, Hv.a1, Hv.a2, Hv.k1, Hv.k4, Hv.k6, Hv.k7, Hv.k8, Hv.k9, Hv.k10, Hv.t0, Hv.t1, Hv.t2, Hv.t3, Hv.t4, Hv.t5, Hv.t6, Hv.t7, Hv.t8, Hv.t9, Hv.t10, Hv.t11, Hv.t12, Hv.t13, Hv.t14, Hv.t14', Hv.t15, Hv.t16, Hv.t17, Hv.t18, Hv.t19, Hv.t20, Hv.t21, Hv.t22, Hv.t23, Hv.t24, Hv.t25, Hv.t26, Hv.t28, Hv.r2, Hv.r3, Hv.r4, Hv.z1, Hv.z2, Hv.z3, Hv.mutDs_int, Hv.intsOf_int, Hv.startE, Hv.isNew, List.set, x3 (m8 _), ix6, x5 g10, ixq_o (mod_rng y6 g10).1 hr]⟩) fun tx htx => ?_
      rw [t7, t0]
      refine nx_seqI (fun h : Int => [some (.v (IL ns)), some (.v (.int 0)), some (.v (.int 14)), some (oL (d8.map .int)), some (.v (.int (n : Nat))), some (oL (ds.map .int)), some (oL (qs.map qd)), some (oL RL), some (oL TL), some (oL (ts.map th)), some (.v (.int i)), some (.v (.int pa)), some (.v (.str ro)), some (.v (.tuple (rf.map .int))), some (.v (.str tx)), some (.v (.int h)), w 16, w 17]) (fun h => h = 0 ∨ h = 1) (by
        by_cases hh : y7 % 6 = 0
        · exact ⟨1, .inr rfl, by simp (config := { implicitDefEqProofs := false }) [Hv.s1, Hv.s2, Hv.s3, Hv.s4, Hv.s5, Hv.s6, Hv.s7, Hv.s8, Hv.s9, Hv.s10, Hv.s11, Hv.s12, Hv.s13, Hv.s14, Hv.s15, Hv.s16, Hv.s17, Hv.s18, Hv.s19, Hv.s20, Hv.s21, Hv.s22, Hv.s23, Hv.s24, Hv.s25, Hv.s26, Hv.s27, Hv.s28, Hv.s29, Hv.s30, Hv.s31, Hv.s32, Hv.s33, Hv.s34, Hv.s35, Hv.s36, Hv.s37, Hv.s38, Hv.v1, Hv.v2, Hv.v3, Hv.v4, Hv.v6, Hv.v7, Hv.v8, Hv.v9, Hv.v10, Hv.v11, Hv.e1, Hv.e2, Hv.e3, Hv.e4, Hv.e5, Hv.e6, Hv.e7, Hv.e8, Hv.e9, Hv.e10, Hv.e11, Hv.e12, Hv.e13, Hv.e14, Hv.e16, Hv.e17, Hv.e18, Hv.e19, Hv.e20, Hv.e21, Hv.e22, Hv.e23, Hv.e24, Hv.e25, Hv.e26, Hv.x1, Hv.x2, Hv.x6, Hv.x7, Hv.x8, Hv.x9, Hv.x12, Hv.x13, Hv.x14, Hv.x15, Hv.x16, Hv.x17, Hv.x21, Hv.x22, Hv.x23, Hv.x24, Hv.x25, Hv.x26, Hv.x27, Hv.x28, Hv.x29, Hv.x30, Hv.y0, Hv.y1, Hv.y2, Hv.y3, Hv.y4, Hv.y5, Hv.x31, Hv.x32, Hv.x33, Hv.x34, Hv.x35, Hv.x36, Hv.x39, Hv.a1, Hv.a2, Hv.k1, Hv.k4, Hv.k6, Hv.k7, Hv.k8, Hv.k9, Hv.k10, Hv.t0, Hv.t1, Hv.t2, Hv.t3, Hv.t4, Hv.t5, Hv.t6, Hv.t7, Hv.t8, Hv.t9, Hv.t10, Hv.t11, Hv.t12, Hv.t13, Hv.t14, Hv.t14', Hv.t15, Hv.t16, Hv.t17, Hv.t18, Hv.t19, Hv.t20, Hv.t21, Hv.t22, Hv.t23, Hv.t24, Hv.t25, Hv.t26, Hv.t28, Hv.r2, Hv.r3, Hv.r4, Hv.z1, Hv.z2, Hv.z3, Hv.mutDs_int, Hv.intsOf_int, Hv.startE, Hv.isNew, List.set, x3 (m8 _), ix7, x5 g6, cmp_eqi, hh]⟩
        · exact ⟨0, .inl rfl, by simp (config := { implicitDefEqProofs := false }) [Hv.s1, Hv.s2, Hv.s3, Hv.s4, Hv.s5, Hv.s6, Hv.s7, Hv.s8, Hv.s9, Hv.s10, Hv.s11, Hv.s12, Hv.s13, Hv.s14, Hv.s15, Hv.s16, Hv.s17, Hv.s18, Hv.s19, Hv.s20, Hv.s21, Hv.s22, Hv.s23, Hv.s24, Hv.s25, Hv.s26, Hv.s27, Hv.s28, Hv.s29, Hv.s30, Hv.s31, Hv.s32, Hv.s33, Hv.s34, Hv.s35, Hv.s36, Hv.s37, Hv.s38, Hv.v1, Hv.v2, Hv.v3, Hv.v4, Hv.v6, Hv.v7, Hv.v8, Hv.v9, Hv.v10, Hv.v11, Hv.e1, Hv.e2, Hv.e3, Hv.e4, Hv.e5, Hv.e6, Hv.e7, Hv.e8, Hv.e9, Hv.e10, Hv.e11, Hv.e12, Hv.e13, Hv.e14, Hv.e16, Hv.e17, Hv.e18, Hv.e19, Hv.e20, Hv.e21, Hv.e22, Hv.e23, Hv.e24, Hv.e25, Hv.e26, Hv.x1, Hv.x2, Hv.x6, Hv.x7, Hv.x8, Hv.x9, Hv.x12, Hv.x13, Hv.x14, Hv.x15, Hv.x16, Hv.x17, Hv.x21, Hv.x22, Hv.x23, Hv.x24, Hv.x25, Hv.x26, Hv.x27, Hv.x28, Hv.x29, Hv.x30, Hv.y0, Hv.y1, Hv.y2, Hv.y3, Hv.y4, Hv.y5, Hv.x31, Hv.x32, Hv.x33, Hv.x34, Hv.x35, Hv.x36, Hv.x39, Hv.a1, Hv.a2, Hv.k1, Hv.k4, Hv.k6, Hv.k7, Hv.k8, Hv.k9, Hv.k10, Hv.t0, Hv.t1, Hv.t2, Hv.t3, Hv.t4, Hv.t5, Hv.t6, Hv.t7, Hv.t8, Hv.t9, Hv.t10, Hv.t11, Hv.t12, Hv.t13, Hv.t14, Hv.t14', Hv.t15, Hv.t16, Hv.t17, Hv.t18, Hv.t19, Hv.t20, Hv.t21, Hv.t22, Hv.t23, Hv.t24, Hv.t25, Hv.t26, Hv.t28, Hv.r2, Hv.r3, Hv.r4, Hv.z1, Hv.z2, Hv.z3, Hv.mutDs_int, Hv.intsOf_int, Hv.startE, Hv.isNew, List.set, x3 (m8 _), ix7, x5 g6, cmp_eqi, hh]⟩) fun h hh01 => ?_
      rw [t7, t0]
      obtain ⟨q, hq, hqB⟩ : ∃ q, (qs.map qd)[((i : Int) % (qs.length : Int)).toNat]? = some (qd q) ∧ bx q := by
        obtain ⟨x, h, hm⟩ := get_in (xs := qs) (mod_rng (i : Int) gq).1 (mod_rng (i : Int) gq).2
        exact ⟨x, by simp [h], sB x hm⟩
      have hap : (ts.map th).length < 16777216 := by simp; omega
      refine nx_seq [some (.v (IL ns)), some (.v (.int 0)), some (.v (.int 14)), some (oL (d8.map .int)), some (.v (.int (n : Nat))), some (oL (ds.map .int)), some (oL (qs.map qd)), some (oL RL), some (oL TL), some (oL ((ts ++ [Th.mk pa ro tx rf h q]).map th)), some (.v (.int i)), some (.v (.int pa)), some (.v (.str ro)), some (.v (.tuple (rf.map .int))), some (.v (.str tx)), some (.v (.int h)), w 16, w 17] (by
        simp (config := { implicitDefEqProofs := false }) [Hv.s1, Hv.s2, Hv.s3, Hv.s4, Hv.s5, Hv.s6, Hv.s7, Hv.s8, Hv.s9, Hv.s10, Hv.s11, Hv.s12, Hv.s13, Hv.s14, Hv.s15, Hv.s16, Hv.s17, Hv.s18, Hv.s19, Hv.s20, Hv.s21, Hv.s22, Hv.s23, Hv.s24, Hv.s25, Hv.s26, Hv.s27, Hv.s28, Hv.s29, Hv.s30, Hv.s31, Hv.s32, Hv.s33, Hv.s34, Hv.s35, Hv.s36, Hv.s37, Hv.s38, Hv.v1, Hv.v2, Hv.v3, Hv.v4, Hv.v6, Hv.v7, Hv.v8, Hv.v9, Hv.v10, Hv.v11, Hv.e1, Hv.e2, Hv.e3, Hv.e4, Hv.e5, Hv.e6, Hv.e7, Hv.e8, Hv.e9, Hv.e10, Hv.e11, Hv.e12, Hv.e13, Hv.e14, Hv.e16, Hv.e17, Hv.e18, Hv.e19, Hv.e20, Hv.e21, Hv.e22, Hv.e23, Hv.e24, Hv.e25, Hv.e26, Hv.x1, Hv.x2, Hv.x6, Hv.x7, Hv.x8, Hv.x9, Hv.x12, Hv.x13, Hv.x14, Hv.x15, Hv.x16, Hv.x17, Hv.x21, Hv.x22, Hv.x23, Hv.x24, Hv.x25, Hv.x26, Hv.x27, Hv.x28, Hv.x29, Hv.x30, Hv.y0, Hv.y1, Hv.y2, Hv.y3, Hv.y4, Hv.y5, Hv.x31, Hv.x32, Hv.x33, Hv.x34, Hv.x35, Hv.x36, Hv.x39, Hv.a1, Hv.a2, Hv.k1, Hv.k4, Hv.k6, Hv.k7, Hv.k8, Hv.k9, Hv.k10, Hv.t0, Hv.t1, Hv.t2, Hv.t3, Hv.t4, Hv.t5, Hv.t6, Hv.t7, Hv.t8, Hv.t9, Hv.t10, Hv.t11, Hv.t12, Hv.t13, Hv.t14, Hv.t14', Hv.t15, Hv.t16, Hv.t17, Hv.t18, Hv.t19, Hv.t20, Hv.t21, Hv.t22, Hv.t23, Hv.t24, Hv.t25, Hv.t26, Hv.t28, Hv.r2, Hv.r3, Hv.r4, Hv.z1, Hv.z2, Hv.z3, Hv.mutDs_int, Hv.intsOf_int, Hv.startE, Hv.isNew, List.set, mut_qds, x5 gq, ixq_o (mod_rng (i : Int) gq).1 hq, tupD, isFz, md1, md3, md5, md6, mutDs_int, mut_qd, mkT, isNews, isNew, t27 hap, th]) ?_
      rw [t7, t1, nx1]
      refine ⟨ts ++ [Th.mk pa ro tx rf h q], fun n => match n with | 10 => some (.v (.int i)) | 11 => some (.v (.int pa)) | 12 => some (.v (.str ro)) | 13 => some (.v (.tuple (rf.map .int))) | 14 => some (.v (.str tx)) | 15 => some (.v (.int h)) | n => w n, by simp [h1], fun j t hj => ?_, rfl⟩
      by_cases hlt : j < ts.length
      · rw [List.getElem?_append_left hlt] at hj
        exact h2 j t hj
      · rw [List.getElem?_append_right (by omega)] at hj
        by_cases hz : j - ts.length = 0
        · rw [hz] at hj
          injection hj with hj
          subst hj
          have : j = i := by omega
          subst this
          exact ⟨hpa, hro, htx, hr2, hh01, hqB⟩
        · rw [List.getElem?_eq_none (by simp; omega)] at hj
          cases hj)
  rw [rgI_len] at h1
  have hn : ts.length = n := by omega
  subst hn
  exact ⟨(ts, u), ⟨h2, show 1 ≤ ts.length by omega, show ts.length ≤ 14 by omega⟩, rfl⟩
end Law

namespace Law
open PySem Hv
def whole : PyData → Bool
  | .int _ => true
  | _ => false
theorem w0 (k : Nat) (p : PyData) : C (k + 1) 0 [p] = .ok (.v (.bool (whole p))) := by
  rw [c0]
  unfold B0
  cases p <;> simp (config := { implicitDefEqProofs := false }) [Hv.s1, Hv.s2, Hv.s3, Hv.s4, Hv.s5, Hv.s6, Hv.s7, Hv.s8, Hv.s9, Hv.s10, Hv.s11, Hv.s12, Hv.s13, Hv.s14, Hv.s15, Hv.s16, Hv.s17, Hv.s18, Hv.s19, Hv.s20, Hv.s21, Hv.s22, Hv.s23, Hv.s24, Hv.s25, Hv.s26, Hv.s27, Hv.s28, Hv.s29, Hv.s30, Hv.s31, Hv.s32, Hv.s33, Hv.s34, Hv.s35, Hv.s36, Hv.s37, Hv.s38, Hv.v1, Hv.v2, Hv.v3, Hv.v4, Hv.v6, Hv.v7, Hv.v8, Hv.v9, Hv.v10, Hv.v11, Hv.e1, Hv.e2, Hv.e3, Hv.e4, Hv.e5, Hv.e6, Hv.e7, Hv.e8, Hv.e9, Hv.e10, Hv.e11, Hv.e12, Hv.e13, Hv.e14, Hv.e16, Hv.e17, Hv.e18, Hv.e19, Hv.e20, Hv.e21, Hv.e22, Hv.e23, Hv.e24, Hv.e25, Hv.e26, Hv.x1, Hv.x2, Hv.x6, Hv.x7, Hv.x8, Hv.x9, Hv.x12, Hv.x13, Hv.x14, Hv.x15, Hv.x16, Hv.x17, Hv.x21, Hv.x22, Hv.x23, Hv.x24, Hv.x25, Hv.x26, Hv.x27, Hv.x28, Hv.x29, Hv.x30, Hv.y0, Hv.y1, Hv.y2, Hv.y3, Hv.y4, Hv.y5, Hv.x31, Hv.x32, Hv.x33, Hv.x34, Hv.x35, Hv.x36, Hv.x39, Hv.a1, Hv.a2, Hv.k1, Hv.k4, Hv.k6, Hv.k7, Hv.k8, Hv.k9, Hv.k10, Hv.t0, Hv.t1, Hv.t2, Hv.t3, Hv.t4, Hv.t5, Hv.t6, Hv.t7, Hv.t8, Hv.t9, Hv.t10, Hv.t11, Hv.t12, Hv.t13, Hv.t14, Hv.t14', Hv.t15, Hv.t16, Hv.t17, Hv.t18, Hv.t19, Hv.t20, Hv.t21, Hv.t22, Hv.t23, Hv.t24, Hv.t25, Hv.t26, Hv.t28, Hv.r2, Hv.r3, Hv.r4, Hv.z1, Hv.z2, Hv.z3, Hv.mutDs_int, Hv.intsOf_int, Hv.startE, Hv.isNew, List.set, tyP, whole]
/-- a box -/
def ibx : PyData → Bool
  | .tuple [.int a, .int b, .int c, .int d] => decide (a < c) && decide (b < d)
  | _ => false
theorem four {ps : List PyData} (h : ps.length = 4) (hw : ps.all whole = true) : ∃ a b c d, ps = [.int a, .int b, .int c, .int d] := by
  match ps, h with
  | [p, q, r, s], _ =>
    simp only [List.all_cons, List.all_nil, Bool.and_true, Bool.and_eq_true] at hw
    obtain ⟨h1, h2, h3, h4⟩ := hw
    cases p <;> simp [whole] at h1
    cases q <;> simp [whole] at h2
    cases r <;> simp [whole] at h3
    cases s <;> simp [whole] at h4
    exact ⟨_, _, _, _, rfl⟩
theorem ibx_no {ps : List PyData} (h : ps.length ≠ 4 ∨ ps.all whole = false) : ibx (.tuple ps) = false := by
  unfold ibx
  split
  · rename_i e
    injection e with e
    subst e
    rcases h with h | h
    · exact absurd rfl h
    · simp [whole] at h
  · rfl
theorem w1 (k : Nat) (p : PyData) (hp : ∀ ps, p = .tuple ps → mutDs ps = false) : C (k + 2) 1 [p] = .ok (.v (.bool (ibx p))) := by
  rw [c1]
  unfold B1
  cases p with
  | tuple ps =>
    have hm := hp ps rfl
    by_cases hl : ps.length = 4
    · have h2 : ∀ w, lcT (C (k + 1)) T.G [5] (Tg.name 5) [] (E.call 0 [E.var 5]) [some (.v (.tuple ps)), none, none, none, none, none] ps w = .ok ((ps.map fun x => .bool (whole x)).map .v) [] := fun w => lc1i fun c hc => by
        simp (config := { implicitDefEqProofs := false }) [Hv.s1, Hv.s2, Hv.s3, Hv.s4, Hv.s5, Hv.s6, Hv.s7, Hv.s8, Hv.s9, Hv.s10, Hv.s11, Hv.s12, Hv.s13, Hv.s14, Hv.s15, Hv.s16, Hv.s17, Hv.s18, Hv.s19, Hv.s20, Hv.s21, Hv.s22, Hv.s23, Hv.s24, Hv.s25, Hv.s26, Hv.s27, Hv.s28, Hv.s29, Hv.s30, Hv.s31, Hv.s32, Hv.s33, Hv.s34, Hv.s35, Hv.s36, Hv.s37, Hv.s38, Hv.v1, Hv.v2, Hv.v3, Hv.v4, Hv.v6, Hv.v7, Hv.v8, Hv.v9, Hv.v10, Hv.v11, Hv.e1, Hv.e2, Hv.e3, Hv.e4, Hv.e5, Hv.e6, Hv.e7, Hv.e8, Hv.e9, Hv.e10, Hv.e11, Hv.e12, Hv.e13, Hv.e14, Hv.e16, Hv.e17, Hv.e18, Hv.e19, Hv.e20, Hv.e21, Hv.e22, Hv.e23, Hv.e24, Hv.e25, Hv.e26, Hv.x1, Hv.x2, Hv.x6, Hv.x7, Hv.x8, Hv.x9, Hv.x12, Hv.x13, Hv.x14, Hv.x15, Hv.x16, Hv.x17, Hv.x21, Hv.x22, Hv.x23, Hv.x24, Hv.x25, Hv.x26, Hv.x27, Hv.x28, Hv.x29, Hv.x30, Hv.y0, Hv.y1, Hv.y2, Hv.y3, Hv.y4, Hv.y5, Hv.x31, Hv.x32, Hv.x33, Hv.x34, Hv.x35, Hv.x36, Hv.x39, Hv.a1, Hv.a2, Hv.k1, Hv.k4, Hv.k6, Hv.k7, Hv.k8, Hv.k9, Hv.k10, Hv.t0, Hv.t1, Hv.t2, Hv.t3, Hv.t4, Hv.t5, Hv.t6, Hv.t7, Hv.t8, Hv.t9, Hv.t10, Hv.t11, Hv.t12, Hv.t13, Hv.t14, Hv.t14', Hv.t15, Hv.t16, Hv.t17, Hv.t18, Hv.t19, Hv.t20, Hv.t21, Hv.t22, Hv.t23, Hv.t24, Hv.t25, Hv.t26, Hv.t28, Hv.r2, Hv.r3, Hv.r4, Hv.z1, Hv.z2, Hv.z3, Hv.mutDs_int, Hv.intsOf_int, Hv.startE, Hv.isNew, List.set, we0, we1, var_fz, kf, w0, k2b]
      cases hw : ps.all whole with
      | true =>
        rw [t0]
        refine re_seq [some (.v (.tuple ps)), none, none, none, none, none] (by simp (config := { implicitDefEqProofs := false }) [Hv.s1, Hv.s2, Hv.s3, Hv.s4, Hv.s5, Hv.s6, Hv.s7, Hv.s8, Hv.s9, Hv.s10, Hv.s11, Hv.s12, Hv.s13, Hv.s14, Hv.s15, Hv.s16, Hv.s17, Hv.s18, Hv.s19, Hv.s20, Hv.s21, Hv.s22, Hv.s23, Hv.s24, Hv.s25, Hv.s26, Hv.s27, Hv.s28, Hv.s29, Hv.s30, Hv.s31, Hv.s32, Hv.s33, Hv.s34, Hv.s35, Hv.s36, Hv.s37, Hv.s38, Hv.v1, Hv.v2, Hv.v3, Hv.v4, Hv.v6, Hv.v7, Hv.v8, Hv.v9, Hv.v10, Hv.v11, Hv.e1, Hv.e2, Hv.e3, Hv.e4, Hv.e5, Hv.e6, Hv.e7, Hv.e8, Hv.e9, Hv.e10, Hv.e11, Hv.e12, Hv.e13, Hv.e14, Hv.e16, Hv.e17, Hv.e18, Hv.e19, Hv.e20, Hv.e21, Hv.e22, Hv.e23, Hv.e24, Hv.e25, Hv.e26, Hv.x1, Hv.x2, Hv.x6, Hv.x7, Hv.x8, Hv.x9, Hv.x12, Hv.x13, Hv.x14, Hv.x15, Hv.x16, Hv.x17, Hv.x21, Hv.x22, Hv.x23, Hv.x24, Hv.x25, Hv.x26, Hv.x27, Hv.x28, Hv.x29, Hv.x30, Hv.y0, Hv.y1, Hv.y2, Hv.y3, Hv.y4, Hv.y5, Hv.x31, Hv.x32, Hv.x33, Hv.x34, Hv.x35, Hv.x36, Hv.x39, Hv.a1, Hv.a2, Hv.k1, Hv.k4, Hv.k6, Hv.k7, Hv.k8, Hv.k9, Hv.k10, Hv.t0, Hv.t1, Hv.t2, Hv.t3, Hv.t4, Hv.t5, Hv.t6, Hv.t7, Hv.t8, Hv.t9, Hv.t10, Hv.t11, Hv.t12, Hv.t13, Hv.t14, Hv.t14', Hv.t15, Hv.t16, Hv.t17, Hv.t18, Hv.t19, Hv.t20, Hv.t21, Hv.t22, Hv.t23, Hv.t24, Hv.t25, Hv.t26, Hv.t28, Hv.r2, Hv.r3, Hv.r4, Hv.z1, Hv.z2, Hv.z3, Hv.mutDs_int, Hv.intsOf_int, Hv.startE, Hv.isNew, List.set, tyP, cmp_nei, hl, l2t hm, h2, l3c (mutDs_mb _ _), all_mi, hw]) ?_
        obtain ⟨a, b, c, d, rfl⟩ := four hl hw
        by_cases g1 : a < c <;> by_cases g2 : b < d <;> simp (config := { implicitDefEqProofs := false }) [Hv.s1, Hv.s2, Hv.s3, Hv.s4, Hv.s5, Hv.s6, Hv.s7, Hv.s8, Hv.s9, Hv.s10, Hv.s11, Hv.s12, Hv.s13, Hv.s14, Hv.s15, Hv.s16, Hv.s17, Hv.s18, Hv.s19, Hv.s20, Hv.s21, Hv.s22, Hv.s23, Hv.s24, Hv.s25, Hv.s26, Hv.s27, Hv.s28, Hv.s29, Hv.s30, Hv.s31, Hv.s32, Hv.s33, Hv.s34, Hv.s35, Hv.s36, Hv.s37, Hv.s38, Hv.v1, Hv.v2, Hv.v3, Hv.v4, Hv.v6, Hv.v7, Hv.v8, Hv.v9, Hv.v10, Hv.v11, Hv.e1, Hv.e2, Hv.e3, Hv.e4, Hv.e5, Hv.e6, Hv.e7, Hv.e8, Hv.e9, Hv.e10, Hv.e11, Hv.e12, Hv.e13, Hv.e14, Hv.e16, Hv.e17, Hv.e18, Hv.e19, Hv.e20, Hv.e21, Hv.e22, Hv.e23, Hv.e24, Hv.e25, Hv.e26, Hv.x1, Hv.x2, Hv.x6, Hv.x7, Hv.x8, Hv.x9, Hv.x12, Hv.x13, Hv.x14, Hv.x15, Hv.x16, Hv.x17, Hv.x21, Hv.x22, Hv.x23, Hv.x24, Hv.x25, Hv.x26, Hv.x27, Hv.x28, Hv.x29, Hv.x30, Hv.y0, Hv.y1, Hv.y2, Hv.y3, Hv.y4, Hv.y5, Hv.x31, Hv.x32, Hv.x33, Hv.x34, Hv.x35, Hv.x36, Hv.x39, Hv.a1, Hv.a2, Hv.k1, Hv.k4, Hv.k6, Hv.k7, Hv.k8, Hv.k9, Hv.k10, Hv.t0, Hv.t1, Hv.t2, Hv.t3, Hv.t4, Hv.t5, Hv.t6, Hv.t7, Hv.t8, Hv.t9, Hv.t10, Hv.t11, Hv.t12, Hv.t13, Hv.t14, Hv.t14', Hv.t15, Hv.t16, Hv.t17, Hv.t18, Hv.t19, Hv.t20, Hv.t21, Hv.t22, Hv.t23, Hv.t24, Hv.t25, Hv.t26, Hv.t28, Hv.r2, Hv.r3, Hv.r4, Hv.z1, Hv.z2, Hv.z3, Hv.mutDs_int, Hv.intsOf_int, Hv.startE, Hv.isNew, List.set, t_asgT, asgT_v, sT1, sT3, sT4, nx_s, g1, g2, ibx]
      | false =>
        simp (config := { implicitDefEqProofs := false }) [Hv.s1, Hv.s2, Hv.s3, Hv.s4, Hv.s5, Hv.s6, Hv.s7, Hv.s8, Hv.s9, Hv.s10, Hv.s11, Hv.s12, Hv.s13, Hv.s14, Hv.s15, Hv.s16, Hv.s17, Hv.s18, Hv.s19, Hv.s20, Hv.s21, Hv.s22, Hv.s23, Hv.s24, Hv.s25, Hv.s26, Hv.s27, Hv.s28, Hv.s29, Hv.s30, Hv.s31, Hv.s32, Hv.s33, Hv.s34, Hv.s35, Hv.s36, Hv.s37, Hv.s38, Hv.v1, Hv.v2, Hv.v3, Hv.v4, Hv.v6, Hv.v7, Hv.v8, Hv.v9, Hv.v10, Hv.v11, Hv.e1, Hv.e2, Hv.e3, Hv.e4, Hv.e5, Hv.e6, Hv.e7, Hv.e8, Hv.e9, Hv.e10, Hv.e11, Hv.e12, Hv.e13, Hv.e14, Hv.e16, Hv.e17, Hv.e18, Hv.e19, Hv.e20, Hv.e21, Hv.e22, Hv.e23, Hv.e24, Hv.e25, Hv.e26, Hv.x1, Hv.x2, Hv.x6, Hv.x7, Hv.x8, Hv.x9, Hv.x12, Hv.x13, Hv.x14, Hv.x15, Hv.x16, Hv.x17, Hv.x21, Hv.x22, Hv.x23, Hv.x24, Hv.x25, Hv.x26, Hv.x27, Hv.x28, Hv.x29, Hv.x30, Hv.y0, Hv.y1, Hv.y2, Hv.y3, Hv.y4, Hv.y5, Hv.x31, Hv.x32, Hv.x33, Hv.x34, Hv.x35, Hv.x36, Hv.x39, Hv.a1, Hv.a2, Hv.k1, Hv.k4, Hv.k6, Hv.k7, Hv.k8, Hv.k9, Hv.k10, Hv.t0, Hv.t1, Hv.t2, Hv.t3, Hv.t4, Hv.t5, Hv.t6, Hv.t7, Hv.t8, Hv.t9, Hv.t10, Hv.t11, Hv.t12, Hv.t13, Hv.t14, Hv.t14', Hv.t15, Hv.t16, Hv.t17, Hv.t18, Hv.t19, Hv.t20, Hv.t21, Hv.t22, Hv.t23, Hv.t24, Hv.t25, Hv.t26, Hv.t28, Hv.r2, Hv.r3, Hv.r4, Hv.z1, Hv.z2, Hv.z3, Hv.mutDs_int, Hv.intsOf_int, Hv.startE, Hv.isNew, List.set, tyP, cmp_nei, hl, l2t hm, h2, l3c (mutDs_mb _ _), all_mi, hw, ibx_no (.inr hw)]
    · have : ((ps.length : Int) = 4) = False := by simp; omega
      simp (config := { implicitDefEqProofs := false }) [Hv.s1, Hv.s2, Hv.s3, Hv.s4, Hv.s5, Hv.s6, Hv.s7, Hv.s8, Hv.s9, Hv.s10, Hv.s11, Hv.s12, Hv.s13, Hv.s14, Hv.s15, Hv.s16, Hv.s17, Hv.s18, Hv.s19, Hv.s20, Hv.s21, Hv.s22, Hv.s23, Hv.s24, Hv.s25, Hv.s26, Hv.s27, Hv.s28, Hv.s29, Hv.s30, Hv.s31, Hv.s32, Hv.s33, Hv.s34, Hv.s35, Hv.s36, Hv.s37, Hv.s38, Hv.v1, Hv.v2, Hv.v3, Hv.v4, Hv.v6, Hv.v7, Hv.v8, Hv.v9, Hv.v10, Hv.v11, Hv.e1, Hv.e2, Hv.e3, Hv.e4, Hv.e5, Hv.e6, Hv.e7, Hv.e8, Hv.e9, Hv.e10, Hv.e11, Hv.e12, Hv.e13, Hv.e14, Hv.e16, Hv.e17, Hv.e18, Hv.e19, Hv.e20, Hv.e21, Hv.e22, Hv.e23, Hv.e24, Hv.e25, Hv.e26, Hv.x1, Hv.x2, Hv.x6, Hv.x7, Hv.x8, Hv.x9, Hv.x12, Hv.x13, Hv.x14, Hv.x15, Hv.x16, Hv.x17, Hv.x21, Hv.x22, Hv.x23, Hv.x24, Hv.x25, Hv.x26, Hv.x27, Hv.x28, Hv.x29, Hv.x30, Hv.y0, Hv.y1, Hv.y2, Hv.y3, Hv.y4, Hv.y5, Hv.x31, Hv.x32, Hv.x33, Hv.x34, Hv.x35, Hv.x36, Hv.x39, Hv.a1, Hv.a2, Hv.k1, Hv.k4, Hv.k6, Hv.k7, Hv.k8, Hv.k9, Hv.k10, Hv.t0, Hv.t1, Hv.t2, Hv.t3, Hv.t4, Hv.t5, Hv.t6, Hv.t7, Hv.t8, Hv.t9, Hv.t10, Hv.t11, Hv.t12, Hv.t13, Hv.t14, Hv.t14', Hv.t15, Hv.t16, Hv.t17, Hv.t18, Hv.t19, Hv.t20, Hv.t21, Hv.t22, Hv.t23, Hv.t24, Hv.t25, Hv.t26, Hv.t28, Hv.r2, Hv.r3, Hv.r4, Hv.z1, Hv.z2, Hv.z3, Hv.mutDs_int, Hv.intsOf_int, Hv.startE, Hv.isNew, List.set, tyP, cmp_nei, this, ibx_no (.inl hl)]
  | _ => simp (config := { implicitDefEqProofs := false }) [Hv.s1, Hv.s2, Hv.s3, Hv.s4, Hv.s5, Hv.s6, Hv.s7, Hv.s8, Hv.s9, Hv.s10, Hv.s11, Hv.s12, Hv.s13, Hv.s14, Hv.s15, Hv.s16, Hv.s17, Hv.s18, Hv.s19, Hv.s20, Hv.s21, Hv.s22, Hv.s23, Hv.s24, Hv.s25, Hv.s26, Hv.s27, Hv.s28, Hv.s29, Hv.s30, Hv.s31, Hv.s32, Hv.s33, Hv.s34, Hv.s35, Hv.s36, Hv.s37, Hv.s38, Hv.v1, Hv.v2, Hv.v3, Hv.v4, Hv.v6, Hv.v7, Hv.v8, Hv.v9, Hv.v10, Hv.v11, Hv.e1, Hv.e2, Hv.e3, Hv.e4, Hv.e5, Hv.e6, Hv.e7, Hv.e8, Hv.e9, Hv.e10, Hv.e11, Hv.e12, Hv.e13, Hv.e14, Hv.e16, Hv.e17, Hv.e18, Hv.e19, Hv.e20, Hv.e21, Hv.e22, Hv.e23, Hv.e24, Hv.e25, Hv.e26, Hv.x1, Hv.x2, Hv.x6, Hv.x7, Hv.x8, Hv.x9, Hv.x12, Hv.x13, Hv.x14, Hv.x15, Hv.x16, Hv.x17, Hv.x21, Hv.x22, Hv.x23, Hv.x24, Hv.x25, Hv.x26, Hv.x27, Hv.x28, Hv.x29, Hv.x30, Hv.y0, Hv.y1, Hv.y2, Hv.y3, Hv.y4, Hv.y5, Hv.x31, Hv.x32, Hv.x33, Hv.x34, Hv.x35, Hv.x36, Hv.x39, Hv.a1, Hv.a2, Hv.k1, Hv.k4, Hv.k6, Hv.k7, Hv.k8, Hv.k9, Hv.k10, Hv.t0, Hv.t1, Hv.t2, Hv.t3, Hv.t4, Hv.t5, Hv.t6, Hv.t7, Hv.t8, Hv.t9, Hv.t10, Hv.t11, Hv.t12, Hv.t13, Hv.t14, Hv.t14', Hv.t15, Hv.t16, Hv.t17, Hv.t18, Hv.t19, Hv.t20, Hv.t21, Hv.t22, Hv.t23, Hv.t24, Hv.t25, Hv.t26, Hv.t28, Hv.r2, Hv.r3, Hv.r4, Hv.z1, Hv.z2, Hv.z3, Hv.mutDs_int, Hv.intsOf_int, Hv.startE, Hv.isNew, List.set, tyP, ibx]
theorem lsp : Str.ofString " " = SX.S [32] := by kernel_rfl
theorem ltl : Str.ofString "~" = SX.S [126] := by kernel_rfl
def textB : PyData → Bool
  | .str x => okTx x
  | _ => false
def okC (c : Nat) : Bool := decide (32 ≤ c) && decide (c ≤ 126)
theorem w2 (k : Nat) (p : PyData) (hp : ∀ x, p = .str x → x.length ≤ 10000) : C (k + 1) 2 [p] = .ok (.v (.bool (textB p))) := by
  rw [c2]
  unfold B2
  cases p with
  | str x =>
    have hx := hp x rfl
    obtain ⟨l, rfl⟩ : ∃ l, x = SX.S l := ⟨x.cps.toList, (SX.S_tl x).symm⟩
    rw [SX.S_len] at hx
    have h2 : ∀ w, lcT (C k) T.G [1] (Tg.name 1) [] (E.chn COp.le COp.le (E.str " ") (E.var 1) (E.str "~")) [some (.v (tx l)), none] (l.map ch) w = .ok ((l.map fun c => .bool (okC c)).map .v) [] := fun w => lc1 fun c hc => by
      unfold okC
      by_cases h1 : 32 ≤ c <;> by_cases h2 : c ≤ 126 <;> simp (config := { implicitDefEqProofs := false }) [Hv.s1, Hv.s2, Hv.s3, Hv.s4, Hv.s5, Hv.s6, Hv.s7, Hv.s8, Hv.s9, Hv.s10, Hv.s11, Hv.s12, Hv.s13, Hv.s14, Hv.s15, Hv.s16, Hv.s17, Hv.s18, Hv.s19, Hv.s20, Hv.s21, Hv.s22, Hv.s23, Hv.s24, Hv.s25, Hv.s26, Hv.s27, Hv.s28, Hv.s29, Hv.s30, Hv.s31, Hv.s32, Hv.s33, Hv.s34, Hv.s35, Hv.s36, Hv.s37, Hv.s38, Hv.v1, Hv.v2, Hv.v3, Hv.v4, Hv.v6, Hv.v7, Hv.v8, Hv.v9, Hv.v10, Hv.v11, Hv.e1, Hv.e2, Hv.e3, Hv.e4, Hv.e5, Hv.e6, Hv.e7, Hv.e8, Hv.e9, Hv.e10, Hv.e11, Hv.e12, Hv.e13, Hv.e14, Hv.e16, Hv.e17, Hv.e18, Hv.e19, Hv.e20, Hv.e21, Hv.e22, Hv.e23, Hv.e24, Hv.e25, Hv.e26, Hv.x1, Hv.x2, Hv.x6, Hv.x7, Hv.x8, Hv.x9, Hv.x12, Hv.x13, Hv.x14, Hv.x15, Hv.x16, Hv.x17, Hv.x21, Hv.x22, Hv.x23, Hv.x24, Hv.x25, Hv.x26, Hv.x27, Hv.x28, Hv.x29, Hv.x30, Hv.y0, Hv.y1, Hv.y2, Hv.y3, Hv.y4, Hv.y5, Hv.x31, Hv.x32, Hv.x33, Hv.x34, Hv.x35, Hv.x36, Hv.x39, Hv.a1, Hv.a2, Hv.k1, Hv.k4, Hv.k6, Hv.k7, Hv.k8, Hv.k9, Hv.k10, Hv.t0, Hv.t1, Hv.t2, Hv.t3, Hv.t4, Hv.t5, Hv.t6, Hv.t7, Hv.t8, Hv.t9, Hv.t10, Hv.t11, Hv.t12, Hv.t13, Hv.t14, Hv.t14', Hv.t15, Hv.t16, Hv.t17, Hv.t18, Hv.t19, Hv.t20, Hv.t21, Hv.t22, Hv.t23, Hv.t24, Hv.t25, Hv.t26, Hv.t28, Hv.r2, Hv.r3, Hv.r4, Hv.z1, Hv.z2, Hv.z3, Hv.mutDs_int, Hv.intsOf_int, Hv.startE, Hv.isNew, List.set, we0, we1, lsp, ltl, le_tl, h1, h2]
    have e : textB (tx l) = l.all okC := rfl
    rw [List.map_map] at h2
    simp (config := { implicitDefEqProofs := false }) [Hv.s1, Hv.s2, Hv.s3, Hv.s4, Hv.s5, Hv.s6, Hv.s7, Hv.s8, Hv.s9, Hv.s10, Hv.s11, Hv.s12, Hv.s13, Hv.s14, Hv.s15, Hv.s16, Hv.s17, Hv.s18, Hv.s19, Hv.s20, Hv.s21, Hv.s22, Hv.s23, Hv.s24, Hv.s25, Hv.s26, Hv.s27, Hv.s28, Hv.s29, Hv.s30, Hv.s31, Hv.s32, Hv.s33, Hv.s34, Hv.s35, Hv.s36, Hv.s37, Hv.s38, Hv.v1, Hv.v2, Hv.v3, Hv.v4, Hv.v6, Hv.v7, Hv.v8, Hv.v9, Hv.v10, Hv.v11, Hv.e1, Hv.e2, Hv.e3, Hv.e4, Hv.e5, Hv.e6, Hv.e7, Hv.e8, Hv.e9, Hv.e10, Hv.e11, Hv.e12, Hv.e13, Hv.e14, Hv.e16, Hv.e17, Hv.e18, Hv.e19, Hv.e20, Hv.e21, Hv.e22, Hv.e23, Hv.e24, Hv.e25, Hv.e26, Hv.x1, Hv.x2, Hv.x6, Hv.x7, Hv.x8, Hv.x9, Hv.x12, Hv.x13, Hv.x14, Hv.x15, Hv.x16, Hv.x17, Hv.x21, Hv.x22, Hv.x23, Hv.x24, Hv.x25, Hv.x26, Hv.x27, Hv.x28, Hv.x29, Hv.x30, Hv.y0, Hv.y1, Hv.y2, Hv.y3, Hv.y4, Hv.y5, Hv.x31, Hv.x32, Hv.x33, Hv.x34, Hv.x35, Hv.x36, Hv.x39, Hv.a1, Hv.a2, Hv.k1, Hv.k4, Hv.k6, Hv.k7, Hv.k8, Hv.k9, Hv.k10, Hv.t0, Hv.t1, Hv.t2, Hv.t3, Hv.t4, Hv.t5, Hv.t6, Hv.t7, Hv.t8, Hv.t9, Hv.t10, Hv.t11, Hv.t12, Hv.t13, Hv.t14, Hv.t14', Hv.t15, Hv.t16, Hv.t17, Hv.t18, Hv.t19, Hv.t20, Hv.t21, Hv.t22, Hv.t23, Hv.t24, Hv.t25, Hv.t26, Hv.t28, Hv.r2, Hv.r3, Hv.r4, Hv.z1, Hv.z2, Hv.z3, Hv.mutDs_int, Hv.intsOf_int, Hv.startE, Hv.isNew, List.set, tyP, l_tx (show l.length ≤ 16777216 by omega), h2, l3c (mutDs_mb okC l), all_mi, mutDs_mb okC l, e]
  | _ => simp (config := { implicitDefEqProofs := false }) [Hv.s1, Hv.s2, Hv.s3, Hv.s4, Hv.s5, Hv.s6, Hv.s7, Hv.s8, Hv.s9, Hv.s10, Hv.s11, Hv.s12, Hv.s13, Hv.s14, Hv.s15, Hv.s16, Hv.s17, Hv.s18, Hv.s19, Hv.s20, Hv.s21, Hv.s22, Hv.s23, Hv.s24, Hv.s25, Hv.s26, Hv.s27, Hv.s28, Hv.s29, Hv.s30, Hv.s31, Hv.s32, Hv.s33, Hv.s34, Hv.s35, Hv.s36, Hv.s37, Hv.s38, Hv.v1, Hv.v2, Hv.v3, Hv.v4, Hv.v6, Hv.v7, Hv.v8, Hv.v9, Hv.v10, Hv.v11, Hv.e1, Hv.e2, Hv.e3, Hv.e4, Hv.e5, Hv.e6, Hv.e7, Hv.e8, Hv.e9, Hv.e10, Hv.e11, Hv.e12, Hv.e13, Hv.e14, Hv.e16, Hv.e17, Hv.e18, Hv.e19, Hv.e20, Hv.e21, Hv.e22, Hv.e23, Hv.e24, Hv.e25, Hv.e26, Hv.x1, Hv.x2, Hv.x6, Hv.x7, Hv.x8, Hv.x9, Hv.x12, Hv.x13, Hv.x14, Hv.x15, Hv.x16, Hv.x17, Hv.x21, Hv.x22, Hv.x23, Hv.x24, Hv.x25, Hv.x26, Hv.x27, Hv.x28, Hv.x29, Hv.x30, Hv.y0, Hv.y1, Hv.y2, Hv.y3, Hv.y4, Hv.y5, Hv.x31, Hv.x32, Hv.x33, Hv.x34, Hv.x35, Hv.x36, Hv.x39, Hv.a1, Hv.a2, Hv.k1, Hv.k4, Hv.k6, Hv.k7, Hv.k8, Hv.k9, Hv.k10, Hv.t0, Hv.t1, Hv.t2, Hv.t3, Hv.t4, Hv.t5, Hv.t6, Hv.t7, Hv.t8, Hv.t9, Hv.t10, Hv.t11, Hv.t12, Hv.t13, Hv.t14, Hv.t14', Hv.t15, Hv.t16, Hv.t17, Hv.t18, Hv.t19, Hv.t20, Hv.t21, Hv.t22, Hv.t23, Hv.t24, Hv.t25, Hv.t26, Hv.t28, Hv.r2, Hv.r3, Hv.r4, Hv.z1, Hv.z2, Hv.z3, Hv.mutDs_int, Hv.intsOf_int, Hv.startE, Hv.isNew, List.set, tyP, textB]
def rng (n : Int) : PyData → Bool
  | .int i => decide (0 ≤ i) && decide (i < n)
  | _ => false
def ivl : PyData → Int
  | .int i => i
  | _ => 0
def refsB (n : Int) : PyData → Bool
  | .tuple ps => ps.all (rng n) && decide ((ps.map ivl).Nodup)
  | _ => false
theorem rng_ints {n : Int} : ∀ {ps : List PyData}, ps.all (rng n) = true → ∃ ns : List Int, ps = ns.map .int ∧ ∀ i ∈ ns, 0 ≤ i ∧ i < n
  | [], _ => ⟨[], rfl, by simp⟩
  | p :: ps, h => by
    rw [List.all_cons, Bool.and_eq_true] at h
    obtain ⟨ns, rfl, h2⟩ := rng_ints h.2
    cases p with
    | int i =>
      have := h.1
      simp only [rng, Bool.and_eq_true, decide_eq_true_eq] at this
      exact ⟨i :: ns, rfl, fun j hj => (List.mem_cons.mp hj).elim (fun e => e ▸ this) (h2 j)⟩
    | _ => exact absurd h.1 (by simp [rng])
theorem refs_ints {n : Int} {ns : List Int} (h : (ns.map PyData.int).all (rng n) = true) : refsB n (.tuple (ns.map .int)) = decide ns.Nodup := by
  show ((ns.map PyData.int).all (rng n) && decide (((ns.map PyData.int).map ivl).Nodup)) = _
  have : (ns.map PyData.int).map ivl = ns := by
    rw [List.map_map, show (ivl ∘ PyData.int) = id from rfl, List.map_id]
  rw [h, this]
  rfl
theorem e_dkl {C : Cal} {G : Glo} {own : List Nat} {k : Sk} {args : List E} {tg : Tg} {kx : E} {ρ : Hv.Env} : ev C G (.dkl own k args tg kx) ρ = vt ((seqR (evs C G args ρ)).bind fun ds al => match itemsR k ds al with
    | some (ps, b, _) => match dkR (fun p => setT tg b p (wipeE ρ own)) (fun ρ => (ev C G kx ρ).e) ps [] with
      | some ks => .ok (.v (.int ks.length)) []
      | none => .stuck
    | none => .stuck) := rfl
theorem addK_len (acc : List L2.Key) (k : L2.Key) : (addK acc k).length ≤ acc.length + 1 ∧ ((addK acc k).length = acc.length + 1 ↔ k ∉ acc) ∧ (k ∉ acc → addK acc k = acc ++ [k]) := by
  unfold addK
  by_cases h : (acc.any fun j => decide (j = k)) = true
  · rw [if_pos h]
    have : k ∈ acc := by
      obtain ⟨j, hj, e⟩ := List.any_eq_true.mp h
      exact of_decide_eq_true e ▸ hj
    exact ⟨by omega, ⟨fun h => by omega, fun h => absurd this h⟩, fun h => absurd this h⟩
  · rw [if_neg h]
    have : k ∉ acc := fun hk => h (List.any_eq_true.mpr ⟨k, hk, decide_eq_true rfl⟩)
    exact ⟨by simp, by simp [this], fun _ => rfl⟩
theorem dk_fold {st : PyData → Option Hv.Env} {kx : Hv.Env → Hv.R} : ∀ {ns : List Int} {acc : List L2.Key}, (∀ i ∈ ns, ∃ ρ, st (.int i) = some ρ ∧ kx ρ = .ok (.v (.int i)) []) → ∃ fin, dkR st kx (ns.map .int) acc = some fin ∧ fin.length ≤ acc.length + ns.length ∧ (fin.length = acc.length + ns.length ↔ ns.Nodup ∧ ∀ i ∈ ns, (Sum.inl i : L2.Key) ∉ acc)
  | [], acc, _ => ⟨acc, rfl, by simp, by simp⟩
  | i :: ns, acc, h => by
    obtain ⟨ρ, h1, h2⟩ := h i (by simp)
    obtain ⟨fin, e, l1, l2⟩ := dk_fold (st := st) (kx := kx) (ns := ns) (acc := addK acc (.inl i)) fun j hj => h j (by simp [hj])
    obtain ⟨a1, a2, a3⟩ := addK_len acc (.inl i)
    refine ⟨fin, ?_, ?_, ?_⟩
    · rw [List.map_cons]
      unfold dkR
      simp only [h1, h2, data, Option.bind_some, keyP]
      exact e
    · rw [List.length_cons]; omega
    · rw [List.length_cons, List.nodup_cons]
      constructor
      · intro hl
        have e1 : (addK acc (.inl i)).length = acc.length + 1 := by omega
        have hni := a2.mp e1
        obtain ⟨b1, b2⟩ := l2.mp (by omega)
        rw [a3 hni] at b2
        refine ⟨⟨fun hm => ?_, b1⟩, fun j hj => ?_⟩
        · exact b2 i hm (by simp)
        · rcases List.mem_cons.mp hj with rfl | hj
          · exact hni
          · exact fun hm => b2 j hj (by simp [hm])
      · rintro ⟨⟨c1, c2⟩, c3⟩
        have hni := c3 i (by simp)
        have e1 := a2.mpr hni
        have := l2.mpr ⟨c2, fun j hj => by
          rw [a3 hni]
          intro hm
          rcases List.mem_append.mp hm with hm | hm
          · exact c3 j (by simp [hj]) hm
          · have := List.mem_singleton.mp hm
            injection this with this
            subst this
            exact c1 hj⟩
        omega
theorem w3 (k : Nat) (p : PyData) (n : Int) (hp : ∀ ps, p = .tuple ps → mutDs ps = false) : C (k + 2) 3 [p, .int n] = .ok (.v (.bool (refsB n p))) := by
  rw [c3]
  unfold B3
  cases p with
  | tuple ps =>
    have hm := hp ps rfl
    have h2 : ∀ w, lcT (C (k + 1)) T.G [2] (Tg.name 2) [] (E.and [E.call 0 [E.var 2], E.chn COp.le COp.lt (E.int 0) (E.var 2) (E.var 1)]) [some (.v (.tuple ps)), some (.v (.int n)), none] ps w = .ok ((ps.map fun x => .bool (rng n x)).map .v) [] := fun w => lc1i fun c hc => by
      cases c with
      | int i => by_cases h1 : 0 ≤ i <;> by_cases h2 : i < n <;> simp (config := { implicitDefEqProofs := false }) [Hv.s1, Hv.s2, Hv.s3, Hv.s4, Hv.s5, Hv.s6, Hv.s7, Hv.s8, Hv.s9, Hv.s10, Hv.s11, Hv.s12, Hv.s13, Hv.s14, Hv.s15, Hv.s16, Hv.s17, Hv.s18, Hv.s19, Hv.s20, Hv.s21, Hv.s22, Hv.s23, Hv.s24, Hv.s25, Hv.s26, Hv.s27, Hv.s28, Hv.s29, Hv.s30, Hv.s31, Hv.s32, Hv.s33, Hv.s34, Hv.s35, Hv.s36, Hv.s37, Hv.s38, Hv.v1, Hv.v2, Hv.v3, Hv.v4, Hv.v6, Hv.v7, Hv.v8, Hv.v9, Hv.v10, Hv.v11, Hv.e1, Hv.e2, Hv.e3, Hv.e4, Hv.e5, Hv.e6, Hv.e7, Hv.e8, Hv.e9, Hv.e10, Hv.e11, Hv.e12, Hv.e13, Hv.e14, Hv.e16, Hv.e17, Hv.e18, Hv.e19, Hv.e20, Hv.e21, Hv.e22, Hv.e23, Hv.e24, Hv.e25, Hv.e26, Hv.x1, Hv.x2, Hv.x6, Hv.x7, Hv.x8, Hv.x9, Hv.x12, Hv.x13, Hv.x14, Hv.x15, Hv.x16, Hv.x17, Hv.x21, Hv.x22, Hv.x23, Hv.x24, Hv.x25, Hv.x26, Hv.x27, Hv.x28, Hv.x29, Hv.x30, Hv.y0, Hv.y1, Hv.y2, Hv.y3, Hv.y4, Hv.y5, Hv.x31, Hv.x32, Hv.x33, Hv.x34, Hv.x35, Hv.x36, Hv.x39, Hv.a1, Hv.a2, Hv.k1, Hv.k4, Hv.k6, Hv.k7, Hv.k8, Hv.k9, Hv.k10, Hv.t0, Hv.t1, Hv.t2, Hv.t3, Hv.t4, Hv.t5, Hv.t6, Hv.t7, Hv.t8, Hv.t9, Hv.t10, Hv.t11, Hv.t12, Hv.t13, Hv.t14, Hv.t14', Hv.t15, Hv.t16, Hv.t17, Hv.t18, Hv.t19, Hv.t20, Hv.t21, Hv.t22, Hv.t23, Hv.t24, Hv.t25, Hv.t26, Hv.t28, Hv.r2, Hv.r3, Hv.r4, Hv.z1, Hv.z2, Hv.z3, Hv.mutDs_int, Hv.intsOf_int, Hv.startE, Hv.isNew, List.set, we0, we1, w0, k2b, whole, rng, h1, h2]
      | _ => simp (config := { implicitDefEqProofs := false }) [Hv.s1, Hv.s2, Hv.s3, Hv.s4, Hv.s5, Hv.s6, Hv.s7, Hv.s8, Hv.s9, Hv.s10, Hv.s11, Hv.s12, Hv.s13, Hv.s14, Hv.s15, Hv.s16, Hv.s17, Hv.s18, Hv.s19, Hv.s20, Hv.s21, Hv.s22, Hv.s23, Hv.s24, Hv.s25, Hv.s26, Hv.s27, Hv.s28, Hv.s29, Hv.s30, Hv.s31, Hv.s32, Hv.s33, Hv.s34, Hv.s35, Hv.s36, Hv.s37, Hv.s38, Hv.v1, Hv.v2, Hv.v3, Hv.v4, Hv.v6, Hv.v7, Hv.v8, Hv.v9, Hv.v10, Hv.v11, Hv.e1, Hv.e2, Hv.e3, Hv.e4, Hv.e5, Hv.e6, Hv.e7, Hv.e8, Hv.e9, Hv.e10, Hv.e11, Hv.e12, Hv.e13, Hv.e14, Hv.e16, Hv.e17, Hv.e18, Hv.e19, Hv.e20, Hv.e21, Hv.e22, Hv.e23, Hv.e24, Hv.e25, Hv.e26, Hv.x1, Hv.x2, Hv.x6, Hv.x7, Hv.x8, Hv.x9, Hv.x12, Hv.x13, Hv.x14, Hv.x15, Hv.x16, Hv.x17, Hv.x21, Hv.x22, Hv.x23, Hv.x24, Hv.x25, Hv.x26, Hv.x27, Hv.x28, Hv.x29, Hv.x30, Hv.y0, Hv.y1, Hv.y2, Hv.y3, Hv.y4, Hv.y5, Hv.x31, Hv.x32, Hv.x33, Hv.x34, Hv.x35, Hv.x36, Hv.x39, Hv.a1, Hv.a2, Hv.k1, Hv.k4, Hv.k6, Hv.k7, Hv.k8, Hv.k9, Hv.k10, Hv.t0, Hv.t1, Hv.t2, Hv.t3, Hv.t4, Hv.t5, Hv.t6, Hv.t7, Hv.t8, Hv.t9, Hv.t10, Hv.t11, Hv.t12, Hv.t13, Hv.t14, Hv.t14', Hv.t15, Hv.t16, Hv.t17, Hv.t18, Hv.t19, Hv.t20, Hv.t21, Hv.t22, Hv.t23, Hv.t24, Hv.t25, Hv.t26, Hv.t28, Hv.r2, Hv.r3, Hv.r4, Hv.z1, Hv.z2, Hv.z3, Hv.mutDs_int, Hv.intsOf_int, Hv.startE, Hv.isNew, List.set, we0, we1, var_fz, kf, w0, k2b, whole, rng]
    cases hr : ps.all (rng n) with
    | false =>
      have : refsB n (.tuple ps) = false := by show (ps.all (rng n) && _) = false; rw [hr]; rfl
      rw [this]
      simp (config := { implicitDefEqProofs := false }) [Hv.s1, Hv.s2, Hv.s3, Hv.s4, Hv.s5, Hv.s6, Hv.s7, Hv.s8, Hv.s9, Hv.s10, Hv.s11, Hv.s12, Hv.s13, Hv.s14, Hv.s15, Hv.s16, Hv.s17, Hv.s18, Hv.s19, Hv.s20, Hv.s21, Hv.s22, Hv.s23, Hv.s24, Hv.s25, Hv.s26, Hv.s27, Hv.s28, Hv.s29, Hv.s30, Hv.s31, Hv.s32, Hv.s33, Hv.s34, Hv.s35, Hv.s36, Hv.s37, Hv.s38, Hv.v1, Hv.v2, Hv.v3, Hv.v4, Hv.v6, Hv.v7, Hv.v8, Hv.v9, Hv.v10, Hv.v11, Hv.e1, Hv.e2, Hv.e3, Hv.e4, Hv.e5, Hv.e6, Hv.e7, Hv.e8, Hv.e9, Hv.e10, Hv.e11, Hv.e12, Hv.e13, Hv.e14, Hv.e16, Hv.e17, Hv.e18, Hv.e19, Hv.e20, Hv.e21, Hv.e22, Hv.e23, Hv.e24, Hv.e25, Hv.e26, Hv.x1, Hv.x2, Hv.x6, Hv.x7, Hv.x8, Hv.x9, Hv.x12, Hv.x13, Hv.x14, Hv.x15, Hv.x16, Hv.x17, Hv.x21, Hv.x22, Hv.x23, Hv.x24, Hv.x25, Hv.x26, Hv.x27, Hv.x28, Hv.x29, Hv.x30, Hv.y0, Hv.y1, Hv.y2, Hv.y3, Hv.y4, Hv.y5, Hv.x31, Hv.x32, Hv.x33, Hv.x34, Hv.x35, Hv.x36, Hv.x39, Hv.a1, Hv.a2, Hv.k1, Hv.k4, Hv.k6, Hv.k7, Hv.k8, Hv.k9, Hv.k10, Hv.t0, Hv.t1, Hv.t2, Hv.t3, Hv.t4, Hv.t5, Hv.t6, Hv.t7, Hv.t8, Hv.t9, Hv.t10, Hv.t11, Hv.t12, Hv.t13, Hv.t14, Hv.t14', Hv.t15, Hv.t16, Hv.t17, Hv.t18, Hv.t19, Hv.t20, Hv.t21, Hv.t22, Hv.t23, Hv.t24, Hv.t25, Hv.t26, Hv.t28, Hv.r2, Hv.r3, Hv.r4, Hv.z1, Hv.z2, Hv.z3, Hv.mutDs_int, Hv.intsOf_int, Hv.startE, Hv.isNew, List.set, tyP, l2t hm, h2, l3c (mutDs_mb _ _), all_mi, hr]
    | true =>
      rw [t0]
      refine re_seq [some (.v (.tuple ps)), some (.v (.int n)), none] (by simp (config := { implicitDefEqProofs := false }) [Hv.s1, Hv.s2, Hv.s3, Hv.s4, Hv.s5, Hv.s6, Hv.s7, Hv.s8, Hv.s9, Hv.s10, Hv.s11, Hv.s12, Hv.s13, Hv.s14, Hv.s15, Hv.s16, Hv.s17, Hv.s18, Hv.s19, Hv.s20, Hv.s21, Hv.s22, Hv.s23, Hv.s24, Hv.s25, Hv.s26, Hv.s27, Hv.s28, Hv.s29, Hv.s30, Hv.s31, Hv.s32, Hv.s33, Hv.s34, Hv.s35, Hv.s36, Hv.s37, Hv.s38, Hv.v1, Hv.v2, Hv.v3, Hv.v4, Hv.v6, Hv.v7, Hv.v8, Hv.v9, Hv.v10, Hv.v11, Hv.e1, Hv.e2, Hv.e3, Hv.e4, Hv.e5, Hv.e6, Hv.e7, Hv.e8, Hv.e9, Hv.e10, Hv.e11, Hv.e12, Hv.e13, Hv.e14, Hv.e16, Hv.e17, Hv.e18, Hv.e19, Hv.e20, Hv.e21, Hv.e22, Hv.e23, Hv.e24, Hv.e25, Hv.e26, Hv.x1, Hv.x2, Hv.x6, Hv.x7, Hv.x8, Hv.x9, Hv.x12, Hv.x13, Hv.x14, Hv.x15, Hv.x16, Hv.x17, Hv.x21, Hv.x22, Hv.x23, Hv.x24, Hv.x25, Hv.x26, Hv.x27, Hv.x28, Hv.x29, Hv.x30, Hv.y0, Hv.y1, Hv.y2, Hv.y3, Hv.y4, Hv.y5, Hv.x31, Hv.x32, Hv.x33, Hv.x34, Hv.x35, Hv.x36, Hv.x39, Hv.a1, Hv.a2, Hv.k1, Hv.k4, Hv.k6, Hv.k7, Hv.k8, Hv.k9, Hv.k10, Hv.t0, Hv.t1, Hv.t2, Hv.t3, Hv.t4, Hv.t5, Hv.t6, Hv.t7, Hv.t8, Hv.t9, Hv.t10, Hv.t11, Hv.t12, Hv.t13, Hv.t14, Hv.t14', Hv.t15, Hv.t16, Hv.t17, Hv.t18, Hv.t19, Hv.t20, Hv.t21, Hv.t22, Hv.t23, Hv.t24, Hv.t25, Hv.t26, Hv.t28, Hv.r2, Hv.r3, Hv.r4, Hv.z1, Hv.z2, Hv.z3, Hv.mutDs_int, Hv.intsOf_int, Hv.startE, Hv.isNew, List.set, tyP, l2t hm, h2, l3c (mutDs_mb _ _), all_mi, hr]) ?_
      obtain ⟨ns, rfl, _⟩ := rng_ints hr
      rw [refs_ints hr]
      obtain ⟨fin, e, l1, l2⟩ := dk_fold (ns := ns) (acc := []) (st := fun p => setT (.name 2) (isNew (.v (.tuple (ns.map .int)))) p (wipeE [some (.v (.tuple (ns.map .int))), some (.v (.int n)), none] [2])) (kx := fun ρ => (ev (C (k + 1)) T.G (.var 2) ρ).e) fun i hi => ⟨_, rfl, by simp (config := { implicitDefEqProofs := false }) [Hv.s1, Hv.s2, Hv.s3, Hv.s4, Hv.s5, Hv.s6, Hv.s7, Hv.s8, Hv.s9, Hv.s10, Hv.s11, Hv.s12, Hv.s13, Hv.s14, Hv.s15, Hv.s16, Hv.s17, Hv.s18, Hv.s19, Hv.s20, Hv.s21, Hv.s22, Hv.s23, Hv.s24, Hv.s25, Hv.s26, Hv.s27, Hv.s28, Hv.s29, Hv.s30, Hv.s31, Hv.s32, Hv.s33, Hv.s34, Hv.s35, Hv.s36, Hv.s37, Hv.s38, Hv.v1, Hv.v2, Hv.v3, Hv.v4, Hv.v6, Hv.v7, Hv.v8, Hv.v9, Hv.v10, Hv.v11, Hv.e1, Hv.e2, Hv.e3, Hv.e4, Hv.e5, Hv.e6, Hv.e7, Hv.e8, Hv.e9, Hv.e10, Hv.e11, Hv.e12, Hv.e13, Hv.e14, Hv.e16, Hv.e17, Hv.e18, Hv.e19, Hv.e20, Hv.e21, Hv.e22, Hv.e23, Hv.e24, Hv.e25, Hv.e26, Hv.x1, Hv.x2, Hv.x6, Hv.x7, Hv.x8, Hv.x9, Hv.x12, Hv.x13, Hv.x14, Hv.x15, Hv.x16, Hv.x17, Hv.x21, Hv.x22, Hv.x23, Hv.x24, Hv.x25, Hv.x26, Hv.x27, Hv.x28, Hv.x29, Hv.x30, Hv.y0, Hv.y1, Hv.y2, Hv.y3, Hv.y4, Hv.y5, Hv.x31, Hv.x32, Hv.x33, Hv.x34, Hv.x35, Hv.x36, Hv.x39, Hv.a1, Hv.a2, Hv.k1, Hv.k4, Hv.k6, Hv.k7, Hv.k8, Hv.k9, Hv.k10, Hv.t0, Hv.t1, Hv.t2, Hv.t3, Hv.t4, Hv.t5, Hv.t6, Hv.t7, Hv.t8, Hv.t9, Hv.t10, Hv.t11, Hv.t12, Hv.t13, Hv.t14, Hv.t14', Hv.t15, Hv.t16, Hv.t17, Hv.t18, Hv.t19, Hv.t20, Hv.t21, Hv.t22, Hv.t23, Hv.t24, Hv.t25, Hv.t26, Hv.t28, Hv.r2, Hv.r3, Hv.r4, Hv.z1, Hv.z2, Hv.z3, Hv.mutDs_int, Hv.intsOf_int, Hv.startE, Hv.isNew, List.set, we0, we1]⟩
      have ed : (ev (C (k + 1)) T.G (.dkl [2] .seq [.var 0] (.name 2) (.var 2)) [some (.v (.tuple (ns.map .int))), some (.v (.int n)), none]).e = .ok (.v (.int (fin.length : Nat))) [] := by
        rw [e_dkl]
        have es : seqR (evs (C (k + 1)) T.G [.var 0] [some (.v (.tuple (ns.map .int))), some (.v (.int n)), none]) = .ok [.v (.tuple (ns.map .int))] [] := by simp (config := { implicitDefEqProofs := false }) [Hv.s1, Hv.s2, Hv.s3, Hv.s4, Hv.s5, Hv.s6, Hv.s7, Hv.s8, Hv.s9, Hv.s10, Hv.s11, Hv.s12, Hv.s13, Hv.s14, Hv.s15, Hv.s16, Hv.s17, Hv.s18, Hv.s19, Hv.s20, Hv.s21, Hv.s22, Hv.s23, Hv.s24, Hv.s25, Hv.s26, Hv.s27, Hv.s28, Hv.s29, Hv.s30, Hv.s31, Hv.s32, Hv.s33, Hv.s34, Hv.s35, Hv.s36, Hv.s37, Hv.s38, Hv.v1, Hv.v2, Hv.v3, Hv.v4, Hv.v6, Hv.v7, Hv.v8, Hv.v9, Hv.v10, Hv.v11, Hv.e1, Hv.e2, Hv.e3, Hv.e4, Hv.e5, Hv.e6, Hv.e7, Hv.e8, Hv.e9, Hv.e10, Hv.e11, Hv.e12, Hv.e13, Hv.e14, Hv.e16, Hv.e17, Hv.e18, Hv.e19, Hv.e20, Hv.e21, Hv.e22, Hv.e23, Hv.e24, Hv.e25, Hv.e26, Hv.x1, Hv.x2, Hv.x6, Hv.x7, Hv.x8, Hv.x9, Hv.x12, Hv.x13, Hv.x14, Hv.x15, Hv.x16, Hv.x17, Hv.x21, Hv.x22, Hv.x23, Hv.x24, Hv.x25, Hv.x26, Hv.x27, Hv.x28, Hv.x29, Hv.x30, Hv.y0, Hv.y1, Hv.y2, Hv.y3, Hv.y4, Hv.y5, Hv.x31, Hv.x32, Hv.x33, Hv.x34, Hv.x35, Hv.x36, Hv.x39, Hv.a1, Hv.a2, Hv.k1, Hv.k4, Hv.k6, Hv.k7, Hv.k8, Hv.k9, Hv.k10, Hv.t0, Hv.t1, Hv.t2, Hv.t3, Hv.t4, Hv.t5, Hv.t6, Hv.t7, Hv.t8, Hv.t9, Hv.t10, Hv.t11, Hv.t12, Hv.t13, Hv.t14, Hv.t14', Hv.t15, Hv.t16, Hv.t17, Hv.t18, Hv.t19, Hv.t20, Hv.t21, Hv.t22, Hv.t23, Hv.t24, Hv.t25, Hv.t26, Hv.t28, Hv.r2, Hv.r3, Hv.r4, Hv.z1, Hv.z2, Hv.z3, Hv.mutDs_int, Hv.intsOf_int, Hv.startE, Hv.isNew, List.set]
        rw [es]
        show (match itemsR .seq [.v (.tuple (ns.map .int))] [] with
          | some (ps, b, _) => match dkR (fun p => setT (.name 2) b p (wipeE [some (.v (.tuple (ns.map .int))), some (.v (.int n)), none] [2])) (fun ρ => (ev (C (k + 1)) T.G (.var 2) ρ).e) ps [] with
            | some ks => Hv.R.ok (.v (.int ks.length)) []
            | none => .stuck
          | none => .stuck) = _
        have ei : itemsR .seq [.v (.tuple (ns.map .int))] [] = some (ns.map .int, isNew (.v (.tuple (ns.map .int))), []) := by
          unfold itemsR elems
          simp only [data, mutDs_int, Bool.false_eq_true, if_false]
        rw [ei]
        simp only [e]
      simp only [List.length_nil, Nat.zero_add] at l1 l2
      have hd : decide ((fin.length : Int) = (ns.length : Int)) = decide ns.Nodup := by
        congr 1
        refine propext ⟨fun h => (l2.mp (by omega)).1, fun h => ?_⟩
        have := l2.mpr ⟨h, fun i _ => by simp⟩
        omega
      simp (config := { implicitDefEqProofs := false }) [Hv.s1, Hv.s2, Hv.s3, Hv.s4, Hv.s5, Hv.s6, Hv.s7, Hv.s8, Hv.s9, Hv.s10, Hv.s11, Hv.s12, Hv.s13, Hv.s14, Hv.s15, Hv.s16, Hv.s17, Hv.s18, Hv.s19, Hv.s20, Hv.s21, Hv.s22, Hv.s23, Hv.s24, Hv.s25, Hv.s26, Hv.s27, Hv.s28, Hv.s29, Hv.s30, Hv.s31, Hv.s32, Hv.s33, Hv.s34, Hv.s35, Hv.s36, Hv.s37, Hv.s38, Hv.v1, Hv.v2, Hv.v3, Hv.v4, Hv.v6, Hv.v7, Hv.v8, Hv.v9, Hv.v10, Hv.v11, Hv.e1, Hv.e2, Hv.e3, Hv.e4, Hv.e5, Hv.e6, Hv.e7, Hv.e8, Hv.e9, Hv.e10, Hv.e11, Hv.e12, Hv.e13, Hv.e14, Hv.e16, Hv.e17, Hv.e18, Hv.e19, Hv.e20, Hv.e21, Hv.e22, Hv.e23, Hv.e24, Hv.e25, Hv.e26, Hv.x1, Hv.x2, Hv.x6, Hv.x7, Hv.x8, Hv.x9, Hv.x12, Hv.x13, Hv.x14, Hv.x15, Hv.x16, Hv.x17, Hv.x21, Hv.x22, Hv.x23, Hv.x24, Hv.x25, Hv.x26, Hv.x27, Hv.x28, Hv.x29, Hv.x30, Hv.y0, Hv.y1, Hv.y2, Hv.y3, Hv.y4, Hv.y5, Hv.x31, Hv.x32, Hv.x33, Hv.x34, Hv.x35, Hv.x36, Hv.x39, Hv.a1, Hv.a2, Hv.k1, Hv.k4, Hv.k6, Hv.k7, Hv.k8, Hv.k9, Hv.k10, Hv.t0, Hv.t1, Hv.t2, Hv.t3, Hv.t4, Hv.t5, Hv.t6, Hv.t7, Hv.t8, Hv.t9, Hv.t10, Hv.t11, Hv.t12, Hv.t13, Hv.t14, Hv.t14', Hv.t15, Hv.t16, Hv.t17, Hv.t18, Hv.t19, Hv.t20, Hv.t21, Hv.t22, Hv.t23, Hv.t24, Hv.t25, Hv.t26, Hv.t28, Hv.r2, Hv.r3, Hv.r4, Hv.z1, Hv.z2, Hv.z3, Hv.mutDs_int, Hv.intsOf_int, Hv.startE, Hv.isNew, List.set, ed, cmp_eqi, hd]
  | _ => simp (config := { implicitDefEqProofs := false }) [Hv.s1, Hv.s2, Hv.s3, Hv.s4, Hv.s5, Hv.s6, Hv.s7, Hv.s8, Hv.s9, Hv.s10, Hv.s11, Hv.s12, Hv.s13, Hv.s14, Hv.s15, Hv.s16, Hv.s17, Hv.s18, Hv.s19, Hv.s20, Hv.s21, Hv.s22, Hv.s23, Hv.s24, Hv.s25, Hv.s26, Hv.s27, Hv.s28, Hv.s29, Hv.s30, Hv.s31, Hv.s32, Hv.s33, Hv.s34, Hv.s35, Hv.s36, Hv.s37, Hv.s38, Hv.v1, Hv.v2, Hv.v3, Hv.v4, Hv.v6, Hv.v7, Hv.v8, Hv.v9, Hv.v10, Hv.v11, Hv.e1, Hv.e2, Hv.e3, Hv.e4, Hv.e5, Hv.e6, Hv.e7, Hv.e8, Hv.e9, Hv.e10, Hv.e11, Hv.e12, Hv.e13, Hv.e14, Hv.e16, Hv.e17, Hv.e18, Hv.e19, Hv.e20, Hv.e21, Hv.e22, Hv.e23, Hv.e24, Hv.e25, Hv.e26, Hv.x1, Hv.x2, Hv.x6, Hv.x7, Hv.x8, Hv.x9, Hv.x12, Hv.x13, Hv.x14, Hv.x15, Hv.x16, Hv.x17, Hv.x21, Hv.x22, Hv.x23, Hv.x24, Hv.x25, Hv.x26, Hv.x27, Hv.x28, Hv.x29, Hv.x30, Hv.y0, Hv.y1, Hv.y2, Hv.y3, Hv.y4, Hv.y5, Hv.x31, Hv.x32, Hv.x33, Hv.x34, Hv.x35, Hv.x36, Hv.x39, Hv.a1, Hv.a2, Hv.k1, Hv.k4, Hv.k6, Hv.k7, Hv.k8, Hv.k9, Hv.k10, Hv.t0, Hv.t1, Hv.t2, Hv.t3, Hv.t4, Hv.t5, Hv.t6, Hv.t7, Hv.t8, Hv.t9, Hv.t10, Hv.t11, Hv.t12, Hv.t13, Hv.t14, Hv.t14', Hv.t15, Hv.t16, Hv.t17, Hv.t18, Hv.t19, Hv.t20, Hv.t21, Hv.t22, Hv.t23, Hv.t24, Hv.t25, Hv.t26, Hv.t28, Hv.r2, Hv.r3, Hv.r4, Hv.z1, Hv.z2, Hv.z3, Hv.mutDs_int, Hv.intsOf_int, Hv.startE, Hv.isNew, List.set, tyP, refsB]
theorem gNP : T.G "NO_PARENT" = some (.int (-1)) := by kernel_rfl
def parB (k : Int) : PyData → Bool
  | .int i => decide (-1 ≤ i) && decide (i < k)
  | _ => false
theorem w4 (k : Nat) (p : PyData) (n : Int) : C (k + 2) 4 [p, .int n] = .ok (.v (.bool (parB n p))) := by
  rw [c4]
  unfold B4
  cases p with
  | int i => by_cases h1 : -1 ≤ i <;> by_cases h2 : i < n <;> simp (config := { implicitDefEqProofs := false }) [Hv.s1, Hv.s2, Hv.s3, Hv.s4, Hv.s5, Hv.s6, Hv.s7, Hv.s8, Hv.s9, Hv.s10, Hv.s11, Hv.s12, Hv.s13, Hv.s14, Hv.s15, Hv.s16, Hv.s17, Hv.s18, Hv.s19, Hv.s20, Hv.s21, Hv.s22, Hv.s23, Hv.s24, Hv.s25, Hv.s26, Hv.s27, Hv.s28, Hv.s29, Hv.s30, Hv.s31, Hv.s32, Hv.s33, Hv.s34, Hv.s35, Hv.s36, Hv.s37, Hv.s38, Hv.v1, Hv.v2, Hv.v3, Hv.v4, Hv.v6, Hv.v7, Hv.v8, Hv.v9, Hv.v10, Hv.v11, Hv.e1, Hv.e2, Hv.e3, Hv.e4, Hv.e5, Hv.e6, Hv.e7, Hv.e8, Hv.e9, Hv.e10, Hv.e11, Hv.e12, Hv.e13, Hv.e14, Hv.e16, Hv.e17, Hv.e18, Hv.e19, Hv.e20, Hv.e21, Hv.e22, Hv.e23, Hv.e24, Hv.e25, Hv.e26, Hv.x1, Hv.x2, Hv.x6, Hv.x7, Hv.x8, Hv.x9, Hv.x12, Hv.x13, Hv.x14, Hv.x15, Hv.x16, Hv.x17, Hv.x21, Hv.x22, Hv.x23, Hv.x24, Hv.x25, Hv.x26, Hv.x27, Hv.x28, Hv.x29, Hv.x30, Hv.y0, Hv.y1, Hv.y2, Hv.y3, Hv.y4, Hv.y5, Hv.x31, Hv.x32, Hv.x33, Hv.x34, Hv.x35, Hv.x36, Hv.x39, Hv.a1, Hv.a2, Hv.k1, Hv.k4, Hv.k6, Hv.k7, Hv.k8, Hv.k9, Hv.k10, Hv.t0, Hv.t1, Hv.t2, Hv.t3, Hv.t4, Hv.t5, Hv.t6, Hv.t7, Hv.t8, Hv.t9, Hv.t10, Hv.t11, Hv.t12, Hv.t13, Hv.t14, Hv.t14', Hv.t15, Hv.t16, Hv.t17, Hv.t18, Hv.t19, Hv.t20, Hv.t21, Hv.t22, Hv.t23, Hv.t24, Hv.t25, Hv.t26, Hv.t28, Hv.r2, Hv.r3, Hv.r4, Hv.z1, Hv.z2, Hv.z3, Hv.mutDs_int, Hv.intsOf_int, Hv.startE, Hv.isNew, List.set, w0, k2b, whole, parB, e27, gNP, h1, h2]
  | _ => simp (config := { implicitDefEqProofs := false }) [Hv.s1, Hv.s2, Hv.s3, Hv.s4, Hv.s5, Hv.s6, Hv.s7, Hv.s8, Hv.s9, Hv.s10, Hv.s11, Hv.s12, Hv.s13, Hv.s14, Hv.s15, Hv.s16, Hv.s17, Hv.s18, Hv.s19, Hv.s20, Hv.s21, Hv.s22, Hv.s23, Hv.s24, Hv.s25, Hv.s26, Hv.s27, Hv.s28, Hv.s29, Hv.s30, Hv.s31, Hv.s32, Hv.s33, Hv.s34, Hv.s35, Hv.s36, Hv.s37, Hv.s38, Hv.v1, Hv.v2, Hv.v3, Hv.v4, Hv.v6, Hv.v7, Hv.v8, Hv.v9, Hv.v10, Hv.v11, Hv.e1, Hv.e2, Hv.e3, Hv.e4, Hv.e5, Hv.e6, Hv.e7, Hv.e8, Hv.e9, Hv.e10, Hv.e11, Hv.e12, Hv.e13, Hv.e14, Hv.e16, Hv.e17, Hv.e18, Hv.e19, Hv.e20, Hv.e21, Hv.e22, Hv.e23, Hv.e24, Hv.e25, Hv.e26, Hv.x1, Hv.x2, Hv.x6, Hv.x7, Hv.x8, Hv.x9, Hv.x12, Hv.x13, Hv.x14, Hv.x15, Hv.x16, Hv.x17, Hv.x21, Hv.x22, Hv.x23, Hv.x24, Hv.x25, Hv.x26, Hv.x27, Hv.x28, Hv.x29, Hv.x30, Hv.y0, Hv.y1, Hv.y2, Hv.y3, Hv.y4, Hv.y5, Hv.x31, Hv.x32, Hv.x33, Hv.x34, Hv.x35, Hv.x36, Hv.x39, Hv.a1, Hv.a2, Hv.k1, Hv.k4, Hv.k6, Hv.k7, Hv.k8, Hv.k9, Hv.k10, Hv.t0, Hv.t1, Hv.t2, Hv.t3, Hv.t4, Hv.t5, Hv.t6, Hv.t7, Hv.t8, Hv.t9, Hv.t10, Hv.t11, Hv.t12, Hv.t13, Hv.t14, Hv.t14', Hv.t15, Hv.t16, Hv.t17, Hv.t18, Hv.t19, Hv.t20, Hv.t21, Hv.t22, Hv.t23, Hv.t24, Hv.t25, Hv.t26, Hv.t28, Hv.r2, Hv.r3, Hv.r4, Hv.z1, Hv.z2, Hv.z3, Hv.mutDs_int, Hv.intsOf_int, Hv.startE, Hv.isNew, List.set, w0, k2b, whole, parB]
end Law

namespace Law
open PySem Hv
structure It (p : PyData) : Prop where
  tup : ∀ ps, p = .tuple ps → mutDs ps = false ∧ ps.all flatP = true
  str : ∀ x, p = .str x → x.length ≤ 10000
  len : ∀ ps, p = .tuple ps → ps.length ≤ 10000
structure Tt (p : PyData) : Prop where
  it : ∀ a b c d e f, p = .tuple [a, b, c, d, e, f] → It a ∧ It b ∧ It c ∧ It d ∧ It e ∧ It f ∧ flatP b = true
abbrev ROLt : List PyData := [.str "page", .str "group", .str "list", .str "item", .str "heading", .str "text", .str "button", .str "link", .str "field", .str "image", .str "note", .str "table"]
def rin (b : PyData) : Bool := ROLt.any fun z => PyData.eqv z b
theorem gROL : T.G "ROLES" = some (.tuple ROLt) := by kernel_rfl
theorem gMT : T.G "MOST_THINGS" = some (.int 60) := by kernel_rfl
theorem nin_tup {b : PyData} (h : flatP b = true) : cmpP .nin b (.tuple ROLt) = .ok (!rin b) := by
  show (match inP b (.tuple ROLt) with
    | .ok b => BR.ok (!b)
    | .stuck => .stuck) = _
  have : inP b (.tuple ROLt) = .ok (rin b) := by
    show (if flatP b && ROLt.all flatP then BR.ok (rin b) else .stuck) = _
    rw [h]
    rfl
  rw [this]
theorem flat_ok {b : PyData} (h : flatP b = true) : cmpOk b = true := by
  cases b <;> simp [flatP] at h <;> simp [cmpOk, noDict, PyData.depth]
theorem nin_lst {b : PyData} (h : flatP b = true) : cmpP .nin b (.list ROLt) = .ok (!rin b) := by
  show (match inP b (.list ROLt) with
    | .ok b => BR.ok (!b)
    | .stuck => .stuck) = _
  have hl : cmpOk (.list ROLt) = true := (Sm.list (n := 0) (ps := ROLt) fun p hp => by
    obtain ⟨x, _, rfl⟩ := List.mem_map.mp (show p ∈ ROL.map PyData.str from hp)
    exact Sm.str _ _).mono (by omega) |>.cmp
  have : inP b (.list ROLt) = .ok (rin b) := by
    show (if cmpOk b && cmpOk (.list ROLt) then BR.ok (rin b) else .stuck) = _
    rw [flat_ok h, hl]
    rfl
  rw [this]
def hidB : PyData → Bool
  | .int i => decide (0 ≤ i) && decide (i ≤ 1)
  | _ => false
def thB (k n : Int) : PyData → Bool
  | .tuple [a, b, c, d, e, f] => parB k a && (rin b && (textB c && (refsB n d && (hidB e && ibx f))))
  | _ => false
theorem in_01 {i : Int} : cmpP .in_ (.int i) (.tuple [.int 0, .int 1]) = .ok (decide (0 ≤ i) && decide (i ≤ 1)) := by
  show BR.ok (([.int 0, .int 1] : List PyData).any fun z => PyData.eqv z (.int i)) = _
  congr 1
  have e : ∀ j : Int, PyData.eqv (.int j) (.int i) = decide (j = i) := fun j => rfl
  simp only [List.any_cons, List.any_nil, e, Bool.or_false]
  by_cases h0 : 0 = i
  · subst h0; rfl
  · by_cases h1 : 1 = i
    · subst h1; rfl
    · have : ¬ (0 ≤ i ∧ i ≤ 1) := by omega
      rw [decide_eq_false h0, decide_eq_false h1, ← Bool.decide_and, decide_eq_false this]
      rfl
theorem w5 (k : Nat) (p : PyData) (hp : Tt p) (i n : Int) : C (k + 3) 5 [p, .int i, .int n] = .ok (.v (.bool (thB i n p))) := by
  rw [c5]
  unfold B5
  by_cases h6 : ∃ a b c d e f, p = .tuple [a, b, c, d, e, f]
  · obtain ⟨a, b, c, d, e, f, rfl⟩ := h6
    obtain ⟨ia, ib, ic, id_, ie, if_, hb⟩ := hp.it _ _ _ _ _ _ rfl
    have hn := nin_tup hb
    have h1 := w4 k a i
    have h2 := w2 (k + 1) c ic.str
    have h3 := w3 k d n fun ps h => (id_.tup ps h).1
    have h4 := w0 (k + 1) e
    have h5 := w1 k f fun ps h => (if_.tup ps h).1
    generalize hw : (!mutD (.tuple [a, b, c, d, e, f])) = w
    have ha : asgTD [3, 4, 5, 6, 7, 8] [some (.v (.tuple [a, b, c, d, e, f])), some (.v (.int i)), some (.v (.int n)), none, none, none, none, none, none] (.v (.tuple [a, b, c, d, e, f])) [] = .next [some (.v (.tuple [a, b, c, d, e, f])), some (.v (.int i)), some (.v (.int n)), some (fz w a), some (fz w b), some (fz w c), some (fz w d), some (fz w e), some (fz w f)] := by
      rw [asgT_v, hw, sT1, sT3, sT3, sT3, sT3, sT3, sT3, sT4]
      rfl
    unfold thB
    rw [t0]
    refine re_seq [some (.v (.tuple [a, b, c, d, e, f])), some (.v (.int i)), some (.v (.int n)), none, none, none, none, none, none] (by simp (config := { implicitDefEqProofs := false }) [Hv.s1, Hv.s2, Hv.s3, Hv.s4, Hv.s5, Hv.s6, Hv.s7, Hv.s8, Hv.s9, Hv.s10, Hv.s11, Hv.s12, Hv.s13, Hv.s14, Hv.s15, Hv.s16, Hv.s17, Hv.s18, Hv.s19, Hv.s20, Hv.s21, Hv.s22, Hv.s23, Hv.s24, Hv.s25, Hv.s26, Hv.s27, Hv.s28, Hv.s29, Hv.s30, Hv.s31, Hv.s32, Hv.s33, Hv.s34, Hv.s35, Hv.s36, Hv.s37, Hv.s38, Hv.v1, Hv.v2, Hv.v3, Hv.v4, Hv.v6, Hv.v7, Hv.v8, Hv.v9, Hv.v10, Hv.v11, Hv.e1, Hv.e2, Hv.e3, Hv.e4, Hv.e5, Hv.e6, Hv.e7, Hv.e8, Hv.e9, Hv.e10, Hv.e11, Hv.e12, Hv.e13, Hv.e14, Hv.e16, Hv.e17, Hv.e18, Hv.e19, Hv.e20, Hv.e21, Hv.e22, Hv.e23, Hv.e24, Hv.e25, Hv.e26, Hv.x1, Hv.x2, Hv.x6, Hv.x7, Hv.x8, Hv.x9, Hv.x12, Hv.x13, Hv.x14, Hv.x15, Hv.x16, Hv.x17, Hv.x21, Hv.x22, Hv.x23, Hv.x24, Hv.x25, Hv.x26, Hv.x27, Hv.x28, Hv.x29, Hv.x30, Hv.y0, Hv.y1, Hv.y2, Hv.y3, Hv.y4, Hv.y5, Hv.x31, Hv.x32, Hv.x33, Hv.x34, Hv.x35, Hv.x36, Hv.x39, Hv.a1, Hv.a2, Hv.k1, Hv.k4, Hv.k6, Hv.k7, Hv.k8, Hv.k9, Hv.k10, Hv.t0, Hv.t1, Hv.t2, Hv.t3, Hv.t4, Hv.t5, Hv.t6, Hv.t7, Hv.t8, Hv.t9, Hv.t10, Hv.t11, Hv.t12, Hv.t13, Hv.t14, Hv.t14', Hv.t15, Hv.t16, Hv.t17, Hv.t18, Hv.t19, Hv.t20, Hv.t21, Hv.t22, Hv.t23, Hv.t24, Hv.t25, Hv.t26, Hv.t28, Hv.r2, Hv.r3, Hv.r4, Hv.z1, Hv.z2, Hv.z3, Hv.mutDs_int, Hv.intsOf_int, Hv.startE, Hv.isNew, List.set, tyP, cmp_nei]) ?_
    rw [t7, t0]
    refine re_seq [some (.v (.tuple [a, b, c, d, e, f])), some (.v (.int i)), some (.v (.int n)), some (fz w a), some (fz w b), some (fz w c), some (fz w d), some (fz w e), some (fz w f)] (by simp (config := { implicitDefEqProofs := false }) [Hv.s1, Hv.s2, Hv.s3, Hv.s4, Hv.s5, Hv.s6, Hv.s7, Hv.s8, Hv.s9, Hv.s10, Hv.s11, Hv.s12, Hv.s13, Hv.s14, Hv.s15, Hv.s16, Hv.s17, Hv.s18, Hv.s19, Hv.s20, Hv.s21, Hv.s22, Hv.s23, Hv.s24, Hv.s25, Hv.s26, Hv.s27, Hv.s28, Hv.s29, Hv.s30, Hv.s31, Hv.s32, Hv.s33, Hv.s34, Hv.s35, Hv.s36, Hv.s37, Hv.s38, Hv.v1, Hv.v2, Hv.v3, Hv.v4, Hv.v6, Hv.v7, Hv.v8, Hv.v9, Hv.v10, Hv.v11, Hv.e1, Hv.e2, Hv.e3, Hv.e4, Hv.e5, Hv.e6, Hv.e7, Hv.e8, Hv.e9, Hv.e10, Hv.e11, Hv.e12, Hv.e13, Hv.e14, Hv.e16, Hv.e17, Hv.e18, Hv.e19, Hv.e20, Hv.e21, Hv.e22, Hv.e23, Hv.e24, Hv.e25, Hv.e26, Hv.x1, Hv.x2, Hv.x6, Hv.x7, Hv.x8, Hv.x9, Hv.x12, Hv.x13, Hv.x14, Hv.x15, Hv.x16, Hv.x17, Hv.x21, Hv.x22, Hv.x23, Hv.x24, Hv.x25, Hv.x26, Hv.x27, Hv.x28, Hv.x29, Hv.x30, Hv.y0, Hv.y1, Hv.y2, Hv.y3, Hv.y4, Hv.y5, Hv.x31, Hv.x32, Hv.x33, Hv.x34, Hv.x35, Hv.x36, Hv.x39, Hv.a1, Hv.a2, Hv.k1, Hv.k4, Hv.k6, Hv.k7, Hv.k8, Hv.k9, Hv.k10, Hv.t0, Hv.t1, Hv.t2, Hv.t3, Hv.t4, Hv.t5, Hv.t6, Hv.t7, Hv.t8, Hv.t9, Hv.t10, Hv.t11, Hv.t12, Hv.t13, Hv.t14, Hv.t14', Hv.t15, Hv.t16, Hv.t17, Hv.t18, Hv.t19, Hv.t20, Hv.t21, Hv.t22, Hv.t23, Hv.t24, Hv.t25, Hv.t26, Hv.t28, Hv.r2, Hv.r3, Hv.r4, Hv.z1, Hv.z2, Hv.z3, Hv.mutDs_int, Hv.intsOf_int, Hv.startE, Hv.isNew, List.set, t_asgT, ha]) ?_
    cases g1 : parB i a with
    | false => simp (config := { implicitDefEqProofs := false }) [Hv.s1, Hv.s2, Hv.s3, Hv.s4, Hv.s5, Hv.s6, Hv.s7, Hv.s8, Hv.s9, Hv.s10, Hv.s11, Hv.s12, Hv.s13, Hv.s14, Hv.s15, Hv.s16, Hv.s17, Hv.s18, Hv.s19, Hv.s20, Hv.s21, Hv.s22, Hv.s23, Hv.s24, Hv.s25, Hv.s26, Hv.s27, Hv.s28, Hv.s29, Hv.s30, Hv.s31, Hv.s32, Hv.s33, Hv.s34, Hv.s35, Hv.s36, Hv.s37, Hv.s38, Hv.v1, Hv.v2, Hv.v3, Hv.v4, Hv.v6, Hv.v7, Hv.v8, Hv.v9, Hv.v10, Hv.v11, Hv.e1, Hv.e2, Hv.e3, Hv.e4, Hv.e5, Hv.e6, Hv.e7, Hv.e8, Hv.e9, Hv.e10, Hv.e11, Hv.e12, Hv.e13, Hv.e14, Hv.e16, Hv.e17, Hv.e18, Hv.e19, Hv.e20, Hv.e21, Hv.e22, Hv.e23, Hv.e24, Hv.e25, Hv.e26, Hv.x1, Hv.x2, Hv.x6, Hv.x7, Hv.x8, Hv.x9, Hv.x12, Hv.x13, Hv.x14, Hv.x15, Hv.x16, Hv.x17, Hv.x21, Hv.x22, Hv.x23, Hv.x24, Hv.x25, Hv.x26, Hv.x27, Hv.x28, Hv.x29, Hv.x30, Hv.y0, Hv.y1, Hv.y2, Hv.y3, Hv.y4, Hv.y5, Hv.x31, Hv.x32, Hv.x33, Hv.x34, Hv.x35, Hv.x36, Hv.x39, Hv.a1, Hv.a2, Hv.k1, Hv.k4, Hv.k6, Hv.k7, Hv.k8, Hv.k9, Hv.k10, Hv.t0, Hv.t1, Hv.t2, Hv.t3, Hv.t4, Hv.t5, Hv.t6, Hv.t7, Hv.t8, Hv.t9, Hv.t10, Hv.t11, Hv.t12, Hv.t13, Hv.t14, Hv.t14', Hv.t15, Hv.t16, Hv.t17, Hv.t18, Hv.t19, Hv.t20, Hv.t21, Hv.t22, Hv.t23, Hv.t24, Hv.t25, Hv.t26, Hv.t28, Hv.r2, Hv.r3, Hv.r4, Hv.z1, Hv.z2, Hv.z3, Hv.mutDs_int, Hv.intsOf_int, Hv.startE, Hv.isNew, List.set, var_fz, kf, h1, g1, k2b]
    | true =>
      cases g2 : rin b with
      | false => simp (config := { implicitDefEqProofs := false }) [Hv.s1, Hv.s2, Hv.s3, Hv.s4, Hv.s5, Hv.s6, Hv.s7, Hv.s8, Hv.s9, Hv.s10, Hv.s11, Hv.s12, Hv.s13, Hv.s14, Hv.s15, Hv.s16, Hv.s17, Hv.s18, Hv.s19, Hv.s20, Hv.s21, Hv.s22, Hv.s23, Hv.s24, Hv.s25, Hv.s26, Hv.s27, Hv.s28, Hv.s29, Hv.s30, Hv.s31, Hv.s32, Hv.s33, Hv.s34, Hv.s35, Hv.s36, Hv.s37, Hv.s38, Hv.v1, Hv.v2, Hv.v3, Hv.v4, Hv.v6, Hv.v7, Hv.v8, Hv.v9, Hv.v10, Hv.v11, Hv.e1, Hv.e2, Hv.e3, Hv.e4, Hv.e5, Hv.e6, Hv.e7, Hv.e8, Hv.e9, Hv.e10, Hv.e11, Hv.e12, Hv.e13, Hv.e14, Hv.e16, Hv.e17, Hv.e18, Hv.e19, Hv.e20, Hv.e21, Hv.e22, Hv.e23, Hv.e24, Hv.e25, Hv.e26, Hv.x1, Hv.x2, Hv.x6, Hv.x7, Hv.x8, Hv.x9, Hv.x12, Hv.x13, Hv.x14, Hv.x15, Hv.x16, Hv.x17, Hv.x21, Hv.x22, Hv.x23, Hv.x24, Hv.x25, Hv.x26, Hv.x27, Hv.x28, Hv.x29, Hv.x30, Hv.y0, Hv.y1, Hv.y2, Hv.y3, Hv.y4, Hv.y5, Hv.x31, Hv.x32, Hv.x33, Hv.x34, Hv.x35, Hv.x36, Hv.x39, Hv.a1, Hv.a2, Hv.k1, Hv.k4, Hv.k6, Hv.k7, Hv.k8, Hv.k9, Hv.k10, Hv.t0, Hv.t1, Hv.t2, Hv.t3, Hv.t4, Hv.t5, Hv.t6, Hv.t7, Hv.t8, Hv.t9, Hv.t10, Hv.t11, Hv.t12, Hv.t13, Hv.t14, Hv.t14', Hv.t15, Hv.t16, Hv.t17, Hv.t18, Hv.t19, Hv.t20, Hv.t21, Hv.t22, Hv.t23, Hv.t24, Hv.t25, Hv.t26, Hv.t28, Hv.r2, Hv.r3, Hv.r4, Hv.z1, Hv.z2, Hv.z3, Hv.mutDs_int, Hv.intsOf_int, Hv.startE, Hv.isNew, List.set, var_fz, kf, h1, g1, k2b, dat2_fz, e27, gROL, hn, g2]
      | true =>
        cases g3 : textB c with
        | false => simp (config := { implicitDefEqProofs := false }) [Hv.s1, Hv.s2, Hv.s3, Hv.s4, Hv.s5, Hv.s6, Hv.s7, Hv.s8, Hv.s9, Hv.s10, Hv.s11, Hv.s12, Hv.s13, Hv.s14, Hv.s15, Hv.s16, Hv.s17, Hv.s18, Hv.s19, Hv.s20, Hv.s21, Hv.s22, Hv.s23, Hv.s24, Hv.s25, Hv.s26, Hv.s27, Hv.s28, Hv.s29, Hv.s30, Hv.s31, Hv.s32, Hv.s33, Hv.s34, Hv.s35, Hv.s36, Hv.s37, Hv.s38, Hv.v1, Hv.v2, Hv.v3, Hv.v4, Hv.v6, Hv.v7, Hv.v8, Hv.v9, Hv.v10, Hv.v11, Hv.e1, Hv.e2, Hv.e3, Hv.e4, Hv.e5, Hv.e6, Hv.e7, Hv.e8, Hv.e9, Hv.e10, Hv.e11, Hv.e12, Hv.e13, Hv.e14, Hv.e16, Hv.e17, Hv.e18, Hv.e19, Hv.e20, Hv.e21, Hv.e22, Hv.e23, Hv.e24, Hv.e25, Hv.e26, Hv.x1, Hv.x2, Hv.x6, Hv.x7, Hv.x8, Hv.x9, Hv.x12, Hv.x13, Hv.x14, Hv.x15, Hv.x16, Hv.x17, Hv.x21, Hv.x22, Hv.x23, Hv.x24, Hv.x25, Hv.x26, Hv.x27, Hv.x28, Hv.x29, Hv.x30, Hv.y0, Hv.y1, Hv.y2, Hv.y3, Hv.y4, Hv.y5, Hv.x31, Hv.x32, Hv.x33, Hv.x34, Hv.x35, Hv.x36, Hv.x39, Hv.a1, Hv.a2, Hv.k1, Hv.k4, Hv.k6, Hv.k7, Hv.k8, Hv.k9, Hv.k10, Hv.t0, Hv.t1, Hv.t2, Hv.t3, Hv.t4, Hv.t5, Hv.t6, Hv.t7, Hv.t8, Hv.t9, Hv.t10, Hv.t11, Hv.t12, Hv.t13, Hv.t14, Hv.t14', Hv.t15, Hv.t16, Hv.t17, Hv.t18, Hv.t19, Hv.t20, Hv.t21, Hv.t22, Hv.t23, Hv.t24, Hv.t25, Hv.t26, Hv.t28, Hv.r2, Hv.r3, Hv.r4, Hv.z1, Hv.z2, Hv.z3, Hv.mutDs_int, Hv.intsOf_int, Hv.startE, Hv.isNew, List.set, var_fz, kf, h1, g1, k2b, dat2_fz, e27, gROL, hn, g2, h2, g3]
        | true =>
          cases g4 : refsB n d with
          | false => simp (config := { implicitDefEqProofs := false }) [Hv.s1, Hv.s2, Hv.s3, Hv.s4, Hv.s5, Hv.s6, Hv.s7, Hv.s8, Hv.s9, Hv.s10, Hv.s11, Hv.s12, Hv.s13, Hv.s14, Hv.s15, Hv.s16, Hv.s17, Hv.s18, Hv.s19, Hv.s20, Hv.s21, Hv.s22, Hv.s23, Hv.s24, Hv.s25, Hv.s26, Hv.s27, Hv.s28, Hv.s29, Hv.s30, Hv.s31, Hv.s32, Hv.s33, Hv.s34, Hv.s35, Hv.s36, Hv.s37, Hv.s38, Hv.v1, Hv.v2, Hv.v3, Hv.v4, Hv.v6, Hv.v7, Hv.v8, Hv.v9, Hv.v10, Hv.v11, Hv.e1, Hv.e2, Hv.e3, Hv.e4, Hv.e5, Hv.e6, Hv.e7, Hv.e8, Hv.e9, Hv.e10, Hv.e11, Hv.e12, Hv.e13, Hv.e14, Hv.e16, Hv.e17, Hv.e18, Hv.e19, Hv.e20, Hv.e21, Hv.e22, Hv.e23, Hv.e24, Hv.e25, Hv.e26, Hv.x1, Hv.x2, Hv.x6, Hv.x7, Hv.x8, Hv.x9, Hv.x12, Hv.x13, Hv.x14, Hv.x15, Hv.x16, Hv.x17, Hv.x21, Hv.x22, Hv.x23, Hv.x24, Hv.x25, Hv.x26, Hv.x27, Hv.x28, Hv.x29, Hv.x30, Hv.y0, Hv.y1, Hv.y2, Hv.y3, Hv.y4, Hv.y5, Hv.x31, Hv.x32, Hv.x33, Hv.x34, Hv.x35, Hv.x36, Hv.x39, Hv.a1, Hv.a2, Hv.k1, Hv.k4, Hv.k6, Hv.k7, Hv.k8, Hv.k9, Hv.k10, Hv.t0, Hv.t1, Hv.t2, Hv.t3, Hv.t4, Hv.t5, Hv.t6, Hv.t7, Hv.t8, Hv.t9, Hv.t10, Hv.t11, Hv.t12, Hv.t13, Hv.t14, Hv.t14', Hv.t15, Hv.t16, Hv.t17, Hv.t18, Hv.t19, Hv.t20, Hv.t21, Hv.t22, Hv.t23, Hv.t24, Hv.t25, Hv.t26, Hv.t28, Hv.r2, Hv.r3, Hv.r4, Hv.z1, Hv.z2, Hv.z3, Hv.mutDs_int, Hv.intsOf_int, Hv.startE, Hv.isNew, List.set, var_fz, kf, h1, g1, k2b, dat2_fz, e27, gROL, hn, g2, h2, g3, h3, g4]
          | true =>
            cases e with
            | int j =>
              cases g5 : hidB (.int j) with
              | false =>
                have : (decide (0 ≤ j) && decide (j ≤ 1)) = false := g5
                have hin := in_01 (i := j)
                rw [this] at hin
                simp (config := { implicitDefEqProofs := false }) [Hv.s1, Hv.s2, Hv.s3, Hv.s4, Hv.s5, Hv.s6, Hv.s7, Hv.s8, Hv.s9, Hv.s10, Hv.s11, Hv.s12, Hv.s13, Hv.s14, Hv.s15, Hv.s16, Hv.s17, Hv.s18, Hv.s19, Hv.s20, Hv.s21, Hv.s22, Hv.s23, Hv.s24, Hv.s25, Hv.s26, Hv.s27, Hv.s28, Hv.s29, Hv.s30, Hv.s31, Hv.s32, Hv.s33, Hv.s34, Hv.s35, Hv.s36, Hv.s37, Hv.s38, Hv.v1, Hv.v2, Hv.v3, Hv.v4, Hv.v6, Hv.v7, Hv.v8, Hv.v9, Hv.v10, Hv.v11, Hv.e1, Hv.e2, Hv.e3, Hv.e4, Hv.e5, Hv.e6, Hv.e7, Hv.e8, Hv.e9, Hv.e10, Hv.e11, Hv.e12, Hv.e13, Hv.e14, Hv.e16, Hv.e17, Hv.e18, Hv.e19, Hv.e20, Hv.e21, Hv.e22, Hv.e23, Hv.e24, Hv.e25, Hv.e26, Hv.x1, Hv.x2, Hv.x6, Hv.x7, Hv.x8, Hv.x9, Hv.x12, Hv.x13, Hv.x14, Hv.x15, Hv.x16, Hv.x17, Hv.x21, Hv.x22, Hv.x23, Hv.x24, Hv.x25, Hv.x26, Hv.x27, Hv.x28, Hv.x29, Hv.x30, Hv.y0, Hv.y1, Hv.y2, Hv.y3, Hv.y4, Hv.y5, Hv.x31, Hv.x32, Hv.x33, Hv.x34, Hv.x35, Hv.x36, Hv.x39, Hv.a1, Hv.a2, Hv.k1, Hv.k4, Hv.k6, Hv.k7, Hv.k8, Hv.k9, Hv.k10, Hv.t0, Hv.t1, Hv.t2, Hv.t3, Hv.t4, Hv.t5, Hv.t6, Hv.t7, Hv.t8, Hv.t9, Hv.t10, Hv.t11, Hv.t12, Hv.t13, Hv.t14, Hv.t14', Hv.t15, Hv.t16, Hv.t17, Hv.t18, Hv.t19, Hv.t20, Hv.t21, Hv.t22, Hv.t23, Hv.t24, Hv.t25, Hv.t26, Hv.t28, Hv.r2, Hv.r3, Hv.r4, Hv.z1, Hv.z2, Hv.z3, Hv.mutDs_int, Hv.intsOf_int, Hv.startE, Hv.isNew, List.set, var_fz, kf, h1, g1, k2b, dat2_fz, e27, gROL, hn, g2, h2, g3, h3, g4, h4, whole, tupD, isFz, mkT, isNews, isNew, md1, md5, hin, g5]
              | true =>
                have : (decide (0 ≤ j) && decide (j ≤ 1)) = true := g5
                have hin := in_01 (i := j)
                rw [this] at hin
                simp (config := { implicitDefEqProofs := false }) [Hv.s1, Hv.s2, Hv.s3, Hv.s4, Hv.s5, Hv.s6, Hv.s7, Hv.s8, Hv.s9, Hv.s10, Hv.s11, Hv.s12, Hv.s13, Hv.s14, Hv.s15, Hv.s16, Hv.s17, Hv.s18, Hv.s19, Hv.s20, Hv.s21, Hv.s22, Hv.s23, Hv.s24, Hv.s25, Hv.s26, Hv.s27, Hv.s28, Hv.s29, Hv.s30, Hv.s31, Hv.s32, Hv.s33, Hv.s34, Hv.s35, Hv.s36, Hv.s37, Hv.s38, Hv.v1, Hv.v2, Hv.v3, Hv.v4, Hv.v6, Hv.v7, Hv.v8, Hv.v9, Hv.v10, Hv.v11, Hv.e1, Hv.e2, Hv.e3, Hv.e4, Hv.e5, Hv.e6, Hv.e7, Hv.e8, Hv.e9, Hv.e10, Hv.e11, Hv.e12, Hv.e13, Hv.e14, Hv.e16, Hv.e17, Hv.e18, Hv.e19, Hv.e20, Hv.e21, Hv.e22, Hv.e23, Hv.e24, Hv.e25, Hv.e26, Hv.x1, Hv.x2, Hv.x6, Hv.x7, Hv.x8, Hv.x9, Hv.x12, Hv.x13, Hv.x14, Hv.x15, Hv.x16, Hv.x17, Hv.x21, Hv.x22, Hv.x23, Hv.x24, Hv.x25, Hv.x26, Hv.x27, Hv.x28, Hv.x29, Hv.x30, Hv.y0, Hv.y1, Hv.y2, Hv.y3, Hv.y4, Hv.y5, Hv.x31, Hv.x32, Hv.x33, Hv.x34, Hv.x35, Hv.x36, Hv.x39, Hv.a1, Hv.a2, Hv.k1, Hv.k4, Hv.k6, Hv.k7, Hv.k8, Hv.k9, Hv.k10, Hv.t0, Hv.t1, Hv.t2, Hv.t3, Hv.t4, Hv.t5, Hv.t6, Hv.t7, Hv.t8, Hv.t9, Hv.t10, Hv.t11, Hv.t12, Hv.t13, Hv.t14, Hv.t14', Hv.t15, Hv.t16, Hv.t17, Hv.t18, Hv.t19, Hv.t20, Hv.t21, Hv.t22, Hv.t23, Hv.t24, Hv.t25, Hv.t26, Hv.t28, Hv.r2, Hv.r3, Hv.r4, Hv.z1, Hv.z2, Hv.z3, Hv.mutDs_int, Hv.intsOf_int, Hv.startE, Hv.isNew, List.set, var_fz, kf, h1, g1, k2b, dat2_fz, e27, gROL, hn, g2, h2, g3, h3, g4, h4, whole, tupD, isFz, mkT, isNews, isNew, md1, md5, hin, h5, g5]
            | _ => simp (config := { implicitDefEqProofs := false }) [Hv.s1, Hv.s2, Hv.s3, Hv.s4, Hv.s5, Hv.s6, Hv.s7, Hv.s8, Hv.s9, Hv.s10, Hv.s11, Hv.s12, Hv.s13, Hv.s14, Hv.s15, Hv.s16, Hv.s17, Hv.s18, Hv.s19, Hv.s20, Hv.s21, Hv.s22, Hv.s23, Hv.s24, Hv.s25, Hv.s26, Hv.s27, Hv.s28, Hv.s29, Hv.s30, Hv.s31, Hv.s32, Hv.s33, Hv.s34, Hv.s35, Hv.s36, Hv.s37, Hv.s38, Hv.v1, Hv.v2, Hv.v3, Hv.v4, Hv.v6, Hv.v7, Hv.v8, Hv.v9, Hv.v10, Hv.v11, Hv.e1, Hv.e2, Hv.e3, Hv.e4, Hv.e5, Hv.e6, Hv.e7, Hv.e8, Hv.e9, Hv.e10, Hv.e11, Hv.e12, Hv.e13, Hv.e14, Hv.e16, Hv.e17, Hv.e18, Hv.e19, Hv.e20, Hv.e21, Hv.e22, Hv.e23, Hv.e24, Hv.e25, Hv.e26, Hv.x1, Hv.x2, Hv.x6, Hv.x7, Hv.x8, Hv.x9, Hv.x12, Hv.x13, Hv.x14, Hv.x15, Hv.x16, Hv.x17, Hv.x21, Hv.x22, Hv.x23, Hv.x24, Hv.x25, Hv.x26, Hv.x27, Hv.x28, Hv.x29, Hv.x30, Hv.y0, Hv.y1, Hv.y2, Hv.y3, Hv.y4, Hv.y5, Hv.x31, Hv.x32, Hv.x33, Hv.x34, Hv.x35, Hv.x36, Hv.x39, Hv.a1, Hv.a2, Hv.k1, Hv.k4, Hv.k6, Hv.k7, Hv.k8, Hv.k9, Hv.k10, Hv.t0, Hv.t1, Hv.t2, Hv.t3, Hv.t4, Hv.t5, Hv.t6, Hv.t7, Hv.t8, Hv.t9, Hv.t10, Hv.t11, Hv.t12, Hv.t13, Hv.t14, Hv.t14', Hv.t15, Hv.t16, Hv.t17, Hv.t18, Hv.t19, Hv.t20, Hv.t21, Hv.t22, Hv.t23, Hv.t24, Hv.t25, Hv.t26, Hv.t28, Hv.r2, Hv.r3, Hv.r4, Hv.z1, Hv.z2, Hv.z3, Hv.mutDs_int, Hv.intsOf_int, Hv.startE, Hv.isNew, List.set, var_fz, kf, h1, g1, k2b, dat2_fz, e27, gROL, hn, g2, h2, g3, h3, g4, h4, whole, hidB]
  · have hno : thB i n p = false := by
      unfold thB
      split
      · rename_i a b c d e f
        exact absurd ⟨a, b, c, d, e, f, rfl⟩ h6
      · rfl
    rw [hno]
    cases p with
    | tuple ps =>
      have : ((ps.length : Int) = 6) = False := by
        refine eq_false fun h => h6 ?_
        match ps, (by omega : ps.length = 6) with
        | [a, b, c, d, e, f], _ => exact ⟨a, b, c, d, e, f, rfl⟩
      simp (config := { implicitDefEqProofs := false }) [Hv.s1, Hv.s2, Hv.s3, Hv.s4, Hv.s5, Hv.s6, Hv.s7, Hv.s8, Hv.s9, Hv.s10, Hv.s11, Hv.s12, Hv.s13, Hv.s14, Hv.s15, Hv.s16, Hv.s17, Hv.s18, Hv.s19, Hv.s20, Hv.s21, Hv.s22, Hv.s23, Hv.s24, Hv.s25, Hv.s26, Hv.s27, Hv.s28, Hv.s29, Hv.s30, Hv.s31, Hv.s32, Hv.s33, Hv.s34, Hv.s35, Hv.s36, Hv.s37, Hv.s38, Hv.v1, Hv.v2, Hv.v3, Hv.v4, Hv.v6, Hv.v7, Hv.v8, Hv.v9, Hv.v10, Hv.v11, Hv.e1, Hv.e2, Hv.e3, Hv.e4, Hv.e5, Hv.e6, Hv.e7, Hv.e8, Hv.e9, Hv.e10, Hv.e11, Hv.e12, Hv.e13, Hv.e14, Hv.e16, Hv.e17, Hv.e18, Hv.e19, Hv.e20, Hv.e21, Hv.e22, Hv.e23, Hv.e24, Hv.e25, Hv.e26, Hv.x1, Hv.x2, Hv.x6, Hv.x7, Hv.x8, Hv.x9, Hv.x12, Hv.x13, Hv.x14, Hv.x15, Hv.x16, Hv.x17, Hv.x21, Hv.x22, Hv.x23, Hv.x24, Hv.x25, Hv.x26, Hv.x27, Hv.x28, Hv.x29, Hv.x30, Hv.y0, Hv.y1, Hv.y2, Hv.y3, Hv.y4, Hv.y5, Hv.x31, Hv.x32, Hv.x33, Hv.x34, Hv.x35, Hv.x36, Hv.x39, Hv.a1, Hv.a2, Hv.k1, Hv.k4, Hv.k6, Hv.k7, Hv.k8, Hv.k9, Hv.k10, Hv.t0, Hv.t1, Hv.t2, Hv.t3, Hv.t4, Hv.t5, Hv.t6, Hv.t7, Hv.t8, Hv.t9, Hv.t10, Hv.t11, Hv.t12, Hv.t13, Hv.t14, Hv.t14', Hv.t15, Hv.t16, Hv.t17, Hv.t18, Hv.t19, Hv.t20, Hv.t21, Hv.t22, Hv.t23, Hv.t24, Hv.t25, Hv.t26, Hv.t28, Hv.r2, Hv.r3, Hv.r4, Hv.z1, Hv.z2, Hv.z3, Hv.mutDs_int, Hv.intsOf_int, Hv.startE, Hv.isNew, List.set, tyP, cmp_nei, this]
    | _ => simp (config := { implicitDefEqProofs := false }) [Hv.s1, Hv.s2, Hv.s3, Hv.s4, Hv.s5, Hv.s6, Hv.s7, Hv.s8, Hv.s9, Hv.s10, Hv.s11, Hv.s12, Hv.s13, Hv.s14, Hv.s15, Hv.s16, Hv.s17, Hv.s18, Hv.s19, Hv.s20, Hv.s21, Hv.s22, Hv.s23, Hv.s24, Hv.s25, Hv.s26, Hv.s27, Hv.s28, Hv.s29, Hv.s30, Hv.s31, Hv.s32, Hv.s33, Hv.s34, Hv.s35, Hv.s36, Hv.s37, Hv.s38, Hv.v1, Hv.v2, Hv.v3, Hv.v4, Hv.v6, Hv.v7, Hv.v8, Hv.v9, Hv.v10, Hv.v11, Hv.e1, Hv.e2, Hv.e3, Hv.e4, Hv.e5, Hv.e6, Hv.e7, Hv.e8, Hv.e9, Hv.e10, Hv.e11, Hv.e12, Hv.e13, Hv.e14, Hv.e16, Hv.e17, Hv.e18, Hv.e19, Hv.e20, Hv.e21, Hv.e22, Hv.e23, Hv.e24, Hv.e25, Hv.e26, Hv.x1, Hv.x2, Hv.x6, Hv.x7, Hv.x8, Hv.x9, Hv.x12, Hv.x13, Hv.x14, Hv.x15, Hv.x16, Hv.x17, Hv.x21, Hv.x22, Hv.x23, Hv.x24, Hv.x25, Hv.x26, Hv.x27, Hv.x28, Hv.x29, Hv.x30, Hv.y0, Hv.y1, Hv.y2, Hv.y3, Hv.y4, Hv.y5, Hv.x31, Hv.x32, Hv.x33, Hv.x34, Hv.x35, Hv.x36, Hv.x39, Hv.a1, Hv.a2, Hv.k1, Hv.k4, Hv.k6, Hv.k7, Hv.k8, Hv.k9, Hv.k10, Hv.t0, Hv.t1, Hv.t2, Hv.t3, Hv.t4, Hv.t5, Hv.t6, Hv.t7, Hv.t8, Hv.t9, Hv.t10, Hv.t11, Hv.t12, Hv.t13, Hv.t14, Hv.t14', Hv.t15, Hv.t16, Hv.t17, Hv.t18, Hv.t19, Hv.t20, Hv.t21, Hv.t22, Hv.t23, Hv.t24, Hv.t25, Hv.t26, Hv.t28, Hv.r2, Hv.r3, Hv.r4, Hv.z1, Hv.z2, Hv.z3, Hv.mutDs_int, Hv.intsOf_int, Hv.startE, Hv.isNew, List.set, tyP]
/-- items with their places -/
def thZ (n : Int) (z : PyData × Nat) : Bool := thB (z.2 : Int) n z.1
def zf (z : PyData × Nat) : PyData := .tuple [.int (z.2 : Int), z.1]
theorem enum_zip (ps : List PyData) : enumP ps = ps.zipIdx.map zf := by
  unfold enumP zf
  rw [List.mapIdx_eq_zipIdx_map]
def alls (ps : List PyData) : Bool := ps.zipIdx.all (thZ (ps.length : Int))
theorem f_ev {C : Cal} {G : Glo} {B : Sub} {tg : Tg} {b : List S} {ρ : Hv.Env} {ps : List PyData} : forD .enum [.v (.list ps)] [] C G B tg b ρ = forR (fun p ρ => setT tg false p ρ) (blk C G B b) (enumP ps) ρ := by
  have e : elems (.v (.list ps)) [] = some (ps, false, []) := by
    unfold elems
    simp only [data, isNew, mutD, Bool.not_true]
    split <;> rfl
  unfold forD itemsR
  simp only [data, e, Option.map_some, List.all_nil, if_true, frz]
theorem w6 (k : Nat) (ps : List PyData) (hp : ∀ p ∈ ps, Tt p) : (alls ps = true ∧ (1 ≤ ps.length ∧ ps.length ≤ 60) ∧ C (k + 4) 6 [.list ps] = .ok (.v .none)) ∨ (alls ps = true ∧ ¬ (1 ≤ ps.length ∧ ps.length ≤ 60) ∧ C (k + 4) 6 [.list ps] = .exc "WrongCount") ∨ (alls ps = false ∧ C (k + 4) 6 [.list ps] = .exc "InvalidThing") := by
  have key := go_all (st := fun p ρ => setT (Tg.tup [1, 2]) false p ρ) (body := blk (C (k + 3)) T.G Bz [S.ife (E.not (E.call 5 [E.var 2, E.var 1, E.bi Bi.len [E.var 0]])) [S.raise_ "InvalidThing"] []]) (f := zf) (thZ (ps.length : Int)) (fun t : Option D × Option D => [some (.v (.list ps)), t.1, t.2]) (fun r => ∃ ρ, r = .exc "InvalidThing" ρ) (cs := ps.zipIdx) (none, none) rfl
    (fun t z hz => by
      have hm : z.1 ∈ ps := by
        obtain ⟨x, i⟩ := z
        exact List.fst_mem_of_mem_zipIdx hz
      have h5 := w5 k z.1 (hp z.1 hm) (z.2 : Int) (ps.length : Int)
      refine ⟨[some (.v (.list ps)), some (.v (.int (z.2 : Int))), some (.v z.1)], ?_, fun hw => ?_, fun hw => ?_⟩
      · show setT _ _ (.tuple [.int (z.2 : Int), z.1]) _ = _
        rw [sT1, sT3, sT3, sT4, v6]
        have : fz false z.1 = .v z.1 := by unfold fz; rfl
        rw [this]
        rfl
      · rw [show thB (z.2 : Int) (ps.length : Int) z.1 = true from hw] at h5
        simp (config := { implicitDefEqProofs := false }) [Hv.s1, Hv.s2, Hv.s3, Hv.s4, Hv.s5, Hv.s6, Hv.s7, Hv.s8, Hv.s9, Hv.s10, Hv.s11, Hv.s12, Hv.s13, Hv.s14, Hv.s15, Hv.s16, Hv.s17, Hv.s18, Hv.s19, Hv.s20, Hv.s21, Hv.s22, Hv.s23, Hv.s24, Hv.s25, Hv.s26, Hv.s27, Hv.s28, Hv.s29, Hv.s30, Hv.s31, Hv.s32, Hv.s33, Hv.s34, Hv.s35, Hv.s36, Hv.s37, Hv.s38, Hv.v1, Hv.v2, Hv.v3, Hv.v4, Hv.v6, Hv.v7, Hv.v8, Hv.v9, Hv.v10, Hv.v11, Hv.e1, Hv.e2, Hv.e3, Hv.e4, Hv.e5, Hv.e6, Hv.e7, Hv.e8, Hv.e9, Hv.e10, Hv.e11, Hv.e12, Hv.e13, Hv.e14, Hv.e16, Hv.e17, Hv.e18, Hv.e19, Hv.e20, Hv.e21, Hv.e22, Hv.e23, Hv.e24, Hv.e25, Hv.e26, Hv.x1, Hv.x2, Hv.x6, Hv.x7, Hv.x8, Hv.x9, Hv.x12, Hv.x13, Hv.x14, Hv.x15, Hv.x16, Hv.x17, Hv.x21, Hv.x22, Hv.x23, Hv.x24, Hv.x25, Hv.x26, Hv.x27, Hv.x28, Hv.x29, Hv.x30, Hv.y0, Hv.y1, Hv.y2, Hv.y3, Hv.y4, Hv.y5, Hv.x31, Hv.x32, Hv.x33, Hv.x34, Hv.x35, Hv.x36, Hv.x39, Hv.a1, Hv.a2, Hv.k1, Hv.k4, Hv.k6, Hv.k7, Hv.k8, Hv.k9, Hv.k10, Hv.t0, Hv.t1, Hv.t2, Hv.t3, Hv.t4, Hv.t5, Hv.t6, Hv.t7, Hv.t8, Hv.t9, Hv.t10, Hv.t11, Hv.t12, Hv.t13, Hv.t14, Hv.t14', Hv.t15, Hv.t16, Hv.t17, Hv.t18, Hv.t19, Hv.t20, Hv.t21, Hv.t22, Hv.t23, Hv.t24, Hv.t25, Hv.t26, Hv.t28, Hv.r2, Hv.r3, Hv.r4, Hv.z1, Hv.z2, Hv.z3, Hv.mutDs_int, Hv.intsOf_int, Hv.startE, Hv.isNew, List.set, h5, k2b, nx1]
      · rw [show thB (z.2 : Int) (ps.length : Int) z.1 = false from hw] at h5
        have : blk (C (k + 3)) T.G Bz [S.ife (E.not (E.call 5 [E.var 2, E.var 1, E.bi Bi.len [E.var 0]])) [S.raise_ "InvalidThing"] []] [some (.v (.list ps)), some (.v (.int (z.2 : Int))), some (.v z.1)] = .exc "InvalidThing" [some (.v (.list ps)), some (.v (.int (z.2 : Int))), some (.v z.1)] := by
          simp (config := { implicitDefEqProofs := false }) [Hv.s1, Hv.s2, Hv.s3, Hv.s4, Hv.s5, Hv.s6, Hv.s7, Hv.s8, Hv.s9, Hv.s10, Hv.s11, Hv.s12, Hv.s13, Hv.s14, Hv.s15, Hv.s16, Hv.s17, Hv.s18, Hv.s19, Hv.s20, Hv.s21, Hv.s22, Hv.s23, Hv.s24, Hv.s25, Hv.s26, Hv.s27, Hv.s28, Hv.s29, Hv.s30, Hv.s31, Hv.s32, Hv.s33, Hv.s34, Hv.s35, Hv.s36, Hv.s37, Hv.s38, Hv.v1, Hv.v2, Hv.v3, Hv.v4, Hv.v6, Hv.v7, Hv.v8, Hv.v9, Hv.v10, Hv.v11, Hv.e1, Hv.e2, Hv.e3, Hv.e4, Hv.e5, Hv.e6, Hv.e7, Hv.e8, Hv.e9, Hv.e10, Hv.e11, Hv.e12, Hv.e13, Hv.e14, Hv.e16, Hv.e17, Hv.e18, Hv.e19, Hv.e20, Hv.e21, Hv.e22, Hv.e23, Hv.e24, Hv.e25, Hv.e26, Hv.x1, Hv.x2, Hv.x6, Hv.x7, Hv.x8, Hv.x9, Hv.x12, Hv.x13, Hv.x14, Hv.x15, Hv.x16, Hv.x17, Hv.x21, Hv.x22, Hv.x23, Hv.x24, Hv.x25, Hv.x26, Hv.x27, Hv.x28, Hv.x29, Hv.x30, Hv.y0, Hv.y1, Hv.y2, Hv.y3, Hv.y4, Hv.y5, Hv.x31, Hv.x32, Hv.x33, Hv.x34, Hv.x35, Hv.x36, Hv.x39, Hv.a1, Hv.a2, Hv.k1, Hv.k4, Hv.k6, Hv.k7, Hv.k8, Hv.k9, Hv.k10, Hv.t0, Hv.t1, Hv.t2, Hv.t3, Hv.t4, Hv.t5, Hv.t6, Hv.t7, Hv.t8, Hv.t9, Hv.t10, Hv.t11, Hv.t12, Hv.t13, Hv.t14, Hv.t14', Hv.t15, Hv.t16, Hv.t17, Hv.t18, Hv.t19, Hv.t20, Hv.t21, Hv.t22, Hv.t23, Hv.t24, Hv.t25, Hv.t26, Hv.t28, Hv.r2, Hv.r3, Hv.r4, Hv.z1, Hv.z2, Hv.z3, Hv.mutDs_int, Hv.intsOf_int, Hv.startE, Hv.isNew, List.set, h5, k2b, t_raise]
        exact ⟨.inl ⟨_, _, this⟩, _, this⟩)
  rw [← enum_zip] at key
  have e1 : C (k + 4) 6 [.list ps] = retC (seqS (forR (fun p ρ => setT (Tg.tup [1, 2]) false p ρ) (blk (C (k + 3)) T.G Bz [S.ife (E.not (E.call 5 [E.var 2, E.var 1, E.bi Bi.len [E.var 0]])) [S.raise_ "InvalidThing"] []]) (enumP ps) [some (.v (.list ps)), none, none]) (blk (C (k + 3)) T.G Bz [S.ife (E.not (E.chn COp.le COp.le (E.int 1) (E.bi Bi.len [E.var 0]) (E.glob "MOST_THINGS"))) [S.raise_ "WrongCount"] []])) := by
    rw [c6]
    unfold B6
    rw [t0, t13]
    have : seqR (evs (C (k + 3)) T.G [E.var 0] [some (.v (.list ps)), none, none]) = .ok [.v (.list ps)] [] := by simp (config := { implicitDefEqProofs := false }) [Hv.s1, Hv.s2, Hv.s3, Hv.s4, Hv.s5, Hv.s6, Hv.s7, Hv.s8, Hv.s9, Hv.s10, Hv.s11, Hv.s12, Hv.s13, Hv.s14, Hv.s15, Hv.s16, Hv.s17, Hv.s18, Hv.s19, Hv.s20, Hv.s21, Hv.s22, Hv.s23, Hv.s24, Hv.s25, Hv.s26, Hv.s27, Hv.s28, Hv.s29, Hv.s30, Hv.s31, Hv.s32, Hv.s33, Hv.s34, Hv.s35, Hv.s36, Hv.s37, Hv.s38, Hv.v1, Hv.v2, Hv.v3, Hv.v4, Hv.v6, Hv.v7, Hv.v8, Hv.v9, Hv.v10, Hv.v11, Hv.e1, Hv.e2, Hv.e3, Hv.e4, Hv.e5, Hv.e6, Hv.e7, Hv.e8, Hv.e9, Hv.e10, Hv.e11, Hv.e12, Hv.e13, Hv.e14, Hv.e16, Hv.e17, Hv.e18, Hv.e19, Hv.e20, Hv.e21, Hv.e22, Hv.e23, Hv.e24, Hv.e25, Hv.e26, Hv.x1, Hv.x2, Hv.x6, Hv.x7, Hv.x8, Hv.x9, Hv.x12, Hv.x13, Hv.x14, Hv.x15, Hv.x16, Hv.x17, Hv.x21, Hv.x22, Hv.x23, Hv.x24, Hv.x25, Hv.x26, Hv.x27, Hv.x28, Hv.x29, Hv.x30, Hv.y0, Hv.y1, Hv.y2, Hv.y3, Hv.y4, Hv.y5, Hv.x31, Hv.x32, Hv.x33, Hv.x34, Hv.x35, Hv.x36, Hv.x39, Hv.a1, Hv.a2, Hv.k1, Hv.k4, Hv.k6, Hv.k7, Hv.k8, Hv.k9, Hv.k10, Hv.t0, Hv.t1, Hv.t2, Hv.t3, Hv.t4, Hv.t5, Hv.t6, Hv.t7, Hv.t8, Hv.t9, Hv.t10, Hv.t11, Hv.t12, Hv.t13, Hv.t14, Hv.t14', Hv.t15, Hv.t16, Hv.t17, Hv.t18, Hv.t19, Hv.t20, Hv.t21, Hv.t22, Hv.t23, Hv.t24, Hv.t25, Hv.t26, Hv.t28, Hv.r2, Hv.r3, Hv.r4, Hv.z1, Hv.z2, Hv.z3, Hv.mutDs_int, Hv.intsOf_int, Hv.startE, Hv.isNew, List.set]
    rw [this, s7, f_ev]
  rcases key with ⟨hw, t', e⟩ | ⟨hw, ρ', e⟩
  · rw [e1, e, t2]
    by_cases g1 : 1 ≤ ps.length
    · by_cases g2 : ps.length ≤ 60
      · refine .inl ⟨hw, ⟨g1, g2⟩, ?_⟩
        have h1 : (1 : Int) ≤ ps.length := by omega
        have h2 : (ps.length : Int) ≤ 60 := by omega
        simp (config := { implicitDefEqProofs := false }) [Hv.s1, Hv.s2, Hv.s3, Hv.s4, Hv.s5, Hv.s6, Hv.s7, Hv.s8, Hv.s9, Hv.s10, Hv.s11, Hv.s12, Hv.s13, Hv.s14, Hv.s15, Hv.s16, Hv.s17, Hv.s18, Hv.s19, Hv.s20, Hv.s21, Hv.s22, Hv.s23, Hv.s24, Hv.s25, Hv.s26, Hv.s27, Hv.s28, Hv.s29, Hv.s30, Hv.s31, Hv.s32, Hv.s33, Hv.s34, Hv.s35, Hv.s36, Hv.s37, Hv.s38, Hv.v1, Hv.v2, Hv.v3, Hv.v4, Hv.v6, Hv.v7, Hv.v8, Hv.v9, Hv.v10, Hv.v11, Hv.e1, Hv.e2, Hv.e3, Hv.e4, Hv.e5, Hv.e6, Hv.e7, Hv.e8, Hv.e9, Hv.e10, Hv.e11, Hv.e12, Hv.e13, Hv.e14, Hv.e16, Hv.e17, Hv.e18, Hv.e19, Hv.e20, Hv.e21, Hv.e22, Hv.e23, Hv.e24, Hv.e25, Hv.e26, Hv.x1, Hv.x2, Hv.x6, Hv.x7, Hv.x8, Hv.x9, Hv.x12, Hv.x13, Hv.x14, Hv.x15, Hv.x16, Hv.x17, Hv.x21, Hv.x22, Hv.x23, Hv.x24, Hv.x25, Hv.x26, Hv.x27, Hv.x28, Hv.x29, Hv.x30, Hv.y0, Hv.y1, Hv.y2, Hv.y3, Hv.y4, Hv.y5, Hv.x31, Hv.x32, Hv.x33, Hv.x34, Hv.x35, Hv.x36, Hv.x39, Hv.a1, Hv.a2, Hv.k1, Hv.k4, Hv.k6, Hv.k7, Hv.k8, Hv.k9, Hv.k10, Hv.t0, Hv.t1, Hv.t2, Hv.t3, Hv.t4, Hv.t5, Hv.t6, Hv.t7, Hv.t8, Hv.t9, Hv.t10, Hv.t11, Hv.t12, Hv.t13, Hv.t14, Hv.t14', Hv.t15, Hv.t16, Hv.t17, Hv.t18, Hv.t19, Hv.t20, Hv.t21, Hv.t22, Hv.t23, Hv.t24, Hv.t25, Hv.t26, Hv.t28, Hv.r2, Hv.r3, Hv.r4, Hv.z1, Hv.z2, Hv.z3, Hv.mutDs_int, Hv.intsOf_int, Hv.startE, Hv.isNew, List.set, e27, gMT, h1, h2]
      · refine .inr (.inl ⟨hw, fun h => g2 h.2, ?_⟩)
        have h1 : (1 : Int) ≤ ps.length := by omega
        have h2 : ¬ (ps.length : Int) ≤ 60 := by omega
        simp (config := { implicitDefEqProofs := false }) [Hv.s1, Hv.s2, Hv.s3, Hv.s4, Hv.s5, Hv.s6, Hv.s7, Hv.s8, Hv.s9, Hv.s10, Hv.s11, Hv.s12, Hv.s13, Hv.s14, Hv.s15, Hv.s16, Hv.s17, Hv.s18, Hv.s19, Hv.s20, Hv.s21, Hv.s22, Hv.s23, Hv.s24, Hv.s25, Hv.s26, Hv.s27, Hv.s28, Hv.s29, Hv.s30, Hv.s31, Hv.s32, Hv.s33, Hv.s34, Hv.s35, Hv.s36, Hv.s37, Hv.s38, Hv.v1, Hv.v2, Hv.v3, Hv.v4, Hv.v6, Hv.v7, Hv.v8, Hv.v9, Hv.v10, Hv.v11, Hv.e1, Hv.e2, Hv.e3, Hv.e4, Hv.e5, Hv.e6, Hv.e7, Hv.e8, Hv.e9, Hv.e10, Hv.e11, Hv.e12, Hv.e13, Hv.e14, Hv.e16, Hv.e17, Hv.e18, Hv.e19, Hv.e20, Hv.e21, Hv.e22, Hv.e23, Hv.e24, Hv.e25, Hv.e26, Hv.x1, Hv.x2, Hv.x6, Hv.x7, Hv.x8, Hv.x9, Hv.x12, Hv.x13, Hv.x14, Hv.x15, Hv.x16, Hv.x17, Hv.x21, Hv.x22, Hv.x23, Hv.x24, Hv.x25, Hv.x26, Hv.x27, Hv.x28, Hv.x29, Hv.x30, Hv.y0, Hv.y1, Hv.y2, Hv.y3, Hv.y4, Hv.y5, Hv.x31, Hv.x32, Hv.x33, Hv.x34, Hv.x35, Hv.x36, Hv.x39, Hv.a1, Hv.a2, Hv.k1, Hv.k4, Hv.k6, Hv.k7, Hv.k8, Hv.k9, Hv.k10, Hv.t0, Hv.t1, Hv.t2, Hv.t3, Hv.t4, Hv.t5, Hv.t6, Hv.t7, Hv.t8, Hv.t9, Hv.t10, Hv.t11, Hv.t12, Hv.t13, Hv.t14, Hv.t14', Hv.t15, Hv.t16, Hv.t17, Hv.t18, Hv.t19, Hv.t20, Hv.t21, Hv.t22, Hv.t23, Hv.t24, Hv.t25, Hv.t26, Hv.t28, Hv.r2, Hv.r3, Hv.r4, Hv.z1, Hv.z2, Hv.z3, Hv.mutDs_int, Hv.intsOf_int, Hv.startE, Hv.isNew, List.set, e27, gMT, h1, h2, t_raise]
    · refine .inr (.inl ⟨hw, fun h => g1 h.1, ?_⟩)
      have h1 : ¬ (1 : Int) ≤ ps.length := by omega
      simp (config := { implicitDefEqProofs := false }) [Hv.s1, Hv.s2, Hv.s3, Hv.s4, Hv.s5, Hv.s6, Hv.s7, Hv.s8, Hv.s9, Hv.s10, Hv.s11, Hv.s12, Hv.s13, Hv.s14, Hv.s15, Hv.s16, Hv.s17, Hv.s18, Hv.s19, Hv.s20, Hv.s21, Hv.s22, Hv.s23, Hv.s24, Hv.s25, Hv.s26, Hv.s27, Hv.s28, Hv.s29, Hv.s30, Hv.s31, Hv.s32, Hv.s33, Hv.s34, Hv.s35, Hv.s36, Hv.s37, Hv.s38, Hv.v1, Hv.v2, Hv.v3, Hv.v4, Hv.v6, Hv.v7, Hv.v8, Hv.v9, Hv.v10, Hv.v11, Hv.e1, Hv.e2, Hv.e3, Hv.e4, Hv.e5, Hv.e6, Hv.e7, Hv.e8, Hv.e9, Hv.e10, Hv.e11, Hv.e12, Hv.e13, Hv.e14, Hv.e16, Hv.e17, Hv.e18, Hv.e19, Hv.e20, Hv.e21, Hv.e22, Hv.e23, Hv.e24, Hv.e25, Hv.e26, Hv.x1, Hv.x2, Hv.x6, Hv.x7, Hv.x8, Hv.x9, Hv.x12, Hv.x13, Hv.x14, Hv.x15, Hv.x16, Hv.x17, Hv.x21, Hv.x22, Hv.x23, Hv.x24, Hv.x25, Hv.x26, Hv.x27, Hv.x28, Hv.x29, Hv.x30, Hv.y0, Hv.y1, Hv.y2, Hv.y3, Hv.y4, Hv.y5, Hv.x31, Hv.x32, Hv.x33, Hv.x34, Hv.x35, Hv.x36, Hv.x39, Hv.a1, Hv.a2, Hv.k1, Hv.k4, Hv.k6, Hv.k7, Hv.k8, Hv.k9, Hv.k10, Hv.t0, Hv.t1, Hv.t2, Hv.t3, Hv.t4, Hv.t5, Hv.t6, Hv.t7, Hv.t8, Hv.t9, Hv.t10, Hv.t11, Hv.t12, Hv.t13, Hv.t14, Hv.t14', Hv.t15, Hv.t16, Hv.t17, Hv.t18, Hv.t19, Hv.t20, Hv.t21, Hv.t22, Hv.t23, Hv.t24, Hv.t25, Hv.t26, Hv.t28, Hv.r2, Hv.r3, Hv.r4, Hv.z1, Hv.z2, Hv.z3, Hv.mutDs_int, Hv.intsOf_int, Hv.startE, Hv.isNew, List.set, e27, gMT, h1, t_raise]
  · refine .inr (.inr ⟨hw, ?_⟩)
    rw [e1, e]
    simp (config := { implicitDefEqProofs := false }) [Hv.s1, Hv.s2, Hv.s3, Hv.s4, Hv.s5, Hv.s6, Hv.s7, Hv.s8, Hv.s9, Hv.s10, Hv.s11, Hv.s12, Hv.s13, Hv.s14, Hv.s15, Hv.s16, Hv.s17, Hv.s18, Hv.s19, Hv.s20, Hv.s21, Hv.s22, Hv.s23, Hv.s24, Hv.s25, Hv.s26, Hv.s27, Hv.s28, Hv.s29, Hv.s30, Hv.s31, Hv.s32, Hv.s33, Hv.s34, Hv.s35, Hv.s36, Hv.s37, Hv.s38, Hv.v1, Hv.v2, Hv.v3, Hv.v4, Hv.v6, Hv.v7, Hv.v8, Hv.v9, Hv.v10, Hv.v11, Hv.e1, Hv.e2, Hv.e3, Hv.e4, Hv.e5, Hv.e6, Hv.e7, Hv.e8, Hv.e9, Hv.e10, Hv.e11, Hv.e12, Hv.e13, Hv.e14, Hv.e16, Hv.e17, Hv.e18, Hv.e19, Hv.e20, Hv.e21, Hv.e22, Hv.e23, Hv.e24, Hv.e25, Hv.e26, Hv.x1, Hv.x2, Hv.x6, Hv.x7, Hv.x8, Hv.x9, Hv.x12, Hv.x13, Hv.x14, Hv.x15, Hv.x16, Hv.x17, Hv.x21, Hv.x22, Hv.x23, Hv.x24, Hv.x25, Hv.x26, Hv.x27, Hv.x28, Hv.x29, Hv.x30, Hv.y0, Hv.y1, Hv.y2, Hv.y3, Hv.y4, Hv.y5, Hv.x31, Hv.x32, Hv.x33, Hv.x34, Hv.x35, Hv.x36, Hv.x39, Hv.a1, Hv.a2, Hv.k1, Hv.k4, Hv.k6, Hv.k7, Hv.k8, Hv.k9, Hv.k10, Hv.t0, Hv.t1, Hv.t2, Hv.t3, Hv.t4, Hv.t5, Hv.t6, Hv.t7, Hv.t8, Hv.t9, Hv.t10, Hv.t11, Hv.t12, Hv.t13, Hv.t14, Hv.t14', Hv.t15, Hv.t16, Hv.t17, Hv.t18, Hv.t19, Hv.t20, Hv.t21, Hv.t22, Hv.t23, Hv.t24, Hv.t25, Hv.t26, Hv.t28, Hv.r2, Hv.r3, Hv.r4, Hv.z1, Hv.z2, Hv.z3, Hv.mutDs_int, Hv.intsOf_int, Hv.startE, Hv.isNew, List.set]
end Law

namespace Law
open PySem Hv
def lawis (lo hi : Int) : PyData → Bool
  | .int i => decide (lo ≤ i) && decide (i ≤ hi)
  | _ => false
theorem w14 (k : Nat) (p : PyData) (lo hi : Int) : C (k + 1) 14 [p, .int lo, .int hi] = .ok (.v (.bool (lawis lo hi p))) := by
  rw [c14]
  unfold B14
  cases p with
  | int i => by_cases h1 : lo ≤ i <;> by_cases h2 : i ≤ hi <;> simp (config := { implicitDefEqProofs := false }) [Hv.s1, Hv.s2, Hv.s3, Hv.s4, Hv.s5, Hv.s6, Hv.s7, Hv.s8, Hv.s9, Hv.s10, Hv.s11, Hv.s12, Hv.s13, Hv.s14, Hv.s15, Hv.s16, Hv.s17, Hv.s18, Hv.s19, Hv.s20, Hv.s21, Hv.s22, Hv.s23, Hv.s24, Hv.s25, Hv.s26, Hv.s27, Hv.s28, Hv.s29, Hv.s30, Hv.s31, Hv.s32, Hv.s33, Hv.s34, Hv.s35, Hv.s36, Hv.s37, Hv.s38, Hv.v1, Hv.v2, Hv.v3, Hv.v4, Hv.v6, Hv.v7, Hv.v8, Hv.v9, Hv.v10, Hv.v11, Hv.e1, Hv.e2, Hv.e3, Hv.e4, Hv.e5, Hv.e6, Hv.e7, Hv.e8, Hv.e9, Hv.e10, Hv.e11, Hv.e12, Hv.e13, Hv.e14, Hv.e16, Hv.e17, Hv.e18, Hv.e19, Hv.e20, Hv.e21, Hv.e22, Hv.e23, Hv.e24, Hv.e25, Hv.e26, Hv.x1, Hv.x2, Hv.x6, Hv.x7, Hv.x8, Hv.x9, Hv.x12, Hv.x13, Hv.x14, Hv.x15, Hv.x16, Hv.x17, Hv.x21, Hv.x22, Hv.x23, Hv.x24, Hv.x25, Hv.x26, Hv.x27, Hv.x28, Hv.x29, Hv.x30, Hv.y0, Hv.y1, Hv.y2, Hv.y3, Hv.y4, Hv.y5, Hv.x31, Hv.x32, Hv.x33, Hv.x34, Hv.x35, Hv.x36, Hv.x39, Hv.a1, Hv.a2, Hv.k1, Hv.k4, Hv.k6, Hv.k7, Hv.k8, Hv.k9, Hv.k10, Hv.t0, Hv.t1, Hv.t2, Hv.t3, Hv.t4, Hv.t5, Hv.t6, Hv.t7, Hv.t8, Hv.t9, Hv.t10, Hv.t11, Hv.t12, Hv.t13, Hv.t14, Hv.t14', Hv.t15, Hv.t16, Hv.t17, Hv.t18, Hv.t19, Hv.t20, Hv.t21, Hv.t22, Hv.t23, Hv.t24, Hv.t25, Hv.t26, Hv.t28, Hv.r2, Hv.r3, Hv.r4, Hv.z1, Hv.z2, Hv.z3, Hv.mutDs_int, Hv.intsOf_int, Hv.startE, Hv.isNew, List.set, tyP, lawis, h1, h2]
  | _ => simp (config := { implicitDefEqProofs := false }) [Hv.s1, Hv.s2, Hv.s3, Hv.s4, Hv.s5, Hv.s6, Hv.s7, Hv.s8, Hv.s9, Hv.s10, Hv.s11, Hv.s12, Hv.s13, Hv.s14, Hv.s15, Hv.s16, Hv.s17, Hv.s18, Hv.s19, Hv.s20, Hv.s21, Hv.s22, Hv.s23, Hv.s24, Hv.s25, Hv.s26, Hv.s27, Hv.s28, Hv.s29, Hv.s30, Hv.s31, Hv.s32, Hv.s33, Hv.s34, Hv.s35, Hv.s36, Hv.s37, Hv.s38, Hv.v1, Hv.v2, Hv.v3, Hv.v4, Hv.v6, Hv.v7, Hv.v8, Hv.v9, Hv.v10, Hv.v11, Hv.e1, Hv.e2, Hv.e3, Hv.e4, Hv.e5, Hv.e6, Hv.e7, Hv.e8, Hv.e9, Hv.e10, Hv.e11, Hv.e12, Hv.e13, Hv.e14, Hv.e16, Hv.e17, Hv.e18, Hv.e19, Hv.e20, Hv.e21, Hv.e22, Hv.e23, Hv.e24, Hv.e25, Hv.e26, Hv.x1, Hv.x2, Hv.x6, Hv.x7, Hv.x8, Hv.x9, Hv.x12, Hv.x13, Hv.x14, Hv.x15, Hv.x16, Hv.x17, Hv.x21, Hv.x22, Hv.x23, Hv.x24, Hv.x25, Hv.x26, Hv.x27, Hv.x28, Hv.x29, Hv.x30, Hv.y0, Hv.y1, Hv.y2, Hv.y3, Hv.y4, Hv.y5, Hv.x31, Hv.x32, Hv.x33, Hv.x34, Hv.x35, Hv.x36, Hv.x39, Hv.a1, Hv.a2, Hv.k1, Hv.k4, Hv.k6, Hv.k7, Hv.k8, Hv.k9, Hv.k10, Hv.t0, Hv.t1, Hv.t2, Hv.t3, Hv.t4, Hv.t5, Hv.t6, Hv.t7, Hv.t8, Hv.t9, Hv.t10, Hv.t11, Hv.t12, Hv.t13, Hv.t14, Hv.t14', Hv.t15, Hv.t16, Hv.t17, Hv.t18, Hv.t19, Hv.t20, Hv.t21, Hv.t22, Hv.t23, Hv.t24, Hv.t25, Hv.t26, Hv.t28, Hv.r2, Hv.r3, Hv.r4, Hv.z1, Hv.z2, Hv.z3, Hv.mutDs_int, Hv.intsOf_int, Hv.startE, Hv.isNew, List.set, tyP, lawis]
theorem lawis_par (i : Int) (p : PyData) : lawis (-1) (i - 1) p = parB i p := by
  cases p <;> simp only [lawis, parB]
  rename_i j
  have : decide (j ≤ i - 1) = decide (j < i) := by congr 1; exact propext ⟨by omega, by omega⟩
  rw [this]
theorem lawis_rng (n : Int) (p : PyData) : lawis 0 (n - 1) p = rng n p := by
  cases p <;> simp only [lawis, rng]
  rename_i j
  have : decide (j ≤ n - 1) = decide (j < n) := by congr 1; exact propext ⟨by omega, by omega⟩
  rw [this]
theorem lawis_hid (p : PyData) : lawis 0 1 p = hidB p := by cases p <;> rfl
theorem rin_str {b : PyData} (h : rin b = true) : ∃ x, b = .str x := by
  cases b with
  | str x => exact ⟨x, rfl⟩
  | _ => simp [rin, PyData.eqv] at h
/-- no ref twice, as the law asks -/
def refZ (n : Int) (ps : List PyData) (i : Nat) : Bool := match ps[i]? with
  | some p => rng n p && !((ps.take i).any fun z => PyData.eqv z p)
  | none => true
theorem refZ_ints {n : Int} {ns : List Int} (h : (ns.map PyData.int).all (rng n) = true) : ((List.range ns.length).all (refZ n (ns.map .int))) = decide ns.Nodup := by
  have e : ∀ i, i < ns.length → refZ n (ns.map .int) i = !decide (ns.getD i 0 ∈ ns.take i) := fun i hi => by
    have hg : (ns.map PyData.int)[i]? = some (.int (ns.getD i 0)) := by simp [hi]
    unfold refZ
    rw [hg]
    have hr : rng n (.int (ns.getD i 0)) = true := List.all_eq_true.mp h _ (List.mem_of_getElem? hg)
    simp only [hr, Bool.true_and]
    congr 1
    rw [← List.map_take, List.any_map]
    rw [Bool.eq_iff_iff, List.any_eq_true, decide_eq_true_eq]
    constructor
    · rintro ⟨z, hz, ez⟩
      have : z = ns.getD i 0 := by simpa [PyData.eqv] using ez
      exact this ▸ hz
    · intro hm
      exact ⟨_, hm, by simp [PyData.eqv]⟩
  rw [Bool.eq_iff_iff, List.all_eq_true, decide_eq_true_eq]
  constructor
  · intro ha
    rw [List.nodup_iff_pairwise_ne, List.pairwise_iff_getElem]
    intro i j hi hj hij he
    have := ha j (List.mem_range.mpr hj)
    rw [e j hj] at this
    have hn : ns.getD j 0 ∉ ns.take j := by simpa using this
    refine hn ?_
    have : ns.getD j 0 = ns[j] := by rw [List.getD_eq_getElem?_getD, List.getElem?_eq_getElem hj]; rfl
    rw [this, ← he]
    exact List.mem_take_iff_getElem.mpr ⟨i, by omega, rfl⟩
  · intro hn i hi
    have hi := List.mem_range.mp hi
    rw [e i hi]
    have hv : ns.getD i 0 = ns[i] := by rw [List.getD_eq_getElem?_getD, List.getElem?_eq_getElem hi]; rfl
    rw [hv]
    simp only [Bool.not_eq_true', decide_eq_false_iff_not]
    intro hm
    obtain ⟨j, hj, ej⟩ := List.mem_take_iff_getElem.mp hm
    rw [List.nodup_iff_pairwise_ne, List.pairwise_iff_getElem] at hn
    exact hn j i (by omega) hi (by omega) ej
theorem refZ_all (n : Int) (ps : List PyData) : ((List.range ps.length).all (refZ n ps)) = refsB n (.tuple ps) := by
  cases hr : ps.all (rng n) with
  | true =>
    obtain ⟨ns, rfl, _⟩ := rng_ints hr
    rw [refs_ints hr, List.length_map, refZ_ints hr]
  | false =>
    have : refsB n (.tuple ps) = false := by show (ps.all (rng n) && _) = false; rw [hr]; rfl
    rw [this]
    obtain ⟨p, hp, hf⟩ := List.all_eq_false.mp hr
    obtain ⟨i, hi⟩ := List.getElem?_of_mem hp
    have hl : i < ps.length := (List.getElem?_eq_some_iff.mp hi).1
    refine List.all_eq_false.mpr ⟨i, List.mem_range.mpr hl, ?_⟩
    unfold refZ
    rw [hi]
    simp only [hf]
    simp
theorem in_flat {x : PyData} {ds : List PyData} (h : flatP x = true) (h' : ds.all flatP = true) : cmpP .in_ x (.tuple ds) = .ok (ds.any fun z => PyData.eqv z x) := by
  show (if flatP x && ds.all flatP then BR.ok (ds.any fun z => PyData.eqv z x) else .stuck) = _
  rw [h, h']
  rfl
theorem ord_ch {c : Nat} {al : Al} : biR .ord [.v (ch c)] al = .ok (.v (.int (c : Nat))) [] := rfl
theorem rg_list (n : Nat) : (rgI 0 (n : Int)).map PyData.int = (List.range n).map fun (i : Nat) => PyData.int (i : Int) := by rw [rgI_nat, List.map_map]; rfl
theorem w15 (k : Nat) (p : PyData) (hp : Tt p) (i n : Int) : C (k + 2) 15 [p, .int i, .int n] = .ok (.v (.bool (thB i n p))) := by
  rw [c15]
  unfold B15
  by_cases h6 : ∃ a b c d e f, p = .tuple [a, b, c, d, e, f]
  · obtain ⟨a, b, c, d, e, f, rfl⟩ := h6
    obtain ⟨ia, ib, ic, id_, ie, if_, hb⟩ := hp.it _ _ _ _ _ _ rfl
    have hn := nin_lst hb
    have h1 := w14 k a (-1) (i - 1)
    rw [lawis_par] at h1
    have h5 := w14 k e 0 1
    rw [lawis_hid] at h5
    generalize hw : (!mutD (.tuple [a, b, c, d, e, f])) = w
    have ha : asgTD [7, 8, 9, 10, 11, 12] [some (.v (.tuple [a, b, c, d, e, f])), some (.v (.int i)), some (.v (.int n)), none, none, none, none, none, none, none, none, none, none] (.v (.tuple [a, b, c, d, e, f])) [] = .next [some (.v (.tuple [a, b, c, d, e, f])), some (.v (.int i)), some (.v (.int n)), none, none, none, none, some (fz w a), some (fz w b), some (fz w c), some (fz w d), some (fz w e), some (fz w f)] := by
      rw [asgT_v, hw, sT1, sT3, sT3, sT3, sT3, sT3, sT3, sT4]
      rfl
    have hth : thB i n (.tuple [a, b, c, d, e, f]) = (parB i a && (rin b && (textB c && (refsB n d && (hidB e && ibx f))))) := rfl
    rw [hth]
    rw [t0]
    refine re_seq [some (.v (.tuple [a, b, c, d, e, f])), some (.v (.int i)), some (.v (.int n)), none, none, none, none, none, none, none, none, none, none] (by simp (config := { implicitDefEqProofs := false }) [Hv.s1, Hv.s2, Hv.s3, Hv.s4, Hv.s5, Hv.s6, Hv.s7, Hv.s8, Hv.s9, Hv.s10, Hv.s11, Hv.s12, Hv.s13, Hv.s14, Hv.s15, Hv.s16, Hv.s17, Hv.s18, Hv.s19, Hv.s20, Hv.s21, Hv.s22, Hv.s23, Hv.s24, Hv.s25, Hv.s26, Hv.s27, Hv.s28, Hv.s29, Hv.s30, Hv.s31, Hv.s32, Hv.s33, Hv.s34, Hv.s35, Hv.s36, Hv.s37, Hv.s38, Hv.v1, Hv.v2, Hv.v3, Hv.v4, Hv.v6, Hv.v7, Hv.v8, Hv.v9, Hv.v10, Hv.v11, Hv.e1, Hv.e2, Hv.e3, Hv.e4, Hv.e5, Hv.e6, Hv.e7, Hv.e8, Hv.e9, Hv.e10, Hv.e11, Hv.e12, Hv.e13, Hv.e14, Hv.e16, Hv.e17, Hv.e18, Hv.e19, Hv.e20, Hv.e21, Hv.e22, Hv.e23, Hv.e24, Hv.e25, Hv.e26, Hv.x1, Hv.x2, Hv.x6, Hv.x7, Hv.x8, Hv.x9, Hv.x12, Hv.x13, Hv.x14, Hv.x15, Hv.x16, Hv.x17, Hv.x21, Hv.x22, Hv.x23, Hv.x24, Hv.x25, Hv.x26, Hv.x27, Hv.x28, Hv.x29, Hv.x30, Hv.y0, Hv.y1, Hv.y2, Hv.y3, Hv.y4, Hv.y5, Hv.x31, Hv.x32, Hv.x33, Hv.x34, Hv.x35, Hv.x36, Hv.x39, Hv.a1, Hv.a2, Hv.k1, Hv.k4, Hv.k6, Hv.k7, Hv.k8, Hv.k9, Hv.k10, Hv.t0, Hv.t1, Hv.t2, Hv.t3, Hv.t4, Hv.t5, Hv.t6, Hv.t7, Hv.t8, Hv.t9, Hv.t10, Hv.t11, Hv.t12, Hv.t13, Hv.t14, Hv.t14', Hv.t15, Hv.t16, Hv.t17, Hv.t18, Hv.t19, Hv.t20, Hv.t21, Hv.t22, Hv.t23, Hv.t24, Hv.t25, Hv.t26, Hv.t28, Hv.r2, Hv.r3, Hv.r4, Hv.z1, Hv.z2, Hv.z3, Hv.mutDs_int, Hv.intsOf_int, Hv.startE, Hv.isNew, List.set, tyP, cmp_nei]) ?_
    rw [t7, t0]
    refine re_seq [some (.v (.tuple [a, b, c, d, e, f])), some (.v (.int i)), some (.v (.int n)), none, none, none, none, some (fz w a), some (fz w b), some (fz w c), some (fz w d), some (fz w e), some (fz w f)] (by simp (config := { implicitDefEqProofs := false }) [Hv.s1, Hv.s2, Hv.s3, Hv.s4, Hv.s5, Hv.s6, Hv.s7, Hv.s8, Hv.s9, Hv.s10, Hv.s11, Hv.s12, Hv.s13, Hv.s14, Hv.s15, Hv.s16, Hv.s17, Hv.s18, Hv.s19, Hv.s20, Hv.s21, Hv.s22, Hv.s23, Hv.s24, Hv.s25, Hv.s26, Hv.s27, Hv.s28, Hv.s29, Hv.s30, Hv.s31, Hv.s32, Hv.s33, Hv.s34, Hv.s35, Hv.s36, Hv.s37, Hv.s38, Hv.v1, Hv.v2, Hv.v3, Hv.v4, Hv.v6, Hv.v7, Hv.v8, Hv.v9, Hv.v10, Hv.v11, Hv.e1, Hv.e2, Hv.e3, Hv.e4, Hv.e5, Hv.e6, Hv.e7, Hv.e8, Hv.e9, Hv.e10, Hv.e11, Hv.e12, Hv.e13, Hv.e14, Hv.e16, Hv.e17, Hv.e18, Hv.e19, Hv.e20, Hv.e21, Hv.e22, Hv.e23, Hv.e24, Hv.e25, Hv.e26, Hv.x1, Hv.x2, Hv.x6, Hv.x7, Hv.x8, Hv.x9, Hv.x12, Hv.x13, Hv.x14, Hv.x15, Hv.x16, Hv.x17, Hv.x21, Hv.x22, Hv.x23, Hv.x24, Hv.x25, Hv.x26, Hv.x27, Hv.x28, Hv.x29, Hv.x30, Hv.y0, Hv.y1, Hv.y2, Hv.y3, Hv.y4, Hv.y5, Hv.x31, Hv.x32, Hv.x33, Hv.x34, Hv.x35, Hv.x36, Hv.x39, Hv.a1, Hv.a2, Hv.k1, Hv.k4, Hv.k6, Hv.k7, Hv.k8, Hv.k9, Hv.k10, Hv.t0, Hv.t1, Hv.t2, Hv.t3, Hv.t4, Hv.t5, Hv.t6, Hv.t7, Hv.t8, Hv.t9, Hv.t10, Hv.t11, Hv.t12, Hv.t13, Hv.t14, Hv.t14', Hv.t15, Hv.t16, Hv.t17, Hv.t18, Hv.t19, Hv.t20, Hv.t21, Hv.t22, Hv.t23, Hv.t24, Hv.t25, Hv.t26, Hv.t28, Hv.r2, Hv.r3, Hv.r4, Hv.z1, Hv.z2, Hv.z3, Hv.mutDs_int, Hv.intsOf_int, Hv.startE, Hv.isNew, List.set, t_asgT, ha]) ?_
    rw [t7, t0]
    have hrl : mutDs ROLt = false := rfl
    refine re_seq [some (.v (.tuple [a, b, c, d, e, f])), some (.v (.int i)), some (.v (.int n)), some (oL ROLt), none, none, none, some (fz w a), some (fz w b), some (fz w c), some (fz w d), some (fz w e), some (fz w f)] (by simp (config := { implicitDefEqProofs := false }) [Hv.s1, Hv.s2, Hv.s3, Hv.s4, Hv.s5, Hv.s6, Hv.s7, Hv.s8, Hv.s9, Hv.s10, Hv.s11, Hv.s12, Hv.s13, Hv.s14, Hv.s15, Hv.s16, Hv.s17, Hv.s18, Hv.s19, Hv.s20, Hv.s21, Hv.s22, Hv.s23, Hv.s24, Hv.s25, Hv.s26, Hv.s27, Hv.s28, Hv.s29, Hv.s30, Hv.s31, Hv.s32, Hv.s33, Hv.s34, Hv.s35, Hv.s36, Hv.s37, Hv.s38, Hv.v1, Hv.v2, Hv.v3, Hv.v4, Hv.v6, Hv.v7, Hv.v8, Hv.v9, Hv.v10, Hv.v11, Hv.e1, Hv.e2, Hv.e3, Hv.e4, Hv.e5, Hv.e6, Hv.e7, Hv.e8, Hv.e9, Hv.e10, Hv.e11, Hv.e12, Hv.e13, Hv.e14, Hv.e16, Hv.e17, Hv.e18, Hv.e19, Hv.e20, Hv.e21, Hv.e22, Hv.e23, Hv.e24, Hv.e25, Hv.e26, Hv.x1, Hv.x2, Hv.x6, Hv.x7, Hv.x8, Hv.x9, Hv.x12, Hv.x13, Hv.x14, Hv.x15, Hv.x16, Hv.x17, Hv.x21, Hv.x22, Hv.x23, Hv.x24, Hv.x25, Hv.x26, Hv.x27, Hv.x28, Hv.x29, Hv.x30, Hv.y0, Hv.y1, Hv.y2, Hv.y3, Hv.y4, Hv.y5, Hv.x31, Hv.x32, Hv.x33, Hv.x34, Hv.x35, Hv.x36, Hv.x39, Hv.a1, Hv.a2, Hv.k1, Hv.k4, Hv.k6, Hv.k7, Hv.k8, Hv.k9, Hv.k10, Hv.t0, Hv.t1, Hv.t2, Hv.t3, Hv.t4, Hv.t5, Hv.t6, Hv.t7, Hv.t8, Hv.t9, Hv.t10, Hv.t11, Hv.t12, Hv.t13, Hv.t14, Hv.t14', Hv.t15, Hv.t16, Hv.t17, Hv.t18, Hv.t19, Hv.t20, Hv.t21, Hv.t22, Hv.t23, Hv.t24, Hv.t25, Hv.t26, Hv.t28, Hv.r2, Hv.r3, Hv.r4, Hv.z1, Hv.z2, Hv.z3, Hv.mutDs_int, Hv.intsOf_int, Hv.startE, Hv.isNew, List.set, zl12]) ?_
    rw [t7, t0]
    cases g1 : parB i a with
    | false => simp (config := { implicitDefEqProofs := false }) [Hv.s1, Hv.s2, Hv.s3, Hv.s4, Hv.s5, Hv.s6, Hv.s7, Hv.s8, Hv.s9, Hv.s10, Hv.s11, Hv.s12, Hv.s13, Hv.s14, Hv.s15, Hv.s16, Hv.s17, Hv.s18, Hv.s19, Hv.s20, Hv.s21, Hv.s22, Hv.s23, Hv.s24, Hv.s25, Hv.s26, Hv.s27, Hv.s28, Hv.s29, Hv.s30, Hv.s31, Hv.s32, Hv.s33, Hv.s34, Hv.s35, Hv.s36, Hv.s37, Hv.s38, Hv.v1, Hv.v2, Hv.v3, Hv.v4, Hv.v6, Hv.v7, Hv.v8, Hv.v9, Hv.v10, Hv.v11, Hv.e1, Hv.e2, Hv.e3, Hv.e4, Hv.e5, Hv.e6, Hv.e7, Hv.e8, Hv.e9, Hv.e10, Hv.e11, Hv.e12, Hv.e13, Hv.e14, Hv.e16, Hv.e17, Hv.e18, Hv.e19, Hv.e20, Hv.e21, Hv.e22, Hv.e23, Hv.e24, Hv.e25, Hv.e26, Hv.x1, Hv.x2, Hv.x6, Hv.x7, Hv.x8, Hv.x9, Hv.x12, Hv.x13, Hv.x14, Hv.x15, Hv.x16, Hv.x17, Hv.x21, Hv.x22, Hv.x23, Hv.x24, Hv.x25, Hv.x26, Hv.x27, Hv.x28, Hv.x29, Hv.x30, Hv.y0, Hv.y1, Hv.y2, Hv.y3, Hv.y4, Hv.y5, Hv.x31, Hv.x32, Hv.x33, Hv.x34, Hv.x35, Hv.x36, Hv.x39, Hv.a1, Hv.a2, Hv.k1, Hv.k4, Hv.k6, Hv.k7, Hv.k8, Hv.k9, Hv.k10, Hv.t0, Hv.t1, Hv.t2, Hv.t3, Hv.t4, Hv.t5, Hv.t6, Hv.t7, Hv.t8, Hv.t9, Hv.t10, Hv.t11, Hv.t12, Hv.t13, Hv.t14, Hv.t14', Hv.t15, Hv.t16, Hv.t17, Hv.t18, Hv.t19, Hv.t20, Hv.t21, Hv.t22, Hv.t23, Hv.t24, Hv.t25, Hv.t26, Hv.t28, Hv.r2, Hv.r3, Hv.r4, Hv.z1, Hv.z2, Hv.z3, Hv.mutDs_int, Hv.intsOf_int, Hv.startE, Hv.isNew, List.set, var_fz, kf, h1, g1, k2b]
    | true =>
      cases g2 : rin b with
      | false =>
        cases b with
        | str x => simp (config := { implicitDefEqProofs := false }) [Hv.s1, Hv.s2, Hv.s3, Hv.s4, Hv.s5, Hv.s6, Hv.s7, Hv.s8, Hv.s9, Hv.s10, Hv.s11, Hv.s12, Hv.s13, Hv.s14, Hv.s15, Hv.s16, Hv.s17, Hv.s18, Hv.s19, Hv.s20, Hv.s21, Hv.s22, Hv.s23, Hv.s24, Hv.s25, Hv.s26, Hv.s27, Hv.s28, Hv.s29, Hv.s30, Hv.s31, Hv.s32, Hv.s33, Hv.s34, Hv.s35, Hv.s36, Hv.s37, Hv.s38, Hv.v1, Hv.v2, Hv.v3, Hv.v4, Hv.v6, Hv.v7, Hv.v8, Hv.v9, Hv.v10, Hv.v11, Hv.e1, Hv.e2, Hv.e3, Hv.e4, Hv.e5, Hv.e6, Hv.e7, Hv.e8, Hv.e9, Hv.e10, Hv.e11, Hv.e12, Hv.e13, Hv.e14, Hv.e16, Hv.e17, Hv.e18, Hv.e19, Hv.e20, Hv.e21, Hv.e22, Hv.e23, Hv.e24, Hv.e25, Hv.e26, Hv.x1, Hv.x2, Hv.x6, Hv.x7, Hv.x8, Hv.x9, Hv.x12, Hv.x13, Hv.x14, Hv.x15, Hv.x16, Hv.x17, Hv.x21, Hv.x22, Hv.x23, Hv.x24, Hv.x25, Hv.x26, Hv.x27, Hv.x28, Hv.x29, Hv.x30, Hv.y0, Hv.y1, Hv.y2, Hv.y3, Hv.y4, Hv.y5, Hv.x31, Hv.x32, Hv.x33, Hv.x34, Hv.x35, Hv.x36, Hv.x39, Hv.a1, Hv.a2, Hv.k1, Hv.k4, Hv.k6, Hv.k7, Hv.k8, Hv.k9, Hv.k10, Hv.t0, Hv.t1, Hv.t2, Hv.t3, Hv.t4, Hv.t5, Hv.t6, Hv.t7, Hv.t8, Hv.t9, Hv.t10, Hv.t11, Hv.t12, Hv.t13, Hv.t14, Hv.t14', Hv.t15, Hv.t16, Hv.t17, Hv.t18, Hv.t19, Hv.t20, Hv.t21, Hv.t22, Hv.t23, Hv.t24, Hv.t25, Hv.t26, Hv.t28, Hv.r2, Hv.r3, Hv.r4, Hv.z1, Hv.z2, Hv.z3, Hv.mutDs_int, Hv.intsOf_int, Hv.startE, Hv.isNew, List.set, var_fz, kf, h1, g1, k2b, isi_fz, tyP, dat2_fz, md3, hn, g2]
        | _ => simp (config := { implicitDefEqProofs := false }) [Hv.s1, Hv.s2, Hv.s3, Hv.s4, Hv.s5, Hv.s6, Hv.s7, Hv.s8, Hv.s9, Hv.s10, Hv.s11, Hv.s12, Hv.s13, Hv.s14, Hv.s15, Hv.s16, Hv.s17, Hv.s18, Hv.s19, Hv.s20, Hv.s21, Hv.s22, Hv.s23, Hv.s24, Hv.s25, Hv.s26, Hv.s27, Hv.s28, Hv.s29, Hv.s30, Hv.s31, Hv.s32, Hv.s33, Hv.s34, Hv.s35, Hv.s36, Hv.s37, Hv.s38, Hv.v1, Hv.v2, Hv.v3, Hv.v4, Hv.v6, Hv.v7, Hv.v8, Hv.v9, Hv.v10, Hv.v11, Hv.e1, Hv.e2, Hv.e3, Hv.e4, Hv.e5, Hv.e6, Hv.e7, Hv.e8, Hv.e9, Hv.e10, Hv.e11, Hv.e12, Hv.e13, Hv.e14, Hv.e16, Hv.e17, Hv.e18, Hv.e19, Hv.e20, Hv.e21, Hv.e22, Hv.e23, Hv.e24, Hv.e25, Hv.e26, Hv.x1, Hv.x2, Hv.x6, Hv.x7, Hv.x8, Hv.x9, Hv.x12, Hv.x13, Hv.x14, Hv.x15, Hv.x16, Hv.x17, Hv.x21, Hv.x22, Hv.x23, Hv.x24, Hv.x25, Hv.x26, Hv.x27, Hv.x28, Hv.x29, Hv.x30, Hv.y0, Hv.y1, Hv.y2, Hv.y3, Hv.y4, Hv.y5, Hv.x31, Hv.x32, Hv.x33, Hv.x34, Hv.x35, Hv.x36, Hv.x39, Hv.a1, Hv.a2, Hv.k1, Hv.k4, Hv.k6, Hv.k7, Hv.k8, Hv.k9, Hv.k10, Hv.t0, Hv.t1, Hv.t2, Hv.t3, Hv.t4, Hv.t5, Hv.t6, Hv.t7, Hv.t8, Hv.t9, Hv.t10, Hv.t11, Hv.t12, Hv.t13, Hv.t14, Hv.t14', Hv.t15, Hv.t16, Hv.t17, Hv.t18, Hv.t19, Hv.t20, Hv.t21, Hv.t22, Hv.t23, Hv.t24, Hv.t25, Hv.t26, Hv.t28, Hv.r2, Hv.r3, Hv.r4, Hv.z1, Hv.z2, Hv.z3, Hv.mutDs_int, Hv.intsOf_int, Hv.startE, Hv.isNew, List.set, var_fz, kf, h1, g1, k2b, isi_fz, tyP, g2]
      | true =>
        obtain ⟨x, rfl⟩ := rin_str g2
        cases c with
        | str y =>
          cases g5 : hidB e with
          | false => simp (config := { implicitDefEqProofs := false }) [Hv.s1, Hv.s2, Hv.s3, Hv.s4, Hv.s5, Hv.s6, Hv.s7, Hv.s8, Hv.s9, Hv.s10, Hv.s11, Hv.s12, Hv.s13, Hv.s14, Hv.s15, Hv.s16, Hv.s17, Hv.s18, Hv.s19, Hv.s20, Hv.s21, Hv.s22, Hv.s23, Hv.s24, Hv.s25, Hv.s26, Hv.s27, Hv.s28, Hv.s29, Hv.s30, Hv.s31, Hv.s32, Hv.s33, Hv.s34, Hv.s35, Hv.s36, Hv.s37, Hv.s38, Hv.v1, Hv.v2, Hv.v3, Hv.v4, Hv.v6, Hv.v7, Hv.v8, Hv.v9, Hv.v10, Hv.v11, Hv.e1, Hv.e2, Hv.e3, Hv.e4, Hv.e5, Hv.e6, Hv.e7, Hv.e8, Hv.e9, Hv.e10, Hv.e11, Hv.e12, Hv.e13, Hv.e14, Hv.e16, Hv.e17, Hv.e18, Hv.e19, Hv.e20, Hv.e21, Hv.e22, Hv.e23, Hv.e24, Hv.e25, Hv.e26, Hv.x1, Hv.x2, Hv.x6, Hv.x7, Hv.x8, Hv.x9, Hv.x12, Hv.x13, Hv.x14, Hv.x15, Hv.x16, Hv.x17, Hv.x21, Hv.x22, Hv.x23, Hv.x24, Hv.x25, Hv.x26, Hv.x27, Hv.x28, Hv.x29, Hv.x30, Hv.y0, Hv.y1, Hv.y2, Hv.y3, Hv.y4, Hv.y5, Hv.x31, Hv.x32, Hv.x33, Hv.x34, Hv.x35, Hv.x36, Hv.x39, Hv.a1, Hv.a2, Hv.k1, Hv.k4, Hv.k6, Hv.k7, Hv.k8, Hv.k9, Hv.k10, Hv.t0, Hv.t1, Hv.t2, Hv.t3, Hv.t4, Hv.t5, Hv.t6, Hv.t7, Hv.t8, Hv.t9, Hv.t10, Hv.t11, Hv.t12, Hv.t13, Hv.t14, Hv.t14', Hv.t15, Hv.t16, Hv.t17, Hv.t18, Hv.t19, Hv.t20, Hv.t21, Hv.t22, Hv.t23, Hv.t24, Hv.t25, Hv.t26, Hv.t28, Hv.r2, Hv.r3, Hv.r4, Hv.z1, Hv.z2, Hv.z3, Hv.mutDs_int, Hv.intsOf_int, Hv.startE, Hv.isNew, List.set, var_fz, kf, h1, g1, k2b, isi_fz, tyP, dat2_fz, md3, hn, g2, h5, g5]
          | true =>
            refine re_seq [some (.v (.tuple [a, .str x, .str y, d, e, f])), some (.v (.int i)), some (.v (.int n)), some (oL ROLt), none, none, none, some (fz w a), some (.v (.str x)), some (.v (.str y)), some (fz w d), some (fz w e), some (fz w f)] (by
              simp (config := { implicitDefEqProofs := false }) [Hv.s1, Hv.s2, Hv.s3, Hv.s4, Hv.s5, Hv.s6, Hv.s7, Hv.s8, Hv.s9, Hv.s10, Hv.s11, Hv.s12, Hv.s13, Hv.s14, Hv.s15, Hv.s16, Hv.s17, Hv.s18, Hv.s19, Hv.s20, Hv.s21, Hv.s22, Hv.s23, Hv.s24, Hv.s25, Hv.s26, Hv.s27, Hv.s28, Hv.s29, Hv.s30, Hv.s31, Hv.s32, Hv.s33, Hv.s34, Hv.s35, Hv.s36, Hv.s37, Hv.s38, Hv.v1, Hv.v2, Hv.v3, Hv.v4, Hv.v6, Hv.v7, Hv.v8, Hv.v9, Hv.v10, Hv.v11, Hv.e1, Hv.e2, Hv.e3, Hv.e4, Hv.e5, Hv.e6, Hv.e7, Hv.e8, Hv.e9, Hv.e10, Hv.e11, Hv.e12, Hv.e13, Hv.e14, Hv.e16, Hv.e17, Hv.e18, Hv.e19, Hv.e20, Hv.e21, Hv.e22, Hv.e23, Hv.e24, Hv.e25, Hv.e26, Hv.x1, Hv.x2, Hv.x6, Hv.x7, Hv.x8, Hv.x9, Hv.x12, Hv.x13, Hv.x14, Hv.x15, Hv.x16, Hv.x17, Hv.x21, Hv.x22, Hv.x23, Hv.x24, Hv.x25, Hv.x26, Hv.x27, Hv.x28, Hv.x29, Hv.x30, Hv.y0, Hv.y1, Hv.y2, Hv.y3, Hv.y4, Hv.y5, Hv.x31, Hv.x32, Hv.x33, Hv.x34, Hv.x35, Hv.x36, Hv.x39, Hv.a1, Hv.a2, Hv.k1, Hv.k4, Hv.k6, Hv.k7, Hv.k8, Hv.k9, Hv.k10, Hv.t0, Hv.t1, Hv.t2, Hv.t3, Hv.t4, Hv.t5, Hv.t6, Hv.t7, Hv.t8, Hv.t9, Hv.t10, Hv.t11, Hv.t12, Hv.t13, Hv.t14, Hv.t14', Hv.t15, Hv.t16, Hv.t17, Hv.t18, Hv.t19, Hv.t20, Hv.t21, Hv.t22, Hv.t23, Hv.t24, Hv.t25, Hv.t26, Hv.t28, Hv.r2, Hv.r3, Hv.r4, Hv.z1, Hv.z2, Hv.z3, Hv.mutDs_int, Hv.intsOf_int, Hv.startE, Hv.isNew, List.set, var_fz, kf, h1, g1, k2b, isi_fz, tyP, dat2_fz, md3, hn, g2, h5, g5]) ?_
            have hy := ic.str y rfl
            obtain ⟨l, rfl⟩ : ∃ l, y = SX.S l := ⟨y.cps.toList, (SX.S_tl y).symm⟩
            rw [SX.S_len] at hy
            rw [t7, t0, t13]
            have e9 : seqR (evs (C (k + 1)) T.G [E.var 9] [some (.v (.tuple [a, .str x, tx l, d, e, f])), some (.v (.int i)), some (.v (.int n)), some (oL ROLt), none, none, none, some (fz w a), some (.v (.str x)), some (.v (tx l)), some (fz w d), some (fz w e), some (fz w f)]) = .ok [.v (tx l)] [] := by simp (config := { implicitDefEqProofs := false }) [Hv.s1, Hv.s2, Hv.s3, Hv.s4, Hv.s5, Hv.s6, Hv.s7, Hv.s8, Hv.s9, Hv.s10, Hv.s11, Hv.s12, Hv.s13, Hv.s14, Hv.s15, Hv.s16, Hv.s17, Hv.s18, Hv.s19, Hv.s20, Hv.s21, Hv.s22, Hv.s23, Hv.s24, Hv.s25, Hv.s26, Hv.s27, Hv.s28, Hv.s29, Hv.s30, Hv.s31, Hv.s32, Hv.s33, Hv.s34, Hv.s35, Hv.s36, Hv.s37, Hv.s38, Hv.v1, Hv.v2, Hv.v3, Hv.v4, Hv.v6, Hv.v7, Hv.v8, Hv.v9, Hv.v10, Hv.v11, Hv.e1, Hv.e2, Hv.e3, Hv.e4, Hv.e5, Hv.e6, Hv.e7, Hv.e8, Hv.e9, Hv.e10, Hv.e11, Hv.e12, Hv.e13, Hv.e14, Hv.e16, Hv.e17, Hv.e18, Hv.e19, Hv.e20, Hv.e21, Hv.e22, Hv.e23, Hv.e24, Hv.e25, Hv.e26, Hv.x1, Hv.x2, Hv.x6, Hv.x7, Hv.x8, Hv.x9, Hv.x12, Hv.x13, Hv.x14, Hv.x15, Hv.x16, Hv.x17, Hv.x21, Hv.x22, Hv.x23, Hv.x24, Hv.x25, Hv.x26, Hv.x27, Hv.x28, Hv.x29, Hv.x30, Hv.y0, Hv.y1, Hv.y2, Hv.y3, Hv.y4, Hv.y5, Hv.x31, Hv.x32, Hv.x33, Hv.x34, Hv.x35, Hv.x36, Hv.x39, Hv.a1, Hv.a2, Hv.k1, Hv.k4, Hv.k6, Hv.k7, Hv.k8, Hv.k9, Hv.k10, Hv.t0, Hv.t1, Hv.t2, Hv.t3, Hv.t4, Hv.t5, Hv.t6, Hv.t7, Hv.t8, Hv.t9, Hv.t10, Hv.t11, Hv.t12, Hv.t13, Hv.t14, Hv.t14', Hv.t15, Hv.t16, Hv.t17, Hv.t18, Hv.t19, Hv.t20, Hv.t21, Hv.t22, Hv.t23, Hv.t24, Hv.t25, Hv.t26, Hv.t28, Hv.r2, Hv.r3, Hv.r4, Hv.z1, Hv.z2, Hv.z3, Hv.mutDs_int, Hv.intsOf_int, Hv.startE, Hv.isNew, List.set]
            rw [e9, s7, f_tx (show l.length ≤ 16777216 by omega)]
            generalize hbd : [S.ife (E.or [E.cmp COp.lt (E.bi Bi.ord [E.var 4]) (E.int 32), E.cmp COp.gt (E.bi Bi.ord [E.var 4]) (E.int 126)]) [S.ret (E.bl false)] []] = bd
            have key := go_all (st := fun p ρ => setT (Tg.name 4) true p ρ) (body := blk (C (k + 1)) T.G Bz bd) (f := ch) okC (fun t : Option D => [some (.v (.tuple [a, .str x, tx l, d, e, f])), some (.v (.int i)), some (.v (.int n)), some (oL ROLt), t, none, none, some (fz w a), some (.v (.str x)), some (.v (tx l)), some (fz w d), some (fz w e), some (fz w f)]) (fun r => r = .ret (.v (.bool false))) (cs := l) none rfl
              (fun t c hc => by
                subst hbd
                refine ⟨_, rfl, fun hw => ?_, fun hw => ?_⟩
                · unfold okC at hw
                  simp only [Bool.and_eq_true, decide_eq_true_eq] at hw
                  have z1 : ¬ ((c : Int) < 32) := by omega
                  have z2 : ¬ (126 < (c : Int)) := by omega
                  simp (config := { implicitDefEqProofs := false }) [Hv.s1, Hv.s2, Hv.s3, Hv.s4, Hv.s5, Hv.s6, Hv.s7, Hv.s8, Hv.s9, Hv.s10, Hv.s11, Hv.s12, Hv.s13, Hv.s14, Hv.s15, Hv.s16, Hv.s17, Hv.s18, Hv.s19, Hv.s20, Hv.s21, Hv.s22, Hv.s23, Hv.s24, Hv.s25, Hv.s26, Hv.s27, Hv.s28, Hv.s29, Hv.s30, Hv.s31, Hv.s32, Hv.s33, Hv.s34, Hv.s35, Hv.s36, Hv.s37, Hv.s38, Hv.v1, Hv.v2, Hv.v3, Hv.v4, Hv.v6, Hv.v7, Hv.v8, Hv.v9, Hv.v10, Hv.v11, Hv.e1, Hv.e2, Hv.e3, Hv.e4, Hv.e5, Hv.e6, Hv.e7, Hv.e8, Hv.e9, Hv.e10, Hv.e11, Hv.e12, Hv.e13, Hv.e14, Hv.e16, Hv.e17, Hv.e18, Hv.e19, Hv.e20, Hv.e21, Hv.e22, Hv.e23, Hv.e24, Hv.e25, Hv.e26, Hv.x1, Hv.x2, Hv.x6, Hv.x7, Hv.x8, Hv.x9, Hv.x12, Hv.x13, Hv.x14, Hv.x15, Hv.x16, Hv.x17, Hv.x21, Hv.x22, Hv.x23, Hv.x24, Hv.x25, Hv.x26, Hv.x27, Hv.x28, Hv.x29, Hv.x30, Hv.y0, Hv.y1, Hv.y2, Hv.y3, Hv.y4, Hv.y5, Hv.x31, Hv.x32, Hv.x33, Hv.x34, Hv.x35, Hv.x36, Hv.x39, Hv.a1, Hv.a2, Hv.k1, Hv.k4, Hv.k6, Hv.k7, Hv.k8, Hv.k9, Hv.k10, Hv.t0, Hv.t1, Hv.t2, Hv.t3, Hv.t4, Hv.t5, Hv.t6, Hv.t7, Hv.t8, Hv.t9, Hv.t10, Hv.t11, Hv.t12, Hv.t13, Hv.t14, Hv.t14', Hv.t15, Hv.t16, Hv.t17, Hv.t18, Hv.t19, Hv.t20, Hv.t21, Hv.t22, Hv.t23, Hv.t24, Hv.t25, Hv.t26, Hv.t28, Hv.r2, Hv.r3, Hv.r4, Hv.z1, Hv.z2, Hv.z3, Hv.mutDs_int, Hv.intsOf_int, Hv.startE, Hv.isNew, List.set, ord_ch, z1, z2, nx1]
                · have : ∀ t : Option D, blk (C (k + 1)) T.G Bz [S.ife (E.or [E.cmp COp.lt (E.bi Bi.ord [E.var 4]) (E.int 32), E.cmp COp.gt (E.bi Bi.ord [E.var 4]) (E.int 126)]) [S.ret (E.bl false)] []] ([some (.v (.tuple [a, .str x, tx l, d, e, f])), some (.v (.int i)), some (.v (.int n)), some (oL ROLt), t, none, none, some (fz w a), some (.v (.str x)), some (.v (tx l)), some (fz w d), some (fz w e), some (fz w f)].set 4 (some (fz true (ch c)))) = .ret (.v (.bool false)) := fun t => by
                    unfold okC at hw
                    by_cases z1 : (c : Int) < 32
                    · simp (config := { implicitDefEqProofs := false }) [Hv.s1, Hv.s2, Hv.s3, Hv.s4, Hv.s5, Hv.s6, Hv.s7, Hv.s8, Hv.s9, Hv.s10, Hv.s11, Hv.s12, Hv.s13, Hv.s14, Hv.s15, Hv.s16, Hv.s17, Hv.s18, Hv.s19, Hv.s20, Hv.s21, Hv.s22, Hv.s23, Hv.s24, Hv.s25, Hv.s26, Hv.s27, Hv.s28, Hv.s29, Hv.s30, Hv.s31, Hv.s32, Hv.s33, Hv.s34, Hv.s35, Hv.s36, Hv.s37, Hv.s38, Hv.v1, Hv.v2, Hv.v3, Hv.v4, Hv.v6, Hv.v7, Hv.v8, Hv.v9, Hv.v10, Hv.v11, Hv.e1, Hv.e2, Hv.e3, Hv.e4, Hv.e5, Hv.e6, Hv.e7, Hv.e8, Hv.e9, Hv.e10, Hv.e11, Hv.e12, Hv.e13, Hv.e14, Hv.e16, Hv.e17, Hv.e18, Hv.e19, Hv.e20, Hv.e21, Hv.e22, Hv.e23, Hv.e24, Hv.e25, Hv.e26, Hv.x1, Hv.x2, Hv.x6, Hv.x7, Hv.x8, Hv.x9, Hv.x12, Hv.x13, Hv.x14, Hv.x15, Hv.x16, Hv.x17, Hv.x21, Hv.x22, Hv.x23, Hv.x24, Hv.x25, Hv.x26, Hv.x27, Hv.x28, Hv.x29, Hv.x30, Hv.y0, Hv.y1, Hv.y2, Hv.y3, Hv.y4, Hv.y5, Hv.x31, Hv.x32, Hv.x33, Hv.x34, Hv.x35, Hv.x36, Hv.x39, Hv.a1, Hv.a2, Hv.k1, Hv.k4, Hv.k6, Hv.k7, Hv.k8, Hv.k9, Hv.k10, Hv.t0, Hv.t1, Hv.t2, Hv.t3, Hv.t4, Hv.t5, Hv.t6, Hv.t7, Hv.t8, Hv.t9, Hv.t10, Hv.t11, Hv.t12, Hv.t13, Hv.t14, Hv.t14', Hv.t15, Hv.t16, Hv.t17, Hv.t18, Hv.t19, Hv.t20, Hv.t21, Hv.t22, Hv.t23, Hv.t24, Hv.t25, Hv.t26, Hv.t28, Hv.r2, Hv.r3, Hv.r4, Hv.z1, Hv.z2, Hv.z3, Hv.mutDs_int, Hv.intsOf_int, Hv.startE, Hv.isNew, List.set, ord_ch, z1]
                    · have z2 : 126 < (c : Int) := by
                        simp only [Bool.and_eq_false_iff, decide_eq_false_iff_not] at hw
                        omega
                      simp (config := { implicitDefEqProofs := false }) [Hv.s1, Hv.s2, Hv.s3, Hv.s4, Hv.s5, Hv.s6, Hv.s7, Hv.s8, Hv.s9, Hv.s10, Hv.s11, Hv.s12, Hv.s13, Hv.s14, Hv.s15, Hv.s16, Hv.s17, Hv.s18, Hv.s19, Hv.s20, Hv.s21, Hv.s22, Hv.s23, Hv.s24, Hv.s25, Hv.s26, Hv.s27, Hv.s28, Hv.s29, Hv.s30, Hv.s31, Hv.s32, Hv.s33, Hv.s34, Hv.s35, Hv.s36, Hv.s37, Hv.s38, Hv.v1, Hv.v2, Hv.v3, Hv.v4, Hv.v6, Hv.v7, Hv.v8, Hv.v9, Hv.v10, Hv.v11, Hv.e1, Hv.e2, Hv.e3, Hv.e4, Hv.e5, Hv.e6, Hv.e7, Hv.e8, Hv.e9, Hv.e10, Hv.e11, Hv.e12, Hv.e13, Hv.e14, Hv.e16, Hv.e17, Hv.e18, Hv.e19, Hv.e20, Hv.e21, Hv.e22, Hv.e23, Hv.e24, Hv.e25, Hv.e26, Hv.x1, Hv.x2, Hv.x6, Hv.x7, Hv.x8, Hv.x9, Hv.x12, Hv.x13, Hv.x14, Hv.x15, Hv.x16, Hv.x17, Hv.x21, Hv.x22, Hv.x23, Hv.x24, Hv.x25, Hv.x26, Hv.x27, Hv.x28, Hv.x29, Hv.x30, Hv.y0, Hv.y1, Hv.y2, Hv.y3, Hv.y4, Hv.y5, Hv.x31, Hv.x32, Hv.x33, Hv.x34, Hv.x35, Hv.x36, Hv.x39, Hv.a1, Hv.a2, Hv.k1, Hv.k4, Hv.k6, Hv.k7, Hv.k8, Hv.k9, Hv.k10, Hv.t0, Hv.t1, Hv.t2, Hv.t3, Hv.t4, Hv.t5, Hv.t6, Hv.t7, Hv.t8, Hv.t9, Hv.t10, Hv.t11, Hv.t12, Hv.t13, Hv.t14, Hv.t14', Hv.t15, Hv.t16, Hv.t17, Hv.t18, Hv.t19, Hv.t20, Hv.t21, Hv.t22, Hv.t23, Hv.t24, Hv.t25, Hv.t26, Hv.t28, Hv.r2, Hv.r3, Hv.r4, Hv.z1, Hv.z2, Hv.z3, Hv.mutDs_int, Hv.intsOf_int, Hv.startE, Hv.isNew, List.set, ord_ch, z1, z2]
                  exact ⟨.inr ⟨_, this t⟩, this t⟩)
            have et : textB (tx l) = l.all okC := rfl
            rw [et]
            rcases key with ⟨hk, t, ek⟩ | ⟨hk, ek⟩
            · rw [ek, t2, hk, t7, t0]
              clear ek
              generalize hρ0 : some (D.v (.tuple [a, .str x, tx l, d, e, f])) = v0
              generalize hρ7 : some (fz w a) = v7
              generalize hρe : some (fz w e) = v11
              cases d with
              | tuple qs =>
                obtain ⟨hqm, hqf⟩ := id_.tup qs rfl
                have hql : qs.length ≤ 10000 := id_.len qs rfl
                have hfd : fz w (.tuple qs) = .v (.tuple qs) := v12 (by rw [md6]; exact hqm)
                rw [hfd]
                cases f with
                | tuple fs =>
                  obtain ⟨hfm, hff⟩ := if_.tup fs rfl
                  have hff2 : fz w (.tuple fs) = .v (.tuple fs) := v12 (by rw [md6]; exact hfm)
                  rw [hff2]
                  by_cases h4 : fs.length = 4
                  · refine re_seq [v0, some (.v (.int i)), some (.v (.int n)), some (oL ROLt), t, none, none, v7, some (.v (.str x)), some (.v (tx l)), some (.v (.tuple qs)), v11, some (.v (.tuple fs))] (by simp (config := { implicitDefEqProofs := false }) [Hv.s1, Hv.s2, Hv.s3, Hv.s4, Hv.s5, Hv.s6, Hv.s7, Hv.s8, Hv.s9, Hv.s10, Hv.s11, Hv.s12, Hv.s13, Hv.s14, Hv.s15, Hv.s16, Hv.s17, Hv.s18, Hv.s19, Hv.s20, Hv.s21, Hv.s22, Hv.s23, Hv.s24, Hv.s25, Hv.s26, Hv.s27, Hv.s28, Hv.s29, Hv.s30, Hv.s31, Hv.s32, Hv.s33, Hv.s34, Hv.s35, Hv.s36, Hv.s37, Hv.s38, Hv.v1, Hv.v2, Hv.v3, Hv.v4, Hv.v6, Hv.v7, Hv.v8, Hv.v9, Hv.v10, Hv.v11, Hv.e1, Hv.e2, Hv.e3, Hv.e4, Hv.e5, Hv.e6, Hv.e7, Hv.e8, Hv.e9, Hv.e10, Hv.e11, Hv.e12, Hv.e13, Hv.e14, Hv.e16, Hv.e17, Hv.e18, Hv.e19, Hv.e20, Hv.e21, Hv.e22, Hv.e23, Hv.e24, Hv.e25, Hv.e26, Hv.x1, Hv.x2, Hv.x6, Hv.x7, Hv.x8, Hv.x9, Hv.x12, Hv.x13, Hv.x14, Hv.x15, Hv.x16, Hv.x17, Hv.x21, Hv.x22, Hv.x23, Hv.x24, Hv.x25, Hv.x26, Hv.x27, Hv.x28, Hv.x29, Hv.x30, Hv.y0, Hv.y1, Hv.y2, Hv.y3, Hv.y4, Hv.y5, Hv.x31, Hv.x32, Hv.x33, Hv.x34, Hv.x35, Hv.x36, Hv.x39, Hv.a1, Hv.a2, Hv.k1, Hv.k4, Hv.k6, Hv.k7, Hv.k8, Hv.k9, Hv.k10, Hv.t0, Hv.t1, Hv.t2, Hv.t3, Hv.t4, Hv.t5, Hv.t6, Hv.t7, Hv.t8, Hv.t9, Hv.t10, Hv.t11, Hv.t12, Hv.t13, Hv.t14, Hv.t14', Hv.t15, Hv.t16, Hv.t17, Hv.t18, Hv.t19, Hv.t20, Hv.t21, Hv.t22, Hv.t23, Hv.t24, Hv.t25, Hv.t26, Hv.t28, Hv.r2, Hv.r3, Hv.r4, Hv.z1, Hv.z2, Hv.z3, Hv.mutDs_int, Hv.intsOf_int, Hv.startE, Hv.isNew, List.set, tyP, cmp_nei, h4]) ?_
                    rw [t7, t0, t13]
                    have e9 : seqR (evs (C (k + 1)) T.G [E.bi Bi.len [E.var 10]] [v0, some (.v (.int i)), some (.v (.int n)), some (oL ROLt), t, none, none, v7, some (.v (.str x)), some (.v (tx l)), some (.v (.tuple qs)), v11, some (.v (.tuple fs))]) = .ok [.v (.int (qs.length : Nat))] [] := by simp (config := { implicitDefEqProofs := false }) [Hv.s1, Hv.s2, Hv.s3, Hv.s4, Hv.s5, Hv.s6, Hv.s7, Hv.s8, Hv.s9, Hv.s10, Hv.s11, Hv.s12, Hv.s13, Hv.s14, Hv.s15, Hv.s16, Hv.s17, Hv.s18, Hv.s19, Hv.s20, Hv.s21, Hv.s22, Hv.s23, Hv.s24, Hv.s25, Hv.s26, Hv.s27, Hv.s28, Hv.s29, Hv.s30, Hv.s31, Hv.s32, Hv.s33, Hv.s34, Hv.s35, Hv.s36, Hv.s37, Hv.s38, Hv.v1, Hv.v2, Hv.v3, Hv.v4, Hv.v6, Hv.v7, Hv.v8, Hv.v9, Hv.v10, Hv.v11, Hv.e1, Hv.e2, Hv.e3, Hv.e4, Hv.e5, Hv.e6, Hv.e7, Hv.e8, Hv.e9, Hv.e10, Hv.e11, Hv.e12, Hv.e13, Hv.e14, Hv.e16, Hv.e17, Hv.e18, Hv.e19, Hv.e20, Hv.e21, Hv.e22, Hv.e23, Hv.e24, Hv.e25, Hv.e26, Hv.x1, Hv.x2, Hv.x6, Hv.x7, Hv.x8, Hv.x9, Hv.x12, Hv.x13, Hv.x14, Hv.x15, Hv.x16, Hv.x17, Hv.x21, Hv.x22, Hv.x23, Hv.x24, Hv.x25, Hv.x26, Hv.x27, Hv.x28, Hv.x29, Hv.x30, Hv.y0, Hv.y1, Hv.y2, Hv.y3, Hv.y4, Hv.y5, Hv.x31, Hv.x32, Hv.x33, Hv.x34, Hv.x35, Hv.x36, Hv.x39, Hv.a1, Hv.a2, Hv.k1, Hv.k4, Hv.k6, Hv.k7, Hv.k8, Hv.k9, Hv.k10, Hv.t0, Hv.t1, Hv.t2, Hv.t3, Hv.t4, Hv.t5, Hv.t6, Hv.t7, Hv.t8, Hv.t9, Hv.t10, Hv.t11, Hv.t12, Hv.t13, Hv.t14, Hv.t14', Hv.t15, Hv.t16, Hv.t17, Hv.t18, Hv.t19, Hv.t20, Hv.t21, Hv.t22, Hv.t23, Hv.t24, Hv.t25, Hv.t26, Hv.t28, Hv.r2, Hv.r3, Hv.r4, Hv.z1, Hv.z2, Hv.z3, Hv.mutDs_int, Hv.intsOf_int, Hv.startE, Hv.isNew, List.set]
                    rw [e9, s7, f1 (by omega), rg_list]
                    generalize hbd2 : [S.ife (E.or [(E.call 14 [(E.var 10).ix (E.var 5), E.int 0, E.bin BOp.sub (E.var 2) (E.int 1)]).not, E.cmp COp.in_ ((E.var 10).ix (E.var 5)) ((E.var 10).sl (some (E.int 0)) (some (E.var 5)))]) [S.ret (E.bl false)] []] = bd2
                    have key2 := go_all (st := fun p ρ => setT (Tg.name 5) true p ρ) (body := blk (C (k + 1)) T.G Bz bd2) (f := fun (i : Nat) => PyData.int (i : Int)) (refZ n qs) (fun u : Option D => [v0, some (.v (.int i)), some (.v (.int n)), some (oL ROLt), t, u, none, v7, some (.v (.str x)), some (.v (tx l)), some (.v (.tuple qs)), v11, some (.v (.tuple fs))]) (fun r => r = .ret (.v (.bool false))) (cs := List.range qs.length) none rfl
                      (fun u j hj => by
                        subst hbd2
                        have hj := List.mem_range.mp hj
                        have hg : qs[j]? = some qs[j] := by simp [hj]
                        have hm : qs[j] ∈ qs := List.getElem_mem hj
                        generalize qs[j] = q at hg hm
                        have hqq : flatP q = true := List.all_eq_true.mp hqf q hm
                        have hqn : mutD q = false := by cases q <;> simp [flatP] at hqq <;> rfl
                        have hit : ∀ b al, itR b q al = .ok (.v q) [] := fun b al => x37 hqn
                        have h14 := w14 k q 0 (n - 1)
                        rw [lawis_rng] at h14
                        have hct : cutP qs (some 0) (some (j : Int)) = qs.take j := cut_to
                        have htm : mutDs (qs.take j) = false := mutDs_take hqm
                        have hin := in_flat hqq (ds := qs.take j) (List.all_eq_true.mpr fun z hz => List.all_eq_true.mp hqf z (List.mem_of_mem_take hz))
                        have hz : refZ n qs j = (rng n q && !((qs.take j).any fun z => PyData.eqv z q)) := by
                          unfold refZ
                          rw [hg]
                        generalize qs.take j = tk at hct htm hin hz
                        generalize (tk.any fun z => PyData.eqv z q) = bb at hin hz
                        refine ⟨_, rfl, fun hw => ?_, fun hw => ?_⟩
                        · rw [hz] at hw
                          simp only [Bool.and_eq_true, Bool.not_eq_true'] at hw
                          rw [hw.1] at h14
                          rw [hw.2] at hin
                          simp (config := { implicitDefEqProofs := false }) [Hv.s1, Hv.s2, Hv.s3, Hv.s4, Hv.s5, Hv.s6, Hv.s7, Hv.s8, Hv.s9, Hv.s10, Hv.s11, Hv.s12, Hv.s13, Hv.s14, Hv.s15, Hv.s16, Hv.s17, Hv.s18, Hv.s19, Hv.s20, Hv.s21, Hv.s22, Hv.s23, Hv.s24, Hv.s25, Hv.s26, Hv.s27, Hv.s28, Hv.s29, Hv.s30, Hv.s31, Hv.s32, Hv.s33, Hv.s34, Hv.s35, Hv.s36, Hv.s37, Hv.s38, Hv.v1, Hv.v2, Hv.v3, Hv.v4, Hv.v6, Hv.v7, Hv.v8, Hv.v9, Hv.v10, Hv.v11, Hv.e1, Hv.e2, Hv.e3, Hv.e4, Hv.e5, Hv.e6, Hv.e7, Hv.e8, Hv.e9, Hv.e10, Hv.e11, Hv.e12, Hv.e13, Hv.e14, Hv.e16, Hv.e17, Hv.e18, Hv.e19, Hv.e20, Hv.e21, Hv.e22, Hv.e23, Hv.e24, Hv.e25, Hv.e26, Hv.x1, Hv.x2, Hv.x6, Hv.x7, Hv.x8, Hv.x9, Hv.x12, Hv.x13, Hv.x14, Hv.x15, Hv.x16, Hv.x17, Hv.x21, Hv.x22, Hv.x23, Hv.x24, Hv.x25, Hv.x26, Hv.x27, Hv.x28, Hv.x29, Hv.x30, Hv.y0, Hv.y1, Hv.y2, Hv.y3, Hv.y4, Hv.y5, Hv.x31, Hv.x32, Hv.x33, Hv.x34, Hv.x35, Hv.x36, Hv.x39, Hv.a1, Hv.a2, Hv.k1, Hv.k4, Hv.k6, Hv.k7, Hv.k8, Hv.k9, Hv.k10, Hv.t0, Hv.t1, Hv.t2, Hv.t3, Hv.t4, Hv.t5, Hv.t6, Hv.t7, Hv.t8, Hv.t9, Hv.t10, Hv.t11, Hv.t12, Hv.t13, Hv.t14, Hv.t14', Hv.t15, Hv.t16, Hv.t17, Hv.t18, Hv.t19, Hv.t20, Hv.t21, Hv.t22, Hv.t23, Hv.t24, Hv.t25, Hv.t26, Hv.t28, Hv.r2, Hv.r3, Hv.r4, Hv.z1, Hv.z2, Hv.z3, Hv.mutDs_int, Hv.intsOf_int, Hv.startE, Hv.isNew, List.set, hg, hit, h14, k2b, sl_tv (show mutDs (cutP qs (some 0) (some (j : Int))) = false by rw [hct]; exact htm), hct, hin, nx1]
                        · have : blk (C (k + 1)) T.G Bz [S.ife (E.or [(E.call 14 [(E.var 10).ix (E.var 5), E.int 0, E.bin BOp.sub (E.var 2) (E.int 1)]).not, E.cmp COp.in_ ((E.var 10).ix (E.var 5)) ((E.var 10).sl (some (E.int 0)) (some (E.var 5)))]) [S.ret (E.bl false)] []] ([v0, some (.v (.int i)), some (.v (.int n)), some (oL ROLt), t, u, none, v7, some (.v (.str x)), some (.v (tx l)), some (.v (.tuple qs)), v11, some (.v (.tuple fs))].set 5 (some (fz true (.int (j : Int))))) = .ret (.v (.bool false)) := by
                            rw [hz] at hw
                            cases hr : rng n q with
                            | false =>
                              rw [hr] at h14
                              simp (config := { implicitDefEqProofs := false }) [Hv.s1, Hv.s2, Hv.s3, Hv.s4, Hv.s5, Hv.s6, Hv.s7, Hv.s8, Hv.s9, Hv.s10, Hv.s11, Hv.s12, Hv.s13, Hv.s14, Hv.s15, Hv.s16, Hv.s17, Hv.s18, Hv.s19, Hv.s20, Hv.s21, Hv.s22, Hv.s23, Hv.s24, Hv.s25, Hv.s26, Hv.s27, Hv.s28, Hv.s29, Hv.s30, Hv.s31, Hv.s32, Hv.s33, Hv.s34, Hv.s35, Hv.s36, Hv.s37, Hv.s38, Hv.v1, Hv.v2, Hv.v3, Hv.v4, Hv.v6, Hv.v7, Hv.v8, Hv.v9, Hv.v10, Hv.v11, Hv.e1, Hv.e2, Hv.e3, Hv.e4, Hv.e5, Hv.e6, Hv.e7, Hv.e8, Hv.e9, Hv.e10, Hv.e11, Hv.e12, Hv.e13, Hv.e14, Hv.e16, Hv.e17, Hv.e18, Hv.e19, Hv.e20, Hv.e21, Hv.e22, Hv.e23, Hv.e24, Hv.e25, Hv.e26, Hv.x1, Hv.x2, Hv.x6, Hv.x7, Hv.x8, Hv.x9, Hv.x12, Hv.x13, Hv.x14, Hv.x15, Hv.x16, Hv.x17, Hv.x21, Hv.x22, Hv.x23, Hv.x24, Hv.x25, Hv.x26, Hv.x27, Hv.x28, Hv.x29, Hv.x30, Hv.y0, Hv.y1, Hv.y2, Hv.y3, Hv.y4, Hv.y5, Hv.x31, Hv.x32, Hv.x33, Hv.x34, Hv.x35, Hv.x36, Hv.x39, Hv.a1, Hv.a2, Hv.k1, Hv.k4, Hv.k6, Hv.k7, Hv.k8, Hv.k9, Hv.k10, Hv.t0, Hv.t1, Hv.t2, Hv.t3, Hv.t4, Hv.t5, Hv.t6, Hv.t7, Hv.t8, Hv.t9, Hv.t10, Hv.t11, Hv.t12, Hv.t13, Hv.t14, Hv.t14', Hv.t15, Hv.t16, Hv.t17, Hv.t18, Hv.t19, Hv.t20, Hv.t21, Hv.t22, Hv.t23, Hv.t24, Hv.t25, Hv.t26, Hv.t28, Hv.r2, Hv.r3, Hv.r4, Hv.z1, Hv.z2, Hv.z3, Hv.mutDs_int, Hv.intsOf_int, Hv.startE, Hv.isNew, List.set, hg, hit, h14, k2b]
                            | true =>
                              rw [hr] at h14 hw
                              have : bb = true := by cases bb <;> simp at hw ⊢
                              rw [this] at hin
                              simp (config := { implicitDefEqProofs := false }) [Hv.s1, Hv.s2, Hv.s3, Hv.s4, Hv.s5, Hv.s6, Hv.s7, Hv.s8, Hv.s9, Hv.s10, Hv.s11, Hv.s12, Hv.s13, Hv.s14, Hv.s15, Hv.s16, Hv.s17, Hv.s18, Hv.s19, Hv.s20, Hv.s21, Hv.s22, Hv.s23, Hv.s24, Hv.s25, Hv.s26, Hv.s27, Hv.s28, Hv.s29, Hv.s30, Hv.s31, Hv.s32, Hv.s33, Hv.s34, Hv.s35, Hv.s36, Hv.s37, Hv.s38, Hv.v1, Hv.v2, Hv.v3, Hv.v4, Hv.v6, Hv.v7, Hv.v8, Hv.v9, Hv.v10, Hv.v11, Hv.e1, Hv.e2, Hv.e3, Hv.e4, Hv.e5, Hv.e6, Hv.e7, Hv.e8, Hv.e9, Hv.e10, Hv.e11, Hv.e12, Hv.e13, Hv.e14, Hv.e16, Hv.e17, Hv.e18, Hv.e19, Hv.e20, Hv.e21, Hv.e22, Hv.e23, Hv.e24, Hv.e25, Hv.e26, Hv.x1, Hv.x2, Hv.x6, Hv.x7, Hv.x8, Hv.x9, Hv.x12, Hv.x13, Hv.x14, Hv.x15, Hv.x16, Hv.x17, Hv.x21, Hv.x22, Hv.x23, Hv.x24, Hv.x25, Hv.x26, Hv.x27, Hv.x28, Hv.x29, Hv.x30, Hv.y0, Hv.y1, Hv.y2, Hv.y3, Hv.y4, Hv.y5, Hv.x31, Hv.x32, Hv.x33, Hv.x34, Hv.x35, Hv.x36, Hv.x39, Hv.a1, Hv.a2, Hv.k1, Hv.k4, Hv.k6, Hv.k7, Hv.k8, Hv.k9, Hv.k10, Hv.t0, Hv.t1, Hv.t2, Hv.t3, Hv.t4, Hv.t5, Hv.t6, Hv.t7, Hv.t8, Hv.t9, Hv.t10, Hv.t11, Hv.t12, Hv.t13, Hv.t14, Hv.t14', Hv.t15, Hv.t16, Hv.t17, Hv.t18, Hv.t19, Hv.t20, Hv.t21, Hv.t22, Hv.t23, Hv.t24, Hv.t25, Hv.t26, Hv.t28, Hv.r2, Hv.r3, Hv.r4, Hv.z1, Hv.z2, Hv.z3, Hv.mutDs_int, Hv.intsOf_int, Hv.startE, Hv.isNew, List.set, hg, hit, h14, k2b, sl_tv (show mutDs (cutP qs (some 0) (some (j : Int))) = false by rw [hct]; exact htm), hct, hin]
                          exact ⟨.inr ⟨_, this⟩, this⟩)
                    rw [refZ_all] at key2
                    rcases key2 with ⟨hk2, u, ek⟩ | ⟨hk2, ek⟩
                    · rw [ek, t2, hk2, t7, t0, t13]
                      clear ek
                      have e9 : seqR (evs (C (k + 1)) T.G [E.var 12] [v0, some (.v (.int i)), some (.v (.int n)), some (oL ROLt), t, u, none, v7, some (.v (.str x)), some (.v (tx l)), some (.v (.tuple qs)), v11, some (.v (.tuple fs))]) = .ok [.v (.tuple fs)] [] := by simp (config := { implicitDefEqProofs := false }) [Hv.s1, Hv.s2, Hv.s3, Hv.s4, Hv.s5, Hv.s6, Hv.s7, Hv.s8, Hv.s9, Hv.s10, Hv.s11, Hv.s12, Hv.s13, Hv.s14, Hv.s15, Hv.s16, Hv.s17, Hv.s18, Hv.s19, Hv.s20, Hv.s21, Hv.s22, Hv.s23, Hv.s24, Hv.s25, Hv.s26, Hv.s27, Hv.s28, Hv.s29, Hv.s30, Hv.s31, Hv.s32, Hv.s33, Hv.s34, Hv.s35, Hv.s36, Hv.s37, Hv.s38, Hv.v1, Hv.v2, Hv.v3, Hv.v4, Hv.v6, Hv.v7, Hv.v8, Hv.v9, Hv.v10, Hv.v11, Hv.e1, Hv.e2, Hv.e3, Hv.e4, Hv.e5, Hv.e6, Hv.e7, Hv.e8, Hv.e9, Hv.e10, Hv.e11, Hv.e12, Hv.e13, Hv.e14, Hv.e16, Hv.e17, Hv.e18, Hv.e19, Hv.e20, Hv.e21, Hv.e22, Hv.e23, Hv.e24, Hv.e25, Hv.e26, Hv.x1, Hv.x2, Hv.x6, Hv.x7, Hv.x8, Hv.x9, Hv.x12, Hv.x13, Hv.x14, Hv.x15, Hv.x16, Hv.x17, Hv.x21, Hv.x22, Hv.x23, Hv.x24, Hv.x25, Hv.x26, Hv.x27, Hv.x28, Hv.x29, Hv.x30, Hv.y0, Hv.y1, Hv.y2, Hv.y3, Hv.y4, Hv.y5, Hv.x31, Hv.x32, Hv.x33, Hv.x34, Hv.x35, Hv.x36, Hv.x39, Hv.a1, Hv.a2, Hv.k1, Hv.k4, Hv.k6, Hv.k7, Hv.k8, Hv.k9, Hv.k10, Hv.t0, Hv.t1, Hv.t2, Hv.t3, Hv.t4, Hv.t5, Hv.t6, Hv.t7, Hv.t8, Hv.t9, Hv.t10, Hv.t11, Hv.t12, Hv.t13, Hv.t14, Hv.t14', Hv.t15, Hv.t16, Hv.t17, Hv.t18, Hv.t19, Hv.t20, Hv.t21, Hv.t22, Hv.t23, Hv.t24, Hv.t25, Hv.t26, Hv.t28, Hv.r2, Hv.r3, Hv.r4, Hv.z1, Hv.z2, Hv.z3, Hv.mutDs_int, Hv.intsOf_int, Hv.startE, Hv.isNew, List.set]
                      rw [e9, s7, f_tup hfm]
                      generalize isNew (.v (.tuple fs)) = bw
                      have key3 := go_all (st := fun p ρ => setT (Tg.name 6) bw p ρ) (body := blk (C (k + 1)) T.G Bz [S.ife (E.or [(E.isi (E.var 6) Ty.int).not, E.isi (E.var 6) Ty.bool]) [S.ret (E.bl false)] []]) (f := id) whole (fun y : Option D => [v0, some (.v (.int i)), some (.v (.int n)), some (oL ROLt), t, u, y, v7, some (.v (.str x)), some (.v (tx l)), some (.v (.tuple qs)), v11, some (.v (.tuple fs))]) (fun r => r = .ret (.v (.bool false))) (cs := fs) none rfl
                        (fun y q hq => by
                          refine ⟨_, rfl, fun hw => ?_, fun hw => ?_⟩
                          · cases q with
                            | int j => simp (config := { implicitDefEqProofs := false }) [Hv.s1, Hv.s2, Hv.s3, Hv.s4, Hv.s5, Hv.s6, Hv.s7, Hv.s8, Hv.s9, Hv.s10, Hv.s11, Hv.s12, Hv.s13, Hv.s14, Hv.s15, Hv.s16, Hv.s17, Hv.s18, Hv.s19, Hv.s20, Hv.s21, Hv.s22, Hv.s23, Hv.s24, Hv.s25, Hv.s26, Hv.s27, Hv.s28, Hv.s29, Hv.s30, Hv.s31, Hv.s32, Hv.s33, Hv.s34, Hv.s35, Hv.s36, Hv.s37, Hv.s38, Hv.v1, Hv.v2, Hv.v3, Hv.v4, Hv.v6, Hv.v7, Hv.v8, Hv.v9, Hv.v10, Hv.v11, Hv.e1, Hv.e2, Hv.e3, Hv.e4, Hv.e5, Hv.e6, Hv.e7, Hv.e8, Hv.e9, Hv.e10, Hv.e11, Hv.e12, Hv.e13, Hv.e14, Hv.e16, Hv.e17, Hv.e18, Hv.e19, Hv.e20, Hv.e21, Hv.e22, Hv.e23, Hv.e24, Hv.e25, Hv.e26, Hv.x1, Hv.x2, Hv.x6, Hv.x7, Hv.x8, Hv.x9, Hv.x12, Hv.x13, Hv.x14, Hv.x15, Hv.x16, Hv.x17, Hv.x21, Hv.x22, Hv.x23, Hv.x24, Hv.x25, Hv.x26, Hv.x27, Hv.x28, Hv.x29, Hv.x30, Hv.y0, Hv.y1, Hv.y2, Hv.y3, Hv.y4, Hv.y5, Hv.x31, Hv.x32, Hv.x33, Hv.x34, Hv.x35, Hv.x36, Hv.x39, Hv.a1, Hv.a2, Hv.k1, Hv.k4, Hv.k6, Hv.k7, Hv.k8, Hv.k9, Hv.k10, Hv.t0, Hv.t1, Hv.t2, Hv.t3, Hv.t4, Hv.t5, Hv.t6, Hv.t7, Hv.t8, Hv.t9, Hv.t10, Hv.t11, Hv.t12, Hv.t13, Hv.t14, Hv.t14', Hv.t15, Hv.t16, Hv.t17, Hv.t18, Hv.t19, Hv.t20, Hv.t21, Hv.t22, Hv.t23, Hv.t24, Hv.t25, Hv.t26, Hv.t28, Hv.r2, Hv.r3, Hv.r4, Hv.z1, Hv.z2, Hv.z3, Hv.mutDs_int, Hv.intsOf_int, Hv.startE, Hv.isNew, List.set, tyP, nx1]
                            | _ => simp [whole] at hw
                          · have : blk (C (k + 1)) T.G Bz [S.ife (E.or [(E.isi (E.var 6) Ty.int).not, E.isi (E.var 6) Ty.bool]) [S.ret (E.bl false)] []] ([v0, some (.v (.int i)), some (.v (.int n)), some (oL ROLt), t, u, y, v7, some (.v (.str x)), some (.v (tx l)), some (.v (.tuple qs)), v11, some (.v (.tuple fs))].set 6 (some (fz bw (id q)))) = .ret (.v (.bool false)) := by
                              have hqq : flatP q = true := List.all_eq_true.mp hff q hq
                              cases q with
                              | int j => simp [whole] at hw
                              | _ => first | (simp [flatP] at hqq; done) | simp (config := { implicitDefEqProofs := false }) [Hv.s1, Hv.s2, Hv.s3, Hv.s4, Hv.s5, Hv.s6, Hv.s7, Hv.s8, Hv.s9, Hv.s10, Hv.s11, Hv.s12, Hv.s13, Hv.s14, Hv.s15, Hv.s16, Hv.s17, Hv.s18, Hv.s19, Hv.s20, Hv.s21, Hv.s22, Hv.s23, Hv.s24, Hv.s25, Hv.s26, Hv.s27, Hv.s28, Hv.s29, Hv.s30, Hv.s31, Hv.s32, Hv.s33, Hv.s34, Hv.s35, Hv.s36, Hv.s37, Hv.s38, Hv.v1, Hv.v2, Hv.v3, Hv.v4, Hv.v6, Hv.v7, Hv.v8, Hv.v9, Hv.v10, Hv.v11, Hv.e1, Hv.e2, Hv.e3, Hv.e4, Hv.e5, Hv.e6, Hv.e7, Hv.e8, Hv.e9, Hv.e10, Hv.e11, Hv.e12, Hv.e13, Hv.e14, Hv.e16, Hv.e17, Hv.e18, Hv.e19, Hv.e20, Hv.e21, Hv.e22, Hv.e23, Hv.e24, Hv.e25, Hv.e26, Hv.x1, Hv.x2, Hv.x6, Hv.x7, Hv.x8, Hv.x9, Hv.x12, Hv.x13, Hv.x14, Hv.x15, Hv.x16, Hv.x17, Hv.x21, Hv.x22, Hv.x23, Hv.x24, Hv.x25, Hv.x26, Hv.x27, Hv.x28, Hv.x29, Hv.x30, Hv.y0, Hv.y1, Hv.y2, Hv.y3, Hv.y4, Hv.y5, Hv.x31, Hv.x32, Hv.x33, Hv.x34, Hv.x35, Hv.x36, Hv.x39, Hv.a1, Hv.a2, Hv.k1, Hv.k4, Hv.k6, Hv.k7, Hv.k8, Hv.k9, Hv.k10, Hv.t0, Hv.t1, Hv.t2, Hv.t3, Hv.t4, Hv.t5, Hv.t6, Hv.t7, Hv.t8, Hv.t9, Hv.t10, Hv.t11, Hv.t12, Hv.t13, Hv.t14, Hv.t14', Hv.t15, Hv.t16, Hv.t17, Hv.t18, Hv.t19, Hv.t20, Hv.t21, Hv.t22, Hv.t23, Hv.t24, Hv.t25, Hv.t26, Hv.t28, Hv.r2, Hv.r3, Hv.r4, Hv.z1, Hv.z2, Hv.z3, Hv.mutDs_int, Hv.intsOf_int, Hv.startE, Hv.isNew, List.set, var_fz, isi_fz, tyP]
                            exact ⟨.inr ⟨_, this⟩, this⟩)
                      rw [List.map_id] at key3
                      rcases key3 with ⟨hk3, y, ek⟩ | ⟨hk3, ek⟩
                      · rw [ek, t2]
                        clear ek
                        obtain ⟨z1, z2, z3, z4, rfl⟩ := four h4 hk3
                        by_cases g6 : z1 < z3 <;> by_cases g7 : z2 < z4 <;> simp (config := { implicitDefEqProofs := false }) [Hv.s1, Hv.s2, Hv.s3, Hv.s4, Hv.s5, Hv.s6, Hv.s7, Hv.s8, Hv.s9, Hv.s10, Hv.s11, Hv.s12, Hv.s13, Hv.s14, Hv.s15, Hv.s16, Hv.s17, Hv.s18, Hv.s19, Hv.s20, Hv.s21, Hv.s22, Hv.s23, Hv.s24, Hv.s25, Hv.s26, Hv.s27, Hv.s28, Hv.s29, Hv.s30, Hv.s31, Hv.s32, Hv.s33, Hv.s34, Hv.s35, Hv.s36, Hv.s37, Hv.s38, Hv.v1, Hv.v2, Hv.v3, Hv.v4, Hv.v6, Hv.v7, Hv.v8, Hv.v9, Hv.v10, Hv.v11, Hv.e1, Hv.e2, Hv.e3, Hv.e4, Hv.e5, Hv.e6, Hv.e7, Hv.e8, Hv.e9, Hv.e10, Hv.e11, Hv.e12, Hv.e13, Hv.e14, Hv.e16, Hv.e17, Hv.e18, Hv.e19, Hv.e20, Hv.e21, Hv.e22, Hv.e23, Hv.e24, Hv.e25, Hv.e26, Hv.x1, Hv.x2, Hv.x6, Hv.x7, Hv.x8, Hv.x9, Hv.x12, Hv.x13, Hv.x14, Hv.x15, Hv.x16, Hv.x17, Hv.x21, Hv.x22, Hv.x23, Hv.x24, Hv.x25, Hv.x26, Hv.x27, Hv.x28, Hv.x29, Hv.x30, Hv.y0, Hv.y1, Hv.y2, Hv.y3, Hv.y4, Hv.y5, Hv.x31, Hv.x32, Hv.x33, Hv.x34, Hv.x35, Hv.x36, Hv.x39, Hv.a1, Hv.a2, Hv.k1, Hv.k4, Hv.k6, Hv.k7, Hv.k8, Hv.k9, Hv.k10, Hv.t0, Hv.t1, Hv.t2, Hv.t3, Hv.t4, Hv.t5, Hv.t6, Hv.t7, Hv.t8, Hv.t9, Hv.t10, Hv.t11, Hv.t12, Hv.t13, Hv.t14, Hv.t14', Hv.t15, Hv.t16, Hv.t17, Hv.t18, Hv.t19, Hv.t20, Hv.t21, Hv.t22, Hv.t23, Hv.t24, Hv.t25, Hv.t26, Hv.t28, Hv.r2, Hv.r3, Hv.r4, Hv.z1, Hv.z2, Hv.z3, Hv.mutDs_int, Hv.intsOf_int, Hv.startE, Hv.isNew, List.set, yt0, yt1, yt2, yt3, g6, g7, ibx]
                      · rw [ek, ibx_no (.inr hk3)]
                        simp (config := { implicitDefEqProofs := false }) [Hv.s1, Hv.s2, Hv.s3, Hv.s4, Hv.s5, Hv.s6, Hv.s7, Hv.s8, Hv.s9, Hv.s10, Hv.s11, Hv.s12, Hv.s13, Hv.s14, Hv.s15, Hv.s16, Hv.s17, Hv.s18, Hv.s19, Hv.s20, Hv.s21, Hv.s22, Hv.s23, Hv.s24, Hv.s25, Hv.s26, Hv.s27, Hv.s28, Hv.s29, Hv.s30, Hv.s31, Hv.s32, Hv.s33, Hv.s34, Hv.s35, Hv.s36, Hv.s37, Hv.s38, Hv.v1, Hv.v2, Hv.v3, Hv.v4, Hv.v6, Hv.v7, Hv.v8, Hv.v9, Hv.v10, Hv.v11, Hv.e1, Hv.e2, Hv.e3, Hv.e4, Hv.e5, Hv.e6, Hv.e7, Hv.e8, Hv.e9, Hv.e10, Hv.e11, Hv.e12, Hv.e13, Hv.e14, Hv.e16, Hv.e17, Hv.e18, Hv.e19, Hv.e20, Hv.e21, Hv.e22, Hv.e23, Hv.e24, Hv.e25, Hv.e26, Hv.x1, Hv.x2, Hv.x6, Hv.x7, Hv.x8, Hv.x9, Hv.x12, Hv.x13, Hv.x14, Hv.x15, Hv.x16, Hv.x17, Hv.x21, Hv.x22, Hv.x23, Hv.x24, Hv.x25, Hv.x26, Hv.x27, Hv.x28, Hv.x29, Hv.x30, Hv.y0, Hv.y1, Hv.y2, Hv.y3, Hv.y4, Hv.y5, Hv.x31, Hv.x32, Hv.x33, Hv.x34, Hv.x35, Hv.x36, Hv.x39, Hv.a1, Hv.a2, Hv.k1, Hv.k4, Hv.k6, Hv.k7, Hv.k8, Hv.k9, Hv.k10, Hv.t0, Hv.t1, Hv.t2, Hv.t3, Hv.t4, Hv.t5, Hv.t6, Hv.t7, Hv.t8, Hv.t9, Hv.t10, Hv.t11, Hv.t12, Hv.t13, Hv.t14, Hv.t14', Hv.t15, Hv.t16, Hv.t17, Hv.t18, Hv.t19, Hv.t20, Hv.t21, Hv.t22, Hv.t23, Hv.t24, Hv.t25, Hv.t26, Hv.t28, Hv.r2, Hv.r3, Hv.r4, Hv.z1, Hv.z2, Hv.z3, Hv.mutDs_int, Hv.intsOf_int, Hv.startE, Hv.isNew, List.set]
                    · rw [ek, hk2]
                      simp (config := { implicitDefEqProofs := false }) [Hv.s1, Hv.s2, Hv.s3, Hv.s4, Hv.s5, Hv.s6, Hv.s7, Hv.s8, Hv.s9, Hv.s10, Hv.s11, Hv.s12, Hv.s13, Hv.s14, Hv.s15, Hv.s16, Hv.s17, Hv.s18, Hv.s19, Hv.s20, Hv.s21, Hv.s22, Hv.s23, Hv.s24, Hv.s25, Hv.s26, Hv.s27, Hv.s28, Hv.s29, Hv.s30, Hv.s31, Hv.s32, Hv.s33, Hv.s34, Hv.s35, Hv.s36, Hv.s37, Hv.s38, Hv.v1, Hv.v2, Hv.v3, Hv.v4, Hv.v6, Hv.v7, Hv.v8, Hv.v9, Hv.v10, Hv.v11, Hv.e1, Hv.e2, Hv.e3, Hv.e4, Hv.e5, Hv.e6, Hv.e7, Hv.e8, Hv.e9, Hv.e10, Hv.e11, Hv.e12, Hv.e13, Hv.e14, Hv.e16, Hv.e17, Hv.e18, Hv.e19, Hv.e20, Hv.e21, Hv.e22, Hv.e23, Hv.e24, Hv.e25, Hv.e26, Hv.x1, Hv.x2, Hv.x6, Hv.x7, Hv.x8, Hv.x9, Hv.x12, Hv.x13, Hv.x14, Hv.x15, Hv.x16, Hv.x17, Hv.x21, Hv.x22, Hv.x23, Hv.x24, Hv.x25, Hv.x26, Hv.x27, Hv.x28, Hv.x29, Hv.x30, Hv.y0, Hv.y1, Hv.y2, Hv.y3, Hv.y4, Hv.y5, Hv.x31, Hv.x32, Hv.x33, Hv.x34, Hv.x35, Hv.x36, Hv.x39, Hv.a1, Hv.a2, Hv.k1, Hv.k4, Hv.k6, Hv.k7, Hv.k8, Hv.k9, Hv.k10, Hv.t0, Hv.t1, Hv.t2, Hv.t3, Hv.t4, Hv.t5, Hv.t6, Hv.t7, Hv.t8, Hv.t9, Hv.t10, Hv.t11, Hv.t12, Hv.t13, Hv.t14, Hv.t14', Hv.t15, Hv.t16, Hv.t17, Hv.t18, Hv.t19, Hv.t20, Hv.t21, Hv.t22, Hv.t23, Hv.t24, Hv.t25, Hv.t26, Hv.t28, Hv.r2, Hv.r3, Hv.r4, Hv.z1, Hv.z2, Hv.z3, Hv.mutDs_int, Hv.intsOf_int, Hv.startE, Hv.isNew, List.set]
                  · have : ((fs.length : Int) = 4) = False := by simp; omega
                    simp (config := { implicitDefEqProofs := false }) [Hv.s1, Hv.s2, Hv.s3, Hv.s4, Hv.s5, Hv.s6, Hv.s7, Hv.s8, Hv.s9, Hv.s10, Hv.s11, Hv.s12, Hv.s13, Hv.s14, Hv.s15, Hv.s16, Hv.s17, Hv.s18, Hv.s19, Hv.s20, Hv.s21, Hv.s22, Hv.s23, Hv.s24, Hv.s25, Hv.s26, Hv.s27, Hv.s28, Hv.s29, Hv.s30, Hv.s31, Hv.s32, Hv.s33, Hv.s34, Hv.s35, Hv.s36, Hv.s37, Hv.s38, Hv.v1, Hv.v2, Hv.v3, Hv.v4, Hv.v6, Hv.v7, Hv.v8, Hv.v9, Hv.v10, Hv.v11, Hv.e1, Hv.e2, Hv.e3, Hv.e4, Hv.e5, Hv.e6, Hv.e7, Hv.e8, Hv.e9, Hv.e10, Hv.e11, Hv.e12, Hv.e13, Hv.e14, Hv.e16, Hv.e17, Hv.e18, Hv.e19, Hv.e20, Hv.e21, Hv.e22, Hv.e23, Hv.e24, Hv.e25, Hv.e26, Hv.x1, Hv.x2, Hv.x6, Hv.x7, Hv.x8, Hv.x9, Hv.x12, Hv.x13, Hv.x14, Hv.x15, Hv.x16, Hv.x17, Hv.x21, Hv.x22, Hv.x23, Hv.x24, Hv.x25, Hv.x26, Hv.x27, Hv.x28, Hv.x29, Hv.x30, Hv.y0, Hv.y1, Hv.y2, Hv.y3, Hv.y4, Hv.y5, Hv.x31, Hv.x32, Hv.x33, Hv.x34, Hv.x35, Hv.x36, Hv.x39, Hv.a1, Hv.a2, Hv.k1, Hv.k4, Hv.k6, Hv.k7, Hv.k8, Hv.k9, Hv.k10, Hv.t0, Hv.t1, Hv.t2, Hv.t3, Hv.t4, Hv.t5, Hv.t6, Hv.t7, Hv.t8, Hv.t9, Hv.t10, Hv.t11, Hv.t12, Hv.t13, Hv.t14, Hv.t14', Hv.t15, Hv.t16, Hv.t17, Hv.t18, Hv.t19, Hv.t20, Hv.t21, Hv.t22, Hv.t23, Hv.t24, Hv.t25, Hv.t26, Hv.t28, Hv.r2, Hv.r3, Hv.r4, Hv.z1, Hv.z2, Hv.z3, Hv.mutDs_int, Hv.intsOf_int, Hv.startE, Hv.isNew, List.set, tyP, cmp_nei, this, ibx_no (.inl h4)]
                | _ => simp (config := { implicitDefEqProofs := false }) [Hv.s1, Hv.s2, Hv.s3, Hv.s4, Hv.s5, Hv.s6, Hv.s7, Hv.s8, Hv.s9, Hv.s10, Hv.s11, Hv.s12, Hv.s13, Hv.s14, Hv.s15, Hv.s16, Hv.s17, Hv.s18, Hv.s19, Hv.s20, Hv.s21, Hv.s22, Hv.s23, Hv.s24, Hv.s25, Hv.s26, Hv.s27, Hv.s28, Hv.s29, Hv.s30, Hv.s31, Hv.s32, Hv.s33, Hv.s34, Hv.s35, Hv.s36, Hv.s37, Hv.s38, Hv.v1, Hv.v2, Hv.v3, Hv.v4, Hv.v6, Hv.v7, Hv.v8, Hv.v9, Hv.v10, Hv.v11, Hv.e1, Hv.e2, Hv.e3, Hv.e4, Hv.e5, Hv.e6, Hv.e7, Hv.e8, Hv.e9, Hv.e10, Hv.e11, Hv.e12, Hv.e13, Hv.e14, Hv.e16, Hv.e17, Hv.e18, Hv.e19, Hv.e20, Hv.e21, Hv.e22, Hv.e23, Hv.e24, Hv.e25, Hv.e26, Hv.x1, Hv.x2, Hv.x6, Hv.x7, Hv.x8, Hv.x9, Hv.x12, Hv.x13, Hv.x14, Hv.x15, Hv.x16, Hv.x17, Hv.x21, Hv.x22, Hv.x23, Hv.x24, Hv.x25, Hv.x26, Hv.x27, Hv.x28, Hv.x29, Hv.x30, Hv.y0, Hv.y1, Hv.y2, Hv.y3, Hv.y4, Hv.y5, Hv.x31, Hv.x32, Hv.x33, Hv.x34, Hv.x35, Hv.x36, Hv.x39, Hv.a1, Hv.a2, Hv.k1, Hv.k4, Hv.k6, Hv.k7, Hv.k8, Hv.k9, Hv.k10, Hv.t0, Hv.t1, Hv.t2, Hv.t3, Hv.t4, Hv.t5, Hv.t6, Hv.t7, Hv.t8, Hv.t9, Hv.t10, Hv.t11, Hv.t12, Hv.t13, Hv.t14, Hv.t14', Hv.t15, Hv.t16, Hv.t17, Hv.t18, Hv.t19, Hv.t20, Hv.t21, Hv.t22, Hv.t23, Hv.t24, Hv.t25, Hv.t26, Hv.t28, Hv.r2, Hv.r3, Hv.r4, Hv.z1, Hv.z2, Hv.z3, Hv.mutDs_int, Hv.intsOf_int, Hv.startE, Hv.isNew, List.set, tyP, isi_fz, var_fz, ibx]
              | _ => simp (config := { implicitDefEqProofs := false }) [Hv.s1, Hv.s2, Hv.s3, Hv.s4, Hv.s5, Hv.s6, Hv.s7, Hv.s8, Hv.s9, Hv.s10, Hv.s11, Hv.s12, Hv.s13, Hv.s14, Hv.s15, Hv.s16, Hv.s17, Hv.s18, Hv.s19, Hv.s20, Hv.s21, Hv.s22, Hv.s23, Hv.s24, Hv.s25, Hv.s26, Hv.s27, Hv.s28, Hv.s29, Hv.s30, Hv.s31, Hv.s32, Hv.s33, Hv.s34, Hv.s35, Hv.s36, Hv.s37, Hv.s38, Hv.v1, Hv.v2, Hv.v3, Hv.v4, Hv.v6, Hv.v7, Hv.v8, Hv.v9, Hv.v10, Hv.v11, Hv.e1, Hv.e2, Hv.e3, Hv.e4, Hv.e5, Hv.e6, Hv.e7, Hv.e8, Hv.e9, Hv.e10, Hv.e11, Hv.e12, Hv.e13, Hv.e14, Hv.e16, Hv.e17, Hv.e18, Hv.e19, Hv.e20, Hv.e21, Hv.e22, Hv.e23, Hv.e24, Hv.e25, Hv.e26, Hv.x1, Hv.x2, Hv.x6, Hv.x7, Hv.x8, Hv.x9, Hv.x12, Hv.x13, Hv.x14, Hv.x15, Hv.x16, Hv.x17, Hv.x21, Hv.x22, Hv.x23, Hv.x24, Hv.x25, Hv.x26, Hv.x27, Hv.x28, Hv.x29, Hv.x30, Hv.y0, Hv.y1, Hv.y2, Hv.y3, Hv.y4, Hv.y5, Hv.x31, Hv.x32, Hv.x33, Hv.x34, Hv.x35, Hv.x36, Hv.x39, Hv.a1, Hv.a2, Hv.k1, Hv.k4, Hv.k6, Hv.k7, Hv.k8, Hv.k9, Hv.k10, Hv.t0, Hv.t1, Hv.t2, Hv.t3, Hv.t4, Hv.t5, Hv.t6, Hv.t7, Hv.t8, Hv.t9, Hv.t10, Hv.t11, Hv.t12, Hv.t13, Hv.t14, Hv.t14', Hv.t15, Hv.t16, Hv.t17, Hv.t18, Hv.t19, Hv.t20, Hv.t21, Hv.t22, Hv.t23, Hv.t24, Hv.t25, Hv.t26, Hv.t28, Hv.r2, Hv.r3, Hv.r4, Hv.z1, Hv.z2, Hv.z3, Hv.mutDs_int, Hv.intsOf_int, Hv.startE, Hv.isNew, List.set, tyP, isi_fz, var_fz, refsB]
            · rw [ek, hk]
              simp (config := { implicitDefEqProofs := false }) [Hv.s1, Hv.s2, Hv.s3, Hv.s4, Hv.s5, Hv.s6, Hv.s7, Hv.s8, Hv.s9, Hv.s10, Hv.s11, Hv.s12, Hv.s13, Hv.s14, Hv.s15, Hv.s16, Hv.s17, Hv.s18, Hv.s19, Hv.s20, Hv.s21, Hv.s22, Hv.s23, Hv.s24, Hv.s25, Hv.s26, Hv.s27, Hv.s28, Hv.s29, Hv.s30, Hv.s31, Hv.s32, Hv.s33, Hv.s34, Hv.s35, Hv.s36, Hv.s37, Hv.s38, Hv.v1, Hv.v2, Hv.v3, Hv.v4, Hv.v6, Hv.v7, Hv.v8, Hv.v9, Hv.v10, Hv.v11, Hv.e1, Hv.e2, Hv.e3, Hv.e4, Hv.e5, Hv.e6, Hv.e7, Hv.e8, Hv.e9, Hv.e10, Hv.e11, Hv.e12, Hv.e13, Hv.e14, Hv.e16, Hv.e17, Hv.e18, Hv.e19, Hv.e20, Hv.e21, Hv.e22, Hv.e23, Hv.e24, Hv.e25, Hv.e26, Hv.x1, Hv.x2, Hv.x6, Hv.x7, Hv.x8, Hv.x9, Hv.x12, Hv.x13, Hv.x14, Hv.x15, Hv.x16, Hv.x17, Hv.x21, Hv.x22, Hv.x23, Hv.x24, Hv.x25, Hv.x26, Hv.x27, Hv.x28, Hv.x29, Hv.x30, Hv.y0, Hv.y1, Hv.y2, Hv.y3, Hv.y4, Hv.y5, Hv.x31, Hv.x32, Hv.x33, Hv.x34, Hv.x35, Hv.x36, Hv.x39, Hv.a1, Hv.a2, Hv.k1, Hv.k4, Hv.k6, Hv.k7, Hv.k8, Hv.k9, Hv.k10, Hv.t0, Hv.t1, Hv.t2, Hv.t3, Hv.t4, Hv.t5, Hv.t6, Hv.t7, Hv.t8, Hv.t9, Hv.t10, Hv.t11, Hv.t12, Hv.t13, Hv.t14, Hv.t14', Hv.t15, Hv.t16, Hv.t17, Hv.t18, Hv.t19, Hv.t20, Hv.t21, Hv.t22, Hv.t23, Hv.t24, Hv.t25, Hv.t26, Hv.t28, Hv.r2, Hv.r3, Hv.r4, Hv.z1, Hv.z2, Hv.z3, Hv.mutDs_int, Hv.intsOf_int, Hv.startE, Hv.isNew, List.set]
        | _ => simp (config := { implicitDefEqProofs := false }) [Hv.s1, Hv.s2, Hv.s3, Hv.s4, Hv.s5, Hv.s6, Hv.s7, Hv.s8, Hv.s9, Hv.s10, Hv.s11, Hv.s12, Hv.s13, Hv.s14, Hv.s15, Hv.s16, Hv.s17, Hv.s18, Hv.s19, Hv.s20, Hv.s21, Hv.s22, Hv.s23, Hv.s24, Hv.s25, Hv.s26, Hv.s27, Hv.s28, Hv.s29, Hv.s30, Hv.s31, Hv.s32, Hv.s33, Hv.s34, Hv.s35, Hv.s36, Hv.s37, Hv.s38, Hv.v1, Hv.v2, Hv.v3, Hv.v4, Hv.v6, Hv.v7, Hv.v8, Hv.v9, Hv.v10, Hv.v11, Hv.e1, Hv.e2, Hv.e3, Hv.e4, Hv.e5, Hv.e6, Hv.e7, Hv.e8, Hv.e9, Hv.e10, Hv.e11, Hv.e12, Hv.e13, Hv.e14, Hv.e16, Hv.e17, Hv.e18, Hv.e19, Hv.e20, Hv.e21, Hv.e22, Hv.e23, Hv.e24, Hv.e25, Hv.e26, Hv.x1, Hv.x2, Hv.x6, Hv.x7, Hv.x8, Hv.x9, Hv.x12, Hv.x13, Hv.x14, Hv.x15, Hv.x16, Hv.x17, Hv.x21, Hv.x22, Hv.x23, Hv.x24, Hv.x25, Hv.x26, Hv.x27, Hv.x28, Hv.x29, Hv.x30, Hv.y0, Hv.y1, Hv.y2, Hv.y3, Hv.y4, Hv.y5, Hv.x31, Hv.x32, Hv.x33, Hv.x34, Hv.x35, Hv.x36, Hv.x39, Hv.a1, Hv.a2, Hv.k1, Hv.k4, Hv.k6, Hv.k7, Hv.k8, Hv.k9, Hv.k10, Hv.t0, Hv.t1, Hv.t2, Hv.t3, Hv.t4, Hv.t5, Hv.t6, Hv.t7, Hv.t8, Hv.t9, Hv.t10, Hv.t11, Hv.t12, Hv.t13, Hv.t14, Hv.t14', Hv.t15, Hv.t16, Hv.t17, Hv.t18, Hv.t19, Hv.t20, Hv.t21, Hv.t22, Hv.t23, Hv.t24, Hv.t25, Hv.t26, Hv.t28, Hv.r2, Hv.r3, Hv.r4, Hv.z1, Hv.z2, Hv.z3, Hv.mutDs_int, Hv.intsOf_int, Hv.startE, Hv.isNew, List.set, var_fz, kf, h1, g1, k2b, isi_fz, tyP, dat2_fz, md3, hn, g2, textB]
  · have hno : thB i n p = false := by
      unfold thB
      split
      · rename_i a b c d e f
        exact absurd ⟨a, b, c, d, e, f, rfl⟩ h6
      · rfl
    rw [hno]
    cases p with
    | tuple ps =>
      have : ((ps.length : Int) = 6) = False := by
        refine eq_false fun h => h6 ?_
        match ps, (by omega : ps.length = 6) with
        | [a, b, c, d, e, f], _ => exact ⟨a, b, c, d, e, f, rfl⟩
      simp (config := { implicitDefEqProofs := false }) [Hv.s1, Hv.s2, Hv.s3, Hv.s4, Hv.s5, Hv.s6, Hv.s7, Hv.s8, Hv.s9, Hv.s10, Hv.s11, Hv.s12, Hv.s13, Hv.s14, Hv.s15, Hv.s16, Hv.s17, Hv.s18, Hv.s19, Hv.s20, Hv.s21, Hv.s22, Hv.s23, Hv.s24, Hv.s25, Hv.s26, Hv.s27, Hv.s28, Hv.s29, Hv.s30, Hv.s31, Hv.s32, Hv.s33, Hv.s34, Hv.s35, Hv.s36, Hv.s37, Hv.s38, Hv.v1, Hv.v2, Hv.v3, Hv.v4, Hv.v6, Hv.v7, Hv.v8, Hv.v9, Hv.v10, Hv.v11, Hv.e1, Hv.e2, Hv.e3, Hv.e4, Hv.e5, Hv.e6, Hv.e7, Hv.e8, Hv.e9, Hv.e10, Hv.e11, Hv.e12, Hv.e13, Hv.e14, Hv.e16, Hv.e17, Hv.e18, Hv.e19, Hv.e20, Hv.e21, Hv.e22, Hv.e23, Hv.e24, Hv.e25, Hv.e26, Hv.x1, Hv.x2, Hv.x6, Hv.x7, Hv.x8, Hv.x9, Hv.x12, Hv.x13, Hv.x14, Hv.x15, Hv.x16, Hv.x17, Hv.x21, Hv.x22, Hv.x23, Hv.x24, Hv.x25, Hv.x26, Hv.x27, Hv.x28, Hv.x29, Hv.x30, Hv.y0, Hv.y1, Hv.y2, Hv.y3, Hv.y4, Hv.y5, Hv.x31, Hv.x32, Hv.x33, Hv.x34, Hv.x35, Hv.x36, Hv.x39, Hv.a1, Hv.a2, Hv.k1, Hv.k4, Hv.k6, Hv.k7, Hv.k8, Hv.k9, Hv.k10, Hv.t0, Hv.t1, Hv.t2, Hv.t3, Hv.t4, Hv.t5, Hv.t6, Hv.t7, Hv.t8, Hv.t9, Hv.t10, Hv.t11, Hv.t12, Hv.t13, Hv.t14, Hv.t14', Hv.t15, Hv.t16, Hv.t17, Hv.t18, Hv.t19, Hv.t20, Hv.t21, Hv.t22, Hv.t23, Hv.t24, Hv.t25, Hv.t26, Hv.t28, Hv.r2, Hv.r3, Hv.r4, Hv.z1, Hv.z2, Hv.z3, Hv.mutDs_int, Hv.intsOf_int, Hv.startE, Hv.isNew, List.set, tyP, cmp_nei, this]
    | _ => simp (config := { implicitDefEqProofs := false }) [Hv.s1, Hv.s2, Hv.s3, Hv.s4, Hv.s5, Hv.s6, Hv.s7, Hv.s8, Hv.s9, Hv.s10, Hv.s11, Hv.s12, Hv.s13, Hv.s14, Hv.s15, Hv.s16, Hv.s17, Hv.s18, Hv.s19, Hv.s20, Hv.s21, Hv.s22, Hv.s23, Hv.s24, Hv.s25, Hv.s26, Hv.s27, Hv.s28, Hv.s29, Hv.s30, Hv.s31, Hv.s32, Hv.s33, Hv.s34, Hv.s35, Hv.s36, Hv.s37, Hv.s38, Hv.v1, Hv.v2, Hv.v3, Hv.v4, Hv.v6, Hv.v7, Hv.v8, Hv.v9, Hv.v10, Hv.v11, Hv.e1, Hv.e2, Hv.e3, Hv.e4, Hv.e5, Hv.e6, Hv.e7, Hv.e8, Hv.e9, Hv.e10, Hv.e11, Hv.e12, Hv.e13, Hv.e14, Hv.e16, Hv.e17, Hv.e18, Hv.e19, Hv.e20, Hv.e21, Hv.e22, Hv.e23, Hv.e24, Hv.e25, Hv.e26, Hv.x1, Hv.x2, Hv.x6, Hv.x7, Hv.x8, Hv.x9, Hv.x12, Hv.x13, Hv.x14, Hv.x15, Hv.x16, Hv.x17, Hv.x21, Hv.x22, Hv.x23, Hv.x24, Hv.x25, Hv.x26, Hv.x27, Hv.x28, Hv.x29, Hv.x30, Hv.y0, Hv.y1, Hv.y2, Hv.y3, Hv.y4, Hv.y5, Hv.x31, Hv.x32, Hv.x33, Hv.x34, Hv.x35, Hv.x36, Hv.x39, Hv.a1, Hv.a2, Hv.k1, Hv.k4, Hv.k6, Hv.k7, Hv.k8, Hv.k9, Hv.k10, Hv.t0, Hv.t1, Hv.t2, Hv.t3, Hv.t4, Hv.t5, Hv.t6, Hv.t7, Hv.t8, Hv.t9, Hv.t10, Hv.t11, Hv.t12, Hv.t13, Hv.t14, Hv.t14', Hv.t15, Hv.t16, Hv.t17, Hv.t18, Hv.t19, Hv.t20, Hv.t21, Hv.t22, Hv.t23, Hv.t24, Hv.t25, Hv.t26, Hv.t28, Hv.r2, Hv.r3, Hv.r4, Hv.z1, Hv.z2, Hv.z3, Hv.mutDs_int, Hv.intsOf_int, Hv.startE, Hv.isNew, List.set, tyP]
end Law

namespace Law
open PySem Hv
def word (ps : List PyData) : Str := if alls ps = false then "thing" else if 1 ≤ ps.length ∧ ps.length ≤ 60 then "good" else "count"
theorem zip_range (ps : List PyData) : (rgI 0 (ps.length : Int)).map PyData.int = ps.zipIdx.map fun z => PyData.int (z.2 : Int) := by
  rw [rg_list]
  have : (ps.zipIdx.map Prod.snd) = List.range ps.length := by
    rw [List.zipIdx_map_snd, List.range_eq_range']
  rw [← this, List.map_map]
  rfl
theorem w16 (k : Nat) (ps : List PyData) (hp : ∀ p ∈ ps, Tt p) (hl : ps.length ≤ 1000) : C (k + 3) 16 [.list ps] = .ok (.v (.str (word ps))) := by
  have key := go_all (st := fun p ρ => setT (Tg.name 1) true p ρ) (body := blk (C (k + 2)) T.G Bz [S.ife (E.not (E.call 15 [E.ix (E.var 0) (E.var 1), E.var 1, E.bi Bi.len [E.var 0]])) [S.ret (E.str "thing")] []]) (f := fun z : PyData × Nat => PyData.int (z.2 : Int)) (thZ (ps.length : Int)) (fun t : Option D => [some (.v (.list ps)), t]) (fun r => r = .ret (.v (.str "thing"))) (cs := ps.zipIdx) none rfl
    (fun t z hz => by
      obtain ⟨x, i⟩ := z
      have hm : x ∈ ps := List.fst_mem_of_mem_zipIdx hz
      have hg : ps[i]? = some x := List.mem_zipIdx_iff_getElem?.mp hz
      have h5 := w15 k x (hp x hm) (i : Int) (ps.length : Int)
      refine ⟨_, rfl, fun hw => ?_, fun hw => ?_⟩
      · rw [show thB (i : Int) (ps.length : Int) x = true from hw] at h5
        simp (config := { implicitDefEqProofs := false }) [Hv.s1, Hv.s2, Hv.s3, Hv.s4, Hv.s5, Hv.s6, Hv.s7, Hv.s8, Hv.s9, Hv.s10, Hv.s11, Hv.s12, Hv.s13, Hv.s14, Hv.s15, Hv.s16, Hv.s17, Hv.s18, Hv.s19, Hv.s20, Hv.s21, Hv.s22, Hv.s23, Hv.s24, Hv.s25, Hv.s26, Hv.s27, Hv.s28, Hv.s29, Hv.s30, Hv.s31, Hv.s32, Hv.s33, Hv.s34, Hv.s35, Hv.s36, Hv.s37, Hv.s38, Hv.v1, Hv.v2, Hv.v3, Hv.v4, Hv.v6, Hv.v7, Hv.v8, Hv.v9, Hv.v10, Hv.v11, Hv.e1, Hv.e2, Hv.e3, Hv.e4, Hv.e5, Hv.e6, Hv.e7, Hv.e8, Hv.e9, Hv.e10, Hv.e11, Hv.e12, Hv.e13, Hv.e14, Hv.e16, Hv.e17, Hv.e18, Hv.e19, Hv.e20, Hv.e21, Hv.e22, Hv.e23, Hv.e24, Hv.e25, Hv.e26, Hv.x1, Hv.x2, Hv.x6, Hv.x7, Hv.x8, Hv.x9, Hv.x12, Hv.x13, Hv.x14, Hv.x15, Hv.x16, Hv.x17, Hv.x21, Hv.x22, Hv.x23, Hv.x24, Hv.x25, Hv.x26, Hv.x27, Hv.x28, Hv.x29, Hv.x30, Hv.y0, Hv.y1, Hv.y2, Hv.y3, Hv.y4, Hv.y5, Hv.x31, Hv.x32, Hv.x33, Hv.x34, Hv.x35, Hv.x36, Hv.x39, Hv.a1, Hv.a2, Hv.k1, Hv.k4, Hv.k6, Hv.k7, Hv.k8, Hv.k9, Hv.k10, Hv.t0, Hv.t1, Hv.t2, Hv.t3, Hv.t4, Hv.t5, Hv.t6, Hv.t7, Hv.t8, Hv.t9, Hv.t10, Hv.t11, Hv.t12, Hv.t13, Hv.t14, Hv.t14', Hv.t15, Hv.t16, Hv.t17, Hv.t18, Hv.t19, Hv.t20, Hv.t21, Hv.t22, Hv.t23, Hv.t24, Hv.t25, Hv.t26, Hv.t28, Hv.r2, Hv.r3, Hv.r4, Hv.z1, Hv.z2, Hv.z3, Hv.mutDs_int, Hv.intsOf_int, Hv.startE, Hv.isNew, List.set, hg, itR_nil, kf, h5, k2b, nx1]
      · rw [show thB (i : Int) (ps.length : Int) x = false from hw] at h5
        have : blk (C (k + 2)) T.G Bz [S.ife (E.not (E.call 15 [E.ix (E.var 0) (E.var 1), E.var 1, E.bi Bi.len [E.var 0]])) [S.ret (E.str "thing")] []] ([some (.v (.list ps)), t].set 1 (some (fz true (.int (i : Int))))) = .ret (.v (.str "thing")) := by
          simp (config := { implicitDefEqProofs := false }) [Hv.s1, Hv.s2, Hv.s3, Hv.s4, Hv.s5, Hv.s6, Hv.s7, Hv.s8, Hv.s9, Hv.s10, Hv.s11, Hv.s12, Hv.s13, Hv.s14, Hv.s15, Hv.s16, Hv.s17, Hv.s18, Hv.s19, Hv.s20, Hv.s21, Hv.s22, Hv.s23, Hv.s24, Hv.s25, Hv.s26, Hv.s27, Hv.s28, Hv.s29, Hv.s30, Hv.s31, Hv.s32, Hv.s33, Hv.s34, Hv.s35, Hv.s36, Hv.s37, Hv.s38, Hv.v1, Hv.v2, Hv.v3, Hv.v4, Hv.v6, Hv.v7, Hv.v8, Hv.v9, Hv.v10, Hv.v11, Hv.e1, Hv.e2, Hv.e3, Hv.e4, Hv.e5, Hv.e6, Hv.e7, Hv.e8, Hv.e9, Hv.e10, Hv.e11, Hv.e12, Hv.e13, Hv.e14, Hv.e16, Hv.e17, Hv.e18, Hv.e19, Hv.e20, Hv.e21, Hv.e22, Hv.e23, Hv.e24, Hv.e25, Hv.e26, Hv.x1, Hv.x2, Hv.x6, Hv.x7, Hv.x8, Hv.x9, Hv.x12, Hv.x13, Hv.x14, Hv.x15, Hv.x16, Hv.x17, Hv.x21, Hv.x22, Hv.x23, Hv.x24, Hv.x25, Hv.x26, Hv.x27, Hv.x28, Hv.x29, Hv.x30, Hv.y0, Hv.y1, Hv.y2, Hv.y3, Hv.y4, Hv.y5, Hv.x31, Hv.x32, Hv.x33, Hv.x34, Hv.x35, Hv.x36, Hv.x39, Hv.a1, Hv.a2, Hv.k1, Hv.k4, Hv.k6, Hv.k7, Hv.k8, Hv.k9, Hv.k10, Hv.t0, Hv.t1, Hv.t2, Hv.t3, Hv.t4, Hv.t5, Hv.t6, Hv.t7, Hv.t8, Hv.t9, Hv.t10, Hv.t11, Hv.t12, Hv.t13, Hv.t14, Hv.t14', Hv.t15, Hv.t16, Hv.t17, Hv.t18, Hv.t19, Hv.t20, Hv.t21, Hv.t22, Hv.t23, Hv.t24, Hv.t25, Hv.t26, Hv.t28, Hv.r2, Hv.r3, Hv.r4, Hv.z1, Hv.z2, Hv.z3, Hv.mutDs_int, Hv.intsOf_int, Hv.startE, Hv.isNew, List.set, hg, itR_nil, kf, h5, k2b]
        exact ⟨.inr ⟨_, this⟩, this⟩)
  rw [← zip_range] at key
  rw [c16]
  unfold B16 word
  rw [t0, t13]
  have e9 : seqR (evs (C (k + 2)) T.G [E.bi Bi.len [E.var 0]] [some (.v (.list ps)), none]) = .ok [.v (.int (ps.length : Nat))] [] := by simp (config := { implicitDefEqProofs := false }) [Hv.s1, Hv.s2, Hv.s3, Hv.s4, Hv.s5, Hv.s6, Hv.s7, Hv.s8, Hv.s9, Hv.s10, Hv.s11, Hv.s12, Hv.s13, Hv.s14, Hv.s15, Hv.s16, Hv.s17, Hv.s18, Hv.s19, Hv.s20, Hv.s21, Hv.s22, Hv.s23, Hv.s24, Hv.s25, Hv.s26, Hv.s27, Hv.s28, Hv.s29, Hv.s30, Hv.s31, Hv.s32, Hv.s33, Hv.s34, Hv.s35, Hv.s36, Hv.s37, Hv.s38, Hv.v1, Hv.v2, Hv.v3, Hv.v4, Hv.v6, Hv.v7, Hv.v8, Hv.v9, Hv.v10, Hv.v11, Hv.e1, Hv.e2, Hv.e3, Hv.e4, Hv.e5, Hv.e6, Hv.e7, Hv.e8, Hv.e9, Hv.e10, Hv.e11, Hv.e12, Hv.e13, Hv.e14, Hv.e16, Hv.e17, Hv.e18, Hv.e19, Hv.e20, Hv.e21, Hv.e22, Hv.e23, Hv.e24, Hv.e25, Hv.e26, Hv.x1, Hv.x2, Hv.x6, Hv.x7, Hv.x8, Hv.x9, Hv.x12, Hv.x13, Hv.x14, Hv.x15, Hv.x16, Hv.x17, Hv.x21, Hv.x22, Hv.x23, Hv.x24, Hv.x25, Hv.x26, Hv.x27, Hv.x28, Hv.x29, Hv.x30, Hv.y0, Hv.y1, Hv.y2, Hv.y3, Hv.y4, Hv.y5, Hv.x31, Hv.x32, Hv.x33, Hv.x34, Hv.x35, Hv.x36, Hv.x39, Hv.a1, Hv.a2, Hv.k1, Hv.k4, Hv.k6, Hv.k7, Hv.k8, Hv.k9, Hv.k10, Hv.t0, Hv.t1, Hv.t2, Hv.t3, Hv.t4, Hv.t5, Hv.t6, Hv.t7, Hv.t8, Hv.t9, Hv.t10, Hv.t11, Hv.t12, Hv.t13, Hv.t14, Hv.t14', Hv.t15, Hv.t16, Hv.t17, Hv.t18, Hv.t19, Hv.t20, Hv.t21, Hv.t22, Hv.t23, Hv.t24, Hv.t25, Hv.t26, Hv.t28, Hv.r2, Hv.r3, Hv.r4, Hv.z1, Hv.z2, Hv.z3, Hv.mutDs_int, Hv.intsOf_int, Hv.startE, Hv.isNew, List.set]
  rw [e9, s7, f1 (by omega)]
  rcases key with ⟨hw, t', e⟩ | ⟨hw, e⟩
  · rw [e, t2, show alls ps = true from hw]
    by_cases g1 : 1 ≤ ps.length <;> by_cases g2 : ps.length ≤ 60 <;> simp (config := { implicitDefEqProofs := false }) [Hv.s1, Hv.s2, Hv.s3, Hv.s4, Hv.s5, Hv.s6, Hv.s7, Hv.s8, Hv.s9, Hv.s10, Hv.s11, Hv.s12, Hv.s13, Hv.s14, Hv.s15, Hv.s16, Hv.s17, Hv.s18, Hv.s19, Hv.s20, Hv.s21, Hv.s22, Hv.s23, Hv.s24, Hv.s25, Hv.s26, Hv.s27, Hv.s28, Hv.s29, Hv.s30, Hv.s31, Hv.s32, Hv.s33, Hv.s34, Hv.s35, Hv.s36, Hv.s37, Hv.s38, Hv.v1, Hv.v2, Hv.v3, Hv.v4, Hv.v6, Hv.v7, Hv.v8, Hv.v9, Hv.v10, Hv.v11, Hv.e1, Hv.e2, Hv.e3, Hv.e4, Hv.e5, Hv.e6, Hv.e7, Hv.e8, Hv.e9, Hv.e10, Hv.e11, Hv.e12, Hv.e13, Hv.e14, Hv.e16, Hv.e17, Hv.e18, Hv.e19, Hv.e20, Hv.e21, Hv.e22, Hv.e23, Hv.e24, Hv.e25, Hv.e26, Hv.x1, Hv.x2, Hv.x6, Hv.x7, Hv.x8, Hv.x9, Hv.x12, Hv.x13, Hv.x14, Hv.x15, Hv.x16, Hv.x17, Hv.x21, Hv.x22, Hv.x23, Hv.x24, Hv.x25, Hv.x26, Hv.x27, Hv.x28, Hv.x29, Hv.x30, Hv.y0, Hv.y1, Hv.y2, Hv.y3, Hv.y4, Hv.y5, Hv.x31, Hv.x32, Hv.x33, Hv.x34, Hv.x35, Hv.x36, Hv.x39, Hv.a1, Hv.a2, Hv.k1, Hv.k4, Hv.k6, Hv.k7, Hv.k8, Hv.k9, Hv.k10, Hv.t0, Hv.t1, Hv.t2, Hv.t3, Hv.t4, Hv.t5, Hv.t6, Hv.t7, Hv.t8, Hv.t9, Hv.t10, Hv.t11, Hv.t12, Hv.t13, Hv.t14, Hv.t14', Hv.t15, Hv.t16, Hv.t17, Hv.t18, Hv.t19, Hv.t20, Hv.t21, Hv.t22, Hv.t23, Hv.t24, Hv.t25, Hv.t26, Hv.t28, Hv.r2, Hv.r3, Hv.r4, Hv.z1, Hv.z2, Hv.z3, Hv.mutDs_int, Hv.intsOf_int, Hv.startE, Hv.isNew, List.set, ei_lst, z3, y0, y1, itR_s, show ((1 : Int) ≤ ps.length) = (1 ≤ ps.length) from propext (by omega), show ((ps.length : Int) ≤ 60) = (ps.length ≤ 60) from propext (by omega), g1, g2]
  · rw [e, show alls ps = false from hw]
    simp (config := { implicitDefEqProofs := false }) [Hv.s1, Hv.s2, Hv.s3, Hv.s4, Hv.s5, Hv.s6, Hv.s7, Hv.s8, Hv.s9, Hv.s10, Hv.s11, Hv.s12, Hv.s13, Hv.s14, Hv.s15, Hv.s16, Hv.s17, Hv.s18, Hv.s19, Hv.s20, Hv.s21, Hv.s22, Hv.s23, Hv.s24, Hv.s25, Hv.s26, Hv.s27, Hv.s28, Hv.s29, Hv.s30, Hv.s31, Hv.s32, Hv.s33, Hv.s34, Hv.s35, Hv.s36, Hv.s37, Hv.s38, Hv.v1, Hv.v2, Hv.v3, Hv.v4, Hv.v6, Hv.v7, Hv.v8, Hv.v9, Hv.v10, Hv.v11, Hv.e1, Hv.e2, Hv.e3, Hv.e4, Hv.e5, Hv.e6, Hv.e7, Hv.e8, Hv.e9, Hv.e10, Hv.e11, Hv.e12, Hv.e13, Hv.e14, Hv.e16, Hv.e17, Hv.e18, Hv.e19, Hv.e20, Hv.e21, Hv.e22, Hv.e23, Hv.e24, Hv.e25, Hv.e26, Hv.x1, Hv.x2, Hv.x6, Hv.x7, Hv.x8, Hv.x9, Hv.x12, Hv.x13, Hv.x14, Hv.x15, Hv.x16, Hv.x17, Hv.x21, Hv.x22, Hv.x23, Hv.x24, Hv.x25, Hv.x26, Hv.x27, Hv.x28, Hv.x29, Hv.x30, Hv.y0, Hv.y1, Hv.y2, Hv.y3, Hv.y4, Hv.y5, Hv.x31, Hv.x32, Hv.x33, Hv.x34, Hv.x35, Hv.x36, Hv.x39, Hv.a1, Hv.a2, Hv.k1, Hv.k4, Hv.k6, Hv.k7, Hv.k8, Hv.k9, Hv.k10, Hv.t0, Hv.t1, Hv.t2, Hv.t3, Hv.t4, Hv.t5, Hv.t6, Hv.t7, Hv.t8, Hv.t9, Hv.t10, Hv.t11, Hv.t12, Hv.t13, Hv.t14, Hv.t14', Hv.t15, Hv.t16, Hv.t17, Hv.t18, Hv.t19, Hv.t20, Hv.t21, Hv.t22, Hv.t23, Hv.t24, Hv.t25, Hv.t26, Hv.t28, Hv.r2, Hv.r3, Hv.r4, Hv.z1, Hv.z2, Hv.z3, Hv.mutDs_int, Hv.intsOf_int, Hv.startE, Hv.isNew, List.set]
theorem lkA : List.lookup (Str.ofString "InvalidThing") ([("InvalidThing", true), ("WrongCount", false)] : List (Str × Bool)) = some true := by kernel_rfl
theorem lkB : List.lookup (Str.ofString "InvalidThing") ([("InvalidThing", true), ("WrongCount", true)] : List (Str × Bool)) = some true := by kernel_rfl
theorem lkC : List.lookup (Str.ofString "InvalidThing") ([("InvalidThing", false), ("WrongCount", true)] : List (Str × Bool)) = some false := by kernel_rfl
theorem lkE : List.lookup (Str.ofString "WrongCount") ([("InvalidThing", true), ("WrongCount", false)] : List (Str × Bool)) = some false := by kernel_rfl
theorem lkF : List.lookup (Str.ofString "WrongCount") ([("InvalidThing", false), ("WrongCount", true)] : List (Str × Bool)) = some true := by kernel_rfl
theorem lkG : List.lookup (Str.ofString "WrongCount") ([("InvalidThing", true), ("WrongCount", true)] : List (Str × Bool)) = some true := by kernel_rfl
theorem w17 (k : Nat) (ps : List PyData) (hp : ∀ p ∈ ps, Tt p) : C (k + 5) 17 [.list ps] = .ok (.v (.str (word ps))) := by
  rw [c17]
  unfold B17 word
  rcases w6 k ps hp with ⟨h1, h2, e⟩ | ⟨h1, h2, e⟩ | ⟨h1, e⟩
  · simp (config := { implicitDefEqProofs := false }) [Hv.s1, Hv.s2, Hv.s3, Hv.s4, Hv.s5, Hv.s6, Hv.s7, Hv.s8, Hv.s9, Hv.s10, Hv.s11, Hv.s12, Hv.s13, Hv.s14, Hv.s15, Hv.s16, Hv.s17, Hv.s18, Hv.s19, Hv.s20, Hv.s21, Hv.s22, Hv.s23, Hv.s24, Hv.s25, Hv.s26, Hv.s27, Hv.s28, Hv.s29, Hv.s30, Hv.s31, Hv.s32, Hv.s33, Hv.s34, Hv.s35, Hv.s36, Hv.s37, Hv.s38, Hv.v1, Hv.v2, Hv.v3, Hv.v4, Hv.v6, Hv.v7, Hv.v8, Hv.v9, Hv.v10, Hv.v11, Hv.e1, Hv.e2, Hv.e3, Hv.e4, Hv.e5, Hv.e6, Hv.e7, Hv.e8, Hv.e9, Hv.e10, Hv.e11, Hv.e12, Hv.e13, Hv.e14, Hv.e16, Hv.e17, Hv.e18, Hv.e19, Hv.e20, Hv.e21, Hv.e22, Hv.e23, Hv.e24, Hv.e25, Hv.e26, Hv.x1, Hv.x2, Hv.x6, Hv.x7, Hv.x8, Hv.x9, Hv.x12, Hv.x13, Hv.x14, Hv.x15, Hv.x16, Hv.x17, Hv.x21, Hv.x22, Hv.x23, Hv.x24, Hv.x25, Hv.x26, Hv.x27, Hv.x28, Hv.x29, Hv.x30, Hv.y0, Hv.y1, Hv.y2, Hv.y3, Hv.y4, Hv.y5, Hv.x31, Hv.x32, Hv.x33, Hv.x34, Hv.x35, Hv.x36, Hv.x39, Hv.a1, Hv.a2, Hv.k1, Hv.k4, Hv.k6, Hv.k7, Hv.k8, Hv.k9, Hv.k10, Hv.t0, Hv.t1, Hv.t2, Hv.t3, Hv.t4, Hv.t5, Hv.t6, Hv.t7, Hv.t8, Hv.t9, Hv.t10, Hv.t11, Hv.t12, Hv.t13, Hv.t14, Hv.t14', Hv.t15, Hv.t16, Hv.t17, Hv.t18, Hv.t19, Hv.t20, Hv.t21, Hv.t22, Hv.t23, Hv.t24, Hv.t25, Hv.t26, Hv.t28, Hv.r2, Hv.r3, Hv.r4, Hv.z1, Hv.z2, Hv.z3, Hv.mutDs_int, Hv.intsOf_int, Hv.startE, Hv.isNew, List.set, t_try, e, k2n, try1, ei_lst, z3, y1, h1, h2, itR_s]
  · simp (config := { implicitDefEqProofs := false }) [Hv.s1, Hv.s2, Hv.s3, Hv.s4, Hv.s5, Hv.s6, Hv.s7, Hv.s8, Hv.s9, Hv.s10, Hv.s11, Hv.s12, Hv.s13, Hv.s14, Hv.s15, Hv.s16, Hv.s17, Hv.s18, Hv.s19, Hv.s20, Hv.s21, Hv.s22, Hv.s23, Hv.s24, Hv.s25, Hv.s26, Hv.s27, Hv.s28, Hv.s29, Hv.s30, Hv.s31, Hv.s32, Hv.s33, Hv.s34, Hv.s35, Hv.s36, Hv.s37, Hv.s38, Hv.v1, Hv.v2, Hv.v3, Hv.v4, Hv.v6, Hv.v7, Hv.v8, Hv.v9, Hv.v10, Hv.v11, Hv.e1, Hv.e2, Hv.e3, Hv.e4, Hv.e5, Hv.e6, Hv.e7, Hv.e8, Hv.e9, Hv.e10, Hv.e11, Hv.e12, Hv.e13, Hv.e14, Hv.e16, Hv.e17, Hv.e18, Hv.e19, Hv.e20, Hv.e21, Hv.e22, Hv.e23, Hv.e24, Hv.e25, Hv.e26, Hv.x1, Hv.x2, Hv.x6, Hv.x7, Hv.x8, Hv.x9, Hv.x12, Hv.x13, Hv.x14, Hv.x15, Hv.x16, Hv.x17, Hv.x21, Hv.x22, Hv.x23, Hv.x24, Hv.x25, Hv.x26, Hv.x27, Hv.x28, Hv.x29, Hv.x30, Hv.y0, Hv.y1, Hv.y2, Hv.y3, Hv.y4, Hv.y5, Hv.x31, Hv.x32, Hv.x33, Hv.x34, Hv.x35, Hv.x36, Hv.x39, Hv.a1, Hv.a2, Hv.k1, Hv.k4, Hv.k6, Hv.k7, Hv.k8, Hv.k9, Hv.k10, Hv.t0, Hv.t1, Hv.t2, Hv.t3, Hv.t4, Hv.t5, Hv.t6, Hv.t7, Hv.t8, Hv.t9, Hv.t10, Hv.t11, Hv.t12, Hv.t13, Hv.t14, Hv.t14', Hv.t15, Hv.t16, Hv.t17, Hv.t18, Hv.t19, Hv.t20, Hv.t21, Hv.t22, Hv.t23, Hv.t24, Hv.t25, Hv.t26, Hv.t28, Hv.r2, Hv.r3, Hv.r4, Hv.z1, Hv.z2, Hv.z3, Hv.mutDs_int, Hv.intsOf_int, Hv.startE, Hv.isNew, List.set, t_try, e, k2e, s_exb, s_exl, s_exll, s_exlb, s_ex, try3, hndF' lkE, hndT lkF, inX_s, e_ise, ise_eq, iseD_ok lkG, ei_lst, z3, y0, y1, outX_ret noX_v, h1, h2, itR_s]
  · simp (config := { implicitDefEqProofs := false }) [Hv.s1, Hv.s2, Hv.s3, Hv.s4, Hv.s5, Hv.s6, Hv.s7, Hv.s8, Hv.s9, Hv.s10, Hv.s11, Hv.s12, Hv.s13, Hv.s14, Hv.s15, Hv.s16, Hv.s17, Hv.s18, Hv.s19, Hv.s20, Hv.s21, Hv.s22, Hv.s23, Hv.s24, Hv.s25, Hv.s26, Hv.s27, Hv.s28, Hv.s29, Hv.s30, Hv.s31, Hv.s32, Hv.s33, Hv.s34, Hv.s35, Hv.s36, Hv.s37, Hv.s38, Hv.v1, Hv.v2, Hv.v3, Hv.v4, Hv.v6, Hv.v7, Hv.v8, Hv.v9, Hv.v10, Hv.v11, Hv.e1, Hv.e2, Hv.e3, Hv.e4, Hv.e5, Hv.e6, Hv.e7, Hv.e8, Hv.e9, Hv.e10, Hv.e11, Hv.e12, Hv.e13, Hv.e14, Hv.e16, Hv.e17, Hv.e18, Hv.e19, Hv.e20, Hv.e21, Hv.e22, Hv.e23, Hv.e24, Hv.e25, Hv.e26, Hv.x1, Hv.x2, Hv.x6, Hv.x7, Hv.x8, Hv.x9, Hv.x12, Hv.x13, Hv.x14, Hv.x15, Hv.x16, Hv.x17, Hv.x21, Hv.x22, Hv.x23, Hv.x24, Hv.x25, Hv.x26, Hv.x27, Hv.x28, Hv.x29, Hv.x30, Hv.y0, Hv.y1, Hv.y2, Hv.y3, Hv.y4, Hv.y5, Hv.x31, Hv.x32, Hv.x33, Hv.x34, Hv.x35, Hv.x36, Hv.x39, Hv.a1, Hv.a2, Hv.k1, Hv.k4, Hv.k6, Hv.k7, Hv.k8, Hv.k9, Hv.k10, Hv.t0, Hv.t1, Hv.t2, Hv.t3, Hv.t4, Hv.t5, Hv.t6, Hv.t7, Hv.t8, Hv.t9, Hv.t10, Hv.t11, Hv.t12, Hv.t13, Hv.t14, Hv.t14', Hv.t15, Hv.t16, Hv.t17, Hv.t18, Hv.t19, Hv.t20, Hv.t21, Hv.t22, Hv.t23, Hv.t24, Hv.t25, Hv.t26, Hv.t28, Hv.r2, Hv.r3, Hv.r4, Hv.z1, Hv.z2, Hv.z3, Hv.mutDs_int, Hv.intsOf_int, Hv.startE, Hv.isNew, List.set, t_try, e, k2e, s_exb, s_exl, s_exll, s_exlb, s_ex, try3, hndT lkA, inX_s, e_ise, ise_eq, iseD_ok lkB, iseD_ok lkC, ei_lst, z3, y0, y1, outX_ret noX_v, h1, itR_s]
end Law

namespace Law
open PySem Hv
def itms (t : Th) : List PyData := [.int t.par, .str t.role, .str t.text, .tuple (t.refs.map .int), .int t.hid, qd t.q]
theorem th_it (t : Th) : th t = .tuple (itms t) := rfl
theorem mut_itms (t : Th) : mutDs (itms t) = false := mut_th t
abbrev V0 (k : Int) : List PyData := [.int (-2), .int (-1), .int k, .int (k - 1), .bool true, .none, .str "0"]
abbrev V1 : List PyData := [.str "text", .str "Text", .str "", .none, .str "image", .int 4]
abbrev V2 : List PyData := [.str "", .str "a", .str "a\nb", .str "~ ", .str "\t", .none, .int 5]
abbrev V3 (n : Int) : List PyData := [.tuple [], .tuple [.int 0], .tuple [.int n], .tuple [.int (-1)], .tuple [.int 0, .int 0], .list [.int 0], .none, .tuple [.bool true], .tuple [.str "0"], .tuple [.int 0, .int (n - 1)]]
abbrev V4 : List PyData := [.int 0, .int 1, .int 2, .int (-1), .bool true, .bool false, .none]
abbrev V5 : List PyData := [.tuple [.int 0, .int 0, .int 1, .int 1], .tuple [.int 0, .int 0, .int 0, .int 1], .tuple [.int 0, .int 0, .int 1], .list [.int 0, .int 0, .int 1, .int 1], .none, .tuple [.int 0, .int 0, .bool true, .int 1], .tuple [.int 1, .int 1, .int 0, .int 0]]
abbrev D3 (n : Int) : D := .ol [.v (.tuple []), .v (.tuple [.int 0]), .v (.tuple [.int n]), .v (.tuple [.int (-1)]), .v (.tuple [.int 0, .int 0]), oL [.int 0], .v .none, .v (.tuple [.bool true]), .v (.tuple [.str "0"]), .v (.tuple [.int 0, .int (n - 1)])]
abbrev D5 : D := .ol [.v (.tuple [.int 0, .int 0, .int 1, .int 1]), .v (.tuple [.int 0, .int 0, .int 0, .int 1]), .v (.tuple [.int 0, .int 0, .int 1]), oL [.int 0, .int 0, .int 1, .int 1], .v .none, .v (.tuple [.int 0, .int 0, .bool true, .int 1]), .v (.tuple [.int 1, .int 1, .int 0, .int 0])]
def DV (k n : Int) : D := .ol [oL (V0 k), oL V1, oL V2, D3 n, oL V4, D5]
abbrev NV (k n : Int) : PyData := .list [.list (V0 k), .list V1, .list V2, .list (V3 n), .list V4, .list V5]
theorem tup_fz (p : PyData) : tupD [fz true p] [] = .ok (fz true (.tuple [p])) [] := by
  unfold tupD
  have h1 : ([fz true p].all isFz) = true := by
    simp only [List.all_cons, List.all_nil, Bool.and_true]
    unfold fz
    split <;> rfl
  have h2 : datas [fz true p] = some [p] := by rw [kf]; rfl
  have h3 : isNews [fz true p] = true := by simp only [isNews, isNew_fz, Bool.and_self]
  rw [h1, if_pos rfl, h2, h3]
  show mkT true [p] [] = _
  unfold mkT
  cases h : mutDs [p] with
  | true => rw [if_pos rfl]
  | false => rw [if_neg Bool.false_ne_true, v12 (by rw [md6]; exact h)]
theorem cat_tupN {ps qs : List PyData} (hl : ps.length + qs.length ≤ 16777216) : binP .add true [] (.tuple ps) (.tuple qs) = .ok (fz true (.tuple (ps ++ qs))) [] := by
  show (if ps.length + qs.length ≤ SZ then mkT true (ps ++ qs) [] else .stuck) = _
  rw [if_pos (show _ ≤ SZ from hl)]
  unfold mkT
  cases h : mutDs (ps ++ qs) with
  | true => rw [if_pos rfl]
  | false => rw [if_neg Bool.false_ne_true, v12 (by rw [md6]; exact h)]
def mk (t : Th) (j : Nat) (p : PyData) : PyData := .tuple ((itms t).take j ++ [p] ++ (itms t).drop (j + 1))
theorem inner (C0 : Cal) (t : Th) (k n : Int) (d3 x : Option D) (j : Nat) (hj : j < 6) : ∀ (ps : List PyData) (ds : List D) (x : Option D), ds.length + ps.length ≤ 1000 →
    ∃ x', forR (fun p ρ => setT (.name 6) true p ρ) (blk C0 T.G Bz [(.app 4 [] (.bin .add (.bin .add (.sl (.var 0) (some (.int (0))) (some (.var 5))) (.tup [(.var 6)])) (.sl (.var 0) (some (.bin .add (.var 5) (.int (1)))) none)))]) ps
      [some (.v (th t)), some (.v (.int k)), some (.v (.int n)), d3, some (.ol ds), some (.v (.int (j : Int))), x] = .next [some (.v (th t)), some (.v (.int k)), some (.v (.int n)), d3, some (.ol (ds ++ ps.map fun p => fz true (mk t j p))), some (.v (.int (j : Int))), x']
  | [], ds, x, _ => ⟨x, by simp [forR]⟩
  | p :: ps, ds, x, h => by
    rw [List.length_cons] at h
    obtain ⟨x', ih⟩ := inner C0 t k n d3 none j hj ps (ds ++ [fz true (mk t j p)]) (some (fz true p)) (by simp; omega)
    refine ⟨x', ?_⟩
    have hi : (itms t).length = 6 := rfl
    have hm := mut_itms t
    have c1 : cutP (itms t) (some 0) (some (j : Int)) = (itms t).take j := cut_to
    have c2 : cutP (itms t) (some ((j : Int) + 1)) none = (itms t).drop (j + 1) := cut_from (n := j + 1)
    have s1 : ∀ al, slR (.v (th t)) al (some 0) (some (j : Int)) = .ok (.v (.tuple ((itms t).take j))) [] := fun al => by rw [th_it, sl_tv (by rw [c1]; exact mutDs_take hm), c1]
    have s2 : ∀ al, slR (.v (th t)) al (some ((j : Int) + 1)) none = .ok (.v (.tuple ((itms t).drop (j + 1)))) [] := fun al => by rw [th_it, sl_tv (by rw [c2]; exact mutDs_drop hm), c2]
    have n1 : isNew (.v (.tuple ((itms t).take j))) = true := by simp only [isNew, md6, mutDs_take hm]; rfl
    have n2 : isNew (.v (.tuple ((itms t).drop (j + 1)))) = true := by simp only [isNew, md6, mutDs_drop hm]; rfl
    have k1 := cat_tupN (ps := (itms t).take j) (qs := [p]) (by simp; omega)
    have k2 := cat_tupN (ps := (itms t).take j ++ [p]) (qs := (itms t).drop (j + 1)) (by simp; omega)
    have m1 : mutDs (List.take j (itms t)) = false := mutDs_take hm
    have m2 : mutDs (List.drop (j + 1) (itms t)) = false := mutDs_drop hm
    unfold mk at ih ⊢
    generalize (itms t).take j = pre at *
    generalize (itms t).drop (j + 1) = post at *
    have he : (ev C0 T.G (.bin .add (.bin .add (.sl (.var 0) (some (.int (0))) (some (.var 5))) (.tup [(.var 6)])) (.sl (.var 0) (some (.bin .add (.var 5) (.int (1)))) none)) [some (.v (th t)), some (.v (.int k)), some (.v (.int n)), d3, some (.ol ds), some (.v (.int (j : Int))), some (fz true p)]).e = .ok (fz true (.tuple (pre ++ [p] ++ post))) [] := by
      have isn : ∀ p, isNew (fz true p) = true := isNew_fz
      simp (config := { implicitDefEqProofs := false }) [Hv.s1, Hv.s2, Hv.s3, Hv.s4, Hv.s5, Hv.s6, Hv.s7, Hv.s8, Hv.s9, Hv.s10, Hv.s11, Hv.s12, Hv.s13, Hv.s14, Hv.s15, Hv.s16, Hv.s17, Hv.s18, Hv.s19, Hv.s20, Hv.s21, Hv.s22, Hv.s23, Hv.s24, Hv.s25, Hv.s26, Hv.s27, Hv.s28, Hv.s29, Hv.s30, Hv.s31, Hv.s32, Hv.s33, Hv.s34, Hv.s35, Hv.s36, Hv.s37, Hv.s38, Hv.v1, Hv.v2, Hv.v3, Hv.v4, Hv.v6, Hv.v7, Hv.v8, Hv.v9, Hv.v10, Hv.v11, Hv.e1, Hv.e2, Hv.e3, Hv.e4, Hv.e5, Hv.e6, Hv.e7, Hv.e8, Hv.e9, Hv.e10, Hv.e11, Hv.e12, Hv.e13, Hv.e14, Hv.e16, Hv.e17, Hv.e18, Hv.e19, Hv.e20, Hv.e21, Hv.e22, Hv.e23, Hv.e24, Hv.e25, Hv.e26, Hv.x1, Hv.x2, Hv.x6, Hv.x7, Hv.x8, Hv.x9, Hv.x12, Hv.x13, Hv.x14, Hv.x15, Hv.x16, Hv.x17, Hv.x21, Hv.x22, Hv.x23, Hv.x24, Hv.x25, Hv.x26, Hv.x27, Hv.x28, Hv.x29, Hv.x30, Hv.y0, Hv.y1, Hv.y2, Hv.y3, Hv.y4, Hv.y5, Hv.x31, Hv.x32, Hv.x33, Hv.x34, Hv.x35, Hv.x36, Hv.x39, Hv.a1, Hv.a2, Hv.k1, Hv.k4, Hv.k6, Hv.k7, Hv.k8, Hv.k9, Hv.k10, Hv.t0, Hv.t1, Hv.t2, Hv.t3, Hv.t4, Hv.t5, Hv.t6, Hv.t7, Hv.t8, Hv.t9, Hv.t10, Hv.t11, Hv.t12, Hv.t13, Hv.t14, Hv.t14', Hv.t15, Hv.t16, Hv.t17, Hv.t18, Hv.t19, Hv.t20, Hv.t21, Hv.t22, Hv.t23, Hv.t24, Hv.t25, Hv.t26, Hv.t28, Hv.r2, Hv.r3, Hv.r4, Hv.z1, Hv.z2, Hv.z3, Hv.mutDs_int, Hv.intsOf_int, Hv.startE, Hv.isNew, List.set, mut_th, s1, s2, var_fz, tup_fz, dat2_fz, isi_fz, isn, m1, m2, md6]
      first | done | (simp only [k1]; simp (config := { implicitDefEqProofs := false }) [Hv.s1, Hv.s2, Hv.s3, Hv.s4, Hv.s5, Hv.s6, Hv.s7, Hv.s8, Hv.s9, Hv.s10, Hv.s11, Hv.s12, Hv.s13, Hv.s14, Hv.s15, Hv.s16, Hv.s17, Hv.s18, Hv.s19, Hv.s20, Hv.s21, Hv.s22, Hv.s23, Hv.s24, Hv.s25, Hv.s26, Hv.s27, Hv.s28, Hv.s29, Hv.s30, Hv.s31, Hv.s32, Hv.s33, Hv.s34, Hv.s35, Hv.s36, Hv.s37, Hv.s38, Hv.v1, Hv.v2, Hv.v3, Hv.v4, Hv.v6, Hv.v7, Hv.v8, Hv.v9, Hv.v10, Hv.v11, Hv.e1, Hv.e2, Hv.e3, Hv.e4, Hv.e5, Hv.e6, Hv.e7, Hv.e8, Hv.e9, Hv.e10, Hv.e11, Hv.e12, Hv.e13, Hv.e14, Hv.e16, Hv.e17, Hv.e18, Hv.e19, Hv.e20, Hv.e21, Hv.e22, Hv.e23, Hv.e24, Hv.e25, Hv.e26, Hv.x1, Hv.x2, Hv.x6, Hv.x7, Hv.x8, Hv.x9, Hv.x12, Hv.x13, Hv.x14, Hv.x15, Hv.x16, Hv.x17, Hv.x21, Hv.x22, Hv.x23, Hv.x24, Hv.x25, Hv.x26, Hv.x27, Hv.x28, Hv.x29, Hv.x30, Hv.y0, Hv.y1, Hv.y2, Hv.y3, Hv.y4, Hv.y5, Hv.x31, Hv.x32, Hv.x33, Hv.x34, Hv.x35, Hv.x36, Hv.x39, Hv.a1, Hv.a2, Hv.k1, Hv.k4, Hv.k6, Hv.k7, Hv.k8, Hv.k9, Hv.k10, Hv.t0, Hv.t1, Hv.t2, Hv.t3, Hv.t4, Hv.t5, Hv.t6, Hv.t7, Hv.t8, Hv.t9, Hv.t10, Hv.t11, Hv.t12, Hv.t13, Hv.t14, Hv.t14', Hv.t15, Hv.t16, Hv.t17, Hv.t18, Hv.t19, Hv.t20, Hv.t21, Hv.t22, Hv.t23, Hv.t24, Hv.t25, Hv.t26, Hv.t28, Hv.r2, Hv.r3, Hv.r4, Hv.z1, Hv.z2, Hv.z3, Hv.mutDs_int, Hv.intsOf_int, Hv.startE, Hv.isNew, List.set, dat2_fz, isi_fz, isn]; first | done | (simp only [k2]; simp))
    rw [forR_step]
    have hst : setT (.name 6) true p [some (.v (th t)), some (.v (.int k)), some (.v (.int n)), d3, some (.ol ds), some (.v (.int (j : Int))), x] = some [some (.v (th t)), some (.v (.int k)), some (.v (.int n)), d3, some (.ol ds), some (.v (.int (j : Int))), some (fz true p)] := rfl
    rw [hst]
    have hb : blk C0 T.G Bz [(.app 4 [] (.bin .add (.bin .add (.sl (.var 0) (some (.int (0))) (some (.var 5))) (.tup [(.var 6)])) (.sl (.var 0) (some (.bin .add (.var 5) (.int (1)))) none)))] [some (.v (th t)), some (.v (.int k)), some (.v (.int n)), d3, some (.ol ds), some (.v (.int (j : Int))), some (fz true p)] = .next [some (.v (th t)), some (.v (.int k)), some (.v (.int n)), d3, some (.ol (ds ++ [fz true (.tuple (pre ++ [p] ++ post))])), some (.v (.int (j : Int))), some (fz true p)] := by
      rw [t7, t0, t15, he]
      have : pathJ (seqR (evs C0 T.G [] [some (.v (th t)), some (.v (.int k)), some (.v (.int n)), d3, some (.ol ds), some (.v (.int (j : Int))), some (fz true p)])) = some [] := rfl
      rw [this, t25, t26]
      show seqS (updE 4 [] (appF (fz true (.tuple (pre ++ [p] ++ post)))) [] _ (some (some (.ol ds)))) _ = _
      rw [ol_app (by omega)]
      rfl
    simp only [hb]
    rw [ih]
    simp
theorem noXs_app : ∀ {ds es : List D}, noXs (ds ++ es) = (noXs ds && noXs es)
  | [], es => by simp [noXs]
  | d :: ds, es => by simp only [List.cons_append, noXs, noXs_app (ds := ds), Bool.and_assoc]
theorem noXs_fz : ∀ ps : List PyData, noXs (ps.map (fz true)) = true
  | [] => rfl
  | p :: ps => by
    have : noX (fz true p) = true := by unfold fz; split <;> rfl
    simp only [List.map_cons, noXs, this, noXs_fz ps, Bool.and_self]
theorem for_nil {st : PyData → Hv.Env → Option Hv.Env} {body : Hv.Env → RS} {ρ : Hv.Env} : forR st body [] ρ = .next ρ := rfl
theorem for_cons {st : PyData → Hv.Env → Option Hv.Env} {body : Hv.Env → RS} {p : PyData} {ps : List PyData} {ρ ρ1 ρ2 : Hv.Env} {r : RS} (h1 : st p ρ = some ρ1) (h2 : body ρ1 = .next ρ2) (h3 : forR st body ps ρ2 = r) : forR st body (p :: ps) ρ = r := by
  rw [forR_step, h1]
  simp only [h2]
  exact h3
theorem rg6 : (rgI 0 6).map PyData.int = [.int 0, .int 1, .int 2, .int 3, .int 4, .int 5] := by kernel_rfl
theorem f_lnm {C : Cal} {G : Glo} {B : Sub} {tg : Tg} {b : List S} {ρ : Hv.Env} {ps : List PyData} {al : Al} (h : mutDs ps = false) (hm : al.all (fun i => !(mutSs b).contains i) = true) : forD .seq [.n (.list ps)] al C G B tg b ρ = forR (fun p ρ => setT tg true p ρ) (blk C G B b) ps ρ := by
  rw [f_ln hm, h]
  rfl
abbrev ib : List S := [(.app 4 [] (.bin .add (.bin .add (.sl (.var 0) (some (.int (0))) (some (.var 5))) (.tup [(.var 6)])) (.sl (.var 0) (some (.bin .add (.var 5) (.int (1)))) none)))]
/-- one turn of the outer loop -/
theorem turn (C0 : Cal) (t : Th) (k n : Int) (d3 d3' x : Option D) (j : Nat) (hj : j < 6) (ps : List PyData) (ds : List D) (hl : ds.length + ps.length ≤ 1000) (al : Al)
    (hx : ixvD 3 (some d3) (.ok (.v (.int (j : Int))) []) = .ok (.n (.list ps)) al)
    (hf : ∀ x y z : Option D, forD .seq [.n (.list ps)] al C0 T.G Bz (.name 6) ib [some (.v (th t)), some (.v (.int k)), some (.v (.int n)), d3, y, z, x] = forR (fun p ρ => setT (.name 6) true p ρ) (blk C0 T.G Bz ib) ps [some (.v (th t)), some (.v (.int k)), some (.v (.int n)), d3', y, z, x]) :
    ∃ x', blk C0 T.G Bz [(.for_ .seq [(.ix (.var 3) (.var 5))] (.name 6) ib)] [some (.v (th t)), some (.v (.int k)), some (.v (.int n)), d3, some (.ol ds), some (.v (.int (j : Int))), x] = .next [some (.v (th t)), some (.v (.int k)), some (.v (.int n)), d3', some (.ol (ds ++ ps.map fun p => fz true (mk t j p))), some (.v (.int (j : Int))), x'] := by
  obtain ⟨x', e⟩ := inner C0 t k n d3' none j hj ps ds x hl
  refine ⟨x', ?_⟩
  rw [t7, t0, t13]
  have e9 : seqR (evs C0 T.G [E.ix (E.var 3) (E.var 5)] [some (.v (th t)), some (.v (.int k)), some (.v (.int n)), d3, some (.ol ds), some (.v (.int (j : Int))), x]) = .ok [.n (.list ps)] al := by simp (config := { implicitDefEqProofs := false }) [Hv.s1, Hv.s2, Hv.s3, Hv.s4, Hv.s5, Hv.s6, Hv.s7, Hv.s8, Hv.s9, Hv.s10, Hv.s11, Hv.s12, Hv.s13, Hv.s14, Hv.s15, Hv.s16, Hv.s17, Hv.s18, Hv.s19, Hv.s20, Hv.s21, Hv.s22, Hv.s23, Hv.s24, Hv.s25, Hv.s26, Hv.s27, Hv.s28, Hv.s29, Hv.s30, Hv.s31, Hv.s32, Hv.s33, Hv.s34, Hv.s35, Hv.s36, Hv.s37, Hv.s38, Hv.v1, Hv.v2, Hv.v3, Hv.v4, Hv.v6, Hv.v7, Hv.v8, Hv.v9, Hv.v10, Hv.v11, Hv.e1, Hv.e2, Hv.e3, Hv.e4, Hv.e5, Hv.e6, Hv.e7, Hv.e8, Hv.e9, Hv.e10, Hv.e11, Hv.e12, Hv.e13, Hv.e14, Hv.e16, Hv.e17, Hv.e18, Hv.e19, Hv.e20, Hv.e21, Hv.e22, Hv.e23, Hv.e24, Hv.e25, Hv.e26, Hv.x1, Hv.x2, Hv.x6, Hv.x7, Hv.x8, Hv.x9, Hv.x12, Hv.x13, Hv.x14, Hv.x15, Hv.x16, Hv.x17, Hv.x21, Hv.x22, Hv.x23, Hv.x24, Hv.x25, Hv.x26, Hv.x27, Hv.x28, Hv.x29, Hv.x30, Hv.y0, Hv.y1, Hv.y2, Hv.y3, Hv.y4, Hv.y5, Hv.x31, Hv.x32, Hv.x33, Hv.x34, Hv.x35, Hv.x36, Hv.x39, Hv.a1, Hv.a2, Hv.k1, Hv.k4, Hv.k6, Hv.k7, Hv.k8, Hv.k9, Hv.k10, Hv.t0, Hv.t1, Hv.t2, Hv.t3, Hv.t4, Hv.t5, Hv.t6, Hv.t7, Hv.t8, Hv.t9, Hv.t10, Hv.t11, Hv.t12, Hv.t13, Hv.t14, Hv.t14', Hv.t15, Hv.t16, Hv.t17, Hv.t18, Hv.t19, Hv.t20, Hv.t21, Hv.t22, Hv.t23, Hv.t24, Hv.t25, Hv.t26, Hv.t28, Hv.r2, Hv.r3, Hv.r4, Hv.z1, Hv.z2, Hv.z3, Hv.mutDs_int, Hv.intsOf_int, Hv.startE, Hv.isNew, List.set, hx]
  rw [e9, s7, hf, e]
  rfl
theorem others (K : Nat) (t : Th) (k n : Int) : C (K + 1) 18 [th t, .int k, .int n] = .ok (.ol ([.v (th t), .v (.tuple ((itms t).take 5)), .v (.tuple (itms t ++ [.int 0])), oL (itms t), .v (.tuple []), .v .none] ++ (((V0 k).map (mk t 0)) ++ (V1.map (mk t 1)) ++ (V2.map (mk t 2)) ++ ((V3 n).map (mk t 3)) ++ (V4.map (mk t 4)) ++ (V5.map (mk t 5))).map (fz true))) := by
  rw [c18]
  unfold B18
  have hm := mut_itms t
  rw [t0]
  refine re_seq [some (.v (th t)), some (.v (.int k)), some (.v (.int n)), some (.ol [oL (V0 k), oL V1]), none, none, none] (by simp (config := { implicitDefEqProofs := false }) [Hv.s1, Hv.s2, Hv.s3, Hv.s4, Hv.s5, Hv.s6, Hv.s7, Hv.s8, Hv.s9, Hv.s10, Hv.s11, Hv.s12, Hv.s13, Hv.s14, Hv.s15, Hv.s16, Hv.s17, Hv.s18, Hv.s19, Hv.s20, Hv.s21, Hv.s22, Hv.s23, Hv.s24, Hv.s25, Hv.s26, Hv.s27, Hv.s28, Hv.s29, Hv.s30, Hv.s31, Hv.s32, Hv.s33, Hv.s34, Hv.s35, Hv.s36, Hv.s37, Hv.s38, Hv.v1, Hv.v2, Hv.v3, Hv.v4, Hv.v6, Hv.v7, Hv.v8, Hv.v9, Hv.v10, Hv.v11, Hv.e1, Hv.e2, Hv.e3, Hv.e4, Hv.e5, Hv.e6, Hv.e7, Hv.e8, Hv.e9, Hv.e10, Hv.e11, Hv.e12, Hv.e13, Hv.e14, Hv.e16, Hv.e17, Hv.e18, Hv.e19, Hv.e20, Hv.e21, Hv.e22, Hv.e23, Hv.e24, Hv.e25, Hv.e26, Hv.x1, Hv.x2, Hv.x6, Hv.x7, Hv.x8, Hv.x9, Hv.x12, Hv.x13, Hv.x14, Hv.x15, Hv.x16, Hv.x17, Hv.x21, Hv.x22, Hv.x23, Hv.x24, Hv.x25, Hv.x26, Hv.x27, Hv.x28, Hv.x29, Hv.x30, Hv.y0, Hv.y1, Hv.y2, Hv.y3, Hv.y4, Hv.y5, Hv.x31, Hv.x32, Hv.x33, Hv.x34, Hv.x35, Hv.x36, Hv.x39, Hv.a1, Hv.a2, Hv.k1, Hv.k4, Hv.k6, Hv.k7, Hv.k8, Hv.k9, Hv.k10, Hv.t0, Hv.t1, Hv.t2, Hv.t3, Hv.t4, Hv.t5, Hv.t6, Hv.t7, Hv.t8, Hv.t9, Hv.t10, Hv.t11, Hv.t12, Hv.t13, Hv.t14, Hv.t14', Hv.t15, Hv.t16, Hv.t17, Hv.t18, Hv.t19, Hv.t20, Hv.t21, Hv.t22, Hv.t23, Hv.t24, Hv.t25, Hv.t26, Hv.t28, Hv.r2, Hv.r3, Hv.r4, Hv.z1, Hv.z2, Hv.z3, Hv.mutDs_int, Hv.intsOf_int, Hv.startE, Hv.isNew, List.set, zl7, zl6]) ?_
  rw [t7, t0]
  refine re_seq [some (.v (th t)), some (.v (.int k)), some (.v (.int n)), some (.ol [oL (V0 k), oL V1, oL V2]), none, none, none] (by simp (config := { implicitDefEqProofs := false }) [Hv.s1, Hv.s2, Hv.s3, Hv.s4, Hv.s5, Hv.s6, Hv.s7, Hv.s8, Hv.s9, Hv.s10, Hv.s11, Hv.s12, Hv.s13, Hv.s14, Hv.s15, Hv.s16, Hv.s17, Hv.s18, Hv.s19, Hv.s20, Hv.s21, Hv.s22, Hv.s23, Hv.s24, Hv.s25, Hv.s26, Hv.s27, Hv.s28, Hv.s29, Hv.s30, Hv.s31, Hv.s32, Hv.s33, Hv.s34, Hv.s35, Hv.s36, Hv.s37, Hv.s38, Hv.v1, Hv.v2, Hv.v3, Hv.v4, Hv.v6, Hv.v7, Hv.v8, Hv.v9, Hv.v10, Hv.v11, Hv.e1, Hv.e2, Hv.e3, Hv.e4, Hv.e5, Hv.e6, Hv.e7, Hv.e8, Hv.e9, Hv.e10, Hv.e11, Hv.e12, Hv.e13, Hv.e14, Hv.e16, Hv.e17, Hv.e18, Hv.e19, Hv.e20, Hv.e21, Hv.e22, Hv.e23, Hv.e24, Hv.e25, Hv.e26, Hv.x1, Hv.x2, Hv.x6, Hv.x7, Hv.x8, Hv.x9, Hv.x12, Hv.x13, Hv.x14, Hv.x15, Hv.x16, Hv.x17, Hv.x21, Hv.x22, Hv.x23, Hv.x24, Hv.x25, Hv.x26, Hv.x27, Hv.x28, Hv.x29, Hv.x30, Hv.y0, Hv.y1, Hv.y2, Hv.y3, Hv.y4, Hv.y5, Hv.x31, Hv.x32, Hv.x33, Hv.x34, Hv.x35, Hv.x36, Hv.x39, Hv.a1, Hv.a2, Hv.k1, Hv.k4, Hv.k6, Hv.k7, Hv.k8, Hv.k9, Hv.k10, Hv.t0, Hv.t1, Hv.t2, Hv.t3, Hv.t4, Hv.t5, Hv.t6, Hv.t7, Hv.t8, Hv.t9, Hv.t10, Hv.t11, Hv.t12, Hv.t13, Hv.t14, Hv.t14', Hv.t15, Hv.t16, Hv.t17, Hv.t18, Hv.t19, Hv.t20, Hv.t21, Hv.t22, Hv.t23, Hv.t24, Hv.t25, Hv.t26, Hv.t28, Hv.r2, Hv.r3, Hv.r4, Hv.z1, Hv.z2, Hv.z3, Hv.mutDs_int, Hv.intsOf_int, Hv.startE, Hv.isNew, List.set, zl7, ol_app]) ?_
  rw [t7, t0]
  refine re_seq [some (.v (th t)), some (.v (.int k)), some (.v (.int n)), some (.ol [oL (V0 k), oL V1, oL V2, D3 n]), none, none, none] (by
    simp (config := { implicitDefEqProofs := false }) [Hv.s1, Hv.s2, Hv.s3, Hv.s4, Hv.s5, Hv.s6, Hv.s7, Hv.s8, Hv.s9, Hv.s10, Hv.s11, Hv.s12, Hv.s13, Hv.s14, Hv.s15, Hv.s16, Hv.s17, Hv.s18, Hv.s19, Hv.s20, Hv.s21, Hv.s22, Hv.s23, Hv.s24, Hv.s25, Hv.s26, Hv.s27, Hv.s28, Hv.s29, Hv.s30, Hv.s31, Hv.s32, Hv.s33, Hv.s34, Hv.s35, Hv.s36, Hv.s37, Hv.s38, Hv.v1, Hv.v2, Hv.v3, Hv.v4, Hv.v6, Hv.v7, Hv.v8, Hv.v9, Hv.v10, Hv.v11, Hv.e1, Hv.e2, Hv.e3, Hv.e4, Hv.e5, Hv.e6, Hv.e7, Hv.e8, Hv.e9, Hv.e10, Hv.e11, Hv.e12, Hv.e13, Hv.e14, Hv.e16, Hv.e17, Hv.e18, Hv.e19, Hv.e20, Hv.e21, Hv.e22, Hv.e23, Hv.e24, Hv.e25, Hv.e26, Hv.x1, Hv.x2, Hv.x6, Hv.x7, Hv.x8, Hv.x9, Hv.x12, Hv.x13, Hv.x14, Hv.x15, Hv.x16, Hv.x17, Hv.x21, Hv.x22, Hv.x23, Hv.x24, Hv.x25, Hv.x26, Hv.x27, Hv.x28, Hv.x29, Hv.x30, Hv.y0, Hv.y1, Hv.y2, Hv.y3, Hv.y4, Hv.y5, Hv.x31, Hv.x32, Hv.x33, Hv.x34, Hv.x35, Hv.x36, Hv.x39, Hv.a1, Hv.a2, Hv.k1, Hv.k4, Hv.k6, Hv.k7, Hv.k8, Hv.k9, Hv.k10, Hv.t0, Hv.t1, Hv.t2, Hv.t3, Hv.t4, Hv.t5, Hv.t6, Hv.t7, Hv.t8, Hv.t9, Hv.t10, Hv.t11, Hv.t12, Hv.t13, Hv.t14, Hv.t14', Hv.t15, Hv.t16, Hv.t17, Hv.t18, Hv.t19, Hv.t20, Hv.t21, Hv.t22, Hv.t23, Hv.t24, Hv.t25, Hv.t26, Hv.t28, Hv.r2, Hv.r3, Hv.r4, Hv.z1, Hv.z2, Hv.z3, Hv.mutDs_int, Hv.intsOf_int, Hv.startE, Hv.isNew, List.set, tupD, isFz, mkT, isNews, isNew, md1, md2, md3, md5, ol_app]) ?_
  rw [t7, t0]
  refine re_seq [some (.v (th t)), some (.v (.int k)), some (.v (.int n)), some (.ol [oL (V0 k), oL V1, oL V2, D3 n, oL V4]), none, none, none] (by simp (config := { implicitDefEqProofs := false }) [Hv.s1, Hv.s2, Hv.s3, Hv.s4, Hv.s5, Hv.s6, Hv.s7, Hv.s8, Hv.s9, Hv.s10, Hv.s11, Hv.s12, Hv.s13, Hv.s14, Hv.s15, Hv.s16, Hv.s17, Hv.s18, Hv.s19, Hv.s20, Hv.s21, Hv.s22, Hv.s23, Hv.s24, Hv.s25, Hv.s26, Hv.s27, Hv.s28, Hv.s29, Hv.s30, Hv.s31, Hv.s32, Hv.s33, Hv.s34, Hv.s35, Hv.s36, Hv.s37, Hv.s38, Hv.v1, Hv.v2, Hv.v3, Hv.v4, Hv.v6, Hv.v7, Hv.v8, Hv.v9, Hv.v10, Hv.v11, Hv.e1, Hv.e2, Hv.e3, Hv.e4, Hv.e5, Hv.e6, Hv.e7, Hv.e8, Hv.e9, Hv.e10, Hv.e11, Hv.e12, Hv.e13, Hv.e14, Hv.e16, Hv.e17, Hv.e18, Hv.e19, Hv.e20, Hv.e21, Hv.e22, Hv.e23, Hv.e24, Hv.e25, Hv.e26, Hv.x1, Hv.x2, Hv.x6, Hv.x7, Hv.x8, Hv.x9, Hv.x12, Hv.x13, Hv.x14, Hv.x15, Hv.x16, Hv.x17, Hv.x21, Hv.x22, Hv.x23, Hv.x24, Hv.x25, Hv.x26, Hv.x27, Hv.x28, Hv.x29, Hv.x30, Hv.y0, Hv.y1, Hv.y2, Hv.y3, Hv.y4, Hv.y5, Hv.x31, Hv.x32, Hv.x33, Hv.x34, Hv.x35, Hv.x36, Hv.x39, Hv.a1, Hv.a2, Hv.k1, Hv.k4, Hv.k6, Hv.k7, Hv.k8, Hv.k9, Hv.k10, Hv.t0, Hv.t1, Hv.t2, Hv.t3, Hv.t4, Hv.t5, Hv.t6, Hv.t7, Hv.t8, Hv.t9, Hv.t10, Hv.t11, Hv.t12, Hv.t13, Hv.t14, Hv.t14', Hv.t15, Hv.t16, Hv.t17, Hv.t18, Hv.t19, Hv.t20, Hv.t21, Hv.t22, Hv.t23, Hv.t24, Hv.t25, Hv.t26, Hv.t28, Hv.r2, Hv.r3, Hv.r4, Hv.z1, Hv.z2, Hv.z3, Hv.mutDs_int, Hv.intsOf_int, Hv.startE, Hv.isNew, List.set, zl7, ol_app]) ?_
  rw [t7, t0]
  refine re_seq [some (.v (th t)), some (.v (.int k)), some (.v (.int n)), some (DV k n), none, none, none] (by
    unfold DV
    simp (config := { implicitDefEqProofs := false }) [Hv.s1, Hv.s2, Hv.s3, Hv.s4, Hv.s5, Hv.s6, Hv.s7, Hv.s8, Hv.s9, Hv.s10, Hv.s11, Hv.s12, Hv.s13, Hv.s14, Hv.s15, Hv.s16, Hv.s17, Hv.s18, Hv.s19, Hv.s20, Hv.s21, Hv.s22, Hv.s23, Hv.s24, Hv.s25, Hv.s26, Hv.s27, Hv.s28, Hv.s29, Hv.s30, Hv.s31, Hv.s32, Hv.s33, Hv.s34, Hv.s35, Hv.s36, Hv.s37, Hv.s38, Hv.v1, Hv.v2, Hv.v3, Hv.v4, Hv.v6, Hv.v7, Hv.v8, Hv.v9, Hv.v10, Hv.v11, Hv.e1, Hv.e2, Hv.e3, Hv.e4, Hv.e5, Hv.e6, Hv.e7, Hv.e8, Hv.e9, Hv.e10, Hv.e11, Hv.e12, Hv.e13, Hv.e14, Hv.e16, Hv.e17, Hv.e18, Hv.e19, Hv.e20, Hv.e21, Hv.e22, Hv.e23, Hv.e24, Hv.e25, Hv.e26, Hv.x1, Hv.x2, Hv.x6, Hv.x7, Hv.x8, Hv.x9, Hv.x12, Hv.x13, Hv.x14, Hv.x15, Hv.x16, Hv.x17, Hv.x21, Hv.x22, Hv.x23, Hv.x24, Hv.x25, Hv.x26, Hv.x27, Hv.x28, Hv.x29, Hv.x30, Hv.y0, Hv.y1, Hv.y2, Hv.y3, Hv.y4, Hv.y5, Hv.x31, Hv.x32, Hv.x33, Hv.x34, Hv.x35, Hv.x36, Hv.x39, Hv.a1, Hv.a2, Hv.k1, Hv.k4, Hv.k6, Hv.k7, Hv.k8, Hv.k9, Hv.k10, Hv.t0, Hv.t1, Hv.t2, Hv.t3, Hv.t4, Hv.t5, Hv.t6, Hv.t7, Hv.t8, Hv.t9, Hv.t10, Hv.t11, Hv.t12, Hv.t13, Hv.t14, Hv.t14', Hv.t15, Hv.t16, Hv.t17, Hv.t18, Hv.t19, Hv.t20, Hv.t21, Hv.t22, Hv.t23, Hv.t24, Hv.t25, Hv.t26, Hv.t28, Hv.r2, Hv.r3, Hv.r4, Hv.z1, Hv.z2, Hv.z3, Hv.mutDs_int, Hv.intsOf_int, Hv.startE, Hv.isNew, List.set, tupD, isFz, mkT, isNews, isNew, md1, md2, md3, md5, zl4, ol_app]) ?_
  rw [t7, t0]
  have c1 : cutP (itms t) (some 0) (some 5) = (itms t).take 5 := cut_to (n := 5)
  have s1 : ∀ al, slR (.v (th t)) al (some 0) (some 5) = .ok (.v (.tuple ((itms t).take 5))) [] := fun al => by rw [th_it, sl_tv (by rw [c1]; exact mutDs_take hm), c1]
  have k1 : ∀ w al, binP .add w al (th t) (.tuple [.int 0]) = .ok (.v (.tuple (itms t ++ [.int 0]))) [] := fun w al => by rw [th_it, cat_tup (by rw [mutDs_app, hm]; rfl) (by show 6 + 1 ≤ _; omega)]
  have l1 : ∀ al, biR .list [.v (th t)] al = .ok (oL (itms t)) [] := fun al => by rw [th_it, list_tv hm]
  refine re_seq [some (.v (th t)), some (.v (.int k)), some (.v (.int n)), some (DV k n), some (.ol [.v (th t), .v (.tuple ((itms t).take 5)), .v (.tuple (itms t ++ [.int 0])), oL (itms t), .v (.tuple []), .v .none]), none, none] (by
    generalize (itms t).take 5 = i5 at s1
    generalize itms t ++ [.int 0] = i7 at k1
    generalize itms t = i6 at l1
    simp (config := { implicitDefEqProofs := false }) [Hv.s1, Hv.s2, Hv.s3, Hv.s4, Hv.s5, Hv.s6, Hv.s7, Hv.s8, Hv.s9, Hv.s10, Hv.s11, Hv.s12, Hv.s13, Hv.s14, Hv.s15, Hv.s16, Hv.s17, Hv.s18, Hv.s19, Hv.s20, Hv.s21, Hv.s22, Hv.s23, Hv.s24, Hv.s25, Hv.s26, Hv.s27, Hv.s28, Hv.s29, Hv.s30, Hv.s31, Hv.s32, Hv.s33, Hv.s34, Hv.s35, Hv.s36, Hv.s37, Hv.s38, Hv.v1, Hv.v2, Hv.v3, Hv.v4, Hv.v6, Hv.v7, Hv.v8, Hv.v9, Hv.v10, Hv.v11, Hv.e1, Hv.e2, Hv.e3, Hv.e4, Hv.e5, Hv.e6, Hv.e7, Hv.e8, Hv.e9, Hv.e10, Hv.e11, Hv.e12, Hv.e13, Hv.e14, Hv.e16, Hv.e17, Hv.e18, Hv.e19, Hv.e20, Hv.e21, Hv.e22, Hv.e23, Hv.e24, Hv.e25, Hv.e26, Hv.x1, Hv.x2, Hv.x6, Hv.x7, Hv.x8, Hv.x9, Hv.x12, Hv.x13, Hv.x14, Hv.x15, Hv.x16, Hv.x17, Hv.x21, Hv.x22, Hv.x23, Hv.x24, Hv.x25, Hv.x26, Hv.x27, Hv.x28, Hv.x29, Hv.x30, Hv.y0, Hv.y1, Hv.y2, Hv.y3, Hv.y4, Hv.y5, Hv.x31, Hv.x32, Hv.x33, Hv.x34, Hv.x35, Hv.x36, Hv.x39, Hv.a1, Hv.a2, Hv.k1, Hv.k4, Hv.k6, Hv.k7, Hv.k8, Hv.k9, Hv.k10, Hv.t0, Hv.t1, Hv.t2, Hv.t3, Hv.t4, Hv.t5, Hv.t6, Hv.t7, Hv.t8, Hv.t9, Hv.t10, Hv.t11, Hv.t12, Hv.t13, Hv.t14, Hv.t14', Hv.t15, Hv.t16, Hv.t17, Hv.t18, Hv.t19, Hv.t20, Hv.t21, Hv.t22, Hv.t23, Hv.t24, Hv.t25, Hv.t26, Hv.t28, Hv.r2, Hv.r3, Hv.r4, Hv.z1, Hv.z2, Hv.z3, Hv.mutDs_int, Hv.intsOf_int, Hv.startE, Hv.isNew, List.set, mut_th, s1, k1, l1, tupD, isFz, mkT, isNews, isNew, md1, md5]) ?_
  rw [t7, t0]
  generalize hd0 : [.v (th t), .v (.tuple ((itms t).take 5)), .v (.tuple (itms t ++ [.int 0])), oL (itms t), .v (.tuple []), .v .none] = d0
  have hl0 : d0.length = 6 := by subst hd0; rfl
  rw [t13]
  have e9 : seqR (evs (C K) T.G [E.int 6] [some (.v (th t)), some (.v (.int k)), some (.v (.int n)), some (DV k n), some (.ol d0), none, none]) = .ok [.v (.int ((6 : Nat) : Int))] [] := by simp (config := { implicitDefEqProofs := false }) [Hv.s1, Hv.s2, Hv.s3, Hv.s4, Hv.s5, Hv.s6, Hv.s7, Hv.s8, Hv.s9, Hv.s10, Hv.s11, Hv.s12, Hv.s13, Hv.s14, Hv.s15, Hv.s16, Hv.s17, Hv.s18, Hv.s19, Hv.s20, Hv.s21, Hv.s22, Hv.s23, Hv.s24, Hv.s25, Hv.s26, Hv.s27, Hv.s28, Hv.s29, Hv.s30, Hv.s31, Hv.s32, Hv.s33, Hv.s34, Hv.s35, Hv.s36, Hv.s37, Hv.s38, Hv.v1, Hv.v2, Hv.v3, Hv.v4, Hv.v6, Hv.v7, Hv.v8, Hv.v9, Hv.v10, Hv.v11, Hv.e1, Hv.e2, Hv.e3, Hv.e4, Hv.e5, Hv.e6, Hv.e7, Hv.e8, Hv.e9, Hv.e10, Hv.e11, Hv.e12, Hv.e13, Hv.e14, Hv.e16, Hv.e17, Hv.e18, Hv.e19, Hv.e20, Hv.e21, Hv.e22, Hv.e23, Hv.e24, Hv.e25, Hv.e26, Hv.x1, Hv.x2, Hv.x6, Hv.x7, Hv.x8, Hv.x9, Hv.x12, Hv.x13, Hv.x14, Hv.x15, Hv.x16, Hv.x17, Hv.x21, Hv.x22, Hv.x23, Hv.x24, Hv.x25, Hv.x26, Hv.x27, Hv.x28, Hv.x29, Hv.x30, Hv.y0, Hv.y1, Hv.y2, Hv.y3, Hv.y4, Hv.y5, Hv.x31, Hv.x32, Hv.x33, Hv.x34, Hv.x35, Hv.x36, Hv.x39, Hv.a1, Hv.a2, Hv.k1, Hv.k4, Hv.k6, Hv.k7, Hv.k8, Hv.k9, Hv.k10, Hv.t0, Hv.t1, Hv.t2, Hv.t3, Hv.t4, Hv.t5, Hv.t6, Hv.t7, Hv.t8, Hv.t9, Hv.t10, Hv.t11, Hv.t12, Hv.t13, Hv.t14, Hv.t14', Hv.t15, Hv.t16, Hv.t17, Hv.t18, Hv.t19, Hv.t20, Hv.t21, Hv.t22, Hv.t23, Hv.t24, Hv.t25, Hv.t26, Hv.t28, Hv.r2, Hv.r3, Hv.r4, Hv.z1, Hv.z2, Hv.z3, Hv.mutDs_int, Hv.intsOf_int, Hv.startE, Hv.isNew, List.set]
  rw [e9, s7, f1 (by omega)]
  show retC (seqS (forR _ (blk (C K) T.G Bz [(.for_ .seq [(.ix (.var 3) (.var 5))] (.name 6) ib)]) ((rgI 0 6).map .int) _) _) = _
  rw [rg6]
  obtain ⟨x0, e0⟩ := turn (C K) t k n (some (DV k n)) (some (DV k n)) none 0 (by omega) (V0 k) d0 (by rw [hl0]; simp) [3] rfl fun x y z => f_lnm rfl rfl
  obtain ⟨x1, e1⟩ := turn (C K) t k n (some (DV k n)) (some (DV k n)) x0 1 (by omega) V1 (d0 ++ (V0 k).map fun p => fz true (mk t 0 p)) (by simp [hl0]) [3] rfl fun x y z => f_lnm rfl rfl
  obtain ⟨x2, e2⟩ := turn (C K) t k n (some (DV k n)) (some (DV k n)) x1 2 (by omega) V2 (d0 ++ ((V0 k).map fun p => fz true (mk t 0 p)) ++ (V1.map fun p => fz true (mk t 1 p))) (by simp [hl0]) [3] rfl fun x y z => f_lnm rfl rfl
  obtain ⟨x3, e3⟩ := turn (C K) t k n (some (DV k n)) (some (.n (NV k n))) x2 3 (by omega) (V3 n) (d0 ++ ((V0 k).map fun p => fz true (mk t 0 p)) ++ (V1.map fun p => fz true (mk t 1 p)) ++ (V2.map fun p => fz true (mk t 2 p))) (by simp [hl0]) [3] rfl fun x y z => by rw [f_ln rfl]; rfl
  obtain ⟨x4, e4⟩ := turn (C K) t k n (some (.n (NV k n))) (some (.n (NV k n))) x3 4 (by omega) V4 (d0 ++ ((V0 k).map fun p => fz true (mk t 0 p)) ++ (V1.map fun p => fz true (mk t 1 p)) ++ (V2.map fun p => fz true (mk t 2 p)) ++ ((V3 n).map fun p => fz true (mk t 3 p))) (by simp [hl0]) [] rfl fun x y z => f_lnm rfl rfl
  obtain ⟨x5, e5⟩ := turn (C K) t k n (some (.n (NV k n))) (some (.n (NV k n))) x4 5 (by omega) V5 (d0 ++ ((V0 k).map fun p => fz true (mk t 0 p)) ++ (V1.map fun p => fz true (mk t 1 p)) ++ (V2.map fun p => fz true (mk t 2 p)) ++ ((V3 n).map fun p => fz true (mk t 3 p)) ++ (V4.map fun p => fz true (mk t 4 p))) (by simp [hl0]) [] rfl fun x y z => by rw [f_ln rfl]; rfl
  rw [for_cons rfl e0 (for_cons rfl e1 (for_cons rfl e2 (for_cons rfl e3 (for_cons rfl e4 (for_cons rfl e5 for_nil)))))]
  have hj : (d0 ++ ((V0 k).map fun p => fz true (mk t 0 p)) ++ (V1.map fun p => fz true (mk t 1 p)) ++ (V2.map fun p => fz true (mk t 2 p)) ++ ((V3 n).map fun p => fz true (mk t 3 p)) ++ (V4.map fun p => fz true (mk t 4 p)) ++ (V5.map fun p => fz true (mk t 5 p))) = d0 ++ (((V0 k).map (mk t 0)) ++ (V1.map (mk t 1)) ++ (V2.map (mk t 2)) ++ ((V3 n).map (mk t 3)) ++ (V4.map (mk t 4)) ++ (V5.map (mk t 5))).map (fz true) := by
    simp only [List.map_append, List.map_map, List.append_assoc]
    rfl
  rw [hj]
  have hnx : noX (.ol (d0 ++ (((V0 k).map (mk t 0)) ++ (V1.map (mk t 1)) ++ (V2.map (mk t 2)) ++ ((V3 n).map (mk t 3)) ++ (V4.map (mk t 4)) ++ (V5.map (mk t 5))).map (fz true))) = true := by
    subst hd0
    show noXs (_ ++ _) = true
    rw [noXs_app, noXs_fz, Bool.and_true]
    show noXs [.v (th t), .v (.tuple ((itms t).take 5)), .v (.tuple (itms t ++ [.int 0])), oL (itms t), .v (.tuple []), .v .none] = true
    have : noX (oL (itms t)) = true := rfl
    simp only [noXs, noX, this, Bool.and_self]
  generalize ((((V0 k).map (mk t 0)) ++ (V1.map (mk t 1)) ++ (V2.map (mk t 2)) ++ ((V3 n).map (mk t 3)) ++ (V4.map (mk t 4)) ++ (V5.map (mk t 5))).map (fz true)) = more at hnx
  simp (config := { implicitDefEqProofs := false }) [Hv.s1, Hv.s2, Hv.s3, Hv.s4, Hv.s5, Hv.s6, Hv.s7, Hv.s8, Hv.s9, Hv.s10, Hv.s11, Hv.s12, Hv.s13, Hv.s14, Hv.s15, Hv.s16, Hv.s17, Hv.s18, Hv.s19, Hv.s20, Hv.s21, Hv.s22, Hv.s23, Hv.s24, Hv.s25, Hv.s26, Hv.s27, Hv.s28, Hv.s29, Hv.s30, Hv.s31, Hv.s32, Hv.s33, Hv.s34, Hv.s35, Hv.s36, Hv.s37, Hv.s38, Hv.v1, Hv.v2, Hv.v3, Hv.v4, Hv.v6, Hv.v7, Hv.v8, Hv.v9, Hv.v10, Hv.v11, Hv.e1, Hv.e2, Hv.e3, Hv.e4, Hv.e5, Hv.e6, Hv.e7, Hv.e8, Hv.e9, Hv.e10, Hv.e11, Hv.e12, Hv.e13, Hv.e14, Hv.e16, Hv.e17, Hv.e18, Hv.e19, Hv.e20, Hv.e21, Hv.e22, Hv.e23, Hv.e24, Hv.e25, Hv.e26, Hv.x1, Hv.x2, Hv.x6, Hv.x7, Hv.x8, Hv.x9, Hv.x12, Hv.x13, Hv.x14, Hv.x15, Hv.x16, Hv.x17, Hv.x21, Hv.x22, Hv.x23, Hv.x24, Hv.x25, Hv.x26, Hv.x27, Hv.x28, Hv.x29, Hv.x30, Hv.y0, Hv.y1, Hv.y2, Hv.y3, Hv.y4, Hv.y5, Hv.x31, Hv.x32, Hv.x33, Hv.x34, Hv.x35, Hv.x36, Hv.x39, Hv.a1, Hv.a2, Hv.k1, Hv.k4, Hv.k6, Hv.k7, Hv.k8, Hv.k9, Hv.k10, Hv.t0, Hv.t1, Hv.t2, Hv.t3, Hv.t4, Hv.t5, Hv.t6, Hv.t7, Hv.t8, Hv.t9, Hv.t10, Hv.t11, Hv.t12, Hv.t13, Hv.t14, Hv.t14', Hv.t15, Hv.t16, Hv.t17, Hv.t18, Hv.t19, Hv.t20, Hv.t21, Hv.t22, Hv.t23, Hv.t24, Hv.t25, Hv.t26, Hv.t28, Hv.r2, Hv.r3, Hv.r4, Hv.z1, Hv.z2, Hv.z3, Hv.mutDs_int, Hv.intsOf_int, Hv.startE, Hv.isNew, List.set, hnx]
end Law

namespace Law
open PySem Hv
theorem It.int (i : Int) : It (.int i) := ⟨nofun, nofun, nofun⟩
theorem It.bool (i : Bool) : It (.bool i) := ⟨nofun, nofun, nofun⟩
theorem It.none : It .none := ⟨nofun, nofun, nofun⟩
theorem It.list (ps : List PyData) : It (.list ps) := ⟨nofun, nofun, nofun⟩
theorem It.strs (x : Str) (h : x.length ≤ 10000) : It (.str x) := ⟨nofun, fun y e => by injection e with e; exact e ▸ h, nofun⟩
theorem flat_mut : ∀ {ps : List PyData}, ps.all flatP = true → mutDs ps = false
  | [], _ => rfl
  | p :: ps, h => by
    rw [List.all_cons, Bool.and_eq_true] at h
    have : mutD p = false := by cases p <;> first | rfl | (have := h.1; simp [flatP] at this)
    rw [md5, this, flat_mut h.2]
    rfl
theorem It.tups (ps : List PyData) (h : ps.all flatP = true) (hl : ps.length ≤ 10000) : It (.tuple ps) := ⟨fun qs e => by injection e with e; subst e; exact ⟨flat_mut h, h⟩, nofun, fun qs e => by injection e with e; exact e ▸ hl⟩
theorem Tt.mk6 {a b c d e f : PyData} (ha : It a) (hb : It b) (hc : It c) (hd : It d) (he : It e) (hf : It f) (hfl : flatP b = true) : Tt (.tuple [a, b, c, d, e, f]) := ⟨fun a' b' c' d' e' f' h => by
  injection h with h
  simp only [List.cons.injEq, and_true] at h
  obtain ⟨rfl, rfl, rfl, rfl, rfl, rfl⟩ := h
  exact ⟨ha, hb, hc, hd, he, hf, hfl⟩⟩
theorem Tt.no {p : PyData} (h : ∀ a b c d e f, p ≠ .tuple [a, b, c, d, e, f]) : Tt p := ⟨fun a b c d e f e' => absurd e' (h a b c d e f)⟩
structure ThI (t : Th) : Prop where
  r : t.role.length ≤ 10000
  x : t.text.length ≤ 10000
  f : t.refs.length ≤ 10000
theorem It.refs {t : Th} (h : ThI t) : It (.tuple (t.refs.map .int)) := It.tups _ (by rw [List.all_map]; exact List.all_eq_true.mpr fun _ _ => rfl) (by simpa using h.f)
theorem It.qd (q : Q4) : It (qd q) := It.tups _ rfl (by simp)
theorem Tt.th {t : Th} (h : ThI t) : Tt (th t) := Tt.mk6 (It.int _) (It.strs _ h.r) (It.strs _ h.x) (It.refs h) (It.int _) (It.qd _) rfl
def os (t : Th) (k n : Int) : List PyData := [th t, .tuple ((itms t).take 5), .tuple (itms t ++ [.int 0]), .list (itms t), .tuple [], .none] ++ (((V0 k).map (mk t 0)) ++ (V1.map (mk t 1)) ++ (V2.map (mk t 2)) ++ ((V3 n).map (mk t 3)) ++ (V4.map (mk t 4)) ++ (V5.map (mk t 5)))
theorem mk_ok {t : Th} (h : ThI t) {v : PyData} (hv : It v) : Tt (mk t 0 v) ∧ (flatP v = true → Tt (mk t 1 v)) ∧ Tt (mk t 2 v) ∧ Tt (mk t 3 v) ∧ Tt (mk t 4 v) ∧ Tt (mk t 5 v) :=
  ⟨Tt.mk6 hv (It.strs _ h.r) (It.strs _ h.x) (It.refs h) (It.int _) (It.qd _) rfl,
   fun hf => Tt.mk6 (It.int _) hv (It.strs _ h.x) (It.refs h) (It.int _) (It.qd _) hf,
   Tt.mk6 (It.int _) (It.strs _ h.r) hv (It.refs h) (It.int _) (It.qd _) rfl,
   Tt.mk6 (It.int _) (It.strs _ h.r) (It.strs _ h.x) hv (It.int _) (It.qd _) rfl,
   Tt.mk6 (It.int _) (It.strs _ h.r) (It.strs _ h.x) (It.refs h) hv (It.qd _) rfl,
   Tt.mk6 (It.int _) (It.strs _ h.r) (It.strs _ h.x) (It.refs h) (It.int _) hv rfl⟩
theorem os_ok {t : Th} (h : ThI t) (k n : Int) : ∀ p ∈ os t k n, Tt p := fun p hp => by
  unfold os at hp
  rcases List.mem_append.mp hp with hp | hp
  · simp only [List.mem_cons, List.not_mem_nil, or_false] at hp
    rcases hp with rfl | rfl | rfl | rfl | rfl | rfl
    · exact Tt.th h
    · exact Tt.no fun a b c d e f e' => by injection e' with e'; have := congrArg List.length e'; simp [itms] at this
    · exact Tt.no fun a b c d e f e' => by injection e' with e'; have := congrArg List.length e'; simp [itms] at this
    · exact Tt.no nofun
    · exact Tt.no fun a b c d e f e' => by injection e' with e'; cases e'
    · exact Tt.no nofun
  · simp only [List.mem_append] at hp
    rcases hp with ((((hp | hp) | hp) | hp) | hp) | hp <;> obtain ⟨v, hv, rfl⟩ := List.mem_map.mp hp <;> simp only [List.mem_cons, List.not_mem_nil, or_false] at hv
    · rcases hv with rfl | rfl | rfl | rfl | rfl | rfl | rfl
      all_goals first | exact (mk_ok h (It.int _)).1 | exact (mk_ok h (It.bool _)).1 | exact (mk_ok h It.none).1 | exact (mk_ok h (It.strs _ (by decide +kernel))).1
    · rcases hv with rfl | rfl | rfl | rfl | rfl | rfl
      all_goals first | exact (mk_ok h (It.int _)).2.1 rfl | exact (mk_ok h It.none).2.1 rfl | exact (mk_ok h (It.strs _ (by decide +kernel))).2.1 rfl
    · rcases hv with rfl | rfl | rfl | rfl | rfl | rfl | rfl
      all_goals first | exact (mk_ok h (It.int _)).2.2.1 | exact (mk_ok h It.none).2.2.1 | exact (mk_ok h (It.strs _ (by decide +kernel))).2.2.1
    · rcases hv with rfl | rfl | rfl | rfl | rfl | rfl | rfl | rfl | rfl | rfl
      all_goals first | exact (mk_ok h It.none).2.2.2.1 | exact (mk_ok h (It.list _)).2.2.2.1 | exact (mk_ok h (It.tups _ rfl (by simp))).2.2.2.1
    · rcases hv with rfl | rfl | rfl | rfl | rfl | rfl | rfl
      all_goals first | exact (mk_ok h (It.int _)).2.2.2.2.1 | exact (mk_ok h (It.bool _)).2.2.2.2.1 | exact (mk_ok h It.none).2.2.2.2.1
    · rcases hv with rfl | rfl | rfl | rfl | rfl | rfl | rfl
      all_goals first | exact (mk_ok h It.none).2.2.2.2.2 | exact (mk_ok h (It.list _)).2.2.2.2.2 | exact (mk_ok h (It.tups _ rfl (by simp))).2.2.2.2.2
/-! the list of others, as the caller has it -/
theorem hasV_fz (p : PyData) : hasV (fz true p) = false := by
  unfold fz
  cases h : mutD p with
  | true => rfl
  | false => simp [hasV, h]
theorem hasVs_fz : ∀ ps : List PyData, hasVs (ps.map (fz true)) = false
  | [] => rfl
  | p :: ps => by simp only [List.map_cons, hasVs, hasV_fz, hasVs_fz ps, Bool.or_self]
theorem hasVs_app : ∀ {ds es : List D}, hasVs (ds ++ es) = (hasVs ds || hasVs es)
  | [], es => by simp [hasVs]
  | d :: ds, es => by simp only [List.cons_append, hasVs, hasVs_app (ds := ds), Bool.or_assoc]
theorem owns_app : ∀ {ds es : List D}, owns (ds ++ es) = owns ds ++ owns es
  | [], es => by simp [owns]
  | d :: ds, es => by simp only [List.cons_append, owns, owns_app (ds := ds)]
theorem own_fz (p : PyData) : data (own (fz true p)) = some p ∧ isNew (own (fz true p)) = true := by
  unfold fz
  cases h : mutD p with
  | true => exact ⟨rfl, rfl⟩
  | false => exact ⟨rfl, by simp [own, isNew, h]⟩
theorem owns_fz : ∀ ps : List PyData, datas (owns (ps.map (fz true))) = some ps ∧ isNews (owns (ps.map (fz true))) = true
  | [] => ⟨rfl, rfl⟩
  | p :: ps => by
    obtain ⟨h1, h2⟩ := own_fz p
    obtain ⟨h3, h4⟩ := owns_fz ps
    constructor
    · simp only [List.map_cons, owns, datas, h1, h3]
    · simp only [List.map_cons, owns, isNews, h2, h4, Bool.and_self]
theorem owns_v : ∀ ps : List PyData, owns (ps.map .v) = ps.map .v
  | [] => rfl
  | p :: ps => by simp only [List.map_cons, owns, own, owns_v ps]
theorem others_call (K : Nat) {t : Th} (k n : Int) (al : Al) : ∃ ds : List D, callR (C (K + 1) 18 [th t, .int k, .int n]) al = .ok (.ol ds) [] ∧ datas ds = some (os t k n) ∧ isNews ds = true := by
  rw [others]
  generalize hq : (((V0 k).map (mk t 0)) ++ (V1.map (mk t 1)) ++ (V2.map (mk t 2)) ++ ((V3 n).map (mk t 3)) ++ (V4.map (mk t 4)) ++ (V5.map (mk t 5))) = qs
  have hos : os t k n = [th t, .tuple ((itms t).take 5), .tuple (itms t ++ [.int 0]), .list (itms t), .tuple [], .none] ++ qs := by rw [← hq]; rfl
  have hm := mut_itms t
  have m1 : mutD (th t) = false := mut_th t
  have m2 : mutD (.tuple ((itms t).take 5)) = false := by rw [md6]; exact mutDs_take hm
  have m3 : mutD (.tuple (itms t ++ [.int 0])) = false := by rw [md6, mutDs_app, hm]; rfl
  have hv4 : hasV (oL (itms t)) = false := by
    show hasVs ((itms t).map .v) = false
    have : ∀ ps : List PyData, mutDs ps = false → hasVs (ps.map .v) = false := fun ps => by
      induction ps with
      | nil => exact fun _ => rfl
      | cons p ps ih =>
        intro h
        rw [md5, Bool.or_eq_false_iff] at h
        simp only [List.map_cons, hasVs, hasV, h.1, ih h.2, Bool.or_self]
    exact this _ hm
  refine ⟨owns ([.v (th t), .v (.tuple ((itms t).take 5)), .v (.tuple (itms t ++ [.int 0])), oL (itms t), .v (.tuple []), .v .none] ++ qs.map (fz true)), ?_, ?_, ?_⟩
  · have : hasV (.ol ([.v (th t), .v (.tuple ((itms t).take 5)), .v (.tuple (itms t ++ [.int 0])), oL (itms t), .v (.tuple []), .v .none] ++ qs.map (fz true))) = false := by
      show hasVs _ = false
      rw [hasVs_app, hasVs_fz, Bool.or_false]
      simp only [hasVs, hasV, m1, m2, m3, hv4, Bool.or_self, md6, md4, mutDs]
    unfold callR
    simp only [this, Bool.false_eq_true, if_false]
    rfl
  · rw [owns_app, hos]
    refine datas_app ?_ (owns_fz qs).1
    have : own (oL (itms t)) = oL (itms t) := by show D.ol (owns _) = _; rw [owns_v]; rfl
    simp only [owns, own, this, datas, data, data_oL]
  · rw [owns_app, isNews_app, (owns_fz qs).2, Bool.and_true]
    have : own (oL (itms t)) = oL (itms t) := by show D.ol (owns _) = _; rw [owns_v]; rfl
    simp only [owns, own, this, isNews, isNew, isNew_oL, hm, m1, m2, m3, md6, md4, mutDs, Bool.not_false, Bool.and_self]
theorem f_oln {C : Cal} {G : Glo} {B : Sub} {tg : Tg} {b : List S} {ρ : Hv.Env} {ds : List D} {ps : List PyData} (h : datas ds = some ps) (h2 : isNews ds = true) : forD .seq [.ol ds] [] C G B tg b ρ = forR (fun p ρ => setT tg true p ρ) (blk C G B b) ps ρ := by
  have e : elems (.ol ds) [] = some (ps, true, []) := by
    unfold elems
    simp only [data, h, Option.map_some, isNew, h2]
    split <;> rfl
  unfold forD itemsR
  simp only [e, List.all_nil, if_true, frz]
theorem cat_lstN {ps qs : List PyData} (hl : ps.length + qs.length ≤ 16777216) : binP .add true [] (.list ps) (.list qs) = .ok (fL (ps ++ qs)) [] := by
  show (if ps.length + qs.length ≤ SZ then mkL true (ps ++ qs) [] else .stuck) = _
  rw [if_pos (show _ ≤ SZ from hl)]
  unfold mkL
  cases h : mutDs (ps ++ qs) with
  | true => rw [if_pos rfl]; rfl
  | false => rw [if_neg Bool.false_ne_true, fL_im h]
theorem dat2_fL {ps : List PyData} {e : D} {f : PyData → PyData → Hv.R} : dat2 (fL ps) e f = dat e fun q => f (.list ps) q := by unfold dat2; rw [data_fL]; rfl
theorem dat_fL {ps : List PyData} {f : PyData → Hv.R} : dat (fL ps) f = f (.list ps) := by unfold dat; rw [data_fL]
theorem zfl {p : PyData} : D.ol [fz true p] = fL [p] := rfl
/-- whatever the list: both say the same -/
theorem agree (K : Nat) (ps : List PyData) (hp : ∀ p ∈ ps, Tt p) (hl : ps.length ≤ 1000) : C (K + 5) 17 [.list ps] = .ok (.v (.str (word ps))) ∧ C (K + 5) 16 [.list ps] = .ok (.v (.str (word ps))) := ⟨w17 K ps hp, w16 (K + 2) ps hp hl⟩
theorem alls_ok {ts : List Th} (h : Ahead ts.length ts) : alls (ts.map th) = true := by
  unfold alls
  refine List.all_eq_true.mpr fun z hz => ?_
  obtain ⟨x, i⟩ := z
  have hg : (ts.map th)[i]? = some x := List.mem_zipIdx_iff_getElem?.mp hz
  rw [List.getElem?_map] at hg
  cases e : ts[i]? with
  | none => rw [e] at hg; cases hg
  | some t =>
    rw [e] at hg
    injection hg with hg
    subst hg
    obtain ⟨h1, h2, h3, ⟨⟨h4, h5⟩, h6⟩, h7, h8⟩ := h i t e
    rw [List.length_map]
    show thB (i : Int) (ts.length : Int) (th t) = true
    have a1 : parB (i : Int) (.int t.par) = true := by simp [parB]; omega
    have a2 : rin (.str t.role) = true := by
      unfold rin
      refine List.any_eq_true.mpr ⟨.str t.role, ?_, by simp [PyData.eqv]⟩
      exact List.mem_map_of_mem (f := PyData.str) h2
    have a3 : textB (.str t.text) = true := h3.1
    have a4 : refsB (ts.length : Int) (.tuple (t.refs.map .int)) = true := by
      rw [refs_ints]
      · exact decide_eq_true h4
      · rw [List.all_map]
        exact List.all_eq_true.mpr fun r hr => by
          have := h5 r hr
          simp only [Function.comp, rng, Bool.and_eq_true, decide_eq_true_eq]
          exact this
    have a5 : hidB (.int t.hid) = true := by rcases h7 with h7 | h7 <;> rw [h7] <;> rfl
    have a6 : ibx (qd t.q) = true := by
      unfold bx at h8
      show (decide _ && decide _) = true
      rw [decide_eq_true h8.1, decide_eq_true h8.2]
      rfl
    show (parB (i : Int) (.int t.par) && (rin (.str t.role) && (textB (.str t.text) && (refsB (ts.length : Int) (.tuple (t.refs.map .int)) && (hidB (.int t.hid) && ibx (qd t.q)))))) = true
    rw [a1, a2, a3, a4, a5, a6]
    rfl
theorem thI_of {n i : Int} {t : Th} (h : OkT n i t) : ThI t := ⟨Nat.le_trans ((by decide +kernel : ∀ x ∈ ROL, x.length ≤ 100) _ h.2.1) (by omega), Nat.le_trans h.2.2.1.2 (by omega), Nat.le_trans h.2.2.2.1.2 (by omega)⟩
end Law

namespace Law
open PySem Hv
abbrev PL : PyData := .tuple [.int (-1), .str "text", .str "a", .tuple [], .int 0, .tuple [.int 0, .int 0, .int 1, .int 1]]
theorem PL_tt : Tt PL := Tt.mk6 (It.int _) (It.strs _ (by decide +kernel)) (It.strs _ (by decide +kernel)) (It.tups _ rfl (by simp)) (It.int _) (It.tups _ rfl (by simp)) rfl
theorem k3th {ts : List Th} {al : Al} : callR (.ok (oL (ts.map th))) al = .ok (oL (ts.map th)) [] := k3 (mut_ths ts)
theorem mut_PL : mutD PL = false := rfl
theorem mut_reps {α : Type} : ∀ cs : List α, mutDs (cs.map fun _ => PL) = false
  | [] => rfl
  | c :: cs => by rw [List.map_cons, md5, mut_reps cs]; rfl
theorem lc_PL (C0 : Cal) (w : Bool) (c : Int) (v0 v1 v2 v3 v4 v5 v7 v8 v9 v10 : Option D) : lcT C0 T.G [10] (Tg.name 10) [] (E.var 6) [v0, v1, v2, v3, v4, v5, some (.v PL), v7, v8, v9, v10] ((rgI 0 c).map .int) w = .ok (((rgI 0 c).map fun _ => PL).map .v) [] :=
  lc1 fun i _ => by simp (config := { implicitDefEqProofs := false }) [Hv.s1, Hv.s2, Hv.s3, Hv.s4, Hv.s5, Hv.s6, Hv.s7, Hv.s8, Hv.s9, Hv.s10, Hv.s11, Hv.s12, Hv.s13, Hv.s14, Hv.s15, Hv.s16, Hv.s17, Hv.s18, Hv.s19, Hv.s20, Hv.s21, Hv.s22, Hv.s23, Hv.s24, Hv.s25, Hv.s26, Hv.s27, Hv.s28, Hv.s29, Hv.s30, Hv.s31, Hv.s32, Hv.s33, Hv.s34, Hv.s35, Hv.s36, Hv.s37, Hv.s38, Hv.v1, Hv.v2, Hv.v3, Hv.v4, Hv.v6, Hv.v7, Hv.v8, Hv.v9, Hv.v10, Hv.v11, Hv.e1, Hv.e2, Hv.e3, Hv.e4, Hv.e5, Hv.e6, Hv.e7, Hv.e8, Hv.e9, Hv.e10, Hv.e11, Hv.e12, Hv.e13, Hv.e14, Hv.e16, Hv.e17, Hv.e18, Hv.e19, Hv.e20, Hv.e21, Hv.e22, Hv.e23, Hv.e24, Hv.e25, Hv.e26, Hv.x1, Hv.x2, Hv.x6, Hv.x7, Hv.x8, Hv.x9, Hv.x12, Hv.x13, Hv.x14, Hv.x15, Hv.x16, Hv.x17, Hv.x21, Hv.x22, Hv.x23, Hv.x24, Hv.x25, Hv.x26, Hv.x27, Hv.x28, Hv.x29, Hv.x30, Hv.y0, Hv.y1, Hv.y2, Hv.y3, Hv.y4, Hv.y5, Hv.x31, Hv.x32, Hv.x33, Hv.x34, Hv.x35, Hv.x36, Hv.x39, Hv.a1, Hv.a2, Hv.k1, Hv.k4, Hv.k6, Hv.k7, Hv.k8, Hv.k9, Hv.k10, Hv.t0, Hv.t1, Hv.t2, Hv.t3, Hv.t4, Hv.t5, Hv.t6, Hv.t7, Hv.t8, Hv.t9, Hv.t10, Hv.t11, Hv.t12, Hv.t13, Hv.t14, Hv.t14', Hv.t15, Hv.t16, Hv.t17, Hv.t18, Hv.t19, Hv.t20, Hv.t21, Hv.t22, Hv.t23, Hv.t24, Hv.t25, Hv.t26, Hv.t28, Hv.r2, Hv.r3, Hv.r4, Hv.z1, Hv.z2, Hv.z3, Hv.mutDs_int, Hv.intsOf_int, Hv.startE, Hv.isNew, List.set, we1, we0]
theorem lo_PL {α : Type} {cs : List α} {bl al : Al} : lcO (.ok ((cs.map fun _ => PL).map D.v) bl) al = .ok (oL (cs.map fun _ => PL)) [] := l3 (mut_reps cs)
theorem rg_lenI {c : Int} (h : 0 ≤ c) : ((rgI 0 c).length : Int) = c := by
  obtain ⟨n, rfl⟩ := Int.eq_ofNat_of_zero_le h
  have := rgI_len n
  rw [List.length_map] at this
  omega
theorem law_ok (k : Nat) (ns : List Int) (hn : ns.length ≤ 63) : C (k + 6) 19 [IL ns] = .ok (.v (.bool true)) := by
  rw [c19]
  unfold B19
  obtain ⟨ts, ⟨ha, hl1, hl⟩, e⟩ := things (k + 1) ns
  obtain ⟨ds, dl, db, hd⟩ := numI (k + 4) (cl ns 5) 4 (by omega) (by omega)
  have hth : biR .list [.n (.list (ts.map th))] [1] = .ok (oL (ts.map th)) [] := by rw [list_n, mut_ths, fL_im (mut_ths ts)]; rfl
  have htt : ∀ p ∈ ts.map th, Tt p := fun p hp => by
    obtain ⟨t, ht, rfl⟩ := List.mem_map.mp hp
    obtain ⟨i, hi⟩ := List.getElem?_of_mem ht
    exact Tt.th (thI_of (ha i t hi))
  have hword : word (ts.map th) = "good" := by
    unfold word
    rw [alls_ok ha, List.length_map]
    simp only [Bool.true_eq_false, if_false]
    rw [if_pos ⟨hl1, by omega⟩]
  have i0 := ixv_o (ns := ds) (n := 2) (al := []) (show (0 : Int) ≤ 0 by omega) (show (0 : Int) < ds.length by omega)
  have i1 := ixv_o (ns := ds) (n := 2) (al := []) (show (0 : Int) ≤ 1 by omega) (show (1 : Int) < ds.length by omega)
  generalize gi ds 0 = y0 at i0
  generalize gi ds 1 = y1 at i1
  rw [t0]
  refine re_seq [some (.v (IL ns)), some (oL (ts.map th)), none, none, none, none, none, none, none, none, none] (by simp (config := { implicitDefEqProofs := false }) [Hv.s1, Hv.s2, Hv.s3, Hv.s4, Hv.s5, Hv.s6, Hv.s7, Hv.s8, Hv.s9, Hv.s10, Hv.s11, Hv.s12, Hv.s13, Hv.s14, Hv.s15, Hv.s16, Hv.s17, Hv.s18, Hv.s19, Hv.s20, Hv.s21, Hv.s22, Hv.s23, Hv.s24, Hv.s25, Hv.s26, Hv.s27, Hv.s28, Hv.s29, Hv.s30, Hv.s31, Hv.s32, Hv.s33, Hv.s34, Hv.s35, Hv.s36, Hv.s37, Hv.s38, Hv.v1, Hv.v2, Hv.v3, Hv.v4, Hv.v6, Hv.v7, Hv.v8, Hv.v9, Hv.v10, Hv.v11, Hv.e1, Hv.e2, Hv.e3, Hv.e4, Hv.e5, Hv.e6, Hv.e7, Hv.e8, Hv.e9, Hv.e10, Hv.e11, Hv.e12, Hv.e13, Hv.e14, Hv.e16, Hv.e17, Hv.e18, Hv.e19, Hv.e20, Hv.e21, Hv.e22, Hv.e23, Hv.e24, Hv.e25, Hv.e26, Hv.x1, Hv.x2, Hv.x6, Hv.x7, Hv.x8, Hv.x9, Hv.x12, Hv.x13, Hv.x14, Hv.x15, Hv.x16, Hv.x17, Hv.x21, Hv.x22, Hv.x23, Hv.x24, Hv.x25, Hv.x26, Hv.x27, Hv.x28, Hv.x29, Hv.x30, Hv.y0, Hv.y1, Hv.y2, Hv.y3, Hv.y4, Hv.y5, Hv.x31, Hv.x32, Hv.x33, Hv.x34, Hv.x35, Hv.x36, Hv.x39, Hv.a1, Hv.a2, Hv.k1, Hv.k4, Hv.k6, Hv.k7, Hv.k8, Hv.k9, Hv.k10, Hv.t0, Hv.t1, Hv.t2, Hv.t3, Hv.t4, Hv.t5, Hv.t6, Hv.t7, Hv.t8, Hv.t9, Hv.t10, Hv.t11, Hv.t12, Hv.t13, Hv.t14, Hv.t14', Hv.t15, Hv.t16, Hv.t17, Hv.t18, Hv.t19, Hv.t20, Hv.t21, Hv.t22, Hv.t23, Hv.t24, Hv.t25, Hv.t26, Hv.t28, Hv.r2, Hv.r3, Hv.r4, Hv.z1, Hv.z2, Hv.z3, Hv.mutDs_int, Hv.intsOf_int, Hv.startE, Hv.isNew, List.set, e, k3th]) ?_
  rw [t7, t0]
  refine re_seq [some (.v (IL ns)), some (oL (ts.map th)), some (oL (ds.map .int)), none, none, none, none, none, none, none, none] (by simp (config := { implicitDefEqProofs := false }) [Hv.s1, Hv.s2, Hv.s3, Hv.s4, Hv.s5, Hv.s6, Hv.s7, Hv.s8, Hv.s9, Hv.s10, Hv.s11, Hv.s12, Hv.s13, Hv.s14, Hv.s15, Hv.s16, Hv.s17, Hv.s18, Hv.s19, Hv.s20, Hv.s21, Hv.s22, Hv.s23, Hv.s24, Hv.s25, Hv.s26, Hv.s27, Hv.s28, Hv.s29, Hv.s30, Hv.s31, Hv.s32, Hv.s33, Hv.s34, Hv.s35, Hv.s36, Hv.s37, Hv.s38, Hv.v1, Hv.v2, Hv.v3, Hv.v4, Hv.v6, Hv.v7, Hv.v8, Hv.v9, Hv.v10, Hv.v11, Hv.e1, Hv.e2, Hv.e3, Hv.e4, Hv.e5, Hv.e6, Hv.e7, Hv.e8, Hv.e9, Hv.e10, Hv.e11, Hv.e12, Hv.e13, Hv.e14, Hv.e16, Hv.e17, Hv.e18, Hv.e19, Hv.e20, Hv.e21, Hv.e22, Hv.e23, Hv.e24, Hv.e25, Hv.e26, Hv.x1, Hv.x2, Hv.x6, Hv.x7, Hv.x8, Hv.x9, Hv.x12, Hv.x13, Hv.x14, Hv.x15, Hv.x16, Hv.x17, Hv.x21, Hv.x22, Hv.x23, Hv.x24, Hv.x25, Hv.x26, Hv.x27, Hv.x28, Hv.x29, Hv.x30, Hv.y0, Hv.y1, Hv.y2, Hv.y3, Hv.y4, Hv.y5, Hv.x31, Hv.x32, Hv.x33, Hv.x34, Hv.x35, Hv.x36, Hv.x39, Hv.a1, Hv.a2, Hv.k1, Hv.k4, Hv.k6, Hv.k7, Hv.k8, Hv.k9, Hv.k10, Hv.t0, Hv.t1, Hv.t2, Hv.t3, Hv.t4, Hv.t5, Hv.t6, Hv.t7, Hv.t8, Hv.t9, Hv.t10, Hv.t11, Hv.t12, Hv.t13, Hv.t14, Hv.t14', Hv.t15, Hv.t16, Hv.t17, Hv.t18, Hv.t19, Hv.t20, Hv.t21, Hv.t22, Hv.t23, Hv.t24, Hv.t25, Hv.t26, Hv.t28, Hv.r2, Hv.r3, Hv.r4, Hv.z1, Hv.z2, Hv.z3, Hv.mutDs_int, Hv.intsOf_int, Hv.startE, Hv.isNew, List.set, cellI (k + 4) ns 5 (by omega), k2i, hd, k3_n]) ?_
  rw [t7, t0]
  refine re_seq [some (.v (IL ns)), some (oL (ts.map th)), some (oL (ds.map .int)), some (oL (ts.map th)), none, none, none, none, none, none, none] (by simp (config := { implicitDefEqProofs := false }) [Hv.s1, Hv.s2, Hv.s3, Hv.s4, Hv.s5, Hv.s6, Hv.s7, Hv.s8, Hv.s9, Hv.s10, Hv.s11, Hv.s12, Hv.s13, Hv.s14, Hv.s15, Hv.s16, Hv.s17, Hv.s18, Hv.s19, Hv.s20, Hv.s21, Hv.s22, Hv.s23, Hv.s24, Hv.s25, Hv.s26, Hv.s27, Hv.s28, Hv.s29, Hv.s30, Hv.s31, Hv.s32, Hv.s33, Hv.s34, Hv.s35, Hv.s36, Hv.s37, Hv.s38, Hv.v1, Hv.v2, Hv.v3, Hv.v4, Hv.v6, Hv.v7, Hv.v8, Hv.v9, Hv.v10, Hv.v11, Hv.e1, Hv.e2, Hv.e3, Hv.e4, Hv.e5, Hv.e6, Hv.e7, Hv.e8, Hv.e9, Hv.e10, Hv.e11, Hv.e12, Hv.e13, Hv.e14, Hv.e16, Hv.e17, Hv.e18, Hv.e19, Hv.e20, Hv.e21, Hv.e22, Hv.e23, Hv.e24, Hv.e25, Hv.e26, Hv.x1, Hv.x2, Hv.x6, Hv.x7, Hv.x8, Hv.x9, Hv.x12, Hv.x13, Hv.x14, Hv.x15, Hv.x16, Hv.x17, Hv.x21, Hv.x22, Hv.x23, Hv.x24, Hv.x25, Hv.x26, Hv.x27, Hv.x28, Hv.x29, Hv.x30, Hv.y0, Hv.y1, Hv.y2, Hv.y3, Hv.y4, Hv.y5, Hv.x31, Hv.x32, Hv.x33, Hv.x34, Hv.x35, Hv.x36, Hv.x39, Hv.a1, Hv.a2, Hv.k1, Hv.k4, Hv.k6, Hv.k7, Hv.k8, Hv.k9, Hv.k10, Hv.t0, Hv.t1, Hv.t2, Hv.t3, Hv.t4, Hv.t5, Hv.t6, Hv.t7, Hv.t8, Hv.t9, Hv.t10, Hv.t11, Hv.t12, Hv.t13, Hv.t14, Hv.t14', Hv.t15, Hv.t16, Hv.t17, Hv.t18, Hv.t19, Hv.t20, Hv.t21, Hv.t22, Hv.t23, Hv.t24, Hv.t25, Hv.t26, Hv.t28, Hv.r2, Hv.r3, Hv.r4, Hv.z1, Hv.z2, Hv.z3, Hv.mutDs_int, Hv.intsOf_int, Hv.startE, Hv.isNew, List.set, mut_ths, hth]) ?_
  rw [t7, t0]
  have hsm : Sm 64 (.list (ts.map th)) := Sm.mono (Sm.list (n := 2) (ps := ts.map th) fun p hp => by
    obtain ⟨t, _, rfl⟩ := List.mem_map.mp hp
    refine Sm.tuple (n := 1) fun p hp => ?_
    simp only [List.mem_cons, List.not_mem_nil, or_false] at hp
    rcases hp with rfl | rfl | rfl | rfl | rfl | rfl
    · exact Sm.int _ _
    · exact Sm.str _ _
    · exact Sm.str _ _
    · exact Sm.tuple (n := 0) fun p hp => by
        obtain ⟨i, _, rfl⟩ := List.mem_map.mp hp
        exact Sm.int _ _
    · exact Sm.int _ _
    · exact Sm.qd _) (show 3 ≤ 64 by omega)
  have hw17 := w17 k (ts.map th) htt
  rw [hword] at hw17
  refine re_seq [some (.v (IL ns)), some (oL (ts.map th)), some (oL (ds.map .int)), some (oL (ts.map th)), none, none, none, none, none, none, none] (by
    simp (config := { implicitDefEqProofs := false }) [Hv.s1, Hv.s2, Hv.s3, Hv.s4, Hv.s5, Hv.s6, Hv.s7, Hv.s8, Hv.s9, Hv.s10, Hv.s11, Hv.s12, Hv.s13, Hv.s14, Hv.s15, Hv.s16, Hv.s17, Hv.s18, Hv.s19, Hv.s20, Hv.s21, Hv.s22, Hv.s23, Hv.s24, Hv.s25, Hv.s26, Hv.s27, Hv.s28, Hv.s29, Hv.s30, Hv.s31, Hv.s32, Hv.s33, Hv.s34, Hv.s35, Hv.s36, Hv.s37, Hv.s38, Hv.v1, Hv.v2, Hv.v3, Hv.v4, Hv.v6, Hv.v7, Hv.v8, Hv.v9, Hv.v10, Hv.v11, Hv.e1, Hv.e2, Hv.e3, Hv.e4, Hv.e5, Hv.e6, Hv.e7, Hv.e8, Hv.e9, Hv.e10, Hv.e11, Hv.e12, Hv.e13, Hv.e14, Hv.e16, Hv.e17, Hv.e18, Hv.e19, Hv.e20, Hv.e21, Hv.e22, Hv.e23, Hv.e24, Hv.e25, Hv.e26, Hv.x1, Hv.x2, Hv.x6, Hv.x7, Hv.x8, Hv.x9, Hv.x12, Hv.x13, Hv.x14, Hv.x15, Hv.x16, Hv.x17, Hv.x21, Hv.x22, Hv.x23, Hv.x24, Hv.x25, Hv.x26, Hv.x27, Hv.x28, Hv.x29, Hv.x30, Hv.y0, Hv.y1, Hv.y2, Hv.y3, Hv.y4, Hv.y5, Hv.x31, Hv.x32, Hv.x33, Hv.x34, Hv.x35, Hv.x36, Hv.x39, Hv.a1, Hv.a2, Hv.k1, Hv.k4, Hv.k6, Hv.k7, Hv.k8, Hv.k9, Hv.k10, Hv.t0, Hv.t1, Hv.t2, Hv.t3, Hv.t4, Hv.t5, Hv.t6, Hv.t7, Hv.t8, Hv.t9, Hv.t10, Hv.t11, Hv.t12, Hv.t13, Hv.t14, Hv.t14', Hv.t15, Hv.t16, Hv.t17, Hv.t18, Hv.t19, Hv.t20, Hv.t21, Hv.t22, Hv.t23, Hv.t24, Hv.t25, Hv.t26, Hv.t28, Hv.r2, Hv.r3, Hv.r4, Hv.z1, Hv.z2, Hv.z3, Hv.mutDs_int, Hv.intsOf_int, Hv.startE, Hv.isNew, List.set, mut_ths, hw17, k2s, cmp_nes, ne_self hsm]) ?_
  rw [t7, t0]
  have gl : 0 < (ts.length : Int) := by omega
  obtain ⟨at_, hat⟩ : ∃ a, a = y0 % (ts.length : Int) := ⟨_, rfl⟩
  have hr := mod_rng y0 gl
  rw [← hat] at hr
  refine re_seq [some (.v (IL ns)), some (oL (ts.map th)), some (oL (ds.map .int)), some (oL (ts.map th)), some (.v (.int at_)), none, none, none, none, none, none] (by
    simp (config := { implicitDefEqProofs := false }) [Hv.s1, Hv.s2, Hv.s3, Hv.s4, Hv.s5, Hv.s6, Hv.s7, Hv.s8, Hv.s9, Hv.s10, Hv.s11, Hv.s12, Hv.s13, Hv.s14, Hv.s15, Hv.s16, Hv.s17, Hv.s18, Hv.s19, Hv.s20, Hv.s21, Hv.s22, Hv.s23, Hv.s24, Hv.s25, Hv.s26, Hv.s27, Hv.s28, Hv.s29, Hv.s30, Hv.s31, Hv.s32, Hv.s33, Hv.s34, Hv.s35, Hv.s36, Hv.s37, Hv.s38, Hv.v1, Hv.v2, Hv.v3, Hv.v4, Hv.v6, Hv.v7, Hv.v8, Hv.v9, Hv.v10, Hv.v11, Hv.e1, Hv.e2, Hv.e3, Hv.e4, Hv.e5, Hv.e6, Hv.e7, Hv.e8, Hv.e9, Hv.e10, Hv.e11, Hv.e12, Hv.e13, Hv.e14, Hv.e16, Hv.e17, Hv.e18, Hv.e19, Hv.e20, Hv.e21, Hv.e22, Hv.e23, Hv.e24, Hv.e25, Hv.e26, Hv.x1, Hv.x2, Hv.x6, Hv.x7, Hv.x8, Hv.x9, Hv.x12, Hv.x13, Hv.x14, Hv.x15, Hv.x16, Hv.x17, Hv.x21, Hv.x22, Hv.x23, Hv.x24, Hv.x25, Hv.x26, Hv.x27, Hv.x28, Hv.x29, Hv.x30, Hv.y0, Hv.y1, Hv.y2, Hv.y3, Hv.y4, Hv.y5, Hv.x31, Hv.x32, Hv.x33, Hv.x34, Hv.x35, Hv.x36, Hv.x39, Hv.a1, Hv.a2, Hv.k1, Hv.k4, Hv.k6, Hv.k7, Hv.k8, Hv.k9, Hv.k10, Hv.t0, Hv.t1, Hv.t2, Hv.t3, Hv.t4, Hv.t5, Hv.t6, Hv.t7, Hv.t8, Hv.t9, Hv.t10, Hv.t11, Hv.t12, Hv.t13, Hv.t14, Hv.t14', Hv.t15, Hv.t16, Hv.t17, Hv.t18, Hv.t19, Hv.t20, Hv.t21, Hv.t22, Hv.t23, Hv.t24, Hv.t25, Hv.t26, Hv.t28, Hv.r2, Hv.r3, Hv.r4, Hv.z1, Hv.z2, Hv.z3, Hv.mutDs_int, Hv.intsOf_int, Hv.startE, Hv.isNew, List.set, mut_ths, i0, x5 gl, hat]) ?_
  rw [t7, t0]
  clear hat
  obtain ⟨j, rfl⟩ := Int.eq_ofNat_of_zero_le hr.1
  have hj : j < ts.length := by omega
  have hgt : ts[j]? = some ts[j] := by simp [hj]
  generalize ts[j] = t at hgt
  have hti := thI_of (ha j t hgt)
  have hgt' : (ts.map th)[((j : Int)).toNat]? = some (th t) := by simp [hgt]
  refine re_seqE (fun u : Nat → Option D => [some (.v (IL ns)), some (oL (ts.map th)), some (oL (ds.map .int)), some (oL (ts.map th)), some (.v (.int (j : Int))), u 5, none, none, u 8, none, none]) ?_ fun u => ?_
  · rw [t13]
    obtain ⟨os_, ho1, ho2, ho3⟩ := others_call (k + 4) (t := t) (j : Int) (ts.length : Int) []
    have e9 : seqR (evs (C (k + 5)) T.G [(.call 18 [(.ix (.var 1) (.var 4)), (.var 4), (.bi .len [(.var 1)])])] [some (.v (IL ns)), some (oL (ts.map th)), some (oL (ds.map .int)), some (oL (ts.map th)), some (.v (.int (j : Int))), none, none, none, none, none, none]) = .ok [.ol os_] [] := by
      simp (config := { implicitDefEqProofs := false }) [Hv.s1, Hv.s2, Hv.s3, Hv.s4, Hv.s5, Hv.s6, Hv.s7, Hv.s8, Hv.s9, Hv.s10, Hv.s11, Hv.s12, Hv.s13, Hv.s14, Hv.s15, Hv.s16, Hv.s17, Hv.s18, Hv.s19, Hv.s20, Hv.s21, Hv.s22, Hv.s23, Hv.s24, Hv.s25, Hv.s26, Hv.s27, Hv.s28, Hv.s29, Hv.s30, Hv.s31, Hv.s32, Hv.s33, Hv.s34, Hv.s35, Hv.s36, Hv.s37, Hv.s38, Hv.v1, Hv.v2, Hv.v3, Hv.v4, Hv.v6, Hv.v7, Hv.v8, Hv.v9, Hv.v10, Hv.v11, Hv.e1, Hv.e2, Hv.e3, Hv.e4, Hv.e5, Hv.e6, Hv.e7, Hv.e8, Hv.e9, Hv.e10, Hv.e11, Hv.e12, Hv.e13, Hv.e14, Hv.e16, Hv.e17, Hv.e18, Hv.e19, Hv.e20, Hv.e21, Hv.e22, Hv.e23, Hv.e24, Hv.e25, Hv.e26, Hv.x1, Hv.x2, Hv.x6, Hv.x7, Hv.x8, Hv.x9, Hv.x12, Hv.x13, Hv.x14, Hv.x15, Hv.x16, Hv.x17, Hv.x21, Hv.x22, Hv.x23, Hv.x24, Hv.x25, Hv.x26, Hv.x27, Hv.x28, Hv.x29, Hv.x30, Hv.y0, Hv.y1, Hv.y2, Hv.y3, Hv.y4, Hv.y5, Hv.x31, Hv.x32, Hv.x33, Hv.x34, Hv.x35, Hv.x36, Hv.x39, Hv.a1, Hv.a2, Hv.k1, Hv.k4, Hv.k6, Hv.k7, Hv.k8, Hv.k9, Hv.k10, Hv.t0, Hv.t1, Hv.t2, Hv.t3, Hv.t4, Hv.t5, Hv.t6, Hv.t7, Hv.t8, Hv.t9, Hv.t10, Hv.t11, Hv.t12, Hv.t13, Hv.t14, Hv.t14', Hv.t15, Hv.t16, Hv.t17, Hv.t18, Hv.t19, Hv.t20, Hv.t21, Hv.t22, Hv.t23, Hv.t24, Hv.t25, Hv.t26, Hv.t28, Hv.r2, Hv.r3, Hv.r4, Hv.z1, Hv.z2, Hv.z3, Hv.mutDs_int, Hv.intsOf_int, Hv.startE, Hv.isNew, List.set, ixq_o (show (0 : Int) ≤ (j : Int) by omega) hgt', mut_ths, ho1]
    rw [e9, s7, f_oln ho2 ho3]
    have key := go_chk (cs := os t (j : Int) (ts.length : Int)) (f := id) (st := fun p ρ => setT (.name 5) true p ρ) (body := blk (C (k + 5)) T.G Bz [(.asg 8 (.bin .add (.bin .add (.sl (.var 1) (some (.int (0))) (some (.var 4))) (.lst [(.var 5)])) (.sl (.var 1) (some (.bin .add (.var 4) (.int (1)))) none))), (.ife (.cmp .ne (.call 17 [(.var 8)]) (.call 16 [(.var 8)])) [(.ret (.bl false))] [])])
      (fun u : Nat → Option D => [some (.v (IL ns)), some (oL (ts.map th)), some (oL (ds.map .int)), some (oL (ts.map th)), some (.v (.int (j : Int))), u 5, none, none, u 8, none, none]) (fun _ => none) rfl fun u p hp => ⟨_, rfl, ?_⟩
    · rw [List.map_id] at key
      exact key
    · have hpt := os_ok hti _ _ p hp
      obtain ⟨pre, hpre⟩ : ∃ l, l = ts.take j := ⟨_, rfl⟩
      obtain ⟨post, hpost⟩ : ∃ l, l = ts.drop (j + 1) := ⟨_, rfl⟩
      have c1 : cutP (ts.map th) (some 0) (some (j : Int)) = pre.map th := by rw [cut_to, hpre, List.map_take]
      have c2 : cutP (ts.map th) (some ((j : Int) + 1)) none = post.map th := by rw [show (j : Int) + 1 = ((j + 1 : Nat) : Int) from rfl, cut_from, hpost, List.map_drop]
      have s1 : ∀ al, slR (.n (.list (ts.map th))) al (some 0) (some (j : Int)) = .ok (oL (pre.map th)) [] := fun al => by rw [sl_ln (by rw [c1]; exact mut_ths _), c1]
      have s2 : ∀ al, slR (.n (.list (ts.map th))) al (some ((j : Int) + 1)) none = .ok (oL (post.map th)) [] := fun al => by rw [sl_ln (by rw [c2]; exact mut_ths _), c2]
      have l1 : pre.length ≤ 14 := by rw [hpre]; simp; omega
      have l2 : post.length ≤ 14 := by rw [hpost]; simp; omega
      have k1 := cat_lstN (ps := pre.map th) (qs := [p]) (by simp; omega)
      have k2 := cat_lstN (ps := pre.map th ++ [p]) (qs := post.map th) (by simp; omega)
      have hpr : ∀ q ∈ pre.map th, Tt q := fun q hq => htt q (by rw [hpre, List.map_take] at hq; exact List.mem_of_mem_take hq)
      have hpo : ∀ q ∈ post.map th, Tt q := fun q hq => htt q (by rw [hpost, List.map_drop] at hq; exact List.mem_of_mem_drop hq)
      have hall : ∀ q ∈ pre.map th ++ [p] ++ post.map th, Tt q := fun q hq => by
        rcases List.mem_append.mp hq with hq | hq
        · rcases List.mem_append.mp hq with hq | hq
          · exact hpr q hq
          · rw [List.mem_singleton.mp hq]; exact hpt
        · exact hpo q hq
      obtain ⟨a1, a2⟩ := agree k (pre.map th ++ [p] ++ post.map th) hall (by simp; omega)
      have m1 := mut_ths pre
      have m2 := mut_ths post
      have n1 : (isNew (oL (pre.map th)) && isNew (fL [p])) = true := by rw [isNew_oL, m1, isNew_fL]; rfl
      have n2 : (isNew (fL (pre.map th ++ [p])) && isNew (oL (post.map th))) = true := by rw [isNew_oL, m2, isNew_fL]; rfl
      generalize pre.map th ++ [p] ++ post.map th = ch_ at k2 a1 a2
      generalize pre.map th ++ [p] = half at k1 k2 n2
      generalize pre.map th = prd at s1 k1 n1
      generalize post.map th = pod at s2 k2 n2
      have he : (ev (C (k + 5)) T.G (.bin .add (.bin .add (.sl (.var 1) (some (.int (0))) (some (.var 4))) (.lst [(.var 5)])) (.sl (.var 1) (some (.bin .add (.var 4) (.int (1)))) none)) [some (.v (IL ns)), some (oL (ts.map th)), some (oL (ds.map .int)), some (oL (ts.map th)), some (.v (.int (j : Int))), some (fz true p), none, none, u 8, none, none]).e = .ok (fL ch_) [] := by
        simp (config := { implicitDefEqProofs := false }) [Hv.s1, Hv.s2, Hv.s3, Hv.s4, Hv.s5, Hv.s6, Hv.s7, Hv.s8, Hv.s9, Hv.s10, Hv.s11, Hv.s12, Hv.s13, Hv.s14, Hv.s15, Hv.s16, Hv.s17, Hv.s18, Hv.s19, Hv.s20, Hv.s21, Hv.s22, Hv.s23, Hv.s24, Hv.s25, Hv.s26, Hv.s27, Hv.s28, Hv.s29, Hv.s30, Hv.s31, Hv.s32, Hv.s33, Hv.s34, Hv.s35, Hv.s36, Hv.s37, Hv.s38, Hv.v1, Hv.v2, Hv.v3, Hv.v4, Hv.v6, Hv.v7, Hv.v8, Hv.v9, Hv.v10, Hv.v11, Hv.e1, Hv.e2, Hv.e3, Hv.e4, Hv.e5, Hv.e6, Hv.e7, Hv.e8, Hv.e9, Hv.e10, Hv.e11, Hv.e12, Hv.e13, Hv.e14, Hv.e16, Hv.e17, Hv.e18, Hv.e19, Hv.e20, Hv.e21, Hv.e22, Hv.e23, Hv.e24, Hv.e25, Hv.e26, Hv.x1, Hv.x2, Hv.x6, Hv.x7, Hv.x8, Hv.x9, Hv.x12, Hv.x13, Hv.x14, Hv.x15, Hv.x16, Hv.x17, Hv.x21, Hv.x22, Hv.x23, Hv.x24, Hv.x25, Hv.x26, Hv.x27, Hv.x28, Hv.x29, Hv.x30, Hv.y0, Hv.y1, Hv.y2, Hv.y3, Hv.y4, Hv.y5, Hv.x31, Hv.x32, Hv.x33, Hv.x34, Hv.x35, Hv.x36, Hv.x39, Hv.a1, Hv.a2, Hv.k1, Hv.k4, Hv.k6, Hv.k7, Hv.k8, Hv.k9, Hv.k10, Hv.t0, Hv.t1, Hv.t2, Hv.t3, Hv.t4, Hv.t5, Hv.t6, Hv.t7, Hv.t8, Hv.t9, Hv.t10, Hv.t11, Hv.t12, Hv.t13, Hv.t14, Hv.t14', Hv.t15, Hv.t16, Hv.t17, Hv.t18, Hv.t19, Hv.t20, Hv.t21, Hv.t22, Hv.t23, Hv.t24, Hv.t25, Hv.t26, Hv.t28, Hv.r2, Hv.r3, Hv.r4, Hv.z1, Hv.z2, Hv.z3, Hv.mutDs_int, Hv.intsOf_int, Hv.startE, Hv.isNew, List.set, mut_ths, s1, s2, var_fz, zfl, dat2_fL, dat_fL, n1, n2, k1, k2]
      rw [t7, t0]
      refine nx_seq [some (.v (IL ns)), some (oL (ts.map th)), some (oL (ds.map .int)), some (oL (ts.map th)), some (.v (.int (j : Int))), some (fz true p), none, none, some (fL ch_), none, none] ?_ ?_
      · show sv _ _ _ (.asg 8 _) [some (.v (IL ns)), some (oL (ts.map th)), some (oL (ds.map .int)), some (oL (ts.map th)), some (.v (.int (j : Int))), some (fz true p), none, none, u 8, none, none] = _
        rw [t8, he]
        rfl
      rw [t7, t0]
      refine nx_seq [some (.v (IL ns)), some (oL (ts.map th)), some (oL (ds.map .int)), some (oL (ts.map th)), some (.v (.int (j : Int))), some (fz true p), none, none, some (fL ch_), none, none] (by
        simp (config := { implicitDefEqProofs := false }) [Hv.s1, Hv.s2, Hv.s3, Hv.s4, Hv.s5, Hv.s6, Hv.s7, Hv.s8, Hv.s9, Hv.s10, Hv.s11, Hv.s12, Hv.s13, Hv.s14, Hv.s15, Hv.s16, Hv.s17, Hv.s18, Hv.s19, Hv.s20, Hv.s21, Hv.s22, Hv.s23, Hv.s24, Hv.s25, Hv.s26, Hv.s27, Hv.s28, Hv.s29, Hv.s30, Hv.s31, Hv.s32, Hv.s33, Hv.s34, Hv.s35, Hv.s36, Hv.s37, Hv.s38, Hv.v1, Hv.v2, Hv.v3, Hv.v4, Hv.v6, Hv.v7, Hv.v8, Hv.v9, Hv.v10, Hv.v11, Hv.e1, Hv.e2, Hv.e3, Hv.e4, Hv.e5, Hv.e6, Hv.e7, Hv.e8, Hv.e9, Hv.e10, Hv.e11, Hv.e12, Hv.e13, Hv.e14, Hv.e16, Hv.e17, Hv.e18, Hv.e19, Hv.e20, Hv.e21, Hv.e22, Hv.e23, Hv.e24, Hv.e25, Hv.e26, Hv.x1, Hv.x2, Hv.x6, Hv.x7, Hv.x8, Hv.x9, Hv.x12, Hv.x13, Hv.x14, Hv.x15, Hv.x16, Hv.x17, Hv.x21, Hv.x22, Hv.x23, Hv.x24, Hv.x25, Hv.x26, Hv.x27, Hv.x28, Hv.x29, Hv.x30, Hv.y0, Hv.y1, Hv.y2, Hv.y3, Hv.y4, Hv.y5, Hv.x31, Hv.x32, Hv.x33, Hv.x34, Hv.x35, Hv.x36, Hv.x39, Hv.a1, Hv.a2, Hv.k1, Hv.k4, Hv.k6, Hv.k7, Hv.k8, Hv.k9, Hv.k10, Hv.t0, Hv.t1, Hv.t2, Hv.t3, Hv.t4, Hv.t5, Hv.t6, Hv.t7, Hv.t8, Hv.t9, Hv.t10, Hv.t11, Hv.t12, Hv.t13, Hv.t14, Hv.t14', Hv.t15, Hv.t16, Hv.t17, Hv.t18, Hv.t19, Hv.t20, Hv.t21, Hv.t22, Hv.t23, Hv.t24, Hv.t25, Hv.t26, Hv.t28, Hv.r2, Hv.r3, Hv.r4, Hv.z1, Hv.z2, Hv.z3, Hv.mutDs_int, Hv.intsOf_int, Hv.startE, Hv.isNew, List.set, var_fL, a1, a2, k2s, cmp_nes]) ?_
      rw [t7, t1, nx1]
      exact ⟨fun n => match n with | 5 => some (fz true p) | _ => some (fL ch_), rfl⟩
  rw [t7, t0]
  refine re_seq [some (.v (IL ns)), some (oL (ts.map th)), some (oL (ds.map .int)), some (oL (ts.map th)), some (.v (.int (j : Int))), u 5, some (.v PL), none, u 8, none, none] (by
    simp (config := { implicitDefEqProofs := false }) [Hv.s1, Hv.s2, Hv.s3, Hv.s4, Hv.s5, Hv.s6, Hv.s7, Hv.s8, Hv.s9, Hv.s10, Hv.s11, Hv.s12, Hv.s13, Hv.s14, Hv.s15, Hv.s16, Hv.s17, Hv.s18, Hv.s19, Hv.s20, Hv.s21, Hv.s22, Hv.s23, Hv.s24, Hv.s25, Hv.s26, Hv.s27, Hv.s28, Hv.s29, Hv.s30, Hv.s31, Hv.s32, Hv.s33, Hv.s34, Hv.s35, Hv.s36, Hv.s37, Hv.s38, Hv.v1, Hv.v2, Hv.v3, Hv.v4, Hv.v6, Hv.v7, Hv.v8, Hv.v9, Hv.v10, Hv.v11, Hv.e1, Hv.e2, Hv.e3, Hv.e4, Hv.e5, Hv.e6, Hv.e7, Hv.e8, Hv.e9, Hv.e10, Hv.e11, Hv.e12, Hv.e13, Hv.e14, Hv.e16, Hv.e17, Hv.e18, Hv.e19, Hv.e20, Hv.e21, Hv.e22, Hv.e23, Hv.e24, Hv.e25, Hv.e26, Hv.x1, Hv.x2, Hv.x6, Hv.x7, Hv.x8, Hv.x9, Hv.x12, Hv.x13, Hv.x14, Hv.x15, Hv.x16, Hv.x17, Hv.x21, Hv.x22, Hv.x23, Hv.x24, Hv.x25, Hv.x26, Hv.x27, Hv.x28, Hv.x29, Hv.x30, Hv.y0, Hv.y1, Hv.y2, Hv.y3, Hv.y4, Hv.y5, Hv.x31, Hv.x32, Hv.x33, Hv.x34, Hv.x35, Hv.x36, Hv.x39, Hv.a1, Hv.a2, Hv.k1, Hv.k4, Hv.k6, Hv.k7, Hv.k8, Hv.k9, Hv.k10, Hv.t0, Hv.t1, Hv.t2, Hv.t3, Hv.t4, Hv.t5, Hv.t6, Hv.t7, Hv.t8, Hv.t9, Hv.t10, Hv.t11, Hv.t12, Hv.t13, Hv.t14, Hv.t14', Hv.t15, Hv.t16, Hv.t17, Hv.t18, Hv.t19, Hv.t20, Hv.t21, Hv.t22, Hv.t23, Hv.t24, Hv.t25, Hv.t26, Hv.t28, Hv.r2, Hv.r3, Hv.r4, Hv.z1, Hv.z2, Hv.z3, Hv.mutDs_int, Hv.intsOf_int, Hv.startE, Hv.isNew, List.set, tupD, isFz, mkT, isNews, isNew, md1, md3, md5, md6, mutDs]) ?_
  rw [t7, t0]
  have g40 : (0 : Int) < 40 := by decide
  refine re_seqE (fun w : Nat → Option D => [some (.v (IL ns)), some (oL (ts.map th)), some (oL (ds.map .int)), some (oL (ts.map th)), some (.v (.int (j : Int))), u 5, some (.v PL), w 7, u 8, w 9, none]) ?_ fun w => ?_
  · rw [t13]
    have e9 : seqR (evs (C (k + 5)) T.G [(.lst [(.int (0)), (.int (1)), (.int (59)), (.int (60)), (.int (61)), (.bin .add (.int (62)) (.bin .mod (.ix (.var 2) (.int (1))) (.int (40))))])] [some (.v (IL ns)), some (oL (ts.map th)), some (oL (ds.map .int)), some (oL (ts.map th)), some (.v (.int (j : Int))), u 5, some (.v PL), none, u 8, none, none]) = .ok [oL ([0, 1, 59, 60, 61, 62 + y1 % 40].map .int)] [] := by
      simp (config := { implicitDefEqProofs := false }) [Hv.s1, Hv.s2, Hv.s3, Hv.s4, Hv.s5, Hv.s6, Hv.s7, Hv.s8, Hv.s9, Hv.s10, Hv.s11, Hv.s12, Hv.s13, Hv.s14, Hv.s15, Hv.s16, Hv.s17, Hv.s18, Hv.s19, Hv.s20, Hv.s21, Hv.s22, Hv.s23, Hv.s24, Hv.s25, Hv.s26, Hv.s27, Hv.s28, Hv.s29, Hv.s30, Hv.s31, Hv.s32, Hv.s33, Hv.s34, Hv.s35, Hv.s36, Hv.s37, Hv.s38, Hv.v1, Hv.v2, Hv.v3, Hv.v4, Hv.v6, Hv.v7, Hv.v8, Hv.v9, Hv.v10, Hv.v11, Hv.e1, Hv.e2, Hv.e3, Hv.e4, Hv.e5, Hv.e6, Hv.e7, Hv.e8, Hv.e9, Hv.e10, Hv.e11, Hv.e12, Hv.e13, Hv.e14, Hv.e16, Hv.e17, Hv.e18, Hv.e19, Hv.e20, Hv.e21, Hv.e22, Hv.e23, Hv.e24, Hv.e25, Hv.e26, Hv.x1, Hv.x2, Hv.x6, Hv.x7, Hv.x8, Hv.x9, Hv.x12, Hv.x13, Hv.x14, Hv.x15, Hv.x16, Hv.x17, Hv.x21, Hv.x22, Hv.x23, Hv.x24, Hv.x25, Hv.x26, Hv.x27, Hv.x28, Hv.x29, Hv.x30, Hv.y0, Hv.y1, Hv.y2, Hv.y3, Hv.y4, Hv.y5, Hv.x31, Hv.x32, Hv.x33, Hv.x34, Hv.x35, Hv.x36, Hv.x39, Hv.a1, Hv.a2, Hv.k1, Hv.k4, Hv.k6, Hv.k7, Hv.k8, Hv.k9, Hv.k10, Hv.t0, Hv.t1, Hv.t2, Hv.t3, Hv.t4, Hv.t5, Hv.t6, Hv.t7, Hv.t8, Hv.t9, Hv.t10, Hv.t11, Hv.t12, Hv.t13, Hv.t14, Hv.t14', Hv.t15, Hv.t16, Hv.t17, Hv.t18, Hv.t19, Hv.t20, Hv.t21, Hv.t22, Hv.t23, Hv.t24, Hv.t25, Hv.t26, Hv.t28, Hv.r2, Hv.r3, Hv.r4, Hv.z1, Hv.z2, Hv.z3, Hv.mutDs_int, Hv.intsOf_int, Hv.startE, Hv.isNew, List.set, i1, x5 g40, zl6]
    rw [e9, s7, f4 (mutDs_int _)]
    refine go_chk (fun w : Nat → Option D => [some (.v (IL ns)), some (oL (ts.map th)), some (oL (ds.map .int)), some (oL (ts.map th)), some (.v (.int (j : Int))), u 5, some (.v PL), w 7, u 8, w 9, none]) (fun _ => none) rfl fun w c hc => ⟨_, rfl, ?_⟩
    have hcr : 0 ≤ c ∧ c ≤ 102 := by
      have := mod_rng y1 g40
      simp only [List.mem_cons, List.not_mem_nil, or_false] at hc
      rcases hc with rfl | rfl | rfl | rfl | rfl | rfl <;> omega
    have hcl := rg_lenI hcr.1
    have hlc := fun w v0 v1 v2 v3 v4 v5 v7 v8 v9 v10 => lc_PL (C (k + 5)) w c v0 v1 v2 v3 v4 v5 v7 v8 v9 v10
    obtain ⟨rs, hrs⟩ : ∃ rs, rs = (rgI 0 c).map fun _ => PL := ⟨_, rfl⟩
    have hlo := fun bl al => lo_PL (cs := rgI 0 c) (bl := bl) (al := al)
    have hrm : mutDs rs = false := by rw [hrs]; exact mut_reps _
    have hrt : ∀ q ∈ rs, Tt q := fun q hq => by
      rw [hrs] at hq
      obtain ⟨i, _, rfl⟩ := List.mem_map.mp hq
      exact PL_tt
    have hrl : rs.length ≤ 1000 := by rw [hrs, List.length_map]; omega
    rw [← hrs] at hlo
    simp only [← hrs] at hlc
    obtain ⟨a1, a2⟩ := agree k rs hrt hrl
    rw [v6, t7, t0]
    refine nx_seq [some (.v (IL ns)), some (oL (ts.map th)), some (oL (ds.map .int)), some (oL (ts.map th)), some (.v (.int (j : Int))), u 5, some (.v PL), some (.v (.int c)), u 8, some (oL rs), none] (by
      simp (config := { implicitDefEqProofs := false }) [Hv.s1, Hv.s2, Hv.s3, Hv.s4, Hv.s5, Hv.s6, Hv.s7, Hv.s8, Hv.s9, Hv.s10, Hv.s11, Hv.s12, Hv.s13, Hv.s14, Hv.s15, Hv.s16, Hv.s17, Hv.s18, Hv.s19, Hv.s20, Hv.s21, Hv.s22, Hv.s23, Hv.s24, Hv.s25, Hv.s26, Hv.s27, Hv.s28, Hv.s29, Hv.s30, Hv.s31, Hv.s32, Hv.s33, Hv.s34, Hv.s35, Hv.s36, Hv.s37, Hv.s38, Hv.v1, Hv.v2, Hv.v3, Hv.v4, Hv.v6, Hv.v7, Hv.v8, Hv.v9, Hv.v10, Hv.v11, Hv.e1, Hv.e2, Hv.e3, Hv.e4, Hv.e5, Hv.e6, Hv.e7, Hv.e8, Hv.e9, Hv.e10, Hv.e11, Hv.e12, Hv.e13, Hv.e14, Hv.e16, Hv.e17, Hv.e18, Hv.e19, Hv.e20, Hv.e21, Hv.e22, Hv.e23, Hv.e24, Hv.e25, Hv.e26, Hv.x1, Hv.x2, Hv.x6, Hv.x7, Hv.x8, Hv.x9, Hv.x12, Hv.x13, Hv.x14, Hv.x15, Hv.x16, Hv.x17, Hv.x21, Hv.x22, Hv.x23, Hv.x24, Hv.x25, Hv.x26, Hv.x27, Hv.x28, Hv.x29, Hv.x30, Hv.y0, Hv.y1, Hv.y2, Hv.y3, Hv.y4, Hv.y5, Hv.x31, Hv.x32, Hv.x33, Hv.x34, Hv.x35, Hv.x36, Hv.x39, Hv.a1, Hv.a2, Hv.k1, Hv.k4, Hv.k6, Hv.k7, Hv.k8, Hv.k9, Hv.k10, Hv.t0, Hv.t1, Hv.t2, Hv.t3, Hv.t4, Hv.t5, Hv.t6, Hv.t7, Hv.t8, Hv.t9, Hv.t10, Hv.t11, Hv.t12, Hv.t13, Hv.t14, Hv.t14', Hv.t15, Hv.t16, Hv.t17, Hv.t18, Hv.t19, Hv.t20, Hv.t21, Hv.t22, Hv.t23, Hv.t24, Hv.t25, Hv.t26, Hv.t28, Hv.r2, Hv.r3, Hv.r4, Hv.z1, Hv.z2, Hv.z3, Hv.mutDs_int, Hv.intsOf_int, Hv.startE, Hv.isNew, List.set, l1i hcr.1 (show c ≤ 16777216 by omega), hlc, hlo]) ?_
    rw [t7, t0]
    refine nx_seq [some (.v (IL ns)), some (oL (ts.map th)), some (oL (ds.map .int)), some (oL (ts.map th)), some (.v (.int (j : Int))), u 5, some (.v PL), some (.v (.int c)), u 8, some (oL rs), none] (by
      simp (config := { implicitDefEqProofs := false }) [Hv.s1, Hv.s2, Hv.s3, Hv.s4, Hv.s5, Hv.s6, Hv.s7, Hv.s8, Hv.s9, Hv.s10, Hv.s11, Hv.s12, Hv.s13, Hv.s14, Hv.s15, Hv.s16, Hv.s17, Hv.s18, Hv.s19, Hv.s20, Hv.s21, Hv.s22, Hv.s23, Hv.s24, Hv.s25, Hv.s26, Hv.s27, Hv.s28, Hv.s29, Hv.s30, Hv.s31, Hv.s32, Hv.s33, Hv.s34, Hv.s35, Hv.s36, Hv.s37, Hv.s38, Hv.v1, Hv.v2, Hv.v3, Hv.v4, Hv.v6, Hv.v7, Hv.v8, Hv.v9, Hv.v10, Hv.v11, Hv.e1, Hv.e2, Hv.e3, Hv.e4, Hv.e5, Hv.e6, Hv.e7, Hv.e8, Hv.e9, Hv.e10, Hv.e11, Hv.e12, Hv.e13, Hv.e14, Hv.e16, Hv.e17, Hv.e18, Hv.e19, Hv.e20, Hv.e21, Hv.e22, Hv.e23, Hv.e24, Hv.e25, Hv.e26, Hv.x1, Hv.x2, Hv.x6, Hv.x7, Hv.x8, Hv.x9, Hv.x12, Hv.x13, Hv.x14, Hv.x15, Hv.x16, Hv.x17, Hv.x21, Hv.x22, Hv.x23, Hv.x24, Hv.x25, Hv.x26, Hv.x27, Hv.x28, Hv.x29, Hv.x30, Hv.y0, Hv.y1, Hv.y2, Hv.y3, Hv.y4, Hv.y5, Hv.x31, Hv.x32, Hv.x33, Hv.x34, Hv.x35, Hv.x36, Hv.x39, Hv.a1, Hv.a2, Hv.k1, Hv.k4, Hv.k6, Hv.k7, Hv.k8, Hv.k9, Hv.k10, Hv.t0, Hv.t1, Hv.t2, Hv.t3, Hv.t4, Hv.t5, Hv.t6, Hv.t7, Hv.t8, Hv.t9, Hv.t10, Hv.t11, Hv.t12, Hv.t13, Hv.t14, Hv.t14', Hv.t15, Hv.t16, Hv.t17, Hv.t18, Hv.t19, Hv.t20, Hv.t21, Hv.t22, Hv.t23, Hv.t24, Hv.t25, Hv.t26, Hv.t28, Hv.r2, Hv.r3, Hv.r4, Hv.z1, Hv.z2, Hv.z3, Hv.mutDs_int, Hv.intsOf_int, Hv.startE, Hv.isNew, List.set, hrm, a1, a2, k2s, cmp_nes]) ?_
    rw [t7, t1, nx1]
    exact ⟨fun n => match n with | 7 => some (.v (.int c)) | _ => some (oL rs), rfl⟩
  rw [t7, t0]
  obtain ⟨rs, hrs⟩ : ∃ rs, rs = (rgI 0 61).map fun _ => PL := ⟨_, rfl⟩
  have hlc := fun w v0 v1 v2 v3 v4 v5 v7 v8 v9 v10 => lc_PL (C (k + 5)) w 61 v0 v1 v2 v3 v4 v5 v7 v8 v9 v10
  have hlo := fun bl al => lo_PL (cs := rgI 0 61) (bl := bl) (al := al)
  have hrm : mutDs rs = false := by rw [hrs]; exact mut_reps _
  have hrt : ∀ q ∈ rs, Tt q := fun q hq => by
    rw [hrs] at hq
    obtain ⟨i, _, rfl⟩ := List.mem_map.mp hq
    exact PL_tt
  have hrl : rs.length = 61 := by
    have := rg_lenI (show (0 : Int) ≤ 61 by omega)
    rw [hrs, List.length_map]; omega
  rw [← hrs] at hlo
  simp only [← hrs] at hlc
  have hwf := w17 k (rs ++ [.tuple []]) fun q hq => by
    rcases List.mem_append.mp hq with hq | hq
    · exact hrt q hq
    · rw [List.mem_singleton.mp hq]
      exact Tt.no fun a b c d e f e' => by injection e' with e'; cases e'
  have hthing : word (rs ++ [.tuple []]) = "thing" := by
    unfold word
    rw [if_pos]
    unfold alls
    refine List.all_eq_false.mpr ⟨(.tuple [], 61), ?_, by simp [thZ, thB]⟩
    rw [List.mem_zipIdx_iff_getElem?]
    simp [List.getElem?_append, hrl]
  rw [hthing] at hwf
  have hcat : ∀ w al, binP .add w al (.list rs) (.list [.tuple []]) = .ok (oL (rs ++ [.tuple []])) [] := fun w al => cat_lst (by rw [mutDs_app, hrm]; rfl) (by simp; omega)
  have hm2 : mutDs (rs ++ [.tuple []]) = false := by rw [mutDs_app, hrm]; rfl
  generalize rs ++ [.tuple []] = fin_ at hcat hwf hm2
  have hl61 : ∀ al (f : List PyData → Bool → Hv.Rl), lcI .range [.v (.int 61)] al f = lcO (f ((rgI 0 61).map .int) true) [] := fun al f => l1i (by omega) (by omega)
  simp (config := { implicitDefEqProofs := false }) [Hv.s1, Hv.s2, Hv.s3, Hv.s4, Hv.s5, Hv.s6, Hv.s7, Hv.s8, Hv.s9, Hv.s10, Hv.s11, Hv.s12, Hv.s13, Hv.s14, Hv.s15, Hv.s16, Hv.s17, Hv.s18, Hv.s19, Hv.s20, Hv.s21, Hv.s22, Hv.s23, Hv.s24, Hv.s25, Hv.s26, Hv.s27, Hv.s28, Hv.s29, Hv.s30, Hv.s31, Hv.s32, Hv.s33, Hv.s34, Hv.s35, Hv.s36, Hv.s37, Hv.s38, Hv.v1, Hv.v2, Hv.v3, Hv.v4, Hv.v6, Hv.v7, Hv.v8, Hv.v9, Hv.v10, Hv.v11, Hv.e1, Hv.e2, Hv.e3, Hv.e4, Hv.e5, Hv.e6, Hv.e7, Hv.e8, Hv.e9, Hv.e10, Hv.e11, Hv.e12, Hv.e13, Hv.e14, Hv.e16, Hv.e17, Hv.e18, Hv.e19, Hv.e20, Hv.e21, Hv.e22, Hv.e23, Hv.e24, Hv.e25, Hv.e26, Hv.x1, Hv.x2, Hv.x6, Hv.x7, Hv.x8, Hv.x9, Hv.x12, Hv.x13, Hv.x14, Hv.x15, Hv.x16, Hv.x17, Hv.x21, Hv.x22, Hv.x23, Hv.x24, Hv.x25, Hv.x26, Hv.x27, Hv.x28, Hv.x29, Hv.x30, Hv.y0, Hv.y1, Hv.y2, Hv.y3, Hv.y4, Hv.y5, Hv.x31, Hv.x32, Hv.x33, Hv.x34, Hv.x35, Hv.x36, Hv.x39, Hv.a1, Hv.a2, Hv.k1, Hv.k4, Hv.k6, Hv.k7, Hv.k8, Hv.k9, Hv.k10, Hv.t0, Hv.t1, Hv.t2, Hv.t3, Hv.t4, Hv.t5, Hv.t6, Hv.t7, Hv.t8, Hv.t9, Hv.t10, Hv.t11, Hv.t12, Hv.t13, Hv.t14, Hv.t14', Hv.t15, Hv.t16, Hv.t17, Hv.t18, Hv.t19, Hv.t20, Hv.t21, Hv.t22, Hv.t23, Hv.t24, Hv.t25, Hv.t26, Hv.t28, Hv.r2, Hv.r3, Hv.r4, Hv.z1, Hv.z2, Hv.z3, Hv.mutDs_int, Hv.intsOf_int, Hv.startE, Hv.isNew, List.set, hl61, hlc, hlo, tupD, isFz, mkT, isNews, isNew, hcat, hwf, k2s, cmp_eqs, hrm, hm2, data_oL]
end Law

namespace Law
open PySem PySem.Spec PyProof.Rows L2 Hv
theorem ok : T.ok = true := by decide +kernel
theorem at_ : T.at_ = true := by decide +kernel
theorem b0 (f : Fd) (h : T.T[0]? = some f) : BindOk f := by
  cases h
  exact fun _ _ _ _ _ _ us hl => match us, hl with | [_], _ => rfl
theorem b1 (f : Fd) (h : T.T[1]? = some f) : BindOk f := by
  cases h
  exact fun _ _ _ _ _ _ us hl => match us, hl with | [_], _ => rfl
theorem b2 (f : Fd) (h : T.T[2]? = some f) : BindOk f := by
  cases h
  exact fun _ _ _ _ _ _ us hl => match us, hl with | [_], _ => rfl
theorem b3 (f : Fd) (h : T.T[3]? = some f) : BindOk f := by
  cases h
  exact fun _ _ _ _ _ _ us hl => match us, hl with | [_, _], _ => rfl
theorem b4 (f : Fd) (h : T.T[4]? = some f) : BindOk f := by
  cases h
  exact fun _ _ _ _ _ _ us hl => match us, hl with | [_, _], _ => rfl
theorem b5 (f : Fd) (h : T.T[5]? = some f) : BindOk f := by
  cases h
  exact fun _ _ _ _ _ _ us hl => match us, hl with | [_, _, _], _ => rfl
theorem b6 (f : Fd) (h : T.T[6]? = some f) : BindOk f := by
  cases h
  exact fun _ _ _ _ _ _ us hl => match us, hl with | [_], _ => rfl
theorem b7 (f : Fd) (h : T.T[7]? = some f) : BindOk f := by
  cases h
  exact fun _ _ _ _ _ _ us hl => match us, hl with | [_, _], _ => rfl
theorem b8 (f : Fd) (h : T.T[8]? = some f) : BindOk f := by
  cases h
  exact fun _ _ _ _ _ _ us hl => match us, hl with | [_, _, _], _ => rfl
theorem b9 (f : Fd) (h : T.T[9]? = some f) : BindOk f := by
  cases h
  exact fun _ _ _ _ _ _ us hl => match us, hl with | [_, _, _], _ => rfl
theorem b10 (f : Fd) (h : T.T[10]? = some f) : BindOk f := by
  cases h
  exact fun _ _ _ _ _ _ us hl => match us, hl with | [_, _], _ => rfl
theorem b11 (f : Fd) (h : T.T[11]? = some f) : BindOk f := by
  cases h
  exact fun _ _ _ _ _ _ us hl => match us, hl with | [_], _ => rfl
theorem b12 (f : Fd) (h : T.T[12]? = some f) : BindOk f := by
  cases h
  exact fun _ _ _ _ _ _ us hl => match us, hl with | [_, _, _], _ => rfl
theorem b13 (f : Fd) (h : T.T[13]? = some f) : BindOk f := by
  cases h
  exact fun _ _ _ _ _ _ us hl => match us, hl with | [_, _, _], _ => rfl
theorem b14 (f : Fd) (h : T.T[14]? = some f) : BindOk f := by
  cases h
  exact fun _ _ _ _ _ _ us hl => match us, hl with | [_, _, _], _ => rfl
theorem b15 (f : Fd) (h : T.T[15]? = some f) : BindOk f := by
  cases h
  exact fun _ _ _ _ _ _ us hl => match us, hl with | [_, _, _], _ => rfl
theorem b16 (f : Fd) (h : T.T[16]? = some f) : BindOk f := by
  cases h
  exact fun _ _ _ _ _ _ us hl => match us, hl with | [_], _ => rfl
theorem b17 (f : Fd) (h : T.T[17]? = some f) : BindOk f := by
  cases h
  exact fun _ _ _ _ _ _ us hl => match us, hl with | [_], _ => rfl
theorem b18 (f : Fd) (h : T.T[18]? = some f) : BindOk f := by
  cases h
  exact fun _ _ _ _ _ _ us hl => match us, hl with | [_, _, _], _ => rfl
theorem b19 (f : Fd) (h : T.T[19]? = some f) : BindOk f := by
  cases h
  exact fun _ _ _ _ _ _ us hl => match us, hl with | [_], _ => rfl
theorem bind : ∀ f ∈ T.T, BindOk f := by
  intro f hf
  obtain ⟨i, hi⟩ := List.getElem?_of_mem hf
  match i, hi with
  | 0, hi => exact b0 f hi
  | 1, hi => exact b1 f hi
  | 2, hi => exact b2 f hi
  | 3, hi => exact b3 f hi
  | 4, hi => exact b4 f hi
  | 5, hi => exact b5 f hi
  | 6, hi => exact b6 f hi
  | 7, hi => exact b7 f hi
  | 8, hi => exact b8 f hi
  | 9, hi => exact b9 f hi
  | 10, hi => exact b10 f hi
  | 11, hi => exact b11 f hi
  | 12, hi => exact b12 f hi
  | 13, hi => exact b13 f hi
  | 14, hi => exact b14 f hi
  | 15, hi => exact b15 f hi
  | 16, hi => exact b16 f hi
  | 17, hi => exact b17 f hi
  | 18, hi => exact b18 f hi
  | 19, hi => exact b19 f hi
  | i + 20, hi => cases hi
abbrev R : PySem.W.OpenRow := PySem.W.OpenLaw.row PySem.Challenge.rw_screenspoken_k10_what_are_things
abbrev hk : PySem.W.Hook := He.hookX 6 T.fa T.fn [] [] T.ex
def ob (s : PySem.W.SharedT) : He.AlX := He.obsX 6 T.fa T.fn [] [] T.ex (HandSHeadRun.getT s)
theorem ob_eq (s : PySem.W.SharedT) : ob s = hk.obs s.abs := He.obsX_eq (HandSHeadRun.getT_eq s)
theorem run (w : World) : HandSHeadRun.RunEq R (PySem.W.view R.prog [30]) hk ob 4000 loose w := by
  intro os
  kernel_rfl
end Law
open PySem PySem.W PySem.Calls PyProof.Rows
theorem law_holds_of (law : ∀ ns : List Int, ns.length ≤ 63 → Hv.callN Law.T (fun _ _ => none) 200 19 [.list (ns.map .int)] = .ok (.v (.bool true))) : PySem.Challenge.rw_screenspoken_k10_what_are_things.Holds := by
  w_on; o_law
  refine HandSHeadRun.head_any (r := OpenLaw.row PySem.Challenge.rw_screenspoken_k10_what_are_things) (q := view (OpenLaw.row PySem.Challenge.rw_screenspoken_k10_what_are_things).prog [30]) (H := Law.hk) (ob := Law.ob) (M := 4000) (loose := Law.loose) (d := HandSHeadRun.topDef (OpenLaw.row PySem.Challenge.rw_screenspoken_k10_what_are_things).prog 30) (kwd := []) Law.ob_eq
    (by kernel_rfl) (fun s => by kernel_rfl) Law.run (by kernel_rfl) (by kernel_rfl) (by kernel_rfl) (by rfl) (by first | assumption | decide +kernel) (by decide +kernel) ⟨rfl, rfl, rfl, rfl, rfl, by decide +kernel⟩ ?hw ?hc
  case hw => w_witness2
  case hc => exact Hv.law_walk (iL := 19) (n := 63) (k := 200) (x := "script") rfl (by decide) (by kernel_rfl) rfl (by kernel_rfl) (by kernel_rfl) Law.ok Law.at_ Law.bind (by decide) law

theorem PySem.Challenge.cw_screenspoken_k10_what_are_things_holds : PySem.Challenge.rw_screenspoken_k10_what_are_things.Holds :=
  law_holds_of fun ns hn => Law.law_ok 194 ns hn
