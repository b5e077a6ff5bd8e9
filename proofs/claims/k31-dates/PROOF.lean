import PyProof.Rows.All
import Wide.All
import OpenK.AllK
import Wide.FinOn
import HandS.ForSpec
import HandS.ForMost
import HandS.More
import HandS.IsInst
import HandS.Wide
import HandS.HeadHook4
import HandS.Head2
import HandS.Flow
import HandS.TupAny
import HandS.Deep
import HandS.SortInts
import HandS.ExcOwn
import HandS.Text
import HandS.StrMore
import HandS.Zip
import HandS.TryOnly
import HandS.DictComp
import HandS.WordsDict
import HandS.Style
import HandS.TryMany
import HandS.ExcIs
import HandS.HeadEnd
import HandS.EndBits
import HandS.HeadWalk
import HandS.Codes
import PySem.Challenge.RW_screenspoken_k31_dates_and_their_numbers
import KE.KStateDown
set_option Elab.async false
set_option linter.all false
set_option autoImplicit false
set_option maxRecDepth 100000
/-! Hv, part 1: data without a heap, and how the abstract heap bears it. -/
namespace Hv
open PySem PySem.Spec PyProof.Rows L2

abbrev AS := Addr → Prop
/-- what the top has written, and the world's numbers -/
structure KW where
  k : PySem.W.Frag
  p : Params
  x : Option Value

/-- a value as a def's body holds it: v: scalar, or not to be changed, wherever it comes from; n: not to be changed, all new since the entry;
isl: nobody else's, but perhaps shared within; ol, ot, od: a list, a tuple, a dict of one's own -/
inductive D where
  | v (d : PyData)
  | n (d : PyData)
  | isl (d : PyData)
  | ol (ds : List D)
  | ot (ds : List D)
  | od (kvs : List (PyData × D))
  | dead
  | exn

def pyK : Key → PyData
  | .inl i => .int i
  | .inr x => .str x

def LitL (K : PySem.W.Frag) (a : Addr) (xs : List V) : Prop :=
  ∃ (o : Obj) (its : Array Value) (n : Nat), K.lookup a = some o ∧ o.cls = .type "list" ∧ o.dict = none ∧ o.data = .seq its n ∧ its.size ≤ sizeLine ∧ Vals xs its.toList
theorem LitL.sq {K : PySem.W.Frag} {H : Hp} {a : Addr} {xs : List V} (h : LitL K a xs) : SqL K H a xs := .inr h
/-- a list that is read -/
def LL (K : PySem.W.Frag) (H : Hp) (a : Addr) (xs : List V) : Prop := Rd H a (.lst xs) ∨ LitL K a xs
theorem LL.sq {K : PySem.W.Frag} {H : Hp} {a : Addr} {xs : List V} (h : LL K H a xs) : SqL K H a xs := h.elim .inl LitL.sq

/-- a dict with text keys that the top has written -/
def LitD (K : KW) (a : Addr) (ks : List Str) (vs : List V) : Prop :=
  ∃ (es : Array DictEntry) (n : Nat), K.k.lookup a = some ⟨.type "dict", none, .dict es n, #[]⟩ ∧ PySem.W.KeysLit K.p es.toList ∧ (a == sysModules) = false ∧
    Paired (fun k v => ∃ u, PySem.W.nsIn K.k a k = some (some u) ∧ RelV v u) ks vs ∧ ∀ k, k ∉ ks → PySem.W.nsIn K.k a k = some none

mutual
/-- the data d at the value x; every list and dict of it lies in S (or is written) -/
inductive Rp (K : KW) (S : AS) (H : Hp) : V → PyData → Prop
  | non : Rp K S H .non .none
  | bl (b : Bool) : Rp K S H (.bl b) (.bool b)
  | int (i : Int) : Rp K S H (.int i) (.int i)
  | str {x : Str} (ok : PyData.strOk x = true) : Rp K S H (.str x) (.str x)
  | lst {a : Addr} {xs : List V} {ds : List PyData} : S a → Rd H a (.lst xs) → Rps K S H xs ds → Rp K S H (.ref a) (.list ds)
  | lsk {a : Addr} {xs : List V} {ds : List PyData} : LitL K.k a xs → Rps K S H xs ds → Rp K S H (.ref a) (.list ds)
  | tup {a : Addr} {xs : List V} {ds : List PyData} : SqT K.k H a xs → Rps K S H xs ds → Rp K S H (.ref a) (.tuple ds)
  | dk {a : Addr} {kvs : List (Key × V)} {ds : List PyData} : S a → Rd H a (.dK kvs) → Rps K S H (kvs.map (·.2)) ds → Rp K S H (.ref a) (.dict ((kvs.map fun p => pyK p.1).zip ds))
  | dt {a : Addr} {kvs : List (List Key × V)} {ds : List PyData} : S a → H a = some (.dT kvs) → Rps K S H (kvs.map (·.2)) ds → Rp K S H (.ref a) (.dict ((kvs.map fun p => PyData.tuple (p.1.map pyK)).zip ds))
  | dlk {a : Addr} {ks : List Str} {xs : List V} {ds : List PyData} : LitD K a ks xs → Rps K S H xs ds → Rp K S H (.ref a) (.dict ((ks.map PyData.str).zip ds))
inductive Rps (K : KW) (S : AS) (H : Hp) : List V → List PyData → Prop
  | nil : Rps K S H [] []
  | cons {x : V} {xs : List V} {d : PyData} {ds : List PyData} : Rp K S H x d → Rps K S H xs ds → Rps K S H (x :: xs) (d :: ds)
end

/-- what is tracked stays as it is -/
def Ext (H H' : Hp) : Prop := ∀ a o, H a = some o → H' a = some o
theorem Ext.refl {H : Hp} : Ext H H := fun _ _ h => h
theorem Ext.trans {H H1 H2 : Hp} (a : Ext H H1) (b : Ext H1 H2) : Ext H H2 := fun x o h => b x o (a x o h)
theorem Ext.new {H : Hp} {p : Addr} {o : HO} (h : H p = none) : Ext H (upd H p o) := fun b x e => by
  rw [upd_ne (ne_of_none e h)]; exact e
theorem Ext.ne {H H' : Hp} (e : Ext H H') {a : Addr} (h : H a ≠ none) : H' a ≠ none := by
  cases q : H a with
  | none => exact absurd q h
  | some o => rw [e a o q]; exact fun z => nomatch z

/-- what is tracked stays, but at the addresses of Z -/
def Kp (Z : AS) (H H' : Hp) : Prop := ∀ a o, ¬ Z a → H a = some o → H' a = some o
theorem Ext.kp {Z : AS} {H H' : Hp} (e : Ext H H') : Kp Z H H' := fun a o _ h => e a o h

section
variable {K : KW} {S S' Z : AS} {H H' : Hp}
theorem Rd.kp {a : Addr} {u : HO} (h : Rd H a u) (e : Kp Z H H') (hz : ¬ Z a) : Rd H' a u := by
  rcases h with h | ⟨o, h⟩
  · exact .inl (e a _ hz h)
  · exact .inr ⟨o, e a _ hz h⟩
theorem SqT.kp {a : Addr} {xs : List V} (h : SqT K.k H a xs) (e : Kp Z H H') (ht : ∀ b ys, Z b → ¬ Rd H b (.tup ys)) : SqT K.k H' a xs := by
  rcases h with h | h
  · exact .inl (Rd.kp h e fun z => ht _ _ z h)
  · exact .inr h
mutual
/-- the data stays where only addresses outside of it change -/
theorem Rp.kp (e : Kp Z H H') (hs : ∀ a, S a → S' a) (hz : ∀ a, S a → ¬ Z a) (ht : ∀ b ys, Z b → ¬ Rd H b (.tup ys)) : ∀ {x : V} {d : PyData}, Rp K S H x d → Rp K S' H' x d
  | _, _, .non => .non
  | _, _, .bl b => .bl b
  | _, _, .int i => .int i
  | _, _, .str k => .str k
  | _, _, .lst s r q => .lst (hs _ s) (Rd.kp r e (hz _ s)) (Rps.kp e hs hz ht q)
  | _, _, .lsk l q => .lsk l (Rps.kp e hs hz ht q)
  | _, _, .tup r q => .tup (SqT.kp r e ht) (Rps.kp e hs hz ht q)
  | _, _, .dk s r q => .dk (hs _ s) (Rd.kp r e (hz _ s)) (Rps.kp e hs hz ht q)
  | _, _, .dt s r q => .dt (hs _ s) (e _ _ (hz _ s) r) (Rps.kp e hs hz ht q)
  | _, _, .dlk l q => .dlk l (Rps.kp e hs hz ht q)
theorem Rps.kp (e : Kp Z H H') (hs : ∀ a, S a → S' a) (hz : ∀ a, S a → ¬ Z a) (ht : ∀ b ys, Z b → ¬ Rd H b (.tup ys)) : ∀ {xs : List V} {ds : List PyData}, Rps K S H xs ds → Rps K S' H' xs ds
  | _, _, .nil => .nil
  | _, _, .cons h t => .cons (Rp.kp e hs hz ht h) (Rps.kp e hs hz ht t)
end
theorem Rp.ext {x : V} {d : PyData} (h : Rp K S H x d) (e : Ext H H') (hs : ∀ a, S a → S' a) : Rp K S' H' x d :=
  Rp.kp (Z := fun _ => False) e.kp hs (fun _ _ z => z) (fun _ _ z => z.elim) h
theorem Rps.ext {x : List V} {d : List PyData} (h : Rps K S H x d) (e : Ext H H') (hs : ∀ a, S a → S' a) : Rps K S' H' x d :=
  Rps.kp (Z := fun _ => False) e.kp hs (fun _ _ z => z) (fun _ _ z => z.elim) h
theorem Rp.mono {x : V} {d : PyData} (h : Rp K S H x d) (hs : ∀ a, S a → S' a) : Rp K S' H x d := h.ext Ext.refl hs
theorem Rps.mono {x : List V} {d : List PyData} (h : Rps K S H x d) (hs : ∀ a, S a → S' a) : Rps K S' H x d := h.ext Ext.refl hs
theorem Rps.len : ∀ {xs : List V} {ds : List PyData}, Rps K S H xs ds → xs.length = ds.length
  | _, _, .nil => rfl
  | _, _, .cons _ t => by rw [List.length_cons, List.length_cons, Rps.len t]
theorem Rps.get : ∀ {xs : List V} {ds : List PyData} {i : Nat} {d : PyData}, Rps K S H xs ds → ds[i]? = some d → ∃ x, xs[i]? = some x ∧ Rp K S H x d
  | _, _, _, _, .nil, e => by simp at e
  | _, _, 0, _, .cons h _, e => ⟨_, rfl, by simp at e; exact e ▸ h⟩
  | _, _, i + 1, _, .cons _ t, e => by
    obtain ⟨x, e1, h⟩ := Rps.get (i := i) t (by simpa using e)
    exact ⟨x, by simpa using e1, h⟩
theorem Rps.append : ∀ {xs ys : List V} {ds es : List PyData}, Rps K S H xs ds → Rps K S H ys es → Rps K S H (xs ++ ys) (ds ++ es)
  | _, _, _, _, .nil, q => q
  | _, _, _, _, .cons h t, q => .cons h (Rps.append t q)
theorem Rps.take : ∀ {xs : List V} {ds : List PyData} (n : Nat), Rps K S H xs ds → Rps K S H (xs.take n) (ds.take n)
  | _, _, 0, _ => .nil
  | _, _, _ + 1, .nil => .nil
  | _, _, n + 1, .cons h t => .cons h (Rps.take n t)
theorem Rps.drop : ∀ {xs : List V} {ds : List PyData} (n : Nat), Rps K S H xs ds → Rps K S H (xs.drop n) (ds.drop n)
  | _, _, 0, h => h
  | _, _, _ + 1, .nil => .nil
  | _, _, n + 1, .cons _ t => Rps.drop n t
theorem Rps.ints : ∀ {xs : List V} {ns : List Int}, Rps K S H xs (ns.map PyData.int) → xs = ns.map V.int
  | _, [], h => by cases h; rfl
  | _, n :: ns, h => by cases h with | cons a t => cases a; rw [Rps.ints t]; rfl
theorem Rps.strs : ∀ {xs : List V} {ns : List Str}, Rps K S H xs (ns.map PyData.str) → xs = ns.map V.str
  | _, [], h => by cases h; rfl
  | _, n :: ns, h => by cases h with | cons a t => cases a; rw [Rps.strs t]; rfl
theorem Rps.bools : ∀ {xs : List V} {ns : List Bool}, Rps K S H xs (ns.map PyData.bool) → xs = ns.map V.bl
  | _, [], h => by cases h; rfl
  | _, n :: ns, h => by cases h with | cons a t => cases a; rw [Rps.bools t]; rfl
theorem Rps.of_ints : ∀ (ns : List Int), Rps K S H (ns.map V.int) (ns.map PyData.int)
  | [] => .nil
  | n :: ns => .cons (.int n) (Rps.of_ints ns)
theorem Rps.of_strs : ∀ (ns : List Str), (∀ x ∈ ns, PyData.strOk x = true) → Rps K S H (ns.map V.str) (ns.map PyData.str)
  | [], _ => .nil
  | n :: ns, h => .cons (.str (h n List.mem_cons_self)) (Rps.of_strs ns fun x hx => h x (List.mem_cons_of_mem _ hx))
theorem Rp.ll {a : V} {ds : List PyData} (h : Rp K S H a (.list ds)) : ∃ p xs, a = .ref p ∧ LL K.k H p xs ∧ Rps K S H xs ds := by
  cases h with
  | lst s r q => exact ⟨_, _, rfl, .inl r, q⟩
  | lsk l q => exact ⟨_, _, rfl, .inr l, q⟩
theorem Rp.sqt {a : V} {ds : List PyData} (h : Rp K S H a (.tuple ds)) : ∃ p xs, a = .ref p ∧ SqT K.k H p xs ∧ Rps K S H xs ds := by
  cases h with
  | tup r q => exact ⟨_, _, rfl, r, q⟩
end

/-! ### to the library's own reading of data -/
mutual
theorem Rp.dp {K : KW} {S : AS} {H : Hp} : ∀ {x : V} {d : PyData}, Rp K S H x d → d.canLay0 = true → Dp K.k H x d
  | _, _, .non, _ => .non
  | _, _, .bl b, _ => .bl b
  | _, _, .int i, _ => .int i
  | _, _, .str _, _ => .str _
  | _, _, .lst _ r q, c => .lst (.inl r) (Rps.dp q (by simpa [PyData.canLay0] using c))
  | _, _, .lsk l q, c => .lst l.sq (Rps.dp q (by simpa [PyData.canLay0] using c))
  | _, _, .tup r q, c => .tup r (Rps.dp q (by simpa [PyData.canLay0] using c))
  | _, _, .dk _ _ _, c => by simp [PyData.canLay0] at c
  | _, _, .dt _ _ _, c => by simp [PyData.canLay0] at c
  | _, _, .dlk _ _, c => by simp [PyData.canLay0] at c
theorem Rps.dp {K : KW} {S : AS} {H : Hp} : ∀ {xs : List V} {ds : List PyData}, Rps K S H xs ds → PyData.canLayAll0 ds = true → DpAll K.k H xs ds
  | _, _, .nil, _ => .nil
  | _, _, .cons h t, c => .cons (Rp.dp h (by simp [PyData.canLayAll0] at c; exact c.1)) (Rps.dp t (by simp [PyData.canLayAll0] at c; exact c.2))
end
end Hv

/-! Hv, part 2: the evaluator. No heap; no Python's objects. -/
namespace Hv
open PySem PySem.Spec PyProof.Rows L2

/-! ### data -/
mutual
/-- has a list or a dict -/
def mutD : PyData → Bool
  | .list _ => true
  | .dict _ => true
  | .tuple ds => mutDs ds
  | _ => false
def mutDs : List PyData → Bool
  | [] => false
  | d :: ds => mutD d || mutDs ds
end
/-- a value that is not to be changed -/
def fz (b : Bool) (d : PyData) : D := if b && mutD d then .n d else .v d
mutual
def data : D → Option PyData
  | .v d => some d
  | .n d => some d
  | .isl d => some d
  | .ol ds => (datas ds).map .list
  | .ot ds => (datas ds).map .tuple
  | .od kvs => (dataK kvs).map .dict
  | .dead => none
  | .exn => none
def datas : List D → Option (List PyData)
  | [] => some []
  | d :: ds => match data d, datas ds with
    | some p, some ps => some (p :: ps)
    | _, _ => none
def dataK : List (PyData × D) → Option (List (PyData × PyData))
  | [] => some []
  | (k, d) :: ds => match data d, dataK ds with
    | some p, some ps => some ((k, p) :: ps)
    | _, _ => none
end
mutual
/-- all its lists and dicts are new since the entry -/
def isNew : D → Bool
  | .v d => !mutD d
  | .n _ => true
  | .isl _ => true
  | .ol ds => isNews ds
  | .ot ds => isNews ds
  | .od kvs => isNewK kvs
  | .dead => true
  | .exn => true
def isNews : List D → Bool
  | [] => true
  | d :: ds => isNew d && isNews ds
def isNewK : List (PyData × D) → Bool
  | [] => true
  | (_, d) :: ds => isNew d && isNewK ds
end
def view (d : D) : Option D := (data d).map (fz (isNew d))
def isFz : D → Bool
  | .v _ => true
  | .n _ => true
  | _ => false
mutual
/-- no part of it is the exception that is handled -/
def noX : D → Bool
  | .exn => false
  | .ol ds => noXs ds
  | .ot ds => noXs ds
  | .od kvs => noXK kvs
  | _ => true
def noXs : List D → Bool
  | [] => true
  | d :: ds => noX d && noXs ds
def noXK : List (PyData × D) → Bool
  | [] => true
  | (_, d) :: ds => noX d && noXK ds
end
mutual
/-- has a part that may be old -/
def hasV : D → Bool
  | .v d => mutD d
  | .ol ds => hasVs ds
  | .ot ds => hasVs ds
  | .od kvs => hasVK kvs
  | _ => false
def hasVs : List D → Bool
  | [] => false
  | d :: ds => hasV d || hasVs ds
def hasVK : List (PyData × D) → Bool
  | [] => false
  | (_, d) :: ds => hasV d || hasVK ds
end
mutual
/-- a callee's new things are the caller's own -/
def own : D → D
  | .n d => .isl d
  | .ol ds => .ol (owns ds)
  | .ot ds => .ot (owns ds)
  | .od kvs => .od (ownK kvs)
  | d => d
def owns : List D → List D
  | [] => []
  | d :: ds => own d :: owns ds
def ownK : List (PyData × D) → List (PyData × D)
  | [] => []
  | (k, d) :: ds => (k, own d) :: ownK ds
end
/-- a list of one's own with such items -/
def oL (ds : List PyData) : D := .ol (ds.map .v)

abbrev Env := List (Option D)
/-- the slots that may be shared with the value -/
abbrev Al := List Nat
inductive R where
  | ok (d : D) (al : Al)
  | exc (c : Str)
  | stuck
inductive Rl where
  | ok (ds : List D) (al : Al)
  | exc (c : Str)
  | stuck
inductive CR where
  | ok (d : D)
  | exc (c : Str)
  | stuck
abbrev Cal := Nat → List PyData → CR
abbrev Glo := Str → Option PyData
def SZ : Nat := 16777216

/-! ### operators -/
inductive BOp where
  | add | sub | mul | div | mod | pow
  deriving DecidableEq
inductive COp where
  | eq | ne | lt | le | gt | ge | in_ | nin | isn | notn
  deriving DecidableEq
def mkL (b : Bool) (ds : List PyData) (al : Al) : R := if mutDs ds then .ok (.ol (ds.map (fz b))) al else .ok (oL ds) []
def mkT (b : Bool) (ds : List PyData) (al : Al) : R := if mutDs ds then .ok (fz b (.tuple ds)) al else .ok (.v (.tuple ds)) []
def divOk (j : Int) : Bool := decide (0 < j) && decide (j.natAbs < 1606938044258990275541962092341162602522202993782792835301376)
def mulOk (i j : Int) : Bool := decide (i.natAbs < 18446744073709551616) || decide (j.natAbs < 18446744073709551616)
def powOk (i j : Int) : Bool := decide (0 ≤ j) && decide (j ≤ 1000000) && decide (i.natAbs < 18446744073709551616)
/-- a text n times -/
def repS (z : Str) (n : Nat) : Str := ⟨(List.replicate n z.cps.toList).flatten.toArray⟩
def repOk (n : Nat) (j : Int) : Bool := decide (0 ≤ j) && (decide (j ≤ 16777216) && decide (n * j.toNat ≤ 16777216))
def okS (x : Str) : R := if PyData.strOk x then .ok (.v (.str x)) [] else .stuck
def binP (o : BOp) (b : Bool) (al : Al) (x y : PyData) : R :=
  match o with
  | .add => match x with
    | .int i => match y with
      | .int j => .ok (.v (.int (i + j))) []
      | _ => .stuck
    | .str i => match y with
      | .str j => if i.length + j.length ≤ SZ then .ok (.v (.str (i ++ j))) [] else .stuck
      | _ => .stuck
    | .list i => match y with
      | .list j => if i.length + j.length ≤ SZ then mkL b (i ++ j) al else .stuck
      | _ => .stuck
    | .tuple i => match y with
      | .tuple j => if i.length + j.length ≤ SZ then mkT b (i ++ j) al else .stuck
      | _ => .stuck
    | _ => .stuck
  | .sub => match x with
    | .int i => match y with
      | .int j => .ok (.v (.int (i - j))) []
      | _ => .stuck
    | _ => .stuck
  | .mul => match x with
    | .int i => match y with
      | .int j => if mulOk i j then .ok (.v (.int (i * j))) [] else .stuck
      | _ => .stuck
    | .str z => match y with
      | .int j => if repOk z.length j then okS (repS z j.toNat) else .stuck
      | _ => .stuck
    | _ => .stuck
  | .div => match x with
    | .int i => match y with
      | .int j => if divOk j then .ok (.v (.int (i / j))) [] else .stuck
      | _ => .stuck
    | _ => .stuck
  | .mod => match x with
    | .int i => match y with
      | .int j => if decide (0 < j) then .ok (.v (.int (i % j))) [] else .stuck
      | _ => .stuck
    | _ => .stuck
  | .pow => match x with
    | .int i => match y with
      | .int j => if powOk i j then .ok (.v (.int (i ^ j.toNat))) [] else .stuck
      | _ => .stuck
    | _ => .stuck
mutual
def noDict : PyData → Bool
  | .dict _ => false
  | .list ds => noDicts ds
  | .tuple ds => noDicts ds
  | _ => true
def noDicts : List PyData → Bool
  | [] => true
  | d :: ds => noDict d && noDicts ds
end
/-- may be compared by == -/
def cmpOk (d : PyData) : Bool := noDict d && decide (d.depth ≤ 64)
def strIn (c z : Str) : Bool := !(Builtin.Str.occurrences z c 0 z.length 1).isEmpty
/-- an answer True or False -/
inductive BR where
  | ok (b : Bool)
  | stuck
def flatP : PyData → Bool
  | .none => true
  | .bool _ => true
  | .int _ => true
  | .str _ => true
  | _ => false
def keyOf (d : PyData) : Option PyData := match d with
  | .int i => some (.int i)
  | .str x => some (.str x)
  | _ => none
def dlook (kvs : List (PyData × PyData)) (k : PyData) : Option PyData := (kvs.find? fun p => PyData.eqv p.1 k).map (·.2)
def inP (x y : PyData) : BR := match y with
  | .list ds => if cmpOk x && cmpOk (.list ds) then .ok (ds.any fun z => PyData.eqv z x) else .stuck
  | .tuple ds => if flatP x && ds.all flatP then .ok (ds.any fun z => PyData.eqv z x) else .stuck
  | .str z => match x with
    | .str c => .ok (strIn c z)
    | _ => .stuck
  | _ => .stuck
def cmpP (o : COp) (x y : PyData) : BR := match o with
  | .eq => if cmpOk x && cmpOk y then .ok (PyData.eqv x y) else .stuck
  | .ne => if cmpOk x && cmpOk y then .ok (!PyData.eqv x y) else .stuck
  | .lt => match x with
    | .int i => match y with
      | .int j => .ok (decide (i < j))
      | _ => .stuck
    | .str i => match y with
      | .str j => .ok (decide (i.cps.toList < j.cps.toList))
      | _ => .stuck
    | _ => .stuck
  | .le => match x with
    | .int i => match y with
      | .int j => .ok (decide (i ≤ j))
      | _ => .stuck
    | .str i => match y with
      | .str j => .ok (!decide (j.cps.toList < i.cps.toList))
      | _ => .stuck
    | _ => .stuck
  | .gt => match x with
    | .int i => match y with
      | .int j => .ok (decide (j < i))
      | _ => .stuck
    | .str i => match y with
      | .str j => .ok (decide (j.cps.toList < i.cps.toList))
      | _ => .stuck
    | _ => .stuck
  | .ge => match x with
    | .int i => match y with
      | .int j => .ok (decide (j ≤ i))
      | _ => .stuck
    | .str i => match y with
      | .str j => .ok (!decide (i.cps.toList < j.cps.toList))
      | _ => .stuck
    | _ => .stuck
  | .in_ => inP x y
  | .nin => match inP x y with
    | .ok b => .ok (!b)
    | .stuck => .stuck
  | .isn => match y with
    | .none => .ok (match x with | .none => true | _ => false)
    | _ => .stuck
  | .notn => match y with
    | .none => .ok (match x with | .none => false | _ => true)
    | _ => .stuck
/-- truth -/
def truP (d : PyData) : BR := match d with
  | .none => .ok false
  | .bool b => .ok b
  | .int i => .ok (i != 0)
  | .str x => if x.length ≤ SZ then .ok ((x.length : Int) != 0) else .stuck
  | .list ds => .ok (!ds.isEmpty)
  | .tuple ds => .ok (!ds.isEmpty)
  | .dict _ => .stuck

/-! ### the small language -/
inductive Ty where
  | int | bool | str | list | tuple | dict
  deriving DecidableEq
inductive Bi where
  | len | int | abs | max2 | min2 | sum | maxL | minL | sorted | list | tuple | any | all | divmod | str | ord
  deriving DecidableEq
inductive Mt where
  | join | startswith | endswith | find | count | upper | lower | isdigit | isalpha | isupper | islower | zfill | strip | split | partition
  deriving DecidableEq
inductive Sk where
  | seq | range | enum | rev | zip | items
  deriving DecidableEq
inductive Tg where
  | name (i : Nat)
  | tup (ts : List Nat)
inductive E where
  | non
  | bl (b : Bool)
  | int (i : Int)
  | str (x : Str)
  | var (i : Nat)
  | glob (g : Str)
  | bin (o : BOp) (a b : E)
  | neg (a : E)
  | cmp (o : COp) (a b : E)
  | chn (o p : COp) (a b c : E)
  | and (es : List E)
  | or (es : List E)
  | not (a : E)
  | ifx (c a b : E)
  | call (f : Nat) (es : List E)
  | bi (b : Bi) (es : List E)
  | isi (a : E) (t : Ty)
  | ise (i : Nat) (cs : List (Str × Bool))
  | mth (m : Mt) (o : E) (es : List E)
  | ix (a b : E)
  | sl (a : E) (lo hi : Option E)
  | lst (es : List E)
  | tup (es : List E)
  | lc (own : List Nat) (k : Sk) (args : List E) (tg : Tg) (cs : List E) (elt : E)
  | dkl (own : List Nat) (k : Sk) (args : List E) (tg : Tg) (kx : E)
  | rev (a : E)


/-! ### the evaluator -/
inductive TR where
  | ok (b : Bool)
  | exc (c : Str)
  | stuck
def R.bind (r : R) (f : D → Al → R) : R := match r with
  | .ok d al => f d al
  | .exc c => .exc c
  | .stuck => .stuck
def R.bindT (r : R) (f : D → Al → TR) : TR := match r with
  | .ok d al => f d al
  | .exc c => .exc c
  | .stuck => .stuck
def R.bindL (r : R) (f : D → Al → Rl) : Rl := match r with
  | .ok d al => f d al
  | .exc c => .exc c
  | .stuck => .stuck
def Rl.bind (r : Rl) (f : List D → Al → R) : R := match r with
  | .ok d al => f d al
  | .exc c => .exc c
  | .stuck => .stuck
def Rl.bindL (r : Rl) (f : List D → Al → Rl) : Rl := match r with
  | .ok d al => f d al
  | .exc c => .exc c
  | .stuck => .stuck
def TR.bind (r : TR) (f : Bool → R) : R := match r with
  | .ok b => f b
  | .exc c => .exc c
  | .stuck => .stuck
def TR.bindT (r : TR) (f : Bool → TR) : TR := match r with
  | .ok b => f b
  | .exc c => .exc c
  | .stuck => .stuck
def BR.t (r : BR) : TR := match r with
  | .ok b => .ok b
  | .stuck => .stuck
def BR.r (r : BR) : R := match r with
  | .ok b => .ok (.v (.bool b)) []
  | .stuck => .stuck
/-- with the data -/
def dat (d : D) (f : PyData → R) : R := match data d with
  | some p => f p
  | none => .stuck
def dat2 (d e : D) (f : PyData → PyData → R) : R := match data d with
  | some p => match data e with
    | some q => f p q
    | none => .stuck
  | none => .stuck
def datT (d : D) (f : PyData → TR) : TR := match data d with
  | some p => f p
  | none => .stuck
def varR (i : Nat) (ρ : Env) : R := match ρ[i]? with
  | some (some (.v p)) => .ok (.v p) []
  | some (some (.n p)) => .ok (.n p) []
  | some (some d) => match view d with
    | some e => .ok e [i]
    | none => .stuck
  | _ => .stuck
/-- the class of the exception that is handled -/
def xk : Str := ""
def setX (G : Glo) (c : Str) : Glo := fun x => if x = xk then some (.str c) else G x
/-- is the exception in slot i one of those? -/
def iseR (G : Glo) (i : Nat) (cs : List (Str × Bool)) (ρ : Env) : R := match ρ[i]? with
  | some (some .exn) => match G xk with
    | some (.str c) => match cs.lookup c with
      | some b => .ok (.v (.bool b)) []
      | none => .stuck
    | _ => .stuck
  | _ => .stuck
def truR (r : R) : TR := r.bindT fun d _ => datT d fun p => (truP p).t
def tyP : PyData → Ty → Bool
  | .bool _, .bool => true
  | .bool _, .int => true
  | .int _, .int => true
  | .str _, .str => true
  | .list _, .list => true
  | .tuple _, .tuple => true
  | .dict _, .dict => true
  | _, _ => false
/-- the items of a list, a tuple, a text -/
def elems (d : D) (al : Al) : Option (List PyData × Bool × Al) := match data d with
  | some (.list ps) => some (ps, isNew d, if mutDs ps then al else [])
  | some (.tuple ps) => some (ps, isNew d, if mutDs ps then al else [])
  | some (.str x) => if x.length ≤ SZ then some (x.cps.toList.map fun c => .str ⟨#[c]⟩, true, []) else none
  | _ => none
def cutP {α : Type} (xs : List α) (lo hi : Option Int) : List α := (xs.drop (HT.sIx xs.length 0 lo)).take (HT.sIx xs.length xs.length hi - HT.sIx xs.length 0 lo)
/-- an item as a value -/
def itR (b : Bool) (p : PyData) (al : Al) : R := if mutD p then .ok (fz b p) al else .ok (.v p) []
/-- x[i] by the data -/
def ixP (b : Bool) (al : Al) (p q : PyData) : R := match p with
  | .list ps => match q with
    | .int i => match atI ps i with
      | some p => itR b p al
      | none => .stuck
    | _ => .stuck
  | .tuple ps => match q with
    | .int i => match atI ps i with
      | some p => itR b p al
      | none => .stuck
    | _ => .stuck
  | .str z => match q with
    | .int i => if z.length ≤ SZ then (match atI z.cps.toList i with
      | some c => .ok (.v (.str ⟨#[c]⟩)) []
      | none => .stuck) else .stuck
    | _ => .stuck
  | .dict kvs => match keyOf q with
    | some _ => match dlook kvs q with
      | some p => itR b p al
      | none => .stuck
    | none => .stuck
  | _ => .stuck
def varOf : E → Option Nat
  | .var i => some i
  | _ => none
/-- an item of a name's own list -/
def ixO (i : Nat) (ds : List D) (q : PyData) : R := match q with
  | .int j => match atI ds j with
    | some e => match view e with
      | some w => .ok w (if isFz e then [] else [i])
      | none => .stuck
    | none => .stuck
  | _ => .stuck
/-- x[i] of a name: its own list's parts are seen one by one -/
def ixV (i : Nat) (ρ : Env) (rb : R) : R := match ρ[i]? with
  | some (some (.ol ds)) => rb.bind fun y _ => dat y (ixO i ds)
  | _ => (varR i ρ).bind fun x al => rb.bind fun y _ => dat2 x y fun p q => ixP (isNew x) al p q
def slR (d : D) (al : Al) (lo hi : Option Int) : R := match data d with
  | some (.list ps) => mkL (isNew d) (cutP ps lo hi) al
  | some (.tuple ps) => mkT (isNew d) (cutP ps lo hi) al
  | some (.str z) => if z.length ≤ SZ then .ok (.v (.str (cutS z lo hi))) [] else .stuck
  | _ => .stuck
def intsOf : List PyData → Option (List Int)
  | [] => some []
  | .int i :: r => (intsOf r).map (i :: ·)
  | _ => none
def boolsOf : List PyData → Option (List Bool)
  | [] => some []
  | .bool i :: r => (boolsOf r).map (i :: ·)
  | _ => none
def strsOf : List PyData → Option (List Str)
  | [] => some []
  | .str i :: r => (strsOf r).map (i :: ·)
  | _ => none
def isort (ns : List Int) : List Int := ns.mergeSort (fun a b => decide (a ≤ b))
def maxI : List Int → Option Int
  | [] => none
  | i :: r => some (r.foldl max i)
def minI : List Int → Option Int
  | [] => none
  | i :: r => some (r.foldl min i)
/-- a built-in function of one value -/
def bi1 (b : Bi) (d : D) (al : Al) : R := match b with
  | .len => match data d with
    | some (.list ps) => .ok (.v (.int ps.length)) []
    | some (.tuple ps) => .ok (.v (.int ps.length)) []
    | some (.str x) => if x.length ≤ SZ then .ok (.v (.int x.length)) [] else .stuck
    | _ => .stuck
  | .int => match data d with
    | some (.int i) => .ok (.v (.int i)) []
    | some (.bool k) => .ok (.v (.int (if k then 1 else 0))) []
    | _ => .stuck
  | .abs => match data d with
    | some (.int i) => .ok (.v (.int (if i < 0 then -i else i))) []
    | _ => .stuck
  | .sum => match data d with
    | some (.list ps) => match intsOf ps with
      | some ns => .ok (.v (.int ns.sum)) []
      | none => .stuck
    | _ => .stuck
  | .maxL => match data d with
    | some (.list ps) => match (intsOf ps).bind maxI with
      | some m => .ok (.v (.int m)) []
      | none => .stuck
    | _ => .stuck
  | .minL => match data d with
    | some (.list ps) => match (intsOf ps).bind minI with
      | some m => .ok (.v (.int m)) []
      | none => .stuck
    | _ => .stuck
  | .sorted => match data d with
    | some (.list ps) => match intsOf ps with
      | some ns => .ok (oL ((isort ns).map .int)) []
      | none => .stuck
    | _ => .stuck
  | .ord => match data d with
    | some (.str x) => if x.length = 1 then .ok (.v (.int (x.cps.getD 0 0 : Nat))) [] else .stuck
    | _ => .stuck
  | .any => match data d with
    | some (.list ps) => match boolsOf ps with
      | some ns => .ok (.v (.bool (ns.any id))) []
      | none => .stuck
    | _ => .stuck
  | .all => match data d with
    | some (.list ps) => match boolsOf ps with
      | some ns => .ok (.v (.bool (ns.all id))) []
      | none => .stuck
    | _ => .stuck
  | .list => match data d with
    | some (.list ps) => mkL (isNew d) ps al
    | some (.tuple ps) => mkL (isNew d) ps al
    | _ => .stuck
  | .tuple => match data d with
    | some (.list ps) => mkT (isNew d) ps al
    | some (.tuple ps) => mkT (isNew d) ps al
    | _ => .stuck
  | _ => .stuck
def bi2 (b : Bi) (p q : PyData) : R := match b with
  | .max2 => match p with
    | .int i => match q with
      | .int j => .ok (.v (.int (if j > i then j else i))) []
      | _ => .stuck
    | _ => .stuck
  | .min2 => match p with
    | .int i => match q with
      | .int j => .ok (.v (.int (if j < i then j else i))) []
      | _ => .stuck
    | _ => .stuck
  | _ => .stuck
def biR (b : Bi) (ds : List D) (al : Al) : R := match ds with
  | [d] => bi1 b d al
  | [d, e] => dat2 d e (bi2 b)
  | _ => .stuck
/-- a text's method -/
def mt0R (m : Mt) (a : Str) : R := match m with
  | .upper => if a.length ≤ 5592405 then okS (Txt.upper a) else .stuck
  | .lower => if a.length ≤ 5592405 then okS (Txt.lower a) else .stuck
  | .isdigit => .ok (.v (.bool (Txt.isdigit a))) []
  | .isalpha => .ok (.v (.bool (Txt.isalpha a))) []
  | .isupper => .ok (.v (.bool (Txt.isupper a))) []
  | .islower => .ok (.v (.bool (Txt.islower a))) []
  | .strip => if a.length ≤ SZ then okS (Txt.strip a) else .stuck
  | _ => .stuck
def joinR (a : Str) (ps : List PyData) : R := match strsOf ps with
  | some zs => if (zs.map (·.length)).sum + zs.length * a.length ≤ SZ then okS (Txt.join a zs) else .stuck
  | none => .stuck
def mt1R (m : Mt) (a : Str) (q : PyData) : R := match m with
  | .join => match q with
    | .list ps => joinR a ps
    | .tuple ps => joinR a ps
    | _ => .stuck
  | .startswith => match q with
    | .str b => .ok (.v (.bool (Txt.startswith a b))) []
    | _ => .stuck
  | .endswith => match q with
    | .str b => .ok (.v (.bool (Txt.endswith a b))) []
    | _ => .stuck
  | .find => match q with
    | .str b => .ok (.v (.int (Txt.find a b))) []
    | _ => .stuck
  | .count => match q with
    | .str b => .ok (.v (.int (Txt.count a b))) []
    | _ => .stuck
  | .zfill => match q with
    | .int i => if PadOk i then okS (Txt.zfill a i) else .stuck
    | _ => .stuck
  | .split => match q with
    | .str b => if (b.length == 0) = false ∧ a.length + 2 ≤ SZ ∧ (Txt.split a b).all PyData.strOk = true then .ok (oL ((Txt.split a b).map .str)) [] else .stuck
    | _ => .stuck
  | .partition => match q with
    | .str b => if (b.length == 0) = false ∧ a.length ≤ SZ ∧ PyData.strOk (Txt.partition a b).1 = true ∧ PyData.strOk (Txt.partition a b).2.1 = true ∧ PyData.strOk (Txt.partition a b).2.2 = true then
        .ok (.v (.tuple [.str (Txt.partition a b).1, .str (Txt.partition a b).2.1, .str (Txt.partition a b).2.2])) [] else .stuck
    | _ => .stuck
  | _ => .stuck
def mtR (m : Mt) (a : Str) (ds : List D) : R := match ds with
  | [] => mt0R m a
  | [d] => match data d with
    | some q => mt1R m a q
    | none => .stuck
  | _ => .stuck
def strR (d : D) (f : Str → R) : R := match data d with
  | some (.str a) => f a
  | _ => .stuck
def callR (r : CR) (al : Al) : R := match r with
  | .ok d => if hasV d then .ok d al else .ok (own d) []
  | .exc c => .exc c
  | .stuck => .stuck
/-- the items that a loop goes over -/
def rgI (a b : Int) : List Int := (List.range (b - a).toNat).map fun (k : Nat) => a + k
def rgOk (a b : Int) : Bool := decide (a.natAbs < 4611686018427387904) && decide (b.natAbs < 4611686018427387904) && decide ((b - a).toNat ≤ 16777216)
def enumP (ps : List PyData) : List PyData := ps.mapIdx fun k p => .tuple [.int k, p]
def zipP (ps qs : List PyData) : List PyData := ps.zipWith (fun p q => .tuple [p, q]) qs
def itemsR (k : Sk) (ds : List D) (al : Al) : Option (List PyData × Bool × Al) := match k with
  | .seq => match ds with
    | [d] => elems d al
    | _ => none
  | .range => match ds with
    | [d] => match data d with
      | some (.int j) => if rgOk 0 j then some ((rgI 0 j).map .int, true, []) else none
      | _ => none
    | [d, e] => match data d with
      | some (.int i) => match data e with
        | some (.int j) => if rgOk i j then some ((rgI i j).map .int, true, []) else none
        | _ => none
      | _ => none
    | _ => none
  | .enum => match ds with
    | [d] => match data d with
      | some (.list _) => (elems d al).map fun (ps, b, al) => (enumP ps, b, al)
      | _ => none
    | _ => none
  | .zip => match ds with
    | [d, e] => match data d with
      | some (.list ps) => match data e with
        | some (.list qs) => if mutDs ps || mutDs qs then none else some (zipP ps qs, isNews [d, e], [])
        | _ => none
      | _ => none
    | _ => none
  | _ => none
/-- a target -/
def setTs (b : Bool) : List Nat → List PyData → Env → Option Env
  | [], [], ρ => some ρ
  | i :: is, p :: ps, ρ => setTs b is ps (ρ.set i (some (fz b p)))
  | _, _, _ => none
def setT (t : Tg) (b : Bool) (p : PyData) (ρ : Env) : Option Env := match t with
  | .name i => some (ρ.set i (some (fz b p)))
  | .tup is => match p with
    | .tuple ps => setTs b is ps ρ
    | .list ps => setTs b is ps ρ
    | _ => none
def wipeE (ρ : Env) : List Nat → Env
  | [] => ρ
  | i :: is => (wipeE ρ is).set i none
def plainD : D → Bool
  | .v p => !mutD p
  | _ => false
/-- the turns of a comprehension; nothing may be raised in it -/
def lcR (st : PyData → Option Env) (cd : Env → TR) (el : Env → R) : List PyData → Rl
  | [] => .ok [] []
  | p :: ps => match st p with
    | none => .stuck
    | some ρ => match cd ρ with
      | .ok true => match el ρ with
        | .ok d al => match lcR st cd el ps with
          | .ok ds bl => .ok (d :: ds) (al ++ bl)
          | _ => .stuck
        | _ => .stuck
      | .ok false => lcR st cd el ps
      | _ => .stuck
def keyP : PyData → Option Key
  | .int i => some (.inl i)
  | .str x => some (.inr x)
  | _ => none
def addK (ks : List Key) (k : Key) : List Key := if (ks.any fun j => decide (j = k)) = true then ks else ks ++ [k]
/-- the keys of a dict comprehension; nothing may be raised in it -/
def dkR (st : PyData → Option Env) (kx : Env → R) : List PyData → List Key → Option (List Key)
  | [], acc => some acc
  | p :: ps, acc => match st p with
    | none => none
    | some ρ => match kx ρ with
      | .ok d _ => match (data d).bind keyP with
        | some k => dkR st kx ps (addK acc k)
        | none => none
      | _ => none
/-- a list from its end -/
def revD (d : D) (al : Al) : R := match data d with
  | some (.list ps) => mkL (isNew d) ps.reverse al
  | _ => .stuck
inductive OR where
  | ok (o : Option Int)
  | exc (c : Str)
  | stuck
def OR.bind (r : OR) (f : Option Int → R) : R := match r with
  | .ok o => f o
  | .exc c => .exc c
  | .stuck => .stuck
def optR (r : R) : OR := match r with
  | .ok d _ => match data d with
    | some (.int i) => .ok (some i)
    | _ => .stuck
  | .exc c => .exc c
  | .stuck => .stuck
/-- a value and a test at once -/
structure VT where
  e : R
  t : TR
def vt (r : R) : VT := ⟨r, truR r⟩
def andR : List VT → R
  | [] => .stuck
  | [e] => e.e
  | e :: es => e.e.bind fun d al => (datT d fun p => (truP p).t).bind fun b => if b then andR es else .ok d al
def orR : List VT → R
  | [] => .stuck
  | [e] => e.e
  | e :: es => e.e.bind fun d al => (datT d fun p => (truP p).t).bind fun b => if b then .ok d al else orR es
def andT : List VT → TR
  | [] => .stuck
  | [e] => e.t
  | e :: es => e.t.bindT fun b => if b then andT es else .ok false
def orT : List VT → TR
  | [] => .stuck
  | [e] => e.t
  | e :: es => e.t.bindT fun b => if b then .ok true else orT es
/-- all of some conditions -/
def allT : List VT → TR
  | [] => .ok true
  | e :: es => e.t.bindT fun b => if b then allT es else .ok false
def seqR : List VT → Rl
  | [] => .ok [] []
  | e :: es => e.e.bindL fun d al => (seqR es).bindL fun ds bl => .ok (d :: ds) (al ++ bl)
mutual
def ev (C : Cal) (G : Glo) : E → Env → VT
  | .non, _ => vt (.ok (.v .none) [])
  | .bl b, _ => vt (.ok (.v (.bool b)) [])
  | .int i, _ => vt (.ok (.v (.int i)) [])
  | .str x, _ => vt (.ok (.v (.str x)) [])
  | .var i, ρ => vt (varR i ρ)
  | .glob g, _ => vt (match G g with
    | some d => .ok (.v d) []
    | none => .stuck)
  | .bin o a b, ρ => vt ((ev C G a ρ).e.bind fun x al => (ev C G b ρ).e.bind fun y bl => dat2 x y (binP o (isNew x && isNew y) (al ++ bl)))
  | .neg a, ρ => vt ((ev C G a ρ).e.bind fun x _ => dat x fun p => match p with
    | .int i => .ok (.v (.int (-i))) []
    | _ => .stuck)
  | .cmp o a b, ρ => vt ((ev C G a ρ).e.bind fun x _ => (ev C G b ρ).e.bind fun y _ => dat2 x y fun p q => (cmpP o p q).r)
  | .chn o o' a b c, ρ => vt ((ev C G a ρ).e.bind fun x _ => (ev C G b ρ).e.bind fun y _ => dat2 x y fun p q => match cmpP o p q with
    | .ok true => (ev C G c ρ).e.bind fun z _ => dat z fun r => (cmpP o' q r).r
    | .ok false => .ok (.v (.bool false)) []
    | .stuck => .stuck)
  | .and es, ρ => ⟨andR (evs C G es ρ), andT (evs C G es ρ)⟩
  | .or es, ρ => ⟨orR (evs C G es ρ), orT (evs C G es ρ)⟩
  | .not a, ρ => ⟨(truR (ev C G a ρ).e).bind fun b => .ok (.v (.bool (!b))) [], (ev C G a ρ).t.bindT fun b => .ok (!b)⟩
  | .ifx c a b, ρ => ⟨(ev C G c ρ).t.bind fun k => if k then (ev C G a ρ).e else (ev C G b ρ).e, (ev C G c ρ).t.bindT fun k => if k then (ev C G a ρ).t else (ev C G b ρ).t⟩
  | .call f es, ρ => vt ((seqR (evs C G es ρ)).bind fun ds al => match datas ds with
    | some ps => callR (C f ps) al
    | none => .stuck)
  | .bi b es, ρ => vt ((seqR (evs C G es ρ)).bind fun ds al => biR b ds al)
  | .isi a t, ρ => vt ((ev C G a ρ).e.bind fun x _ => dat x fun p => .ok (.v (.bool (tyP p t))) [])
  | .ise i cs, ρ => vt (iseR G i cs ρ)
  | .mth m o es, ρ => vt ((ev C G o ρ).e.bind fun x _ => strR x fun a => (seqR (evs C G es ρ)).bind fun ds _ => mtR m a ds)
  | .ix a b, ρ => vt (match varOf a with
    | some i => ixV i ρ (ev C G b ρ).e
    | none => (ev C G a ρ).e.bind fun x al => (ev C G b ρ).e.bind fun y _ => dat2 x y fun p q => ixP (isNew x) al p q)
  | .dkl own k args tg kx, ρ => vt ((seqR (evs C G args ρ)).bind fun ds al => match itemsR k ds al with
    | some (ps, b, _) => match dkR (fun p => setT tg b p (wipeE ρ own)) (fun ρ => (ev C G kx ρ).e) ps [] with
      | some ks => .ok (.v (.int ks.length)) []
      | none => .stuck
    | none => .stuck)
  | .rev a, ρ => vt ((ev C G a ρ).e.bind fun x al => revD x al)
  | .sl a lo hi, ρ => vt ((ev C G a ρ).e.bind fun x al => (evO C G lo ρ).bind fun l => (evO C G hi ρ).bind fun h => slR x al l h)
  | .lst es, ρ => vt ((seqR (evs C G es ρ)).bind fun ds al => .ok (.ol ds) al)
  | .tup es, ρ => vt ((seqR (evs C G es ρ)).bind fun ds al => if ds.all isFz then (match datas ds with
    | some ps => mkT (isNews ds) ps al
    | none => .stuck) else .ok (.ot ds) al)
  | .lc own k args tg cs elt, ρ => vt ((seqR (evs C G args ρ)).bind fun ds al => match itemsR k ds al with
    | some (ps, b, al) => match lcR (fun p => setT tg b p (wipeE ρ own)) (fun ρ => allT (evs C G cs ρ)) (fun ρ => (ev C G elt ρ).e) ps with
      | .ok ds bl => .ok (.ol ds) (if ds.all plainD then [] else al ++ bl)
      | _ => .stuck
    | none => .stuck)
def evs (C : Cal) (G : Glo) : List E → Env → List VT
  | [], _ => []
  | e :: es, ρ => ev C G e ρ :: evs C G es ρ
def evO (C : Cal) (G : Glo) : Option E → Env → OR
  | none, _ => .ok none
  | some e, ρ => optR (ev C G e ρ).e
end
abbrev evE (C : Cal) (G : Glo) (e : E) (ρ : Env) : R := (ev C G e ρ).e
abbrev evT (C : Cal) (G : Glo) (e : E) (ρ : Env) : TR := (ev C G e ρ).t
abbrev evEs (C : Cal) (G : Glo) (es : List E) (ρ : Env) : Rl := seqR (evs C G es ρ)
end Hv

/-! Hv, part 3: how slots and values bear the data. -/
namespace Hv
open PySem PySem.Spec PyProof.Rows L2

mutual
theorem Rp.imm {K : KW} {S S' : AS} {H : Hp} : ∀ {x : V} {d : PyData}, Rp K S H x d → mutD d = false → Rp K S' H x d
  | _, _, .non, _ => .non
  | _, _, .bl b, _ => .bl b
  | _, _, .int i, _ => .int i
  | _, _, .str k, _ => .str k
  | _, _, .lst _ _ _, h => by simp [mutD] at h
  | _, _, .lsk _ _, h => by simp [mutD] at h
  | _, _, .tup r q, h => .tup r (Rps.imm q (by simpa [mutD] using h))
  | _, _, .dk _ _ _, h => by simp [mutD] at h
  | _, _, .dt _ _ _, h => by simp [mutD] at h
  | _, _, .dlk _ _, h => by simp [mutD] at h
theorem Rps.imm {K : KW} {S S' : AS} {H : Hp} : ∀ {xs : List V} {ds : List PyData}, Rps K S H xs ds → mutDs ds = false → Rps K S' H xs ds
  | _, _, .nil, _ => .nil
  | _, _, .cons h t, e => by
    simp only [mutDs, Bool.or_eq_false_iff] at e
    exact .cons (Rp.imm h e.1) (Rps.imm t e.2)
end

mutual
/-- the value x is d: old things in F or N, new ones in N, an island's in I, its own ones in P -/
inductive RD (K : KW) (F N I : AS) (H : Hp) : AS → V → D → Prop
  | v {P : AS} {x : V} {d : PyData} : Rp K (fun a => F a ∨ N a) H x d → RD K F N I H P x (.v d)
  | n {P : AS} {x : V} {d : PyData} : Rp K N H x d → RD K F N I H P x (.n d)
  | isl {P : AS} {x : V} {d : PyData} : Rp K I H x d → RD K F N I H P x (.isl d)
  | ol {P Q : AS} {a : Addr} {xs : List V} {ds : List D} : P a → H a = some (.lst xs) → RDs K F N I H Q xs ds → (∀ b, Q b → P b) → ¬ Q a → RD K F N I H P (.ref a) (.ol ds)
  | ot {P : AS} {a : Addr} {xs : List V} {ds : List D} : SqT K.k H a xs → RDs K F N I H P xs ds → RD K F N I H P (.ref a) (.ot ds)
  | dead {P : AS} {x : V} : RD K F N I H P x .dead
  | exn {P : AS} {a : Addr} : K.x = some (.ref a) → RD K F N I H P (.ref a) .exn
inductive RDs (K : KW) (F N I : AS) (H : Hp) : AS → List V → List D → Prop
  | nil {P : AS} : RDs K F N I H P [] []
  | cons {P P1 P2 : AS} {x : V} {xs : List V} {d : D} {ds : List D} : RD K F N I H P1 x d → RDs K F N I H P2 xs ds → (∀ a, P1 a → P a) → (∀ a, P2 a → P a) → (∀ a, P1 a → ¬ P2 a) → RDs K F N I H P (x :: xs) (d :: ds)
end

section
variable {K : KW} {F N I F' N' I' Z P P' : AS} {H H' : Hp}
mutual
theorem RD.kp (e : Kp Z H H') (hF : ∀ a, F a → F' a ∨ N' a) (hN : ∀ a, N a → N' a) (hI : ∀ a, I a → I' a) (zF : ∀ a, F a → ¬ Z a) (zN : ∀ a, N a → ¬ Z a) (zI : ∀ a, I a → ¬ Z a) (ht : ∀ b ys, Z b → ¬ Rd H b (.tup ys)) :
    ∀ {P P' : AS} {x : V} {d : D}, RD K F N I H P x d → (∀ a, P a → P' a) → (∀ a, P a → ¬ Z a) → RD K F' N' I' H' P' x d
  | _, _, _, _, .v r, _, _ => .v (r.kp e (fun a h => h.elim (hF a) fun z => .inr (hN a z)) (fun a h => h.elim (zF a) (zN a)) ht)
  | _, _, _, _, .n r, _, _ => .n (r.kp e hN zN ht)
  | _, _, _, _, .isl r, _, _ => .isl (r.kp e hI zI ht)
  | _, _, _, _, .ol p h r s q, hP, zP => .ol (hP _ p) (e _ _ (zP _ p) h) (RDs.kp e hF hN hI zF zN zI ht r (fun _ h => h) fun a h => zP a (s a h)) (fun b h => hP _ (s b h)) q
  | _, _, _, _, .ot h r, hP, zP => .ot (SqT.kp h e ht) (RDs.kp e hF hN hI zF zN zI ht r hP zP)
  | _, _, _, _, .dead, _, _ => .dead
  | _, _, _, _, .exn e, _, _ => .exn e
theorem RDs.kp (e : Kp Z H H') (hF : ∀ a, F a → F' a ∨ N' a) (hN : ∀ a, N a → N' a) (hI : ∀ a, I a → I' a) (zF : ∀ a, F a → ¬ Z a) (zN : ∀ a, N a → ¬ Z a) (zI : ∀ a, I a → ¬ Z a) (ht : ∀ b ys, Z b → ¬ Rd H b (.tup ys)) :
    ∀ {P P' : AS} {xs : List V} {ds : List D}, RDs K F N I H P xs ds → (∀ a, P a → P' a) → (∀ a, P a → ¬ Z a) → RDs K F' N' I' H' P' xs ds
  | _, _, _, _, .nil, _, _ => .nil
  | _, _, _, _, .cons h t a b c, hP, zP => .cons (RD.kp e hF hN hI zF zN zI ht h (fun _ h => h) fun _ h => zP _ (a _ h)) (RDs.kp e hF hN hI zF zN zI ht t (fun _ h => h) fun _ h => zP _ (b _ h)) (fun _ h => hP _ (a _ h)) (fun _ h => hP _ (b _ h)) c
end
theorem RD.ext {x : V} {d : D} (h : RD K F N I H P x d) (e : Ext H H') (hF : ∀ a, F a → F' a ∨ N' a) (hN : ∀ a, N a → N' a) (hI : ∀ a, I a → I' a) (hP : ∀ a, P a → P' a) : RD K F' N' I' H' P' x d :=
  RD.kp (Z := fun _ => False) e.kp hF hN hI (fun _ _ z => z) (fun _ _ z => z) (fun _ _ z => z) (fun _ _ z => z.elim) h hP fun _ _ z => z
theorem RDs.ext {x : List V} {d : List D} (h : RDs K F N I H P x d) (e : Ext H H') (hF : ∀ a, F a → F' a ∨ N' a) (hN : ∀ a, N a → N' a) (hI : ∀ a, I a → I' a) (hP : ∀ a, P a → P' a) : RDs K F' N' I' H' P' x d :=
  RDs.kp (Z := fun _ => False) e.kp hF hN hI (fun _ _ z => z) (fun _ _ z => z) (fun _ _ z => z) (fun _ _ z => z.elim) h hP fun _ _ z => z

/-- in NN, and in F too unless b -/
def SB (b : Bool) (F NN : AS) : AS := fun a => (b = false ∧ F a) ∨ NN a
theorem SB.mono {b b' : Bool} {F NN NN' : AS} (h : b' = true → b = true) (hn : ∀ a, NN a → NN' a) : ∀ a, SB b F NN a → SB b' F NN' a := fun a z => by
  rcases z with ⟨z1, z2⟩ | z
  · refine .inl ⟨?_, z2⟩
    cases b' with
    | false => rfl
    | true => rw [h rfl] at z1; cases z1
  · exact .inr (hn a z)
mutual
/-- its data -/
theorem RD.data : ∀ {P : AS} {x : V} {d : D} {p : PyData}, RD K F N I H P x d → data d = some p → Rp K (SB (isNew d) F fun a => N a ∨ (I a ∨ P a)) H x p
  | _, _, _, _, .v (d := d) r, e => by
    simp only [Hv.data, Option.some.injEq] at e; subst e
    cases h : mutD d with
    | false => exact r.imm h
    | true => exact r.mono fun a z => z.elim (fun z => .inl ⟨by simp [isNew, h], z⟩) fun z => .inr (.inl z)
  | _, _, _, _, .n r, e => by
    simp only [Hv.data, Option.some.injEq] at e; subst e
    exact r.mono fun a h => .inr (.inl h)
  | _, _, _, _, .isl r, e => by
    simp only [Hv.data, Option.some.injEq] at e; subst e
    exact r.mono fun a h => .inr (.inr (.inl h))
  | _, _, _, _, .ol (ds := ds) p h r s q, e => by
    simp only [Hv.data] at e
    cases h2 : datas ds with
    | none => rw [h2] at e; cases e
    | some ps =>
      rw [h2] at e
      simp only [Option.map_some, Option.some.injEq] at e
      subst e
      exact .lst (.inr (.inr (.inr p))) (.inl h) ((RDs.datas r h2).mono (SB.mono (fun z => by simpa [isNew] using z) fun a z => z.elim .inl fun z => .inr (z.elim .inl fun z => .inr (s _ z))))
  | _, _, _, _, .ot (ds := ds) h r, e => by
    simp only [Hv.data] at e
    cases h2 : datas ds with
    | none => rw [h2] at e; cases e
    | some ps =>
      rw [h2] at e
      simp only [Option.map_some, Option.some.injEq] at e
      subst e
      exact .tup h ((RDs.datas r h2).mono (SB.mono (fun z => by simpa [isNew] using z) fun a z => z))
  | _, _, _, _, .dead, e => by simp [Hv.data] at e
  | _, _, _, _, .exn _, e => by simp [Hv.data] at e
theorem RDs.datas : ∀ {P : AS} {xs : List V} {ds : List D} {ps : List PyData}, RDs K F N I H P xs ds → datas ds = some ps → Rps K (SB (isNews ds) F fun a => N a ∨ (I a ∨ P a)) H xs ps
  | _, _, _, _, .nil, e => by simp only [Hv.datas, Option.some.injEq] at e; subst e; exact .nil
  | _, _, _, _, .cons (d := d) (ds := ds) h t a b c, e => by
    simp only [Hv.datas] at e
    cases h1 : Hv.data d with
    | none => rw [h1] at e; cases e
    | some p =>
      cases h2 : Hv.datas ds with
      | none => rw [h1, h2] at e; cases e
      | some ps =>
        rw [h1, h2] at e
        simp only [Option.some.injEq] at e
        subst e
        exact .cons ((RD.data h h1).mono (SB.mono (fun z => by simp [isNews] at z; exact z.1) fun _ z => z.elim .inl fun z => .inr (z.elim .inl fun z => .inr (a _ z))))
          ((RDs.datas t h2).mono (SB.mono (fun z => by simp [isNews] at z; exact z.2) fun _ z => z.elim .inl fun z => .inr (z.elim .inl fun z => .inr (b _ z))))
end
mutual
/-- a callee's new things are the caller's own, where nothing old is in it -/
theorem RD.own (hI : ∀ a, I a → I' a) (hN : ∀ a, N a → I' a) : ∀ {P : AS} {x : V} {d : D}, RD K F N I H P x d → hasV d = false → RD K F' N' I' H P x (Hv.own d)
  | _, _, _, .v r, h => .v (r.imm (by simpa [hasV] using h))
  | _, _, _, .n r, _ => .isl (r.mono hN)
  | _, _, _, .isl r, _ => .isl (r.mono hI)
  | _, _, _, .ol p h r s q, hv => .ol p h (RDs.own hI hN r (by simpa [hasV] using hv)) s q
  | _, _, _, .ot h r, hv => .ot h (RDs.own hI hN r (by simpa [hasV] using hv))
  | _, _, _, .dead, _ => .dead
  | _, _, _, .exn e, _ => .exn e
theorem RDs.own (hI : ∀ a, I a → I' a) (hN : ∀ a, N a → I' a) : ∀ {P : AS} {xs : List V} {ds : List D}, RDs K F N I H P xs ds → hasVs ds = false → RDs K F' N' I' H P xs (Hv.owns ds)
  | _, _, _, .nil, _ => .nil
  | _, _, _, .cons h t a b c, hv => by
    simp only [hasVs, Bool.or_eq_false_iff] at hv
    exact .cons (RD.own hI hN h hv.1) (RDs.own hI hN t hv.2) a b c
end
/-- with another exception in hand, or none -/
theorem KW.eta {K K' : KW} (h1 : K'.k = K.k) (h2 : K'.p = K.p) : K' = ⟨K.k, K.p, K'.x⟩ := by
  cases K; cases K'; simp only at h1 h2; subst h1 h2; rfl
mutual
theorem Rp.kx {k : PySem.W.Frag} {p : Params} {u v : Option Value} {S : AS} : ∀ {x : V} {d : PyData}, Rp ⟨k, p, u⟩ S H x d → Rp ⟨k, p, v⟩ S H x d
  | _, _, .non => .non
  | _, _, .bl b => .bl b
  | _, _, .int i => .int i
  | _, _, .str k => .str k
  | _, _, .lst s r q => .lst s r (Rps.kx q)
  | _, _, .lsk l q => .lsk l (Rps.kx q)
  | _, _, .tup r q => .tup r (Rps.kx q)
  | _, _, .dk s r q => .dk s r (Rps.kx q)
  | _, _, .dt s r q => .dt s r (Rps.kx q)
  | _, _, .dlk l q => .dlk l (Rps.kx q)
theorem Rps.kx {k : PySem.W.Frag} {p : Params} {u v : Option Value} {S : AS} : ∀ {x : List V} {d : List PyData}, Rps ⟨k, p, u⟩ S H x d → Rps ⟨k, p, v⟩ S H x d
  | _, _, .nil => .nil
  | _, _, .cons h t => .cons (Rp.kx h) (Rps.kx t)
end
mutual
theorem RD.kx {k : PySem.W.Frag} {p : Params} {u v : Option Value} : ∀ {P : AS} {x : V} {d : D}, RD ⟨k, p, u⟩ F N I H P x d → (noX d = true ∨ u = none) → RD ⟨k, p, v⟩ F N I H P x d
  | _, _, _, .v r, _ => .v r.kx
  | _, _, _, .n r, _ => .n r.kx
  | _, _, _, .isl r, _ => .isl r.kx
  | _, _, _, .ol p h r s q, hv => .ol p h (RDs.kx r (hv.imp (fun z => by simpa [noX] using z) id)) s q
  | _, _, _, .ot h r, hv => .ot h (RDs.kx r (hv.imp (fun z => by simpa [noX] using z) id))
  | _, _, _, .dead, _ => .dead
  | _, _, _, .exn e, hv => by
    rcases hv with hv | hv
    · simp [noX] at hv
    · subst hv; cases e
theorem RDs.kx {k : PySem.W.Frag} {p : Params} {u v : Option Value} : ∀ {P : AS} {x : List V} {d : List D}, RDs ⟨k, p, u⟩ F N I H P x d → (noXs d = true ∨ u = none) → RDs ⟨k, p, v⟩ F N I H P x d
  | _, _, _, .nil, _ => .nil
  | _, _, _, .cons h t a b c, hv => .cons (RD.kx h (hv.imp (fun z => by simp [noXs] at z; exact z.1) id)) (RDs.kx t (hv.imp (fun z => by simp [noXs] at z; exact z.2) id)) a b c
end
/-- not to be changed any more -/
theorem RD.fz {b : Bool} {x : V} {p : PyData} (h : Rp K (SB b F N) H x p) : RD K F N I H P x (fz b p) := by
  unfold Hv.fz
  split
  · rename_i e
    simp only [Bool.and_eq_true] at e
    exact .n (h.mono fun a z => z.elim (fun z => by rw [e.1] at z; cases z.1) fun z => z)
  · exact .v (h.mono fun a z => z.elim (fun z => .inl z.2) .inr)
theorem RD.view {x : V} {d e : D} (h : RD K F N I H P x d) (hv : view d = some e) : RD K F (fun a => N a ∨ (I a ∨ P a)) I' H P' x e := by
  unfold Hv.view at hv
  cases h1 : Hv.data d with
  | none => rw [h1] at hv; cases hv
  | some p =>
    rw [h1] at hv
    simp only [Option.map_some, Option.some.injEq] at hv
    subst hv
    exact RD.fz (h.data h1)
theorem RDs.len : ∀ {P : AS} {xs : List V} {ds : List D}, RDs K F N I H P xs ds → xs.length = ds.length
  | _, _, _, .nil => rfl
  | _, _, _, .cons _ t _ _ _ => by rw [List.length_cons, List.length_cons, RDs.len t]
theorem RDs.get : ∀ {P : AS} {xs : List V} {ds : List D} {i : Nat} {d : D}, RDs K F N I H P xs ds → ds[i]? = some d → ∃ x, xs[i]? = some x ∧ RD K F N I H P x d
  | _, _, _, _, _, .nil, e => by simp at e
  | _, _, _, 0, _, .cons h _ a _ _, e => ⟨_, rfl, by simp at e; exact e ▸ h.ext Ext.refl (fun _ z => .inl z) (fun _ z => z) (fun _ z => z) a⟩
  | _, _, _, i + 1, _, .cons _ t _ b _, e => by
    obtain ⟨x, e1, h⟩ := RDs.get (i := i) t (by simpa using e)
    exact ⟨x, by simpa using e1, h.ext Ext.refl (fun _ z => .inl z) (fun _ z => z) (fun _ z => z) b⟩
theorem RDs.of_v : ∀ {xs : List V} {ps : List PyData}, Rps K (fun a => F a ∨ N a) H xs ps → RDs K F N I H (fun _ => False) xs (ps.map .v)
  | _, _, .nil => .nil
  | _, _, .cons h t => .cons (P1 := fun _ => False) (.v h) (RDs.of_v t) (fun _ z => z) (fun _ z => z) (fun _ z => z.elim)
theorem RDs.of_fz {b : Bool} : ∀ {xs : List V} {ps : List PyData}, Rps K (SB b F N) H xs ps → RDs K F N I H (fun _ => False) xs (ps.map (Hv.fz b))
  | _, _, .nil => .nil
  | _, _, .cons h t => .cons (P1 := fun _ => False) (RD.fz h) (RDs.of_fz t) (fun _ z => z) (fun _ z => z) (fun _ z => z.elim)
theorem RD.oL {a : Addr} {xs : List V} {ps : List PyData} (h : H a = some (.lst xs)) (r : Rps K (fun a => F a ∨ N a) H xs ps) (hp : P a) : RD K F N I H P (.ref a) (oL ps) :=
  .ol (Q := fun _ => False) hp h (RDs.of_v r) (fun _ z => z.elim) fun z => z
end

/-- .. with all that nobody else has in P -/
def RW (K : KW) (F N : AS) (H : Hp) (P : AS) (x : V) (d : D) : Prop := ∃ I Q, RD K F N I H Q x d ∧ (∀ a, I a → P a) ∧ (∀ a, Q a → P a) ∧ ∀ a, I a → ¬ Q a
def RWs (K : KW) (F N : AS) (H : Hp) (P : AS) (x : List V) (d : List D) : Prop := ∃ I Q, RDs K F N I H Q x d ∧ (∀ a, I a → P a) ∧ (∀ a, Q a → P a) ∧ ∀ a, I a → ¬ Q a
section
variable {K : KW} {F N I F' N' I' Z P P' : AS} {H H' : Hp}
theorem RW.mk {x : V} {d : D} (h : RD K F N (fun _ => False) H P x d) : RW K F N H P x d := ⟨_, P, h, fun _ z => z.elim, fun _ z => z, fun _ z => z.elim⟩
theorem RW.kp {x : V} {d : D} (h : RW K F N H P x d) (e : Kp Z H H') (hF : ∀ a, F a → F' a ∨ N' a) (hN : ∀ a, N a → N' a) (zF : ∀ a, F a → ¬ Z a) (zN : ∀ a, N a → ¬ Z a) (ht : ∀ b ys, Z b → ¬ Rd H b (.tup ys)) (hP : ∀ a, P a → P' a) (zP : ∀ a, P a → ¬ Z a) : RW K F' N' H' P' x d :=
  let ⟨I, Q, r, hi, hq, hd⟩ := h
  ⟨I, Q, r.kp e hF hN (fun _ z => z) zF zN (fun a z => zP a (hi a z)) ht (fun _ z => z) fun a z => zP a (hq a z), fun a z => hP a (hi a z), fun a z => hP a (hq a z), hd⟩
theorem RW.ext {x : V} {d : D} (h : RW K F N H P x d) (e : Ext H H') (hF : ∀ a, F a → F' a ∨ N' a) (hN : ∀ a, N a → N' a) (hP : ∀ a, P a → P' a) : RW K F' N' H' P' x d :=
  RW.kp (Z := fun _ => False) h e.kp hF hN (fun _ _ z => z) (fun _ _ z => z) (fun _ _ z => z.elim) hP fun _ _ z => z
theorem RWs.ext {x : List V} {d : List D} (h : RWs K F N H P x d) (e : Ext H H') (hF : ∀ a, F a → F' a ∨ N' a) (hN : ∀ a, N a → N' a) (hP : ∀ a, P a → P' a) : RWs K F' N' H' P' x d :=
  let ⟨I, Q, r, hi, hq, hd⟩ := h
  ⟨I, Q, r.ext e hF hN (fun _ z => z) (fun _ z => z), fun a z => hP a (hi a z), fun a z => hP a (hq a z), hd⟩
theorem RW.data {x : V} {d : D} {p : PyData} (h : RW K F N H P x d) (e : data d = some p) : Rp K (SB (isNew d) F fun a => N a ∨ P a) H x p :=
  let ⟨I, Q, r, hi, hq, hd⟩ := h
  (r.data e).mono (SB.mono (fun z => z) fun a z => z.elim .inl fun z => .inr (z.elim (hi a) (hq a)))
theorem RWs.datas {x : List V} {d : List D} {p : List PyData} (h : RWs K F N H P x d) (e : datas d = some p) : Rps K (SB (isNews d) F fun a => N a ∨ P a) H x p :=
  let ⟨I, Q, r, hi, hq, hd⟩ := h
  (r.datas e).mono (SB.mono (fun z => z) fun a z => z.elim .inl fun z => .inr (z.elim (hi a) (hq a)))
theorem RW.view {x : V} {d e : D} (h : RW K F N H P x d) (hv : view d = some e) : RW K F (fun a => N a ∨ P a) H P' x e := by
  unfold Hv.view at hv
  cases h1 : Hv.data d with
  | none => rw [h1] at hv; cases hv
  | some p =>
    rw [h1] at hv
    simp only [Option.map_some, Option.some.injEq] at hv
    subst hv
    exact .mk (RD.fz (h.data h1))
end

/-! ### the slots -/
structure Stt (K : KW) (E0 : Hp) (F N : AS) (Pf : Nat → AS) (H : Hp) (σ : L2.St) (ρ : Env) : Prop where
  len : σ.length = ρ.length
  rep : ∀ i d, ρ[i]? = some (some d) → ∃ x, σ[i]? = some (some x) ∧ RW K F N H (Pf i) x d
  dis : ∀ i j a, Pf i a → Pf j a → i = j
  prv : ∀ i a, Pf i a → ¬ N a ∧ E0 a = none ∧ H a ≠ none
  new : ∀ a, N a → E0 a = none ∧ H a ≠ none
  old : ∀ a, F a → E0 a ≠ none
  ext : Ext E0 H
/-- what an expression needs of the slots -/
structure StE (K : KW) (F N : AS) (Pf : Nat → AS) (H : Hp) (σ : L2.St) (ρ : Env) : Prop where
  len : σ.length = ρ.length
  rep : ∀ i d, ρ[i]? = some (some d) → ∃ x, σ[i]? = some (some x) ∧ RW K F N H (Pf i) x d
  tF : ∀ a, F a → H a ≠ none
  tN : ∀ a, N a → H a ≠ none
  tP : ∀ i a, Pf i a → H a ≠ none
/-- an expression's value -/
structure Res (K : KW) (F N : AS) (Pf : Nat → AS) (H : Hp) (al : Al) (H' : Hp) (Nv Pv : AS) (x : V) (d : D) : Prop where
  ext : Ext H H'
  rd : RW K F (fun a => N a ∨ (∃ i, i ∈ al ∧ Pf i a) ∨ Nv a) H' Pv x d
  nv : ∀ a, Nv a → H a = none ∧ H' a ≠ none ∧ ¬ Pv a
  pv : ∀ a, Pv a → H a = none ∧ H' a ≠ none
structure Resl (K : KW) (F N : AS) (Pf : Nat → AS) (H : Hp) (al : Al) (H' : Hp) (Nv Pv : AS) (x : List V) (d : List D) : Prop where
  ext : Ext H H'
  rd : RWs K F (fun a => N a ∨ (∃ i, i ∈ al ∧ Pf i a) ∨ Nv a) H' Pv x d
  nv : ∀ a, Nv a → H a = none ∧ H' a ≠ none ∧ ¬ Pv a
  pv : ∀ a, Pv a → H a = none ∧ H' a ≠ none
section
variable {K : KW} {E0 : Hp} {F N : AS} {Pf : Nat → AS} {H H' H1 H2 : Hp} {σ : L2.St} {ρ : Env} {al bl : Al} {Nv Pv : AS}
theorem Stt.e (S : Stt K E0 F N Pf H σ ρ) : StE K F N Pf H σ ρ := ⟨S.len, S.rep, fun a h => S.ext.ne (S.old a h), fun a h => (S.new a h).2, fun i a h => (S.prv i a h).2.2⟩
theorem StE.more (S : StE K F N Pf H σ ρ) (e : Ext H H') : StE K F N Pf H' σ ρ where
  len := S.len
  rep := fun i d h => by
    obtain ⟨x, e1, r⟩ := S.rep i d h
    exact ⟨x, e1, r.ext e (fun _ z => .inl z) (fun _ z => z) (fun _ z => z)⟩
  tF := fun a h => e.ne (S.tF a h)
  tN := fun a h => e.ne (S.tN a h)
  tP := fun i a h => e.ne (S.tP i a h)
theorem Stt.more (S : Stt K E0 F N Pf H σ ρ) (e : Ext H H') : Stt K E0 F N Pf H' σ ρ where
  len := S.len
  rep := fun i d h => by
    obtain ⟨x, e1, r⟩ := S.rep i d h
    exact ⟨x, e1, r.ext e (fun _ z => .inl z) (fun _ z => z) (fun _ z => z)⟩
  dis := S.dis
  prv := fun i a h => let ⟨p, q, r⟩ := S.prv i a h; ⟨p, q, e.ne r⟩
  new := fun a h => let ⟨p, q⟩ := S.new a h; ⟨p, e.ne q⟩
  old := S.old
  ext := S.ext.trans e
theorem Ext.none (e : Ext H H1) {a : Addr} (h : H1 a = none) : H a = none := by
  cases q : H a with
  | none => rfl
  | some o => rw [e a o q] at h; cases h
/-- a value without parts of its own -/
theorem Res.imm {x : V} {p : PyData} (h : Rp K (fun _ => False) H x p) : Res K F N Pf H [] H (fun _ => False) (fun _ => False) x (.v p) :=
  ⟨Ext.refl, .mk (.v (h.mono fun _ z => z.elim)), fun _ z => z.elim, fun _ z => z.elim⟩
theorem Res.scal {x : V} {p : PyData} {S : AS} (e : Ext H H') (h : Rp K S H' x p) (m : mutD p = false) : Res K F N Pf H [] H' (fun _ => False) (fun _ => False) x (.v p) :=
  ⟨e, .mk (.v (h.imm m)), fun _ z => z.elim, fun _ z => z.elim⟩
theorem Resl.nil : Resl K F N Pf H [] H (fun _ => False) (fun _ => False) [] [] :=
  ⟨Ext.refl, ⟨fun _ => False, fun _ => False, .nil, fun _ z => z.elim, fun _ z => z.elim, fun _ z => z.elim⟩, fun _ z => z.elim, fun _ z => z.elim⟩
theorem Resl.cons {N1 P1 N2 P2 : AS} {x : V} {xs : List V} {d : D} {ds : List D} (a : Res K F N Pf H al H1 N1 P1 x d) (b : Resl K F N Pf H1 bl H2 N2 P2 xs ds) :
    Resl K F N Pf H (al ++ bl) H2 (fun a => N1 a ∨ N2 a) (fun a => P1 a ∨ P2 a) (x :: xs) (d :: ds) where
  ext := a.ext.trans b.ext
  rd := by
    obtain ⟨I1, Q1, r1, hi1, hq1, hd1⟩ := a.rd
    obtain ⟨I2, Q2, r2, hi2, hq2, hd2⟩ := b.rd
    refine ⟨fun c => I1 c ∨ I2 c, fun c => Q1 c ∨ Q2 c, .cons (r1.ext b.ext (fun _ z => .inl z) (fun c z => z.elim .inl fun z => .inr (z.elim (fun ⟨i, m, p⟩ => .inl ⟨i, List.mem_append_left _ m, p⟩) fun z => .inr (.inl z))) (fun _ z => .inl z) fun _ z => z)
      (r2.ext Ext.refl (fun _ z => .inl z) (fun c z => z.elim .inl fun z => .inr (z.elim (fun ⟨i, m, p⟩ => .inl ⟨i, List.mem_append_right _ m, p⟩) fun z => .inr (.inr z))) (fun _ z => .inr z) fun _ z => z)
      (fun _ z => .inl z) (fun _ z => .inr z) (fun c h1 h2 => (a.pv c (hq1 c h1)).2 (b.pv c (hq2 c h2)).1), fun c z => z.elim (fun z => .inl (hi1 c z)) fun z => .inr (hi2 c z), fun c z => z.elim (fun z => .inl (hq1 c z)) fun z => .inr (hq2 c z), fun c z => ?_⟩
    rintro (w | w)
    · rcases z with z | z
      · exact hd1 c z w
      · exact (a.pv c (hq1 c w)).2 (b.pv c (hi2 c z)).1
    · rcases z with z | z
      · exact (a.pv c (hi1 c z)).2 (b.pv c (hq2 c w)).1
      · exact hd2 c z w
  nv := fun c z => by
    rcases z with z | z
    · obtain ⟨p, q, r⟩ := a.nv c z
      exact ⟨p, b.ext.ne q, fun w => w.elim r fun w => q (b.pv c w).1⟩
    · obtain ⟨p, q, r⟩ := b.nv c z
      exact ⟨a.ext.none p, q, fun w => w.elim (fun w => (a.pv c w).2 p) r⟩
  pv := fun c z => by
    rcases z with z | z
    · obtain ⟨p, q⟩ := a.pv c z
      exact ⟨p, b.ext.ne q⟩
    · obtain ⟨p, q⟩ := b.pv c z
      exact ⟨a.ext.none p, q⟩
end
end Hv

/-! Hv, part 4: expressions. -/
namespace Hv
open PySem PySem.Spec PyProof.Rows L2

/-! ### wishes and the context -/
def _root_.L2.Cx.kw (X : Cx) : KW := ⟨X.K, X.w.params, X.A.handled⟩
/-- an exception of an own class -/
def ExcV (K : PySem.W.Frag) (c : Str) (cl : Value) (od : Option Addr) : Prop := cl = .ref (He.ga K c) ∧ od = none
/-- what an expression's end owes -/
def PR (K : KW) (W : WX) (F N : AS) (Pf : Nat → AS) (σ : L2.St) (H : Hp) (Q : VK) (r : R) : Prop := match r with
  | .ok d al => ∀ x H' Nv Pv, Res K F N Pf H al H' Nv Pv x d → Q x H'
  | .exc c => ∀ H' cl od, Ext H H' → ExcV K.k c cl od → W cl od σ H'
  | .stuck => False
def PT' (K : KW) (W : WX) (σ : L2.St) (H : Hp) (Q : Bool → Hp → Prop) (r : TR) : Prop := match r with
  | .ok b => ∀ H', Ext H H' → Q b H'
  | .exc c => ∀ H' cl od, Ext H H' → ExcV K.k c cl od → W cl od σ H'
  | .stuck => False
def PL (K : KW) (W : WX) (F N : AS) (Pf : Nat → AS) (σ : L2.St) (H : Hp) (Q : List V → Hp → Prop) (r : Rl) : Prop := match r with
  | .ok d al => ∀ x H' Nv Pv, Resl K F N Pf H al H' Nv Pv x d → Q x H'
  | .exc c => ∀ H' cl od, Ext H H' → ExcV K.k c cl od → W cl od σ H'
  | .stuck => False
/-- readings by the evaluator -/
def tE (K : KW) (W : WX) (f : Env → R) : TE := fun σ H Q => ∃ F N Pf ρ, StE K F N Pf H σ ρ ∧ PR K W F N Pf σ H Q (f ρ)
def tT (K : KW) (W : WX) (f : Env → TR) : TT := fun σ H Q => ∃ F N Pf ρ, StE K F N Pf H σ ρ ∧ PT' K W σ H Q (f ρ)
def tA (K : KW) (W : WX) (f : Env → Rl) : TA := fun σ H Q => ∃ F N Pf ρ, StE K F N Pf H σ ρ ∧ PL K W F N Pf σ H Q (f ρ)

theorem PE_imp {X : Cx} {e : Expr} {t t' : TE} (h : PE X e t) (i : ∀ σ H Q, t' σ H Q → t σ H Q) : PE X e t' :=
  ⟨fun pins s σ H Q I q => h.run pins s σ H Q I (i σ H Q q)⟩
theorem PT_imp {X : Cx} {e : Expr} {t t' : TT} (h : PT X e t) (i : ∀ σ H Q, t' σ H Q → t σ H Q) : PT X e t' :=
  ⟨fun pins s σ H Q I q => h.run pins s σ H Q I (i σ H Q q)⟩
theorem PA_imp {X : Cx} {e : List Expr} {t t' : TA} (h : PA X e t) (i : ∀ σ H Q, t' σ H Q → t σ H Q) : PA X e t' :=
  ⟨fun pos pins s σ H Q I q => h.run pos pins s σ H Q I (i σ H Q q)⟩
theorem PE_or {X : Cx} {e : Expr} {t t' : TE} (h : PE X e t) (h' : PE X e t') : PE X e (fun σ H Q => t σ H Q ∨ t' σ H Q) :=
  ⟨fun pins s σ H Q I q => q.elim (h.run pins s σ H Q I) (h'.run pins s σ H Q I)⟩
/-- lists and the like are not too long -/
def Wf (H : Hp) : Prop := (∀ a xs, Rd H a (.lst xs) → xs.length ≤ sizeLine) ∧ (∀ a xs, Rd H a (.tup xs) → xs.length ≤ sizeLine)
theorem wf_of {X : Cx} {pins : List (Addr × Obj)} {σ : L2.St} {H : Hp} {s : Shared} (I : Inv X pins σ H s) : Wf H :=
  ⟨fun a xs h => let ⟨z, _⟩ := h.ok I.hok; z, fun a xs h => let ⟨z, _⟩ := h.ok I.hok; z⟩
theorem PE_wf {X : Cx} {e : Expr} {t : TE} (h : PE X e t) : PE X e (fun σ H Q => Wf H → t σ H fun x H' => Wf H' → Q x H') :=
  ⟨fun pins s σ H Q I q => thn (h.run pins s σ H _ I (q (wf_of I))) fun u s' ⟨x, H', I', r, k⟩ => ⟨x, H', I', r, k (wf_of I')⟩⟩

section
variable {K : KW} {W : WX} {E0 : Hp} {F N : AS} {Pf : Nat → AS} {σ : L2.St} {H H1 H2 : Hp} {ρ : Env} {Q : VK}
theorem Res.later {al : Al} {Nv Pv : AS} {x : V} {d : D} (e : Ext H H1) (R : Res K F N Pf H1 al H2 Nv Pv x d) : Res K F N Pf H al H2 Nv Pv x d :=
  ⟨e.trans R.ext, R.rd, fun a h => let ⟨p, q⟩ := R.nv a h; ⟨e.none p, q⟩, fun a h => let ⟨p, q⟩ := R.pv a h; ⟨e.none p, q⟩⟩
/-- behind an expression's part -/
theorem PR.later {r : R} (e : Ext H H1) (h : PR K W F N Pf σ H Q r) : PR K W F N Pf σ H1 Q r := by
  cases r with
  | ok d al => exact fun x H' Nv Pv R => h x H' Nv Pv (R.later e)
  | exc c => exact fun H' cl od he hx => h H' cl od (e.trans he) hx
  | stuck => exact h
theorem PT'.later {r : TR} {QT : Bool → Hp → Prop} (e : Ext H H1) (h : PT' K W σ H QT r) : PT' K W σ H1 QT r := by
  cases r with
  | ok d => exact fun H' he => h H' (e.trans he)
  | exc c => exact fun H' cl od he hx => h H' cl od (e.trans he) hx
  | stuck => exact h
/-- one part -/
theorem tE_one {fa : Env → R} {g : Env → D → Al → R} (h : tE K W (fun ρ => (fa ρ).bind (g ρ)) σ H Q) {r : V → Hp → VK → Prop}
    (hr : ∀ F N Pf ρ x d al H1 N1 P1, StE K F N Pf H σ ρ → Res K F N Pf H al H1 N1 P1 x d → PR K W F N Pf σ H Q (g ρ d al) → r x H1 Q) : tE K W fa σ H fun x H1 => r x H1 Q := by
  obtain ⟨F, N, Pf, ρ, S, h⟩ := h
  refine ⟨F, N, Pf, ρ, S, ?_⟩
  cases e : fa ρ with
  | ok d al =>
    simp only [R.bind, e] at h
    intro x H1 N1 P1 R
    exact hr _ _ _ _ _ _ _ _ _ _ S R h
  | exc c => simp only [R.bind, e] at h; exact h
  | stuck => simp only [R.bind, e] at h; exact h
/-- two parts -/
theorem tE_two {fa fb : Env → R} {g : Env → D → Al → D → Al → R} (h : tE K W (fun ρ => (fa ρ).bind fun x al => (fb ρ).bind fun y bl => g ρ x al y bl) σ H Q) {r : V → V → Hp → VK → Prop}
    (hr : ∀ F N Pf ρ x d al H1 N1 P1 y e bl H2 N2 P2, StE K F N Pf H σ ρ → Res K F N Pf H al H1 N1 P1 x d → Res K F N Pf H1 bl H2 N2 P2 y e → PR K W F N Pf σ H Q (g ρ d al e bl) → r x y H2 Q) :
    tE K W fa σ H fun x H1 => tE K W fb σ H1 fun y H2 => r x y H2 Q := by
  obtain ⟨F, N, Pf, ρ, S, h⟩ := h
  refine ⟨F, N, Pf, ρ, S, ?_⟩
  cases e : fa ρ with
  | ok d al =>
    simp only [R.bind, e] at h
    intro x H1 N1 P1 R
    refine ⟨F, N, Pf, ρ, S.more R.ext, ?_⟩
    cases e2 : fb ρ with
    | ok d2 bl =>
      intro y H2 N2 P2 R2
      simp only [e2] at h
      exact hr _ _ _ _ _ _ _ _ _ _ _ _ _ _ _ _ S R R2 h
    | exc c =>
      simp only [e2] at h
      intro H' cl od he hx
      exact h H' cl od (R.ext.trans he) hx
    | stuck => simp only [e2] at h; exact h
  | exc c => simp only [R.bind, e] at h; exact h
  | stuck => simp only [R.bind, e] at h; exact h
/-- what a value may lie in -/
def S1 (N : AS) (Pf : Nat → AS) (al : Al) (A : AS) : AS := fun a => N a ∨ (∃ i, i ∈ al ∧ Pf i a) ∨ A a
/-- the data of a value, as it lies then -/
theorem Res.dat {al : Al} {Nv Pv : AS} {x : V} {d : D} {p : PyData} (R : Res K F N Pf H al H1 Nv Pv x d) (e : data d = some p) (ex : Ext H1 H2) :
    Rp K (SB (isNew d) F (S1 N Pf al fun a => Nv a ∨ Pv a)) H2 x p :=
  (R.rd.data e).ext ex (SB.mono (fun z => z) fun a h => by
    rcases h with (h | h | h) | h
    · exact .inl h
    · exact .inr (.inl h)
    · exact .inr (.inr (.inl h))
    · exact .inr (.inr (.inr h)))
theorem Resl.dat {al : Al} {Nv Pv : AS} {x : List V} {d : List D} {p : List PyData} (R : Resl K F N Pf H al H1 Nv Pv x d) (e : datas d = some p) (ex : Ext H1 H2) :
    Rps K (SB (isNews d) F (S1 N Pf al fun a => Nv a ∨ Pv a)) H2 x p :=
  (R.rd.datas e).ext ex (SB.mono (fun z => z) fun a h => by
    rcases h with (h | h | h) | h
    · exact .inl h
    · exact .inr (.inl h)
    · exact .inr (.inr (.inl h))
    · exact .inr (.inr (.inr h)))
/-- a value without lists -/
theorem PR.scal {p : PyData} {x : V} {S : AS} (h : PR K W F N Pf σ H Q (.ok (.v p) [])) (e : Ext H H1) (r : Rp K S H1 x p) (m : mutD p = false) : Q x H1 :=
  h x H1 _ _ (Res.scal e r m)
theorem PR.int {i : Int} (h : PR K W F N Pf σ H Q (.ok (.v (.int i)) [])) (e : Ext H H1) : Q (.int i) H1 := h.scal (S := fun _ => False) e (.int i) rfl
theorem PR.bool {i : Bool} (h : PR K W F N Pf σ H Q (.ok (.v (.bool i)) [])) (e : Ext H H1) : Q (.bl i) H1 := h.scal (S := fun _ => False) e (.bl i) rfl
theorem PR.str {i : Str} (h : PR K W F N Pf σ H Q (.ok (.v (.str i)) [])) (e : Ext H H1) (k : PyData.strOk i = true) : Q (.str i) H1 := h.scal (S := fun _ => False) e (.str k) rfl
/-- a new list -/
theorem PR.mkL {b : Bool} {ps : List PyData} {al : Al} {zs : List V} {Nv : AS} {p : Addr} (h : PR K W F N Pf σ H Q (mkL b ps al)) (e : Ext H H2)
    (r : Rps K (SB b F (S1 N Pf al Nv)) H2 zs ps)
    (nv : ∀ a, Nv a → H a = none ∧ H2 a ≠ none) (hp : H2 p = none) : Q (.ref p) (upd H2 p (.lst zs)) := by
  have e2 : Ext H2 (upd H2 p (.lst zs)) := Ext.new hp
  have hp0 : H p = none := by
    cases q : H p with
    | none => rfl
    | some o => rw [e p o q] at hp; cases hp
  unfold Hv.mkL at h
  split at h
  · refine h _ _ Nv (fun a => a = p) ⟨e.trans e2, ?_, fun a q => ?_, fun a q => ?_⟩
    · exact .mk <| .ol (Q := fun _ => False) rfl upd_same (RDs.of_fz (r.ext e2 fun _ z => z)) (fun _ z => z.elim) fun z => z
    · refine ⟨(nv a q).1, e2.ne (nv a q).2, fun z => ?_⟩
      subst z
      exact (nv _ q).2 hp
    · subst q
      exact ⟨hp0, by rw [upd_same]; exact fun z => nomatch z⟩
  · rename_i m
    refine h _ _ (fun _ => False) (fun a => a = p) ⟨e.trans e2, ?_, fun a q => q.elim, fun a q => ?_⟩
    · exact .mk <| RD.oL upd_same ((r.ext e2 fun _ z => z).imm (by simpa using m)) rfl
    · subst q
      exact ⟨hp0, by rw [upd_same]; exact fun z => nomatch z⟩
/-- a tuple -/
theorem PR.mkT {b : Bool} {ps : List PyData} {al : Al} {zs : List V} {Nv : AS} {p : Addr} (h : PR K W F N Pf σ H Q (mkT b ps al)) (e : Ext H H2) (ht : SqT K.k H2 p zs)
    (r : Rps K (SB b F (S1 N Pf al Nv)) H2 zs ps)
    (nv : ∀ a, Nv a → H a = none ∧ H2 a ≠ none) : Q (.ref p) H2 := by
  unfold Hv.mkT at h
  split at h
  · refine h _ _ Nv (fun _ => False) ⟨e, ?_, fun a q => ⟨(nv a q).1, (nv a q).2, fun z => z⟩, fun a q => q.elim⟩
    exact .mk (RD.fz (.tup ht r))
  · rename_i m
    exact h _ _ (fun _ => False) (fun _ => False) ⟨e, .mk <| .v ((Rp.tup ht r).imm (by simpa [mutD] using m)), fun a q => q.elim, fun a q => q.elim⟩
end

/-! ### names and constants -/
section
variable {X : Cx} {W : WX} {pos : Pos}
theorem he_c {e : Expr} {v : V} {p : PyData} (h : PE X e (tC v)) (r : ∀ H, Rp X.kw (fun _ => False) H v p) : PE X e (tE X.kw W fun _ => .ok (.v p) []) :=
  PE_imp h fun σ H Q ⟨F, N, Pf, ρ, S, q⟩ => q _ _ _ _ (Res.imm (r H))
theorem he_var {i : Nat} {x : Str} (hN : X.N[i]? = some x) (hv : Vis X.env.scope x) (hd : (x == ("__debug__" : Str)) = false) (hc : (x == ("__classdict__" : Str)) = false) : PE X (.Name x pos) (tE X.kw W (varR i)) := by
  refine PE_imp (pe_var hN hv hd hc) fun σ H Q ⟨F, N, Pf, ρ, S, q⟩ => ?_
  unfold varR at q
  cases e : ρ[i]? with
  | none => rw [e] at q; exact q.elim
  | some o =>
    rw [e] at q
    cases o with
    | none => exact q.elim
    | some d =>
      obtain ⟨x, e1, r⟩ := S.rep i d e
      have gen : ∀ w, view d = some w → PR X.kw W F N Pf σ H Q (.ok w [i]) → tVar i σ H Q := fun w hw q => by
        refine ⟨x, e1, q _ _ (fun _ => False) (fun _ => False) ⟨Ext.refl, ?_, fun _ z => z.elim, fun _ z => z.elim⟩⟩
        exact (r.view (P' := fun _ => False) hw).ext Ext.refl (fun _ z => .inl z) (fun a z => z.elim .inl fun z => .inr (.inl ⟨i, by simp, z⟩)) fun _ z => z
      cases d with
      | v p =>
        obtain ⟨I, Q', r, _, _, _⟩ := r
        cases r with
        | v r => exact ⟨x, e1, q _ _ (fun _ => False) (fun _ => False) ⟨Ext.refl, .mk (.v (r.mono fun _ z => z.elim .inl fun z => .inr (.inl z))), fun _ z => z.elim, fun _ z => z.elim⟩⟩
      | n p =>
        obtain ⟨I, Q', r, _, _, _⟩ := r
        cases r with
        | n r => exact ⟨x, e1, q _ _ (fun _ => False) (fun _ => False) ⟨Ext.refl, .mk (.n (r.mono fun _ z => .inl z)), fun _ z => z.elim, fun _ z => z.elim⟩⟩
      | isl p => cases hw : view (.isl p) with
        | none => simp only [hw] at q; exact q.elim
        | some w => simp only [hw] at q; exact gen w hw q
      | ol p => cases hw : view (.ol p) with
        | none => simp only [hw] at q; exact q.elim
        | some w => simp only [hw] at q; exact gen w hw q
      | ot p => cases hw : view (.ot p) with
        | none => simp only [hw] at q; exact q.elim
        | some w => simp only [hw] at q; exact gen w hw q
      | od p => cases hw : view (.od p) with
        | none => simp only [hw] at q; exact q.elim
        | some w => simp only [hw] at q; exact gen w hw q
      | dead => cases hw : view .dead with
        | none => simp only [hw] at q; exact q.elim
        | some w => simp only [hw] at q; exact gen w hw q
      | exn => cases hw : view .exn with
        | none => simp only [hw] at q; exact q.elim
        | some w => simp only [hw] at q; exact gen w hw q
end

/-! ### operators -/
section
variable {K : KW} {W : WX} {E0 : Hp} {F N : AS} {Pf : Nat → AS} {σ : L2.St} {H H1 H2 : Hp} {ρ : Env} {Q : VK}
theorem PR.dat2 {d e : D} {f : PyData → PyData → R} (h : PR K W F N Pf σ H Q (dat2 d e f)) : ∃ p q, data d = some p ∧ data e = some q ∧ PR K W F N Pf σ H Q (f p q) := by
  unfold Hv.dat2 at h
  cases e1 : data d with
  | none => rw [e1] at h; exact h.elim
  | some p =>
    cases e2 : data e with
    | none => rw [e1, e2] at h; exact h.elim
    | some q => rw [e1, e2] at h; exact ⟨p, q, rfl, rfl, h⟩
theorem PR.dat {d : D} {f : PyData → R} (h : PR K W F N Pf σ H Q (dat d f)) : ∃ p, data d = some p ∧ PR K W F N Pf σ H Q (f p) := by
  unfold Hv.dat at h
  cases e1 : data d with
  | none => rw [e1] at h; exact h.elim
  | some p => rw [e1] at h; exact ⟨p, rfl, h⟩
theorem s2l {al bl : Al} {A B : AS} {b b' : Bool} : ∀ a, SB b F (S1 N Pf al A) a → SB (b && b') F (S1 N Pf (al ++ bl) fun a => A a ∨ B a) a :=
  SB.mono (fun z => by simp at z; exact z.1) fun a h => by
  rcases h with h | ⟨i, m, h⟩ | h
  · exact .inl h
  · exact .inr (.inl ⟨i, List.mem_append_left _ m, h⟩)
  · exact .inr (.inr (.inl h))
theorem s2r {al bl : Al} {A B : AS} {b b' : Bool} : ∀ a, SB b' F (S1 N Pf bl B) a → SB (b && b') F (S1 N Pf (al ++ bl) fun a => A a ∨ B a) a :=
  SB.mono (fun z => by simp at z; exact z.2) fun a h => by
  rcases h with h | ⟨i, m, h⟩ | h
  · exact .inl h
  · exact .inr (.inl ⟨i, List.mem_append_right _ m, h⟩)
  · exact .inr (.inr (.inr h))
theorem two_nv {al bl : Al} {N1 P1 N2 P2 : AS} {x y : V} {d e : D} (R1 : Res K F N Pf H al H1 N1 P1 x d) (R2 : Res K F N Pf H1 bl H2 N2 P2 y e) :
    ∀ a, ((N1 a ∨ P1 a) ∨ (N2 a ∨ P2 a)) → H a = none ∧ H2 a ≠ none := by
  rintro a ((h | h) | (h | h))
  · exact ⟨(R1.nv a h).1, R2.ext.ne (R1.nv a h).2.1⟩
  · exact ⟨(R1.pv a h).1, R2.ext.ne (R1.pv a h).2⟩
  · exact ⟨R1.ext.none (R2.nv a h).1, (R2.nv a h).2.1⟩
  · exact ⟨R1.ext.none (R2.pv a h).1, (R2.pv a h).2⟩
theorem one_nv {al : Al} {N1 P1 : AS} {x : V} {d : D} (R1 : Res K F N Pf H al H1 N1 P1 x d) (e : Ext H1 H2) : ∀ a, (N1 a ∨ P1 a) → H a = none ∧ H2 a ≠ none := by
  rintro a (h | h)
  · exact ⟨(R1.nv a h).1, e.ne (R1.nv a h).2.1⟩
  · exact ⟨(R1.pv a h).1, e.ne (R1.pv a h).2⟩
end
theorem strOk_iff {x : Str} : PyData.strOk x = true ↔ ∀ c ∈ x.cps.toList, c < 0x110000 := by
  unfold PyData.strOk
  rw [← Array.all_toList, List.all_eq_true]
  exact ⟨fun h c hc => by simpa using h c hc, fun h c hc => by simpa using h c hc⟩
theorem strOk_append {x y : Str} (hx : PyData.strOk x = true) (hy : PyData.strOk y = true) : PyData.strOk (x ++ y) = true := by
  rw [strOk_iff] at *
  intro c hc
  have : c ∈ x.cps.toList ++ y.cps.toList := by
    have e : (x ++ y).cps = x.cps ++ y.cps := rfl
    rw [e] at hc
    simpa using hc
  rcases List.mem_append.mp this with h | h
  · exact hx c h
  · exact hy c h
theorem Rp.strok {K : KW} {S : AS} {H : Hp} {v : V} {x : Str} (h : Rp K S H v (.str x)) : v = .str x ∧ PyData.strOk x = true := by
  cases h with
  | str k => exact ⟨rfl, k⟩
theorem Rp.int_eq {K : KW} {S : AS} {H : Hp} {v : V} {x : Int} (h : Rp K S H v (.int x)) : v = .int x := by cases h; rfl
theorem Rp.bool_eq {K : KW} {S : AS} {H : Hp} {v : V} {x : Bool} (h : Rp K S H v (.bool x)) : v = .bl x := by cases h; rfl
theorem Rp.non_eq {K : KW} {S : AS} {H : Hp} {v : V} (h : Rp K S H v .none) : v = .non := by cases h; rfl
section
variable {X : Cx} {W : WX} {pos : Pos} {pins : List (Addr × Obj)} {σ : L2.St} {H : Hp} {s : Shared}
theorem ll_at (I : Inv X pins σ H s) {a : Addr} {xs : List V} (h : LL X.K H a xs) : ∃ (its : List Value) (n : Nat) (sl : Array (Option Value)), Vals xs its ∧ s.heap.get? a = some { cls := .type "list", dict := none, data := .seq its.toArray n, slots := sl } ∧ xs.length ≤ sizeLine := by
  rcases h with h | ⟨⟨oc, od, dt, sl⟩, its, n, e, c, d, dd, l, v⟩
  · obtain ⟨z, its, n, r, e⟩ := h.ok I.hok
    exact ⟨its, n, _, r, e, z⟩
  · simp only at c d dd
    subst c d dd
    exact ⟨its.toList, n, sl, v, I.kIn a _ e, by rw [v.length]; simpa using l⟩
def rCatL (K : PySem.W.Frag) : R2 := fun x y H Q => ∃ l b xs zs, x = .ref l ∧ y = .ref b ∧ LL K H l xs ∧ LL K H b zs ∧ xs.length + zs.length ≤ sizeLine ∧ ∀ p, H p = none → Q (.ref p) (upd H p (.lst (xs ++ zs)))
theorem op_catL : OpR X (binaryOp .Add) (rCatL X.K) := by
  intro pins s σ H x y v u Q I rx ry h
  obtain ⟨l, b, xs, zs, rfl, rfl, hH, hB, hz, q⟩ := h
  cases rx
  cases ry
  obtain ⟨its, n, sl, r, e, z⟩ := ll_at I hH
  obtain ⟨its2, n2, sl2, r2, e2, z2⟩ := ll_at I hB
  have hl := r.length
  have hl2 := r2.length
  refine concat_meets ⟨_, e, rfl⟩ ⟨_, e2, rfl⟩ noFill_list_add seq_list_add PySem.F.slot_list_add PySem.F.entry_list_add (PySem.F.args_list_add_2 _ _) (list_addW l b its.toArray its2.toArray n n2 none none sl sl2 (by rw [List.size_toArray, List.size_toArray]; omega)) ⟨e, e2, ?_⟩
  have ea : its.toArray ++ its2.toArray = (its ++ its2).toArray := by simp
  rw [ea]
  exact ⟨.ref _, _, I.lnew (t' := s.toks) (r.append r2) (by rw [List.length_append]; omega), rfl, q _ I.fresh⟩
theorem rep_arr {α : Type} (a : Array α) : ∀ (n : Nat) (acc : Array α), (List.replicate n a).foldl (fun x1 x2 => x1 ++ x2) acc = acc ++ (List.replicate n a.toList).flatten.toArray
  | 0, acc => by simp
  | n + 1, acc => by
    rw [List.replicate_succ, List.foldl_cons, rep_arr a n, List.replicate_succ, List.flatten_cons]
    apply Array.ext'
    simp
theorem repS_0 (z : Str) : repS z 0 = Str.empty := rfl
theorem repS_1 (z : Str) : repS z 1 = z := by
  unfold repS
  simp
theorem repS_e (z : Str) (n : Nat) (h : z.length = 0) : repS z n = z := by
  have : z.cps.toList = [] := by
    have : z.cps.size = 0 := h
    simpa using this
  obtain ⟨a⟩ := z
  have ha : a = #[] := by simpa using this
  subst ha
  show (⟨(List.replicate n ([] : List Nat)).flatten.toArray⟩ : Str) = _
  have : (List.replicate n ([] : List Nat)).flatten = [] := by induction n with
    | zero => rfl
    | succ n ih => rw [List.replicate_succ, List.flatten_cons, ih]; rfl
  rw [this]
theorem repS_len (z : Str) (n : Nat) : (repS z n).length = z.length * n := by
  show (List.replicate n z.cps.toList).flatten.toArray.size = z.cps.size * n
  simp [Nat.mul_comm]
theorem op_mulS : OpR X (binaryOp .Mult) (fun x y H Q => ∃ z n, x = .str z ∧ y = .int n ∧ repOk z.length n = true ∧ Q (.str (repS z n.toNat)) H) := by
  intro pins s σ H x y v u Q I rx ry h
  obtain ⟨z, n, rfl, rfl, c, q⟩ := h
  obtain ⟨t, rfl⟩ := rx
  obtain ⟨t', rfl⟩ := ry
  unfold repOk at c
  simp only [Bool.and_eq_true, decide_eq_true_eq] at c
  obtain ⟨c1, c2, c3⟩ := c
  have q' : ∀ (w : Str) (k : Nat) (tk : Tok), w = repS z n.toNat → EP X pins σ Q (.str w tk) { s with toks := k } := fun w k tk e => by
    subst e
    exact ⟨.str _, H, I.tok k, ⟨tk, rfl⟩, q⟩
  have hlen : ¬ n < 1 → z.length ≤ 16777216 := fun h => by
    have : z.length * 1 ≤ z.length * n.toNat := Nat.mul_le_mul_left _ (by omega)
    omega
  refine PySem.P.mul_str ?_ (fun h1 _ => ?_) (fun h1 _ => ?_) ?_
  · rw [Bool.or_eq_false_iff]
    exact ⟨decide_eq_false (by omega), decide_eq_false (by omega)⟩
  · have h2 := hlen h1
    have h3 : (16777216 : Int) ≤ (2 ^ 63 - 1) / n := by
      rw [Int.le_ediv_iff_mul_le (by omega)]
      omega
    omega
  · exact PyProof.Rows.short24 c3
  · by_cases h1 : n < 1
    · rw [if_pos h1]
      exact ⟨by decide, q' _ _ _ (by have : n.toNat = 0 := by omega
                                     rw [this, repS_0])⟩
    · rw [if_neg h1]
      by_cases h2 : (n == 1 || z.length == 0) = true
      · rw [if_pos h2]
        refine q' z _ t ?_
        rcases Bool.or_eq_true_iff.mp h2 with h2 | h2
        · have : n.toNat = 1 := by have := eq_of_beq h2; omega
          rw [this, repS_1]
        · rw [repS_e z _ (by simpa using h2)]
      · rw [if_neg h2]
        have e : (⟨(List.replicate n.toNat z.cps).foldl (fun x1 x2 => x1 ++ x2) #[]⟩ : Str) = repS z n.toNat := by
          rw [rep_arr]
          unfold repS
          simp
        exact ⟨by rw [e, repS_len]; exact c3, q' _ _ _ e⟩
def rMulAll : R2 := fun x y H Q => rI CMul (fun i j => .int (i * j)) x y H Q ∨ ∃ z n, x = .str z ∧ y = .int n ∧ repOk z.length n = true ∧ Q (.str (repS z n.toNat)) H
theorem op_mulAll : OpR X (binaryOp .Mult) rMulAll := OpR.or op_mul op_mulS
def bop : BOp → Operator
  | .add => .Add
  | .sub => .Sub
  | .mul => .Mult
  | .div => .FloorDiv
  | .mod => .Mod
  | .pow => .Pow
theorem mulOk_iff {i j : Int} (h : mulOk i j = true) : CMul i j := by
  unfold mulOk at h
  simp only [Bool.or_eq_true, Bool.and_eq_true, decide_eq_true_eq] at h
  unfold CMul
  have e : (2 : Int) ^ 64 = 18446744073709551616 := by decide
  rw [e]
  omega
theorem divOk_iff {i j : Int} (h : divOk j = true) : CDivW i j := by
  unfold divOk at h
  simp only [Bool.and_eq_true, decide_eq_true_eq] at h
  refine wide_div (b := 200) h.1 ?_ (by decide) (by decide)
  have e : (2 : Nat) ^ 200 = 1606938044258990275541962092341162602522202993782792835301376 := by decide
  rw [e]
  omega
theorem powOk_iff {i j : Int} (h : powOk i j = true) : CPow i j := by
  unfold powOk at h
  simp only [Bool.and_eq_true, decide_eq_true_eq] at h
  unfold CPow
  have e : (2 : Nat) ^ 64 = 18446744073709551616 := by decide
  rw [e]
  exact ⟨h.1.1, h.1.2, h.2⟩
def rAddAll (K : PySem.W.Frag) : R2 := fun x y H Q => rI0 (fun i j => .int (i + j)) x y H Q ∨ (∃ i j, x = .str i ∧ y = .str j ∧ i.length + j.length ≤ sizeLine ∧ Q (.str (i ++ j)) H) ∨ rCatL K x y H Q ∨ rCatA K x y H Q
theorem op_addAll : OpR X (binaryOp .Add) (rAddAll X.K) := OpR.or op_add (OpR.or op_add_str (OpR.or op_catL op_catA))
theorem he_bin {o : BOp} {a b : Expr} {fa fb : Env → R} (ha : PE X a (tE X.kw W fa)) (hb : PE X b (tE X.kw W fb)) :
    PE X (.BinOp a (bop o) b pos) (tE X.kw W fun ρ => (fa ρ).bind fun x al => (fb ρ).bind fun y bl => dat2 x y (binP o (isNew x && isNew y) (al ++ bl))) := by
  cases o with
  | add =>
    refine PE_imp (pe_op op_addAll ha hb) fun σ H Q h => tE_two h ?_
    intro F N Pf ρ x d al H1 N1 P1 y e bl H2 N2 P2 S R1 R2 h
    obtain ⟨p, q, e1, e2, h⟩ := h.dat2
    have r1 := R1.dat e1 R2.ext
    have r2 := R2.dat e2 Ext.refl
    cases p with
    | int i =>
      cases q with
      | int j =>
        cases r1; cases r2
        exact .inl ⟨i, j, rfl, rfl, h.int (R1.ext.trans R2.ext)⟩
      | _ => exact h.elim
    | str i =>
      cases q with
      | str j =>
        obtain ⟨rfl, k1⟩ := r1.strok
        obtain ⟨rfl, k2⟩ := r2.strok
        simp only [binP] at h
        split at h
        · rename_i hl
          exact .inr (.inl ⟨i, j, rfl, rfl, by simpa [SZ, sizeLine_eq] using hl, h.str (R1.ext.trans R2.ext) (strOk_append k1 k2)⟩)
        · exact h.elim
      | _ => exact h.elim
    | list i =>
      cases q with
      | list j =>
        obtain ⟨a1, xs, rfl, l1, s1⟩ := r1.ll
        obtain ⟨a2, ys, rfl, l2, s2⟩ := r2.ll
        simp only [binP] at h
        split at h
        · rename_i hl
          refine .inr (.inr (.inl ⟨a1, a2, xs, ys, rfl, rfl, l1, l2, by rw [s1.len, s2.len]; simpa [SZ, sizeLine_eq] using hl, fun p hp => ?_⟩))
          exact h.mkL (Nv := fun a => (N1 a ∨ P1 a) ∨ (N2 a ∨ P2 a)) (R1.ext.trans R2.ext) ((s1.mono s2l).append (s2.mono s2r)) (two_nv R1 R2) hp
        · exact h.elim
      | _ => exact h.elim
    | tuple i =>
      cases q with
      | tuple j =>
        obtain ⟨a1, xs, rfl, l1, s1⟩ := r1.sqt
        obtain ⟨a2, ys, rfl, l2, s2⟩ := r2.sqt
        simp only [binP] at h
        split at h
        · rename_i hl
          have s12 : Rps X.kw (SB (isNew d && isNew e) F (S1 N Pf (al ++ bl) fun a => (N1 a ∨ P1 a) ∨ (N2 a ∨ P2 a))) H2 (xs ++ ys) (i ++ j) := (s1.mono s2l).append (s2.mono s2r)
          refine .inr (.inr (.inr ⟨a1, a2, xs, ys, rfl, rfl, l1, l2, by rw [s1.len, s2.len]; simpa [SZ, sizeLine_eq] using hl, fun z => ?_, fun z z2 => ?_, fun z z2 p hp => ?_⟩))
          · subst z
            exact h.mkT (Nv := fun a => (N1 a ∨ P1 a) ∨ (N2 a ∨ P2 a)) (R1.ext.trans R2.ext) l2 s12 (two_nv R1 R2)
          · subst z2
            rw [List.append_nil] at s12
            exact h.mkT (Nv := fun a => (N1 a ∨ P1 a) ∨ (N2 a ∨ P2 a)) (R1.ext.trans R2.ext) l1 s12 (two_nv R1 R2)
          · have e3 : Ext H2 (upd H2 p (.tup (xs ++ ys))) := Ext.new hp
            exact h.mkT (Nv := fun a => (N1 a ∨ P1 a) ∨ (N2 a ∨ P2 a)) ((R1.ext.trans R2.ext).trans e3) (.inl (.inl upd_same)) (s12.ext e3 fun _ z => z) (fun a z => ⟨(two_nv R1 R2 a z).1, e3.ne (two_nv R1 R2 a z).2⟩)
        · exact h.elim
      | _ => exact h.elim
    | _ => exact h.elim
  | sub =>
    refine PE_imp (pe_op op_sub ha hb) fun σ H Q h => tE_two h ?_
    intro F N Pf ρ x d al H1 N1 P1 y e bl H2 N2 P2 S R1 R2 h
    obtain ⟨p, q, e1, e2, h⟩ := h.dat2
    have r1 := R1.dat e1 R2.ext
    have r2 := R2.dat e2 Ext.refl
    cases p with
    | int i =>
      cases q with
      | int j => cases r1; cases r2; exact ⟨i, j, rfl, rfl, h.int (R1.ext.trans R2.ext)⟩
      | _ => exact h.elim
    | _ => exact h.elim
  | mul =>
    refine PE_imp (pe_op op_mulAll ha hb) fun σ H Q h => tE_two (r := rMulAll) h ?_
    intro F N Pf ρ x d al H1 N1 P1 y e bl H2 N2 P2 S R1 R2 h
    obtain ⟨p, q, e1, e2, h⟩ := h.dat2
    have r1 := R1.dat e1 R2.ext
    have r2 := R2.dat e2 Ext.refl
    cases p with
    | int i =>
      cases q with
      | int j =>
        cases r1; cases r2
        simp only [binP] at h
        split at h
        · rename_i c; exact .inl ⟨i, j, rfl, rfl, mulOk_iff c, h.int (R1.ext.trans R2.ext)⟩
        · exact h.elim
      | _ => exact h.elim
    | str z =>
      cases q with
      | int j =>
        obtain ⟨rfl, k1⟩ := r1.strok
        cases r2
        simp only [binP] at h
        split at h
        · rename_i c
          unfold okS at h
          split at h
          · rename_i k; exact .inr ⟨z, j, rfl, rfl, c, h.str (R1.ext.trans R2.ext) k⟩
          · exact h.elim
        · exact h.elim
      | _ => exact h.elim
    | _ => exact h.elim
  | div =>
    refine PE_imp (pe_op op_fdivW ha hb) fun σ H Q h => tE_two h ?_
    intro F N Pf ρ x d al H1 N1 P1 y e bl H2 N2 P2 S R1 R2 h
    obtain ⟨p, q, e1, e2, h⟩ := h.dat2
    have r1 := R1.dat e1 R2.ext
    have r2 := R2.dat e2 Ext.refl
    cases p with
    | int i =>
      cases q with
      | int j =>
        cases r1; cases r2
        simp only [binP] at h
        split at h
        · rename_i c; exact ⟨i, j, rfl, rfl, divOk_iff c, h.int (R1.ext.trans R2.ext)⟩
        · exact h.elim
      | _ => exact h.elim
    | _ => exact h.elim
  | mod =>
    refine PE_imp (pe_op op_mod ha hb) fun σ H Q h => tE_two h ?_
    intro F N Pf ρ x d al H1 N1 P1 y e bl H2 N2 P2 S R1 R2 h
    obtain ⟨p, q, e1, e2, h⟩ := h.dat2
    have r1 := R1.dat e1 R2.ext
    have r2 := R2.dat e2 Ext.refl
    cases p with
    | int i =>
      cases q with
      | int j =>
        cases r1; cases r2
        simp only [binP] at h
        split at h
        · rename_i c; exact ⟨i, j, rfl, rfl, by simpa using c, h.int (R1.ext.trans R2.ext)⟩
        · exact h.elim
      | _ => exact h.elim
    | _ => exact h.elim
  | pow =>
    refine PE_imp (pe_op op_pow ha hb) fun σ H Q h => tE_two h ?_
    intro F N Pf ρ x d al H1 N1 P1 y e bl H2 N2 P2 S R1 R2 h
    obtain ⟨p, q, e1, e2, h⟩ := h.dat2
    have r1 := R1.dat e1 R2.ext
    have r2 := R2.dat e2 Ext.refl
    cases p with
    | int i =>
      cases q with
      | int j =>
        cases r1; cases r2
        simp only [binP] at h
        split at h
        · rename_i c; exact ⟨i, j, rfl, rfl, powOk_iff c, h.int (R1.ext.trans R2.ext)⟩
        · exact h.elim
      | _ => exact h.elim
    | _ => exact h.elim
end

/-! ### comparisons -/
mutual
theorem Rp.canLay {K : KW} {S : AS} {H : Hp} : ∀ {x : V} {d : PyData}, Rp K S H x d → noDict d = true → d.canLay0 = true
  | _, _, .non, _ => rfl
  | _, _, .bl b, _ => rfl
  | _, _, .int i, _ => rfl
  | _, _, .str k, _ => k
  | _, _, .lst _ _ q, h => Rps.canLay q h
  | _, _, .lsk _ q, h => Rps.canLay q h
  | _, _, .tup _ q, h => Rps.canLay q h
  | _, _, .dk _ _ _, h => by simp [noDict] at h
  | _, _, .dt _ _ _, h => by simp [noDict] at h
  | _, _, .dlk _ _, h => by simp [noDict] at h
theorem Rps.canLay {K : KW} {S : AS} {H : Hp} : ∀ {xs : List V} {ds : List PyData}, Rps K S H xs ds → noDicts ds = true → PyData.canLayAll0 ds = true
  | _, _, .nil, _ => rfl
  | _, _, .cons h t, e => by
    simp only [noDicts, Bool.and_eq_true] at e
    simp only [PyData.canLayAll0, Bool.and_eq_true]
    exact ⟨Rp.canLay h e.1, Rps.canLay t e.2⟩
end
theorem Rp.shaped {K : KW} {S : AS} {H : Hp} {x : V} {d : PyData} (h : Rp K S H x d) (c : cmpOk d = true) : Dp K.k H x d ∧ SeqAt.shaped d = true := by
  unfold cmpOk at c
  simp only [Bool.and_eq_true, decide_eq_true_eq] at c
  have l := h.canLay c.1
  exact ⟨h.dp l, by unfold SeqAt.shaped; simp [l, c.2]⟩
theorem Rp.flat {K : KW} {S : AS} {H : Hp} {x : V} {d : PyData} (h : Rp K S H x d) (c : flatP d = true) : flatV x = true := by
  cases h <;> first | rfl | (simp [flatP] at c)
theorem Rps.flat {K : KW} {S : AS} {H : Hp} : ∀ {x : List V} {d : List PyData}, Rps K S H x d → d.all flatP = true → x.all flatV = true
  | _, _, .nil, _ => rfl
  | _, _, .cons h t, c => by
    simp only [List.all_cons, Bool.and_eq_true] at c ⊢
    exact ⟨h.flat c.1, Rps.flat t c.2⟩
theorem eqv_flat {K : KW} {S S' : AS} {H H' : Hp} {x y : V} {d e : PyData} (h : Rp K S H x d) (h' : Rp K S' H' y e) (c : flatP d = true) (c' : flatP e = true) : eqV x y = PyData.eqv d e := by
  cases h with
  | non => cases h' <;> first | rfl | (simp [flatP] at c')
  | bl _ => cases h' <;> first | rfl | (simp [flatP] at c')
  | int _ => cases h' <;> first | rfl | (simp [flatP] at c')
  | str _ => cases h' <;> first | rfl | (simp [flatP] at c')
  | _ => simp [flatP] at c
theorem inV_flat {K : KW} {S S' : AS} {H H' : Hp} {x : V} {d : PyData} (h : Rp K S H x d) (c : flatP d = true) : ∀ {ys : List V} {es : List PyData}, Rps K S' H' ys es → es.all flatP = true → inV x ys = es.any fun z => PyData.eqv z d
  | _, _, .nil, _ => rfl
  | _, _, .cons h1 t, e => by
    simp only [List.all_cons, Bool.and_eq_true] at e
    have ih := inV_flat h c t e.2
    unfold inV at ih ⊢
    simp only [List.any_cons]
    rw [ih, eqv_flat h1 h e.1 c]
section
variable {X : Cx} {W : WX} {pos : Pos}
def copE : COp → CmpOp
  | .eq => .Eq
  | .ne => .NotEq
  | .lt => .Lt
  | .le => .LtE
  | .gt => .Gt
  | .ge => .GtE
  | .in_ => .In
  | .nin => .NotIn
  | .isn => .Is
  | .notn => .IsNot
def rCmp (K : KW) (o : COp) : R2 := fun x y H Q => ∃ S S' p q b, Rp K S H x p ∧ Rp K S' H y q ∧ cmpP o p q = .ok b ∧ Q (.bl b) H
theorem OpR_imp {f : Value → Value → Sem Value} {r r' : R2} (h : OpR X f r) (i : ∀ x y H Q, r' x y H Q → r x y H Q) : OpR X f r' := fun pins s σ H x y v u Q I rx ry q => h pins s σ H x y v u Q I rx ry (i x y H Q q)
theorem inP_ok {K : KW} {S S' : AS} {H : Hp} {x y : V} {p q : PyData} {b : Bool} (h1 : Rp K S H x p) (h2 : Rp K S' H y q) (e : inP p q = .ok b) :
    (∃ d ds, Dp K.k H x d ∧ Dp K.k H y (.list ds) ∧ SeqAt.shaped d = true ∧ SeqAt.shaped (.list ds) = true ∧ b = ds.any fun z => PyData.eqv z d) ∨
    (∃ i j, x = .str i ∧ y = .str j ∧ b = !(Builtin.Str.occurrences j i 0 j.length 1).isEmpty) ∨
    (∃ p xs, y = .ref p ∧ (SqL K.k H p xs ∨ SqT K.k H p xs) ∧ flatV x = true ∧ xs.all flatV = true ∧ b = inV x xs) := by
  unfold inP at e
  cases q with
  | list ds =>
    simp only at e
    split at e
    · rename_i c
      simp only [Bool.and_eq_true] at c
      injection e with e
      exact .inl ⟨p, ds, (h1.shaped c.1).1, (h2.shaped c.2).1, (h1.shaped c.1).2, (h2.shaped c.2).2, e.symm⟩
    · cases e
  | tuple ds =>
    simp only at e
    split at e
    · rename_i c
      simp only [Bool.and_eq_true] at c
      injection e with e
      obtain ⟨a, xs, rfl, l, s⟩ := h2.sqt
      exact .inr (.inr ⟨a, xs, rfl, .inr l, h1.flat c.1, s.flat c.2, by rw [inV_flat h1 c.1 s c.2]; exact e.symm⟩)
    · cases e
  | str z =>
    cases p with
    | str c =>
      simp only at e
      injection e with e
      obtain ⟨rfl, _⟩ := h1.strok
      obtain ⟨rfl, _⟩ := h2.strok
      exact .inr (.inl ⟨c, z, rfl, rfl, e.symm⟩)
    | _ => cases e
  | _ => cases e
theorem op_cmp (hu : X.A.units + 65 < cLine) (o : COp) : OpR X (compareOp (copE o)) (rCmp X.kw o) := by
  cases o with
  | eq =>
    refine OpR_imp (op_eqD (by omega)) fun x y H Q ⟨S, S', p, q, b, h1, h2, e, h⟩ => ?_
    simp only [cmpP] at e
    split at e
    · rename_i c
      simp only [Bool.and_eq_true] at c
      injection e with e
      exact ⟨p, q, (h1.shaped c.1).1, (h2.shaped c.2).1, (h1.shaped c.1).2, (h2.shaped c.2).2, e ▸ h⟩
    · cases e
  | ne =>
    refine OpR_imp (op_neD (by omega)) fun x y H Q ⟨S, S', p, q, b, h1, h2, e, h⟩ => ?_
    simp only [cmpP] at e
    split at e
    · rename_i c
      simp only [Bool.and_eq_true] at c
      injection e with e
      exact ⟨p, q, (h1.shaped c.1).1, (h2.shaped c.2).1, (h1.shaped c.1).2, (h2.shaped c.2).2, e ▸ h⟩
    · cases e
  | lt =>
    refine OpR_imp (OpR.or op_lt op_lt_str) fun x y H Q ⟨S, S', p, q, b, h1, h2, e, h⟩ => ?_
    cases p with
    | int i => cases q with
      | int j => cases h1; cases h2; injection e with e; subst e; exact .inl ⟨i, j, rfl, rfl, h⟩
      | _ => cases e
    | str i => cases q with
      | str j => cases h1; cases h2; injection e with e; subst e; exact .inr ⟨i, j, rfl, rfl, h⟩
      | _ => cases e
    | _ => cases e
  | le =>
    refine OpR_imp (OpR.or op_le op_le_str) fun x y H Q ⟨S, S', p, q, b, h1, h2, e, h⟩ => ?_
    cases p with
    | int i => cases q with
      | int j => cases h1; cases h2; injection e with e; subst e; exact .inl ⟨i, j, rfl, rfl, h⟩
      | _ => cases e
    | str i => cases q with
      | str j => cases h1; cases h2; injection e with e; subst e; exact .inr ⟨i, j, rfl, rfl, h⟩
      | _ => cases e
    | _ => cases e
  | gt =>
    refine OpR_imp (OpR.or op_gt op_gt_str) fun x y H Q ⟨S, S', p, q, b, h1, h2, e, h⟩ => ?_
    cases p with
    | int i => cases q with
      | int j => cases h1; cases h2; injection e with e; subst e; exact .inl ⟨i, j, rfl, rfl, h⟩
      | _ => cases e
    | str i => cases q with
      | str j => cases h1; cases h2; injection e with e; subst e; exact .inr ⟨i, j, rfl, rfl, h⟩
      | _ => cases e
    | _ => cases e
  | ge =>
    refine OpR_imp (OpR.or op_ge op_ge_str) fun x y H Q ⟨S, S', p, q, b, h1, h2, e, h⟩ => ?_
    cases p with
    | int i => cases q with
      | int j => cases h1; cases h2; injection e with e; subst e; exact .inl ⟨i, j, rfl, rfl, h⟩
      | _ => cases e
    | str i => cases q with
      | str j => cases h1; cases h2; injection e with e; subst e; exact .inr ⟨i, j, rfl, rfl, h⟩
      | _ => cases e
    | _ => cases e
  | in_ =>
    refine OpR_imp (OpR.or (op_inD (by omega)) (OpR.or op_in_str op_in_seq)) fun x y H Q ⟨S, S', p, q, b, h1, h2, e, h⟩ => ?_
    rcases inP_ok h1 h2 e with ⟨d, ds, a1, a2, a3, a4, rfl⟩ | ⟨i, j, a1, a2, rfl⟩ | ⟨a, xs, a1, a2, a3, a4, rfl⟩
    · exact .inl ⟨d, ds, a1, a2, a3, a4, h⟩
    · exact .inr (.inl ⟨i, j, a1, a2, h⟩)
    · exact .inr (.inr ⟨a, xs, a1, a2, a3, a4, h⟩)
  | nin =>
    refine OpR_imp (OpR.or (op_notInD (by omega)) (OpR.or op_notIn_str op_notIn_seq)) fun x y H Q ⟨S, S', p, q, b, h1, h2, e, h⟩ => ?_
    simp only [cmpP] at e
    split at e
    · rename_i b' e'
      injection e with e
      subst e
      rcases inP_ok h1 h2 e' with ⟨d, ds, a1, a2, a3, a4, rfl⟩ | ⟨i, j, a1, a2, rfl⟩ | ⟨a, xs, a1, a2, a3, a4, rfl⟩
      · exact .inl ⟨d, ds, a1, a2, a3, a4, h⟩
      · exact .inr (.inl ⟨i, j, a1, a2, h⟩)
      · exact .inr (.inr ⟨a, xs, a1, a2, a3, a4, h⟩)
    · cases e
  | isn =>
    refine OpR_imp op_isN fun x y H Q ⟨S, S', p, q, b, h1, h2, e, h⟩ => ?_
    cases q with
    | none =>
      cases h2
      refine ⟨rfl, ?_⟩
      have : b = decide (x = .non) := by
        cases h1 <;> (injection e with e; rw [← e]; simp)
      rw [← this]; exact h
    | _ => cases e
  | notn =>
    refine OpR_imp op_notN fun x y H Q ⟨S, S', p, q, b, h1, h2, e, h⟩ => ?_
    cases q with
    | none =>
      cases h2
      refine ⟨rfl, ?_⟩
      have : b = !decide (x = .non) := by
        cases h1 <;> (injection e with e; rw [← e]; simp)
      rw [← this]; exact h
    | _ => cases e
theorem PR.br {K : KW} {W : WX} {F N : AS} {Pf : Nat → AS} {σ : L2.St} {H H1 : Hp} {Q : VK} {r : BR} (h : PR K W F N Pf σ H Q r.r) (e : Ext H H1) : ∃ b, r = .ok b ∧ Q (.bl b) H1 := by
  cases r with
  | ok b => exact ⟨b, rfl, h.bool e⟩
  | stuck => exact h.elim
theorem he_cmp (hu : X.A.units + 65 < cLine) {o : COp} {a b : Expr} {fa fb : Env → R} (ha : PE X a (tE X.kw W fa)) (hb : PE X b (tE X.kw W fb)) (hm : behindInMarks (copE o) b = false) :
    PE X (.Compare a [copE o] [b] pos) (tE X.kw W fun ρ => (fa ρ).bind fun x _ => (fb ρ).bind fun y _ => dat2 x y fun p q => (cmpP o p q).r) := by
  refine PE_imp (pe_cmpR (op_cmp hu o) ha hb hm) fun σ H Q h => tE_two h ?_
  intro F N Pf ρ x d al H1 N1 P1 y e bl H2 N2 P2 S R1 R2 h
  obtain ⟨p, q, e1, e2, h⟩ := h.dat2
  obtain ⟨b, eb, h⟩ := h.br (R1.ext.trans R2.ext)
  exact ⟨_, _, p, q, b, R1.dat e1 R2.ext, R2.dat e2 Ext.refl, eb, h⟩
theorem he_chn (hu : X.A.units + 65 < cLine) {o o' : COp} {a b c : Expr} {fa fb fc : Env → R} (ha : PE X a (tE X.kw W fa)) (hb : PE X b (tE X.kw W fb)) (hc : PE X c (tE X.kw W fc)) (hm : behindInMarks (copE o') c = false) :
    PE X (.Compare a [copE o, copE o'] [b, c] pos) (tE X.kw W fun ρ => (fa ρ).bind fun x _ => (fb ρ).bind fun y _ => dat2 x y fun p q => match cmpP o p q with
    | .ok true => (fc ρ).bind fun z _ => dat z fun r => (cmpP o' q r).r
    | .ok false => .ok (.v (.bool false)) []
    | .stuck => .stuck) := by
  refine PE_imp (pe_chain (op_cmp hu o) (op_cmp hu o') ha hb hc hm) fun σ H Q h => tE_two (r := fun x y H2 Q => rCmp X.kw o x y H2 fun z H3 => ∃ k, z = .bl k ∧ (if k = true then tE X.kw W fc σ H3 fun w' H4 => rCmp X.kw o' y w' H4 Q else Q (.bl false) H3)) h ?_
  intro F N Pf ρ x d al H1 N1 P1 y e bl H2 N2 P2 S R1 R2 h
  obtain ⟨p, q, e1, e2, h⟩ := h.dat2
  cases eb : cmpP o p q with
  | stuck => rw [eb] at h; exact h.elim
  | ok k =>
    rw [eb] at h
    refine ⟨_, _, p, q, k, R1.dat e1 R2.ext, R2.dat e2 Ext.refl, eb, k, rfl, ?_⟩
    cases k with
    | false => rw [if_neg Bool.false_ne_true]; exact h.bool (R1.ext.trans R2.ext)
    | true =>
      rw [if_pos rfl]
      refine ⟨F, N, Pf, ρ, (S.more R1.ext).more R2.ext, ?_⟩
      cases e3 : fc ρ with
      | ok d3 cl =>
        simp only [R.bind, e3] at h
        intro z H3 N3 P3 R3
        obtain ⟨r, e4, h⟩ := h.dat
        obtain ⟨b, eb2, h⟩ := h.br ((R1.ext.trans R2.ext).trans R3.ext)
        exact ⟨_, _, q, r, b, R2.dat e2 R3.ext, R3.dat e4 Ext.refl, eb2, h⟩
      | exc c =>
        simp only [R.bind, e3] at h
        intro H' cl od he hx
        exact h H' cl od ((R1.ext.trans R2.ext).trans he) hx
      | stuck => simp only [R.bind, e3] at h; exact h
end
end Hv

/-! Hv, part 5: tests, calls, built-ins, subscripts, displays. -/
namespace Hv
open PySem PySem.Spec PyProof.Rows L2

/-- what the form of an expression gives: no star, no display of a set, no slice -/
structure Plain (ex : Expr) : Prop where
  st : ∀ (es : List Expr) (env : PySem.Env), starEach (ex :: es) env = (false, eval ex env) :: starEach es env
  bm : ∀ op, behindInMarks op ex = false
  px : PlainIx ex
structure HV (X : Cx) (W : WX) (ex : Expr) (f : Env → VT) : Prop where
  e : PE X ex (tE X.kw W fun ρ => (f ρ).e)
  t : PT X ex (tT X.kw W fun ρ => (f ρ).t)
  p : Plain ex
inductive HVs (X : Cx) (W : WX) : List Expr → (Env → List VT) → Prop
  | nil : HVs X W [] (fun _ => [])
  | cons {e : Expr} {es : List Expr} {f : Env → VT} {fs : Env → List VT} : HV X W e f → HVs X W es fs → HVs X W (e :: es) (fun ρ => f ρ :: fs ρ)

section
variable {K : KW} {W : WX} {E0 : Hp} {F N : AS} {Pf : Nat → AS} {σ : L2.St} {H H1 H2 : Hp} {ρ : Env} {Q : Bool → Hp → Prop} {QV : VK}
theorem tru_of {S : AS} {x : V} {p : PyData} {b : Bool} (h : Rp K S H x p) (e : truP p = .ok b) : TruV K.k x H b := by
  cases h with
  | non => injection e with e; exact e.symm
  | bl k => injection e with e; exact e.symm
  | int i => injection e with e; exact e.symm
  | str k =>
    rename_i z
    simp only [truP] at e
    split at e
    · rename_i hl
      injection e with e
      exact ⟨by simpa [SZ, sizeLine_eq] using hl, e.symm⟩
    · cases e
  | lst s r q =>
    injection e with e
    refine .inl ⟨_, .inl r, ?_⟩
    rw [← e]
    cases q <;> rfl
  | lsk l q =>
    injection e with e
    refine .inl ⟨_, l.sq, ?_⟩
    rw [← e]
    cases q <;> rfl
  | tup l q =>
    injection e with e
    refine .inr (.inl ⟨_, l, ?_⟩)
    rw [← e]
    cases q <;> rfl
  | _ => cases e
/-- the truth of a value -/
theorem PT'.tru {al : Al} {N1 P1 : AS} {x : V} {d : D} (R : Res K F N Pf H al H1 N1 P1 x d) (h : PT' K W σ H Q (datT d fun p => (truP p).t)) : ∃ b, TruV K.k x H1 b ∧ Q b H1 := by
  unfold datT at h
  cases e : data d with
  | none => rw [e] at h; exact h.elim
  | some p =>
    rw [e] at h
    cases e2 : truP p with
    | stuck => simp only [e2, BR.t] at h; exact h.elim
    | ok b =>
      simp only [e2, BR.t] at h
      exact ⟨b, tru_of (R.dat e Ext.refl) e2, h H1 R.ext⟩
end
section
variable {X : Cx} {W : WX} {pos : Pos}
theorem isT_plain {e : Expr} {f : Env → R} (h : PE X e (tE X.kw W f)) (he : ∀ whole, isTrue e X.env whole = (do let v ← whole; standAt e.pos; holding [v] (truthy v))) : PT X e (tT X.kw W fun ρ => truR (f ρ)) := by
  refine PT_imp (pt_truth h he) fun σ H Q ⟨F, N, Pf, ρ, S, q⟩ => ⟨F, N, Pf, ρ, S, ?_⟩
  cases e : f ρ with
  | ok d al =>
    simp only [truR, e, R.bindT] at q
    intro x H1 N1 P1 R
    exact PT'.tru R q
  | exc c => simp only [truR, e, R.bindT] at q; exact q
  | stuck => simp only [truR, e, R.bindT] at q; exact q
theorem hv_plain {e : Expr} {f : Env → R} (h : PE X e (tE X.kw W f)) (he : ∀ whole, isTrue e X.env whole = (do let v ← whole; standAt e.pos; holding [v] (truthy v)) := by intro _; rfl)
    (p : Plain e := by exact ⟨fun _ _ => rfl, fun _ => rfl, fun _ _ => rfl⟩) : HV X W e fun ρ => vt (f ρ) :=
  ⟨h, isT_plain h he, p⟩
/-- a comparison as a test: by its value, a bool -/
theorem ht_bool {e : Expr} {f : Env → R} (h : PT X e (fun σ H Q => (tE X.kw W f) σ H fun x H1 => ∃ k, x = .bl k ∧ Q k H1)) (hb : ∀ ρ d al, f ρ = .ok d al → ∃ b, d = .v (.bool b)) : PT X e (tT X.kw W fun ρ => truR (f ρ)) := by
  refine PT_imp h fun σ H Q ⟨F, N, Pf, ρ, S, q⟩ => ⟨F, N, Pf, ρ, S, ?_⟩
  cases e : f ρ with
  | ok d al =>
    simp only [truR, e, R.bindT] at q
    intro x H1 N1 P1 R
    obtain ⟨b, rfl⟩ := hb ρ d al e
    have r := R.dat (p := .bool b) rfl Ext.refl
    cases r
    exact ⟨b, rfl, q H1 R.ext⟩
  | exc c => simp only [truR, e, R.bindT] at q; exact q
  | stuck => simp only [truR, e, R.bindT] at q; exact q
theorem br_bool {p q : PyData} {o : COp} {d : D} {al : Al} (h : (cmpP o p q).r = .ok d al) : ∃ b, d = .v (.bool b) := by
  cases e : cmpP o p q with
  | ok b => rw [e] at h; injection h with h; exact ⟨b, h.symm⟩
  | stuck => rw [e] at h; cases h
theorem R.bind_ok {r : R} {f : D → Al → R} {d : D} {al : Al} (h : r.bind f = .ok d al) : ∃ x bl, r = .ok x bl ∧ f x bl = .ok d al := by
  cases r with
  | ok x bl => exact ⟨x, bl, rfl, h⟩
  | exc c => cases h
  | stuck => cases h
theorem dat2_ok {x y : D} {f : PyData → PyData → R} {d : D} {al : Al} (h : dat2 x y f = .ok d al) : ∃ p q, f p q = .ok d al := by
  unfold dat2 at h
  split at h
  · split at h
    · exact ⟨_, _, h⟩
    · cases h
  · cases h
theorem dat_ok {x : D} {f : PyData → R} {d : D} {al : Al} (h : dat x f = .ok d al) : ∃ p, f p = .ok d al := by
  unfold dat at h
  split at h
  · exact ⟨_, h⟩
  · cases h
theorem pt_of_cmp {op : CmpOp} {r : R2} {a b : Expr} {ta tb : TE} {t : TE} (ho : OpR X (compareOp op) r) (ha : PE X a ta) (hb : PE X b tb) (hm : behindInMarks op b = false) (i : ∀ σ H Q, t σ H Q → tOp r ta tb σ H Q) :
    PT X (.Compare a [op] [b] pos) (fun σ H Q => t σ H fun x H1 => ∃ k, x = .bl k ∧ Q k H1) :=
  PT_imp (pt_cmpR ho ha hb hm) fun σ H Q h => i σ H _ h
theorem hv_cmp (hu : X.A.units + 65 < cLine) {o : COp} {a b : Expr} {fa fb : Env → VT} (ha : HV X W a fa) (hb : HV X W b fb) :
    HV X W (.Compare a [copE o] [b] pos) fun ρ => vt ((fa ρ).e.bind fun x _ => (fb ρ).e.bind fun y _ => dat2 x y fun p q => (cmpP o p q).r) := by
  have hm := hb.p.bm (copE o)
  refine ⟨he_cmp hu ha.e hb.e hm, ?_, ⟨fun _ _ => rfl, fun _ => rfl, fun _ _ => rfl⟩⟩
  refine ht_bool (PT_imp (pt_cmpR (op_cmp hu o) ha.e hb.e hm) fun σ H Q h => ?_) ?_
  · exact tE_two (r := rCmp X.kw o) h fun F N Pf ρ x d al H1 N1 P1 y e bl H2 N2 P2 S R1 R2 h => by
      obtain ⟨p, q, e1, e2, h⟩ := h.dat2
      obtain ⟨b, eb, h⟩ := h.br (R1.ext.trans R2.ext)
      exact ⟨_, _, p, q, b, R1.dat e1 R2.ext, R2.dat e2 Ext.refl, eb, h⟩
  · intro ρ d al h
    obtain ⟨_, _, _, h⟩ := R.bind_ok h
    obtain ⟨_, _, _, h⟩ := R.bind_ok h
    obtain ⟨_, _, h⟩ := dat2_ok h
    exact br_bool h
theorem hv_not {a : Expr} {fa : Env → VT} (ha : HV X W a fa) : HV X W (.UnaryOp .Not a pos) fun ρ => ⟨(truR (fa ρ).e).bind fun b => .ok (.v (.bool (!b))) [], (fa ρ).t.bindT fun b => .ok (!b)⟩ := by
  refine ⟨PE_imp (pe_notT ha.e) fun σ H Q ⟨F, N, Pf, ρ, S, q⟩ => ⟨F, N, Pf, ρ, S, ?_⟩, PT_imp (pt_not ha.t) fun σ H Q ⟨F, N, Pf, ρ, S, q⟩ => ⟨F, N, Pf, ρ, S, ?_⟩, ⟨fun _ _ => rfl, fun _ => rfl, fun _ _ => rfl⟩⟩
  · try dsimp only
    cases e : (fa ρ).e with
    | ok d al =>
      simp only [truR, e, R.bindT] at q
      intro x H1 N1 P1 R
      unfold datT at q
      cases e1 : data d with
      | none => rw [e1] at q; exact q.elim
      | some p =>
        rw [e1] at q
        cases e2 : truP p with
        | stuck => simp only [e2, BR.t, TR.bind] at q; exact q.elim
        | ok b =>
          simp only [e2, BR.t, TR.bind] at q
          exact ⟨b, tru_of (R.dat e1 Ext.refl) e2, q.bool R.ext⟩
    | exc c => simp only [truR, e, R.bindT, TR.bind] at q; exact q
    | stuck => simp only [truR, e, R.bindT, TR.bind] at q; exact q
  · try dsimp only
    cases e : (fa ρ).t with
    | ok b => simp only [e, TR.bindT] at q; exact q
    | exc c => simp only [e, TR.bindT] at q; exact q
    | stuck => simp only [e, TR.bindT] at q; exact q
/-! ### and, or -/
/-- the data and its truth -/
theorem truth_of {K : KW} {W : WX} {F N : AS} {Pf : Nat → AS} {σ : L2.St} {H H1 : Hp} {Q : VK} {al : Al} {N1 P1 : AS} {x : V} {d : D} {g : Bool → R} (R : Res K F N Pf H al H1 N1 P1 x d)
    (q : PR K W F N Pf σ H Q ((datT d fun p => (truP p).t).bind g)) : ∃ b, TruV K.k x H1 b ∧ PR K W F N Pf σ H Q (g b) := by
  unfold datT at q
  cases e1 : data d with
  | none => rw [e1] at q; exact q.elim
  | some p =>
    rw [e1] at q
    cases e2 : truP p with
    | stuck => simp only [e2, BR.t, TR.bind] at q; exact q.elim
    | ok b => simp only [e2, BR.t, TR.bind] at q; exact ⟨b, tru_of (R.dat e1 Ext.refl) e2, q⟩
theorem he_and : ∀ {es : List Expr} {fs : Env → List VT}, HVs X W es fs → es ≠ [] → PE X (.BoolOp .And es pos) (tE X.kw W fun ρ => andR (fs ρ)) ∧ PW X (.BoolOp .And es pos) (tT X.kw W fun ρ => andT (fs ρ))
  | _, _, .nil, h => absurd rfl h
  | _, _, .cons ha .nil, _ => ⟨pe_one ha.e, pw_and1 ha.t⟩
  | _, _, .cons (f := f) ha (.cons (f := g) (fs := gs) hb hs), _ => by
    obtain ⟨h1, h2⟩ := he_and (.cons hb hs) (List.cons_ne_nil _ _)
    refine ⟨PE_imp (pe_andT ha.e h1) fun σ H Q ⟨F, N, Pf, ρ, S, q⟩ => ⟨F, N, Pf, ρ, S, ?_⟩, ⟨fun wh pins s σ H Q I q => (pw_and ha.t h2).run wh pins s σ H Q I ?_⟩⟩
    · have q : PR X.kw W F N Pf σ H Q ((f ρ).e.bind fun d al => (datT d fun p => (truP p).t).bind fun b => if b then andR (g ρ :: gs ρ) else .ok d al) := q
      try dsimp only
      cases e : (f ρ).e with
      | ok d al =>
        simp only [e, R.bind] at q
        intro x H1 N1 P1 R
        obtain ⟨b, t, q⟩ := truth_of R q
        refine ⟨b, t, ?_⟩
        cases b with
        | true => exact ⟨F, N, Pf, ρ, S.more R.ext, PR.later R.ext q⟩
        | false => exact q _ _ _ _ R
      | exc c => simp only [e, R.bind] at q; exact q
      | stuck => simp only [e, R.bind] at q; exact q
    · obtain ⟨F, N, Pf, ρ, S, q⟩ := q
      refine ⟨F, N, Pf, ρ, S, ?_⟩
      have q : PT' X.kw W σ H Q ((f ρ).t.bindT fun b => if b then andT (g ρ :: gs ρ) else .ok false) := q
      try dsimp only
      cases e : (f ρ).t with
      | ok b =>
        simp only [e, TR.bindT] at q
        intro H1 he
        cases b with
        | true => exact ⟨F, N, Pf, ρ, S.more he, PT'.later he q⟩
        | false => exact q _ he
      | exc c => simp only [e, TR.bindT] at q; exact q
      | stuck => simp only [e, TR.bindT] at q; exact q
theorem he_or : ∀ {es : List Expr} {fs : Env → List VT}, HVs X W es fs → es ≠ [] → PE X (.BoolOp .Or es pos) (tE X.kw W fun ρ => orR (fs ρ)) ∧ PW X (.BoolOp .Or es pos) (tT X.kw W fun ρ => orT (fs ρ))
  | _, _, .nil, h => absurd rfl h
  | _, _, .cons ha .nil, _ => ⟨pe_one ha.e, pw_or1 ha.t⟩
  | _, _, .cons (f := f) ha (.cons (f := g) (fs := gs) hb hs), _ => by
    obtain ⟨h1, h2⟩ := he_or (.cons hb hs) (List.cons_ne_nil _ _)
    refine ⟨PE_imp (pe_orT ha.e h1) fun σ H Q ⟨F, N, Pf, ρ, S, q⟩ => ⟨F, N, Pf, ρ, S, ?_⟩, ⟨fun wh pins s σ H Q I q => (pw_or ha.t h2).run wh pins s σ H Q I ?_⟩⟩
    · have q : PR X.kw W F N Pf σ H Q ((f ρ).e.bind fun d al => (datT d fun p => (truP p).t).bind fun b => if b then .ok d al else orR (g ρ :: gs ρ)) := q
      try dsimp only
      cases e : (f ρ).e with
      | ok d al =>
        simp only [e, R.bind] at q
        intro x H1 N1 P1 R
        obtain ⟨b, t, q⟩ := truth_of R q
        refine ⟨b, t, ?_⟩
        cases b with
        | false => exact ⟨F, N, Pf, ρ, S.more R.ext, PR.later R.ext q⟩
        | true => exact q _ _ _ _ R
      | exc c => simp only [e, R.bind] at q; exact q
      | stuck => simp only [e, R.bind] at q; exact q
    · obtain ⟨F, N, Pf, ρ, S, q⟩ := q
      refine ⟨F, N, Pf, ρ, S, ?_⟩
      have q : PT' X.kw W σ H Q ((f ρ).t.bindT fun b => if b then .ok true else orT (g ρ :: gs ρ)) := q
      try dsimp only
      cases e : (f ρ).t with
      | ok b =>
        simp only [e, TR.bindT] at q
        intro H1 he
        cases b with
        | false => exact ⟨F, N, Pf, ρ, S.more he, PT'.later he q⟩
        | true => exact q _ he
      | exc c => simp only [e, TR.bindT] at q; exact q
      | stuck => simp only [e, TR.bindT] at q; exact q
theorem hv_and {es : List Expr} {fs : Env → List VT} (h : HVs X W es fs) (ne : es ≠ []) : HV X W (.BoolOp .And es pos) fun ρ => ⟨andR (fs ρ), andT (fs ρ)⟩ :=
  ⟨(he_and h ne).1, (he_and h ne).2.pt, ⟨fun _ _ => rfl, fun _ => rfl, fun _ _ => rfl⟩⟩
theorem hv_or {es : List Expr} {fs : Env → List VT} (h : HVs X W es fs) (ne : es ≠ []) : HV X W (.BoolOp .Or es pos) fun ρ => ⟨orR (fs ρ), orT (fs ρ)⟩ :=
  ⟨(he_or h ne).1, (he_or h ne).2.pt, ⟨fun _ _ => rfl, fun _ => rfl, fun _ _ => rfl⟩⟩
theorem hv_chn (hu : X.A.units + 65 < cLine) {o o' : COp} {a b c : Expr} {fa fb fc : Env → VT} (ha : HV X W a fa) (hb : HV X W b fb) (hc : HV X W c fc) :
    HV X W (.Compare a [copE o, copE o'] [b, c] pos) fun ρ => vt ((fa ρ).e.bind fun x _ => (fb ρ).e.bind fun y _ => dat2 x y fun p q => match cmpP o p q with
    | .ok true => (fc ρ).e.bind fun z _ => dat z fun r => (cmpP o' q r).r
    | .ok false => .ok (.v (.bool false)) []
    | .stuck => .stuck) := by
  have hm := hc.p.bm (copE o')
  refine ⟨he_chn hu ha.e hb.e hc.e hm, ?_, ⟨fun _ _ => rfl, fun _ => rfl, fun _ _ => rfl⟩⟩
  refine ht_bool (PT_imp (pt_chain (op_cmp hu o) (op_cmp hu o') ha.e hb.e hc.e hm) fun σ H Q h => ?_) ?_
  · refine tE_two (r := fun x y H2 Q => rCmp X.kw o x y H2 fun z H3 => ∃ k, z = .bl k ∧ (if k = true then tE X.kw W (fun ρ => (fc ρ).e) σ H3 fun w' H4 => rCmp X.kw o' y w' H4 Q else Q (.bl false) H3)) h ?_
    intro F N Pf ρ x d al H1 N1 P1 y e bl H2 N2 P2 S R1 R2 h
    obtain ⟨p, q, e1, e2, h⟩ := h.dat2
    cases eb : cmpP o p q with
    | stuck => rw [eb] at h; exact h.elim
    | ok k =>
      rw [eb] at h
      refine ⟨_, _, p, q, k, R1.dat e1 R2.ext, R2.dat e2 Ext.refl, eb, k, rfl, ?_⟩
      cases k with
      | false => rw [if_neg Bool.false_ne_true]; exact h.bool (R1.ext.trans R2.ext)
      | true =>
        rw [if_pos rfl]
        refine ⟨F, N, Pf, ρ, (S.more R1.ext).more R2.ext, ?_⟩
        show PR _ _ _ _ _ _ _ _ (fc ρ).e
        cases e3 : (fc ρ).e with
        | ok d3 cl =>
          simp only [R.bind, e3] at h
          intro z H3 N3 P3 R3
          obtain ⟨r, e4, h⟩ := h.dat
          obtain ⟨b, eb2, h⟩ := h.br ((R1.ext.trans R2.ext).trans R3.ext)
          exact ⟨_, _, q, r, b, R2.dat e2 R3.ext, R3.dat e4 Ext.refl, eb2, h⟩
        | exc c =>
          simp only [R.bind, e3] at h
          intro H' cl od he hx
          exact h H' cl od ((R1.ext.trans R2.ext).trans he) hx
        | stuck => simp only [R.bind, e3] at h; exact h
  · intro ρ d al h
    obtain ⟨_, _, _, h⟩ := R.bind_ok h
    obtain ⟨_, _, _, h⟩ := R.bind_ok h
    obtain ⟨_, _, h⟩ := dat2_ok h
    split at h
    · obtain ⟨_, _, _, h⟩ := R.bind_ok h
      obtain ⟨_, h⟩ := dat_ok h
      exact br_bool h
    · injection h with h; exact ⟨false, h.symm⟩
    · cases h
/-- a if c else b -/
theorem hv_ifx {c a b : Expr} {fc fa fb : Env → VT} (hc : HV X W c fc) (ha : HV X W a fa) (hb : HV X W b fb) :
    HV X W (.IfExp c a b pos) fun ρ => ⟨(fc ρ).t.bind fun k => if k then (fa ρ).e else (fb ρ).e, (fc ρ).t.bindT fun k => if k then (fa ρ).t else (fb ρ).t⟩ := by
  refine ⟨PE_imp (pe_ifExp hc.t ha.e hb.e) fun σ H Q ⟨F, N, Pf, ρ, S, q⟩ => ⟨F, N, Pf, ρ, S, ?_⟩, ⟨fun pins s σ H Q I ⟨F, N, Pf, ρ, S, q⟩ => ?_⟩, ⟨fun _ _ => rfl, fun _ => rfl, fun _ _ => rfl⟩⟩
  · try dsimp only
    cases e : (fc ρ).t with
    | ok k =>
      simp only [e, TR.bind] at q
      intro H1 he
      cases k with
      | true => exact ⟨F, N, Pf, ρ, S.more he, PR.later he q⟩
      | false => exact ⟨F, N, Pf, ρ, S.more he, PR.later he q⟩
    | exc c => simp only [e, TR.bind] at q; exact q
    | stuck => simp only [e, TR.bind] at q; exact q
  · have hq : tT X.kw W (fun ρ => (fc ρ).t) σ H fun k H1 => if k = true then tT X.kw W (fun ρ => (fa ρ).t) σ H1 Q else tT X.kw W (fun ρ => (fb ρ).t) σ H1 Q := by
      refine ⟨F, N, Pf, ρ, S, ?_⟩
      try dsimp only
      cases e : (fc ρ).t with
      | ok k =>
        simp only [e, TR.bindT] at q
        intro H1 he
        cases k with
        | true => rw [if_pos rfl] at q ⊢; exact ⟨F, N, Pf, ρ, S.more he, PT'.later he q⟩
        | false => rw [if_neg Bool.false_ne_true] at q ⊢; exact ⟨F, N, Pf, ρ, S.more he, PT'.later he q⟩
      | exc c => simp only [e, TR.bindT] at q; exact q
      | stuck => simp only [e, TR.bindT] at q; exact q
    show wpAny (model X.prog X.w) X.A (do if ← isTrue c X.env (eval c X.env) then isTrue a X.env (eval a X.env) else isTrue b X.env (eval b X.env)) _ _ _
    refine wpAny_bind (thn (hc.t.run pins s σ H _ I hq) fun k s1 ⟨H1, I1, q1⟩ => ?_)
    cases k with
    | true => exact ha.t.run pins s1 σ H1 Q I1 q1
    | false => exact hb.t.run pins s1 σ H1 Q I1 q1
end
end Hv

/-! Hv, part 6: calls, built-ins, subscripts, displays. -/
namespace Hv
open PySem PySem.Spec PyProof.Rows L2

section
variable {X : Cx} {W : WX} {pos : Pos}
theorem pa_of : ∀ {es : List Expr} {fs : Env → List VT}, HVs X W es fs → PA X es (tA X.kw W fun ρ => seqR (fs ρ))
  | _, _, .nil => PA_imp pa_nil fun σ H Q ⟨F, N, Pf, ρ, S, q⟩ => q _ _ _ _ Resl.nil
  | _, _, .cons (f := f) (fs := fs) ha hs => by
    refine PA_imp (pa_cons ha.e (pa_of hs) (ha.p.st _ _)) fun σ H Q ⟨F, N, Pf, ρ, S, q⟩ => ⟨F, N, Pf, ρ, S, ?_⟩
    have q : PL X.kw W F N Pf σ H Q ((f ρ).e.bindL fun d al => (seqR (fs ρ)).bindL fun ds bl => .ok (d :: ds) (al ++ bl)) := q
    try dsimp only
    cases e : (f ρ).e with
    | ok d al =>
      simp only [e, R.bindL] at q
      intro x H1 N1 P1 R
      refine ⟨F, N, Pf, ρ, S.more R.ext, ?_⟩
      try dsimp only
      cases e2 : seqR (fs ρ) with
      | ok ds bl =>
        simp only [e2, Rl.bindL] at q
        intro xs H2 N2 P2 R2
        exact q _ _ _ _ (Resl.cons R R2)
      | exc c =>
        simp only [e2, Rl.bindL] at q
        exact fun H' cl od he hx => q H' cl od (R.ext.trans he) hx
      | stuck => simp only [e2, Rl.bindL] at q; exact q
    | exc c => simp only [e, R.bindL] at q; exact q
    | stuck => simp only [e, R.bindL] at q; exact q

/-- arguments, then something of their values -/
theorem tA_then {σ : L2.St} {H : Hp} {Q : VK} {fa : Env → Rl} {g : Env → List D → Al → R} (h : tE X.kw W (fun ρ => (fa ρ).bind (g ρ)) σ H Q) {r : List V → Hp → Prop}
    (hr : ∀ F N Pf ρ x d al H1 N1 P1, fa ρ = .ok d al → StE X.kw F N Pf H σ ρ → Resl X.kw F N Pf H al H1 N1 P1 x d → PR X.kw W F N Pf σ H Q (g ρ d al) → r x H1) : tA X.kw W fa σ H r := by
  obtain ⟨F, N, Pf, ρ, S, h⟩ := h
  refine ⟨F, N, Pf, ρ, S, ?_⟩
  cases e : fa ρ with
  | ok d al =>
    simp only [Rl.bind, e] at h
    intro x H1 N1 P1 R
    exact hr _ _ _ _ _ _ _ _ _ _ e S R h
  | exc c => simp only [Rl.bind, e] at h; exact h
  | stuck => simp only [Rl.bind, e] at h; exact h

theorem HVs.len : ∀ {es : List Expr} {fs : Env → List VT}, HVs X W es fs → ∀ ρ, (fs ρ).length = es.length
  | _, _, .nil, _ => rfl
  | _, _, .cons _ t, ρ => by simp only [List.length_cons, HVs.len t ρ]
theorem seqR_len : ∀ {vs : List VT} {ds : List D} {al : Al}, seqR vs = .ok ds al → ds.length = vs.length
  | [], ds, al, h => by injection h with h; subst h; rfl
  | v :: vs, ds, al, h => by
    have h : (v.e.bindL fun d al => (seqR vs).bindL fun ds bl => .ok (d :: ds) (al ++ bl)) = Rl.ok ds al := h
    cases e : v.e with
    | ok d al =>
      simp only [e, R.bindL] at h
      cases e2 : seqR vs with
      | ok ds2 bl =>
        simp only [e2, Rl.bindL] at h
        injection h with h
        subst h
        simp only [List.length_cons, seqR_len e2]
      | exc c => simp only [e2, Rl.bindL] at h; cases h
      | stuck => simp only [e2, Rl.bindL] at h; cases h
    | exc c => simp only [e, R.bindL] at h; cases h
    | stuck => simp only [e, R.bindL] at h; cases h
theorem Rps.len' {K : KW} {F N : AS} {H : Hp} {P : AS} {xs : List V} {ds : List D} (h : RWs K F N H P xs ds) : xs.length = ds.length := let ⟨_, _, r, _, _, _⟩ := h; r.len

/-! ### calls of defs -/
/-- a def's promise by the evaluator -/
def spF (K : KW) (n : Nat) (f : List PyData → CR) : Sp := fun vs H Q E => vs.length = n ∧ ∃ (F : AS) (ps : List PyData), Rps K F H vs ps ∧ (∀ a, F a → H a ≠ none) ∧ (match f ps with
  | .ok d => ∀ x H' N' P', Ext H H' → RW K F N' H' P' x d → (∀ a, N' a → H a = none ∧ H' a ≠ none ∧ ¬ P' a) → (∀ a, P' a → H a = none ∧ H' a ≠ none) → Q x H'
  | .exc c => ∀ H' cl od, Ext H H' → ExcV K.k c cl od → E cl od H'
  | .stuck => False)
theorem call_sp {F N : AS} {Pf : Nat → AS} {σ : L2.St} {H H1 : Hp} {ρ : Env} {Q : VK} {vs : List V} {ds : List D} {al : Al} {Nv Pv : AS} {n : Nat} {f : List PyData → CR}
    (S : StE X.kw F N Pf H σ ρ) (R : Resl X.kw F N Pf H al H1 Nv Pv vs ds) (hn : ds.length = n) (h : PR X.kw W F N Pf σ H Q (match datas ds with
    | some ps => callR (f ps) al
    | none => .stuck)) : spF X.kw n f vs H1 Q (WE W σ) := by
  refine ⟨(Rps.len' R.rd).trans hn, ?_⟩
  cases e : datas ds with
  | none => rw [e] at h; exact h.elim
  | some ps =>
    rw [e] at h
    have S1' := S.more R.ext
    refine ⟨_, ps, R.dat e Ext.refl, fun a z => ?_, ?_⟩
    · rcases z with ⟨_, z⟩ | z | ⟨i, _, z⟩ | z | z
      · exact S1'.tF a z
      · exact S1'.tN a z
      · exact S1'.tP i a z
      · exact (R.nv a z).2.1
      · exact (R.pv a z).2
    · cases e2 : f ps with
      | stuck => simp only [e2, callR] at h; exact h.elim
      | exc c =>
        simp only [e2, callR] at h
        exact fun H' cl od he hx => h H' cl od (R.ext.trans he) hx
      | ok d =>
        simp only [e2, callR] at h
        intro x H' N' P' he r nv pv
        split at h
        · refine h x H' (fun a => (Nv a ∨ Pv a) ∨ N' a) P' ⟨R.ext.trans he, r.ext Ext.refl (fun a z => ?_) (fun a z => .inr (.inr (.inr z))) fun _ z => z, fun a z => ?_, fun a z => ⟨R.ext.none (pv a z).1, (pv a z).2⟩⟩
          · rcases z with ⟨_, z⟩ | z | z | z
            · exact .inl z
            · exact .inr (.inl z)
            · exact .inr (.inr (.inl z))
            · exact .inr (.inr (.inr (.inl z)))
          · rcases z with (z | z) | z
            · exact ⟨(R.nv a z).1, he.ne (R.nv a z).2.1, fun w => (R.nv a z).2.1 (pv a w).1⟩
            · exact ⟨(R.pv a z).1, he.ne (R.pv a z).2, fun w => (R.pv a z).2 (pv a w).1⟩
            · exact ⟨R.ext.none (nv a z).1, (nv a z).2.1, (nv a z).2.2⟩
        · rename_i hv
          obtain ⟨I, Q', r, hi, hq, hd⟩ := r
          refine h x H' (fun _ => False) (fun a => P' a ∨ N' a) ⟨R.ext.trans he, ⟨fun a => I a ∨ N' a, Q', (RD.own (F' := F) (N' := fun _ => False) (fun _ z => .inl z) (fun _ z => .inr z) r (by simpa using hv)).ext Ext.refl (fun _ z => .inl z) (fun _ z => z.elim) (fun _ z => z) (fun _ z => z), fun a z => z.elim (fun z => .inl (hi a z)) .inr, fun a z => .inl (hq a z), fun a z w => ?_⟩, fun _ z => z.elim, fun a z => ?_⟩
          · rcases z with z | z
            · exact hd a z w
            · exact (nv a z).2.2 (hq a w)
          · rcases z with z | z
            · exact ⟨R.ext.none (pv a z).1, (pv a z).2⟩
            · exact ⟨R.ext.none (nv a z).1, (nv a z).2.1⟩
variable {k : Nat} {fa : Addr} {fd : FuncData} {ps : List Str} {x : Str} {p : Pos} {e : Expr} {es : List Expr} {fs : Env → List VT} {C : List PyData → CR}
theorem he_call (tk : Takes X W) (F : FnOk X.prog X.w X.K X.mg X.base (L2.CX X.prog X.w) k fa fd ps (spF X.kw (e :: es).length C)) (hr : Room k X.A) (hg : Gl X x) (hm : X.mg x = some (.ref fa)) (hk : PySem.W.keepIn X.K (.ref fa) = true) (hb : Binds X.K fd ps [])
    (ha : HVs X W (e :: es) fs) (hdb : (x == ("__debug__" : Str)) = false) : PE X (.Call (.Name x p) (e :: es) [] pos) (tE X.kw W fun ρ => (seqR (fs ρ)).bind fun ds al => match datas ds with
    | some ps => callR (C ps) al
    | none => .stuck) := by
  have hst : starEach (e :: es) X.env = (false, eval e X.env) :: starEach es X.env := by cases ha with | cons h _ => exact h.p.st _ _
  have hpl : (backTo pos (starEach es X.env)).any (·.1) = false := by
    cases ha with
    | cons _ t =>
      clear hst F hb
      induction t with
      | nil => rfl
      | cons h t ih => rw [h.p.st]; exact ih
  refine PE_imp (pe_callS F hr hg hm hk hb (fun σ => passAt tk σ) (pa_of ha) hdb hst hpl) fun σ H Q h => ?_
  refine tA_then h fun F N Pf ρ x d al H1 N1 P1 ee S R h => ?_
  exact call_sp S R ((seqR_len ee).trans (ha.len ρ)) h
theorem pe_call0S {CX : CXT} {sp : Sp} {E : L2.St → XK} (F : FnOk X.prog X.w X.K X.mg X.base CX k fa fd ps sp) (hr : Room k X.A) (hg : Gl X x) (hm : X.mg x = some (.ref fa)) (hk : PySem.W.keepIn X.K (.ref fa) = true) (hb : Binds X.K fd ps []) (hx : ∀ σ, PassesAt CX X σ (E σ))
    (hdb : (x == ("__debug__" : Str)) = false) : PE X (.Call (.Name x p) [] [] pos) (tCallS sp E tNil) := by
  refine ⟨fun pins s σ H Q I h => ?_⟩
  refine wpAny_Call_Name_kw (ld_glob I hg hm ?_ hdb)
  exact PySem.W.callWith_K0 I.kIn hk (run_fnS (us := []) F hr hb (hx σ) I .nil h)
theorem he_call0 (tk : Takes X W) (F : FnOk X.prog X.w X.K X.mg X.base (L2.CX X.prog X.w) k fa fd ps (spF X.kw 0 C)) (hr : Room k X.A) (hg : Gl X x) (hm : X.mg x = some (.ref fa)) (hk : PySem.W.keepIn X.K (.ref fa) = true) (hb : Binds X.K fd ps [])
    (hdb : (x == ("__debug__" : Str)) = false) : PE X (.Call (.Name x p) [] [] pos) (tE X.kw W fun ρ => (seqR []).bind fun ds al => match datas ds with
    | some ps => callR (C ps) al
    | none => .stuck) := by
  refine PE_imp (pe_call0S F hr hg hm hk hb (fun σ => passAt tk σ) hdb) fun σ H Q ⟨F, N, Pf, ρ, S, h⟩ => ?_
  exact call_sp S (Resl.nil) rfl h

/-! ### isinstance with a built-in type -/
def tyN : Ty → String
  | .int => "int"
  | .bool => "bool"
  | .str => "str"
  | .list => "list"
  | .tuple => "tuple"
  | .dict => "dict"
end
inductive Tag where
  | non | bool | int | str | list | tuple | dict
def tagP : PyData → Tag
  | .none => .non
  | .bool _ => .bool
  | .int _ => .int
  | .str _ => .str
  | .list _ => .list
  | .tuple _ => .tuple
  | .dict _ => .dict
def tagN : Tag → String
  | .non => "NoneType"
  | .bool => "bool"
  | .int => "int"
  | .str => "str"
  | .list => "list"
  | .tuple => "tuple"
  | .dict => "dict"
def tyT : Tag → Ty → Bool
  | .bool, .bool => true
  | .bool, .int => true
  | .int, .int => true
  | .str, .str => true
  | .list, .list => true
  | .tuple, .tuple => true
  | .dict, .dict => true
  | _, _ => false
theorem kit_tag (a : Tag) (t : Ty) : kitB (tagN a) (tyN t) = some (tyT a t) := by cases a <;> cases t <;> decide +kernel
theorem tyP_tag (p : PyData) (t : Ty) : tyP p t = tyT (tagP p) t := by cases p <;> cases t <;> rfl
theorem tyx_of {K : KW} {S : AS} {H : Hp} {x : V} {p : PyData} (h : Rp K S H x p) : TyX K.k H x (.type (tagN (tagP p))) := by
  cases h with
  | non => exact .base .non
  | bl b => exact .base (.bl b)
  | int i => exact .base (.int i)
  | str k => exact .base (.str _)
  | lst s r q =>
    rcases r with r | ⟨o, r⟩
    · exact .base (.lst r)
    · exact .base (.frz r)
  | lsk l q =>
    obtain ⟨o, its, n, e, c, _⟩ := l
    exact .kList e c
  | tup l q =>
    rcases l with (r | ⟨o, r⟩) | ⟨o, its, n, e, c, _⟩
    · exact .base (.tup r)
    · exact .fTuple r
    · exact .kTuple e c
  | dk s r q =>
    rcases r with r | ⟨o, r⟩
    · exact .base (.dK r)
    · exact .fDict r
  | dt s r q => exact .base (.dT r)
  | dlk l q =>
    obtain ⟨es, n, e, _⟩ := l
    exact .kDict e rfl
theorem isi_ok {K : KW} {S : AS} {H : Hp} {x : V} {p : PyData} {t : Ty} (h : Rp K S H x p) : ∃ ty, TyX K.k H x ty ∧ PySem.W.kitOne K.k ty (.type (tyN t)) = some (tyP p t) :=
  ⟨_, tyx_of h, by rw [tyP_tag]; exact kit_ty (kit_tag _ t)⟩
section
variable {X : Cx} {W : WX} {pos : Pos}
theorem boot_ty (t : Ty) : bootBuiltins (Str.ofString (tyN t)) = some (.type (tyN t)) := by cases t <;> decide +kernel
theorem hv_isi {a : Expr} {fa : Env → VT} {t : Ty} {p p2 : Pos} (hg : Gl X "isinstance") (hm : X.mg "isinstance" = none) (hg2 : Gl X (Str.ofString (tyN t))) (hm2 : X.mg (Str.ofString (tyN t)) = none) (ha : HV X W a fa) :
    HV X W (.Call (.Name "isinstance" p) [a, .Name (Str.ofString (tyN t)) p2] [] pos) fun ρ => vt ((fa ρ).e.bind fun x _ => dat x fun p => .ok (.v (.bool (tyP p t))) []) := by
  have h2 : PE X (.Name (Str.ofString (tyN t)) p2) (tC (.ty (tyN t))) := pe_bltn hg2 hm2 (boot_ty t) rfl (by cases t <;> decide) (by cases t <;> decide)
  have hst : starEach [a, .Name (Str.ofString (tyN t)) p2] X.env = (false, eval a X.env) :: starEach [.Name (Str.ofString (tyN t)) p2] X.env := ha.p.st _ _
  refine hv_plain (PE_imp (pe_callB call_isi hg hm boot_isinstance (pa_cons ha.e (pa_cons h2 pa_nil) hst) (by decide) (by decide) hst rfl) fun σ H Q h => ?_)
  refine tE_one (r := fun x H1 Q => rIsi X.K [x, .ty (tyN t)] H1 Q) h fun F N Pf ρ x d al H1 N1 P1 S R h => ?_
  obtain ⟨p, e, h⟩ := h.dat
  obtain ⟨ty, t1, t2⟩ := isi_ok (t := t) (R.dat e Ext.refl)
  exact ⟨x, .ty (tyN t), ty, _, _, rfl, .ty _, t1, t2, h.bool R.ext⟩
end
end Hv

/-! Hv, part 7: built-in functions, subscripts, displays. -/
namespace Hv
open PySem PySem.Spec PyProof.Rows L2

theorem intsOf_eq : ∀ {ps : List PyData} {ns : List Int}, intsOf ps = some ns → ps = ns.map .int
  | [], ns, h => by injection h with h; subst h; rfl
  | .int i :: r, ns, h => by
    simp only [intsOf] at h
    cases e : intsOf r with
    | none => rw [e] at h; cases h
    | some m => rw [e] at h; injection h with h; subst h; rw [List.map_cons, ← intsOf_eq e]
  | .none :: r, _, h => by cases h
  | .bool _ :: r, _, h => by cases h
  | .str _ :: r, _, h => by cases h
  | .list _ :: r, _, h => by cases h
  | .tuple _ :: r, _, h => by cases h
  | .dict _ :: r, _, h => by cases h
theorem boolsOf_eq : ∀ {ps : List PyData} {ns : List Bool}, boolsOf ps = some ns → ps = ns.map .bool
  | [], ns, h => by injection h with h; subst h; rfl
  | .bool i :: r, ns, h => by
    simp only [boolsOf] at h
    cases e : boolsOf r with
    | none => rw [e] at h; cases h
    | some m => rw [e] at h; injection h with h; subst h; rw [List.map_cons, ← boolsOf_eq e]
  | .none :: r, _, h => by cases h
  | .int _ :: r, _, h => by cases h
  | .str _ :: r, _, h => by cases h
  | .list _ :: r, _, h => by cases h
  | .tuple _ :: r, _, h => by cases h
  | .dict _ :: r, _, h => by cases h
theorem maxI_ok {ns : List Int} {m : Int} (h : maxI ns = some m) : m ∈ ns ∧ ∀ y ∈ ns, y ≤ m := by
  cases ns with
  | nil => cases h
  | cons i r =>
    injection h with h
    subst h
    induction r generalizing i with
    | nil => simp
    | cons j r ih =>
      rw [List.foldl_cons]
      obtain ⟨h1, h2⟩ := ih (max i j)
      refine ⟨?_, fun y hy => ?_⟩
      · rcases List.mem_cons.mp h1 with h | h
        · rw [h]
          rcases Int.le_total i j with q | q
          · rw [Int.max_eq_right q]; simp
          · rw [Int.max_eq_left q]; simp
        · exact List.mem_cons_of_mem _ (List.mem_cons_of_mem _ h)
      · have h3 := h2 (max i j) List.mem_cons_self
        rcases List.mem_cons.mp hy with rfl | hy
        · exact Int.le_trans (Int.le_max_left _ _) h3
        · rcases List.mem_cons.mp hy with rfl | hy
          · exact Int.le_trans (Int.le_max_right _ _) h3
          · exact h2 y (List.mem_cons_of_mem _ hy)
theorem minI_ok {ns : List Int} {m : Int} (h : minI ns = some m) : m ∈ ns ∧ ∀ y ∈ ns, m ≤ y := by
  cases ns with
  | nil => cases h
  | cons i r =>
    injection h with h
    subst h
    induction r generalizing i with
    | nil => simp
    | cons j r ih =>
      rw [List.foldl_cons]
      obtain ⟨h1, h2⟩ := ih (min i j)
      refine ⟨?_, fun y hy => ?_⟩
      · rcases List.mem_cons.mp h1 with h | h
        · rw [h]
          rcases Int.le_total i j with q | q
          · rw [Int.min_eq_left q]; simp
          · rw [Int.min_eq_right q]; simp
        · exact List.mem_cons_of_mem _ (List.mem_cons_of_mem _ h)
      · have h3 := h2 (min i j) List.mem_cons_self
        rcases List.mem_cons.mp hy with rfl | hy
        · exact Int.le_trans h3 (Int.min_le_left _ _)
        · rcases List.mem_cons.mp hy with rfl | hy
          · exact Int.le_trans h3 (Int.min_le_right _ _)
          · exact h2 y (List.mem_cons_of_mem _ hy)
theorem isort_perm (ns : List Int) : (isort ns).Perm ns := List.mergeSort_perm ns _
theorem isort_pw (ns : List Int) : (isort ns).Pairwise (· ≤ ·) := by
  have h := List.pairwise_mergeSort (le := fun a b : Int => decide (a ≤ b)) (fun a b c h1 h2 => by simp at *; omega) (fun a b => by simp; omega) ns
  exact h.imp fun h => by simpa using h
theorem sorted_uniq : ∀ {xs ys : List Int}, xs.Perm ys → xs.Pairwise (· ≤ ·) → ys.Pairwise (· ≤ ·) → xs = ys := by
  intro xs ys h h1 h2
  exact h.eq_of_pairwise (fun a b _ _ h3 h4 => Int.le_antisymm h3 h4) h1 h2

def biN : Bi → String
  | .len => "len"
  | .int => "int"
  | .abs => "abs"
  | .max2 => "max"
  | .min2 => "min"
  | .sum => "sum"
  | .maxL => "max"
  | .minL => "min"
  | .sorted => "sorted"
  | .list => "list"
  | .tuple => "tuple"
  | .any => "any"
  | .all => "all"
  | .divmod => "divmod"
  | .str => "str"
  | .ord => "ord"
/-- is it a type (or a function) -/
def biT : Bi → Bool
  | .int => true
  | .list => true
  | .tuple => true
  | .str => true
  | _ => false
def biV (b : Bi) : Value := if biT b then .type (biN b) else .builtin (biN b)
theorem boot_bi (b : Bi) : bootBuiltins (Str.ofString (biN b)) = some (biV b) := by cases b <;> decide +kernel
section
variable {X : Cx} {W : WX} {pos : Pos}
/-- a built-in by name, whatever it is -/
theorem he_bi {b : Bi} {r : List V → Hp → VK → Prop} {p : Pos} {e : Expr} {es : List Expr} {fs : Env → List VT} {g : List D → Al → R} (hc : CallR X (biV b) r) (hg : Gl X (Str.ofString (biN b))) (hm : X.mg (Str.ofString (biN b)) = none) (ha : HVs X W (e :: es) fs)
    (hr : ∀ F N Pf ρ σ H Q vs ds al H1 N1 P1, StE X.kw F N Pf H σ ρ → Resl X.kw F N Pf H al H1 N1 P1 vs ds → PR X.kw W F N Pf σ H Q (g ds al) → r vs H1 Q) :
    PE X (.Call (.Name (Str.ofString (biN b)) p) (e :: es) [] pos) (tE X.kw W fun ρ => (seqR (fs ρ)).bind g) := by
  have hst : starEach (e :: es) X.env = (false, eval e X.env) :: starEach es X.env := by cases ha with | cons h _ => exact h.p.st _ _
  have hpl : (backTo pos (starEach es X.env)).any (·.1) = false := by
    cases ha with
    | cons _ t =>
      clear hst
      induction t with
      | nil => rfl
      | cons h t ih => rw [h.p.st]; exact ih
  have main : PE X (.Call (.Name (Str.ofString (biN b)) p) (e :: es) [] pos) (tCB r (tA X.kw W fun ρ => seqR (fs ρ))) := by
    have hv := boot_bi b
    unfold biV at hc hv
    by_cases t : biT b = true
    · rw [if_pos t] at hc hv
      exact pe_callTy hc hg hm hv (pa_of ha) (by cases b <;> decide) (by cases b <;> decide) hst hpl
    · rw [if_neg t] at hc hv
      exact pe_callB hc hg hm hv (pa_of ha) (by cases b <;> decide) (by cases b <;> decide) hst hpl
  refine PE_imp main fun σ H Q h => ?_
  exact tA_then h fun F N Pf ρ x d al H1 N1 P1 _ S R h => hr _ _ _ _ _ _ _ _ _ _ _ _ _ S R h
/-- one argument's data -/
theorem Resl.one {K : KW} {F N : AS} {Pf : Nat → AS} {H H1 : Hp} {al : Al} {Nv Pv : AS} {vs : List V} {d : D} {p : PyData} (R : Resl K F N Pf H al H1 Nv Pv vs [d]) (e : data d = some p) :
    ∃ x, vs = [x] ∧ Rp K (SB (isNew d) F (S1 N Pf al fun a => Nv a ∨ Pv a)) H1 x p := by
  have r := R.dat (p := [p]) (by simp [datas, e]) Ext.refl
  cases r with
  | cons a t =>
    cases t
    exact ⟨_, rfl, a.mono (SB.mono (fun z => by simp [isNews, z]) fun _ z => z)⟩
theorem Resl.two {K : KW} {F N : AS} {Pf : Nat → AS} {H H1 : Hp} {al : Al} {Nv Pv : AS} {vs : List V} {d e : D} {p q : PyData} (R : Resl K F N Pf H al H1 Nv Pv vs [d, e]) (e1 : data d = some p) (e2 : data e = some q) :
    ∃ x y S, vs = [x, y] ∧ Rp K S H1 x p ∧ Rp K S H1 y q := by
  have r := R.dat (p := [p, q]) (by simp [datas, e1, e2]) Ext.refl
  cases r with
  | cons a t =>
    cases t with
    | cons b t =>
      cases t
      exact ⟨_, _, _, rfl, a, b⟩
theorem Resl.fresh {K : KW} {F N : AS} {Pf : Nat → AS} {H H1 : Hp} {al : Al} {Nv Pv : AS} {vs : List V} {ds : List D} (R : Resl K F N Pf H al H1 Nv Pv vs ds) : ∀ a, (Nv a ∨ Pv a) → H a = none ∧ H1 a ≠ none := by
  rintro a (h | h)
  · exact ⟨(R.nv a h).1, (R.nv a h).2.1⟩
  · exact R.pv a h
def rBi (K : PySem.W.Frag) : Bi → List V → Hp → VK → Prop
  | .len => fun xs H Q => ∃ x n, xs = [x] ∧ LenV K x H n ∧ Q (.int n) H
  | .int => fun xs H Q => (∃ i, xs = [.int i] ∧ Q (.int i) H) ∨ ∃ k, xs = [.bl k] ∧ Q (.int (if k then 1 else 0)) H
  | .abs => fun xs H Q => ∃ i, xs = [.int i] ∧ Q (.int (if i < 0 then -i else i)) H
  | .max2 => fun xs H Q => ∃ i j, xs = [.int i, .int j] ∧ Q (.int (if j > i then j else i)) H
  | .min2 => fun xs H Q => ∃ i j, xs = [.int i, .int j] ∧ Q (.int (if j < i then j else i)) H
  | .sum => rSum K
  | .maxL => rMax K
  | .minL => rMin K
  | .sorted => rSortedI K
  | .any => rAny K
  | .ord => fun xs H Q => ∃ x, xs = [.str x] ∧ x.length = 1 ∧ Q (.int (x.cps.getD 0 0 : Nat)) H
  | .all => rAll K
  | .list => fun xs H Q => ∃ p ys, xs = [.ref p] ∧ (SqL K H p ys ∨ SqT K H p ys) ∧ ∀ l, H l = none → Q (.ref l) (upd H l (.lst ys))
  | .tuple => fun xs H Q => ∃ p ys, xs = [.ref p] ∧ ((SqL K H p ys ∧ ∀ l, H l = none → Q (.ref l) (upd H l (.tup ys))) ∨ (SqT K H p ys ∧ Q (.ref p) H))
  | _ => fun _ _ _ => False
/-- a built-in that calls back -/
def biC : Bi → Bool
  | .max2 => true
  | .min2 => true
  | .sum => true
  | .maxL => true
  | .minL => true
  | .any => true
  | .all => true
  | _ => false
theorem callR_bi (b : Bi) (hc : biC b = true → X.calm = true) : CallR X (biV b) (rBi X.K b) := by
  cases b with
  | len => exact call_len
  | int => exact call_int1
  | abs => exact call_abs
  | max2 => exact call_max2 (hc rfl)
  | min2 => exact call_min2 (hc rfl)
  | sum => exact cr_sum (hc rfl)
  | maxL => exact cr_max (hc rfl)
  | minL => exact cr_min (hc rfl)
  | sorted => exact cr_sortedI
  | list => exact call_list_of
  | tuple => exact call_tuple_of
  | any => exact cr_any (hc rfl)
  | all => exact cr_all (hc rfl)
  | ord => exact call_ord
  | divmod => exact fun _ _ _ _ _ _ _ _ _ h => h.elim
  | str => exact fun _ _ _ _ _ _ _ _ _ h => h.elim
theorem bi_ok {b : Bi} {F N : AS} {Pf : Nat → AS} {σ : L2.St} {H H1 : Hp} {ρ : Env} {Q : VK} {vs : List V} {ds : List D} {al : Al} {N1 P1 : AS}
    (S : StE X.kw F N Pf H σ ρ) (R : Resl X.kw F N Pf H al H1 N1 P1 vs ds) (h : PR X.kw W F N Pf σ H Q (biR b ds al)) : rBi X.K b vs H1 Q := by
  match ds, R, h with
  | [], _, h => exact h.elim
  | [d], R, h =>
    have h : PR X.kw W F N Pf σ H Q (bi1 b d al) := h
    cases e : data d with
    | none => cases b <;> (simp only [bi1, e] at h; exact h.elim)
    | some p =>
      obtain ⟨x, rfl, r⟩ := R.one e
      cases b with
      | len =>
        simp only [bi1, e] at h
        cases p with
        | list ps => obtain ⟨a, xs, rfl, l, s⟩ := r.ll; exact ⟨_, xs.length, rfl, .inl ⟨xs, l.sq, rfl⟩, by rw [s.len]; exact h.int R.ext⟩
        | tuple ps => obtain ⟨a, xs, rfl, l, s⟩ := r.sqt; exact ⟨_, xs.length, rfl, .inr ⟨xs, l, rfl⟩, by rw [s.len]; exact h.int R.ext⟩
        | str z =>
          obtain ⟨rfl, k⟩ := r.strok
          simp only at h
          split at h
          · rename_i hl; exact ⟨_, z.length, rfl, ⟨by simpa [SZ, sizeLine_eq] using hl, rfl⟩, h.int R.ext⟩
          · exact h.elim
        | _ => exact h.elim
      | int =>
        simp only [bi1, e] at h
        cases p with
        | int i => cases r; exact .inl ⟨i, rfl, h.int R.ext⟩
        | bool i => cases r; exact .inr ⟨i, rfl, h.int R.ext⟩
        | _ => exact h.elim
      | abs =>
        simp only [bi1, e] at h
        cases p with
        | int i => cases r; exact ⟨i, rfl, h.int R.ext⟩
        | _ => exact h.elim
      | sum =>
        simp only [bi1, e] at h
        cases p with
        | list ps =>
          obtain ⟨a, xs, rfl, l, s⟩ := r.ll
          simp only at h
          split at h
          · rename_i ns hn
            have e2 := intsOf_eq hn
            subst e2
            have e3 := s.ints
            subst e3
            exact ⟨a, ns, rfl, l.sq, h.int R.ext⟩
          · exact h.elim
        | _ => exact h.elim
      | maxL =>
        simp only [bi1, e] at h
        cases p with
        | list ps =>
          obtain ⟨a, xs, rfl, l, s⟩ := r.ll
          simp only at h
          split at h
          · rename_i m hn
            cases e1 : intsOf ps with
            | none => rw [e1] at hn; cases hn
            | some ns =>
              rw [e1] at hn
              have e2 := intsOf_eq e1
              subst e2
              have e3 := s.ints
              subst e3
              obtain ⟨m1, m2⟩ := maxI_ok hn
              refine ⟨a, ns, rfl, l.sq, List.length_pos_of_mem m1, fun m' h1 h2 => ?_⟩
              rw [show m' = m from Int.le_antisymm (m2 _ h1) (h2 _ m1)]
              exact h.int R.ext
          · exact h.elim
        | _ => exact h.elim
      | minL =>
        simp only [bi1, e] at h
        cases p with
        | list ps =>
          obtain ⟨a, xs, rfl, l, s⟩ := r.ll
          simp only at h
          split at h
          · rename_i m hn
            cases e1 : intsOf ps with
            | none => rw [e1] at hn; cases hn
            | some ns =>
              rw [e1] at hn
              have e2 := intsOf_eq e1
              subst e2
              have e3 := s.ints
              subst e3
              obtain ⟨m1, m2⟩ := minI_ok hn
              refine ⟨a, ns, rfl, l.sq, List.length_pos_of_mem m1, fun m' h1 h2 => ?_⟩
              rw [show m' = m from Int.le_antisymm (h2 _ m1) (m2 _ h1)]
              exact h.int R.ext
          · exact h.elim
        | _ => exact h.elim
      | sorted =>
        simp only [bi1, e] at h
        cases p with
        | list ps =>
          obtain ⟨a, xs, rfl, l, s⟩ := r.ll
          simp only at h
          split at h
          · rename_i ns hn
            have e2 := intsOf_eq hn
            subst e2
            have e3 := s.ints
            subst e3
            refine ⟨a, ns, rfl, l.sq, fun ns' p q1 q2 hp => ?_⟩
            rw [sorted_uniq (q1.trans (isort_perm ns).symm) q2 (isort_pw ns)]
            have e4 : Ext H1 (upd H1 p (.lst ((isort ns).map V.int))) := Ext.new hp
            refine h _ _ (fun _ => False) (fun a => a = p) ⟨R.ext.trans e4, .mk (RD.oL upd_same ((Rps.of_ints _)) rfl), fun _ z => z.elim, fun a z => ?_⟩
            subst z
            exact ⟨R.ext.none hp, by rw [upd_same]; exact fun z => nomatch z⟩
          · exact h.elim
        | _ => exact h.elim
      | ord =>
        simp only [bi1, e] at h
        cases p with
        | str z =>
          obtain ⟨rfl, k⟩ := r.strok
          simp only at h
          split at h
          · rename_i hl; exact ⟨_, rfl, hl, h.int R.ext⟩
          · exact h.elim
        | _ => exact h.elim
      | any =>
        simp only [bi1, e] at h
        cases p with
        | list ps =>
          obtain ⟨a, xs, rfl, l, s⟩ := r.ll
          simp only at h
          split at h
          · rename_i ns hn
            have e2 := boolsOf_eq hn
            subst e2
            have e3 := s.bools
            subst e3
            exact ⟨a, ns, rfl, l.sq, h.bool R.ext⟩
          · exact h.elim
        | _ => exact h.elim
      | all =>
        simp only [bi1, e] at h
        cases p with
        | list ps =>
          obtain ⟨a, xs, rfl, l, s⟩ := r.ll
          simp only at h
          split at h
          · rename_i ns hn
            have e2 := boolsOf_eq hn
            subst e2
            have e3 := s.bools
            subst e3
            exact ⟨a, ns, rfl, l.sq, h.bool R.ext⟩
          · exact h.elim
        | _ => exact h.elim
      | list =>
        simp only [bi1, e] at h
        cases p with
        | list ps =>
          obtain ⟨a, xs, rfl, l, s⟩ := r.ll
          exact ⟨a, xs, rfl, .inl l.sq, fun q hq => h.mkL R.ext s R.fresh hq⟩
        | tuple ps =>
          obtain ⟨a, xs, rfl, l, s⟩ := r.sqt
          exact ⟨a, xs, rfl, .inr l, fun q hq => h.mkL R.ext s R.fresh hq⟩
        | _ => exact h.elim
      | tuple =>
        simp only [bi1, e] at h
        cases p with
        | list ps =>
          obtain ⟨a, xs, rfl, l, s⟩ := r.ll
          refine ⟨a, xs, rfl, .inl ⟨l.sq, fun q hq => ?_⟩⟩
          have e3 : Ext H1 (upd H1 q (.tup xs)) := Ext.new hq
          exact h.mkT (R.ext.trans e3) (.inl (.inl upd_same)) (s.ext e3 fun _ z => z) fun a z => ⟨(R.fresh a z).1, e3.ne (R.fresh a z).2⟩
        | tuple ps =>
          obtain ⟨a, xs, rfl, l, s⟩ := r.sqt
          exact ⟨a, xs, rfl, .inr ⟨l, h.mkT R.ext l s R.fresh⟩⟩
        | _ => exact h.elim
      | _ => exact h.elim
  | [d, e], R, h =>
    have h : PR X.kw W F N Pf σ H Q (dat2 d e (bi2 b)) := h
    obtain ⟨p, q, e1, e2, h⟩ := h.dat2
    obtain ⟨x, y, S', rfl, r1, r2⟩ := R.two e1 e2
    cases b with
    | max2 =>
      cases p with
      | int i => cases q with
        | int j => cases r1; cases r2; exact ⟨i, j, rfl, h.int R.ext⟩
        | _ => exact h.elim
      | _ => exact h.elim
    | min2 =>
      cases p with
      | int i => cases q with
        | int j => cases r1; cases r2; exact ⟨i, j, rfl, h.int R.ext⟩
        | _ => exact h.elim
      | _ => exact h.elim
    | _ => exact h.elim
  | _ :: _ :: _ :: _, _, h => exact h.elim
theorem hv_bi {b : Bi} {p : Pos} {e : Expr} {es : List Expr} {fs : Env → List VT} (hc : biC b = true → X.calm = true) (hg : Gl X (Str.ofString (biN b))) (hm : X.mg (Str.ofString (biN b)) = none) (ha : HVs X W (e :: es) fs) :
    HV X W (.Call (.Name (Str.ofString (biN b)) p) (e :: es) [] pos) fun ρ => vt ((seqR (fs ρ)).bind fun ds al => biR b ds al) :=
  hv_plain (he_bi (callR_bi b hc) hg hm ha fun _ _ _ _ _ _ _ _ _ _ _ _ _ S R h => bi_ok S R h)
end
end Hv

/-! Hv, part 8: subscripts, slices, displays, comprehensions. -/
namespace Hv
open PySem PySem.Spec PyProof.Rows L2

theorem atI_map {α β : Type} (f : α → β) (xs : List α) (i : Int) : atI (xs.map f) i = (atI xs i).map f := by
  unfold atI
  rw [List.length_map]
  cases ixN xs.length i with
  | none => rfl
  | some j => simp
theorem Rps.at {K : KW} {S : AS} {H : Hp} {xs : List V} {ds : List PyData} {i : Int} {d : PyData} (h : Rps K S H xs ds) (e : atI ds i = some d) : ∃ x, atI xs i = some x ∧ Rp K S H x d := by
  unfold atI at e ⊢
  rw [h.len]
  cases e2 : ixN ds.length i with
  | none => rw [e2] at e; cases e
  | some j =>
    rw [e2] at e
    exact h.get e
theorem RDs.at {K : KW} {F N I P : AS} {H : Hp} {xs : List V} {ds : List D} {i : Int} {d : D} (h : RDs K F N I H P xs ds) (e : atI ds i = some d) : ∃ x, atI xs i = some x ∧ RD K F N I H P x d := by
  unfold atI at e ⊢
  rw [h.len]
  cases e2 : ixN ds.length i with
  | none => rw [e2] at e; cases e
  | some j =>
    rw [e2] at e
    exact h.get e
section
variable {K : KW} {W : WX} {E0 : Hp} {F N : AS} {Pf : Nat → AS} {σ : L2.St} {H H1 H2 : Hp} {ρ : Env} {Q : VK}
/-- a part of something, as it lies -/
theorem PR.itR {b : Bool} {p : PyData} {al : Al} {x : V} {Nv : AS} (h : PR K W F N Pf σ H Q (itR b p al)) (e : Ext H H2) (r : Rp K (SB b F (S1 N Pf al Nv)) H2 x p) (nv : ∀ a, Nv a → H a = none ∧ H2 a ≠ none) : Q x H2 := by
  unfold Hv.itR at h
  split at h
  · exact h x H2 Nv (fun _ => False) ⟨e, .mk (RD.fz r), fun a z => ⟨(nv a z).1, (nv a z).2, fun z => z⟩, fun _ z => z.elim⟩
  · rename_i m
    exact h.scal e r (by simpa using m)
/-- a list, a tuple, a text, a dict, at an item -/
def rIxA (K : KW) : R2 := fun x y H Q => rIxL K.k x y H Q ∨ rIxT K.k x y H Q ∨ rIxS x y H Q ∨ (∃ p z v, x = .ref p ∧ y = .str z ∧ (∃ es n u, K.k.lookup p = some ⟨.type "dict", none, .dict es n, #[]⟩ ∧ PySem.W.KeysLit K.p es.toList ∧ PySem.W.nsIn K.k p z = some (some u) ∧ RelV v u) ∧ Q v H) ∨
  ∃ a v, x = .ref a ∧ DGet H a y (some v) ∧ Q v H
theorem strOk_one {z : Str} {c : Nat} (h : PyData.strOk z = true) (m : c ∈ z.cps.toList) : PyData.strOk ⟨#[c]⟩ = true := by
  rw [strOk_iff] at *
  intro d hd
  have : d = c := by simpa using hd
  exact this ▸ h c m
theorem atI_mem {α : Type} {xs : List α} {i : Int} {v : α} (h : atI xs i = some v) : v ∈ xs := by
  unfold atI at h
  cases e : ixN xs.length i with
  | none => rw [e] at h; cases h
  | some j =>
    rw [e] at h
    exact List.mem_of_getElem? h
theorem zip_find {K : KW} {S : AS} {H : Hp} {a : Addr} {z : Str} {p : PyData} : ∀ {ks : List Str} {xs : List V} {ds : List PyData}, Paired (fun k v => ∃ u, PySem.W.nsIn K.k a k = some (some u) ∧ RelV v u) ks xs → Rps K S H xs ds →
    dlook ((ks.map PyData.str).zip ds) (.str z) = some p → ∃ v u, PySem.W.nsIn K.k a z = some (some u) ∧ RelV v u ∧ Rp K S H v p
  | _, _, _, .nil, .nil, h => by cases h
  | k :: ks, _, _, .cons h1 t1, .cons (d := d) h2 t2, h => by
    unfold dlook at h
    simp only [List.map_cons, List.zip_cons_cons, List.find?_cons] at h
    cases e : PyData.eqv (.str k) (.str z) with
    | true =>
      rw [e] at h
      have h : some d = some p := h
      have h : d = p := Option.some.inj h
      have ek : k = z := by
        have e : (k == z) = true := e
        exact eq_of_beq e
      obtain ⟨u, q1, q2⟩ := h1
      exact ⟨_, u, ek ▸ q1, q2, h ▸ h2⟩
    | false =>
      rw [e] at h
      exact zip_find t1 t2 h
theorem eqv_key (a b : Key) : PyData.eqv (pyK a) (pyK b) = decide (a = b) := by
  cases a with
  | inl i => cases b with
    | inl j => rw [key_ll]; rfl
    | inr y => rw [key_lr]; rfl
  | inr x => cases b with
    | inl j => rw [key_rl]; rfl
    | inr y => rw [key_rr]; exact Bool.beq_eq_decide_eq x y
theorem zip_findK {K : KW} {S : AS} {H : Hp} {k : Key} {p : PyData} : ∀ {kvs : List (Key × V)} {ds : List PyData}, Rps K S H (kvs.map (·.2)) ds →
    dlook ((kvs.map fun q => pyK q.1).zip ds) (pyK k) = some p → ∃ v, valV kvs k = some v ∧ Rp K S H v p
  | [], _, _, h => by cases h
  | q :: kvs, _, .cons (d := d) h2 t2, h => by
    unfold dlook at h
    simp only [List.map_cons, List.zip_cons_cons, List.find?_cons, eqv_key] at h
    unfold valV
    simp only [List.find?_cons]
    cases e : decide (q.1 = k) with
    | true =>
      rw [e] at h
      have h : some d = some p := h
      exact ⟨q.2, rfl, Option.some.inj h ▸ h2⟩
    | false =>
      rw [e] at h
      exact zip_findK t2 h
theorem zip_findT {z : PyData} (hz : keyOf z ≠ none) : ∀ {ks : List (List PyData)} {ds : List PyData}, dlook ((ks.map PyData.tuple).zip ds) z = none
  | [], _ => rfl
  | _ :: _, [] => rfl
  | k :: ks, d :: ds => by
    unfold dlook
    simp only [List.map_cons, List.zip_cons_cons, List.find?_cons]
    have e : PyData.eqv (.tuple k) z = false := by
      cases z <;> first | rfl | exact absurd rfl hz
    rw [e]
    exact zip_findT hz
theorem zip_findS {i : Int} : ∀ {ks : List Str} {ds : List PyData}, dlook ((ks.map PyData.str).zip ds) (.int i) = none
  | [], _ => rfl
  | _ :: _, [] => rfl
  | k :: ks, d :: ds => by
    unfold dlook
    simp only [List.map_cons, List.zip_cons_cons, List.find?_cons]
    exact zip_findS
theorem keyOf_some {z w : PyData} (h : keyOf z = some w) : ∃ k, z = pyK k := by
  cases z with
  | int i => exact ⟨.inl i, rfl⟩
  | str x => exact ⟨.inr x, rfl⟩
  | _ => cases h
theorem Rp.key {K : KW} {S : AS} {H : Hp} {y : V} {k : Key} (h : Rp K S H y (pyK k)) : y = kV k := by
  cases k with
  | inl i => cases h; rfl
  | inr x => cases h; rfl
theorem ixP_ok {b : Bool} {p q : PyData} {al : Al} {x y : V} {Nv S' : AS} (h : PR K W F N Pf σ H Q (ixP b al p q)) (e : Ext H H2) (r : Rp K (SB b F (S1 N Pf al Nv)) H2 x p) (r2 : Rp K S' H2 y q) (nv : ∀ a, Nv a → H a = none ∧ H2 a ≠ none) : rIxA K x y H2 Q := by
  cases p with
  | list ps =>
    cases q with
    | int i =>
      cases r2
      obtain ⟨a, xs, rfl, l, s⟩ := r.ll
      simp only [ixP] at h
      split at h
      · rename_i w hw
        obtain ⟨v, e1, e2⟩ := s.at hw
        exact .inl ⟨a, xs, i, v, rfl, rfl, l.sq, e1, h.itR e e2 nv⟩
      · exact h.elim
    | _ => exact h.elim
  | tuple ps =>
    cases q with
    | int i =>
      cases r2
      obtain ⟨a, xs, rfl, l, s⟩ := r.sqt
      simp only [ixP] at h
      split at h
      · rename_i w hw
        obtain ⟨v, e1, e2⟩ := s.at hw
        exact .inr (.inl ⟨a, xs, i, v, rfl, rfl, l, e1, h.itR e e2 nv⟩)
      · exact h.elim
    | _ => exact h.elim
  | str z =>
    cases q with
    | int i =>
      cases r2
      obtain ⟨rfl, k⟩ := r.strok
      simp only [ixP] at h
      split at h
      · rename_i hl
        split at h
        · rename_i c hc
          exact .inr (.inr (.inl ⟨z, i, c, rfl, rfl, by simpa [SZ, sizeLine_eq] using hl, hc, h.str e (strOk_one k (atI_mem hc))⟩))
        · exact h.elim
      · exact h.elim
    | _ => exact h.elim
  | dict kvs =>
    simp only [ixP] at h
    split at h
    · rename_i w hk
      split at h
      · rename_i w hw
        cases r with
        | dlk l q =>
          obtain ⟨es, n, e1, e2, e3, e4, e5⟩ := l
          obtain ⟨k, rfl⟩ := keyOf_some hk
          have ey := r2.key
          subst ey
          cases k with
          | inl i =>
            rw [show pyK (.inl i) = PyData.int i from rfl, zip_findS] at hw
            cases hw
          | inr z =>
            obtain ⟨v, u, q1, q2, q3⟩ := zip_find e4 q hw
            exact .inr (.inr (.inr (.inl ⟨_, z, v, rfl, rfl, ⟨es, n, u, e1, e2, q1, q2⟩, h.itR e q3 nv⟩)))
        | dk s r q =>
          obtain ⟨k, rfl⟩ := keyOf_some hk
          have ey := r2.key
          subst ey
          obtain ⟨v, q1, q2⟩ := zip_findK q hw
          exact .inr (.inr (.inr (.inr ⟨_, v, rfl, .inl ⟨_, k, r, rfl, q1.symm⟩, h.itR e q2 nv⟩)))
        | dt s r q =>
          rename_i a kvs2 ds2
          have z := zip_findT (z := _) (by rw [hk]; exact fun z => nomatch z) (ks := kvs2.map fun p => p.1.map pyK) (ds := ds2)
          rw [List.map_map] at z
          rw [show (kvs2.map fun p => PyData.tuple (p.1.map pyK)) = kvs2.map (PyData.tuple ∘ fun p => p.1.map pyK) from rfl, z] at hw
          cases hw
      · exact h.elim
    · exact h.elim
  | _ => exact h.elim
end
section
variable {X : Cx} {W : WX} {pos : Pos}
theorem ix_dget (hu : X.A.units + 65 < cLine) : IxR X (fun x y H Q => ∃ a v, x = .ref a ∧ DGet H a y (some v) ∧ Q v H) := by
  intro value slice pins s σ H x y v u Q I rx ry h hs
  obtain ⟨a, w, rfl, g, q⟩ := h
  obtain rfl : v = Value.ref a := rx
  exact tail_any (dict_typeIs I g) PySem.F.slot_dict_getitem.lookup (d_getItem (by omega) I g ry fun w' s3 I3 rw' => ⟨w, H, I3, rw', q⟩) hs
theorem ixR_all (hu : X.A.units + 65 < cLine) : IxR X (rIxA X.kw) := IxR.or ix_list (IxR.or ix_tup (IxR.or ix_str (IxR.or ix_kdict (ix_dget hu))))
theorem hv_ix (hu : X.A.units + 65 < cLine) {a b : Expr} {fa fb : Env → VT} (ha : HV X W a fa) (hb : HV X W b fb) :
    HV X W (.Subscript a b pos) fun ρ => vt ((fa ρ).e.bind fun x al => (fb ρ).e.bind fun y _ => dat2 x y fun p q => ixP (isNew x) al p q) := by
  refine hv_plain (PE_imp (pe_ix (ixR_all hu) ha.e hb.e hb.p.px) fun σ H Q h => tE_two (r := rIxA X.kw) h ?_)
  intro F N Pf ρ x d al H1 N1 P1 y e bl H2 N2 P2 S R1 R2 h
  obtain ⟨p, q, e1, e2, h⟩ := h.dat2
  exact ixP_ok h (R1.ext.trans R2.ext) (R1.dat e1 R2.ext) (R2.dat e2 Ext.refl) (one_nv R1 R2.ext)
theorem hv_ixv (hu : X.A.units + 65 < cLine) {i : Nat} {x : Str} {p : Pos} {b : Expr} {fb : Env → VT} (hN : X.N[i]? = some x) (hv : Vis X.env.scope x) (hd : (x == ("__debug__" : Str)) = false) (hc : (x == ("__classdict__" : Str)) = false) (hb : HV X W b fb) :
    HV X W (.Subscript (.Name x p) b pos) fun ρ => vt (ixV i ρ (fb ρ).e) := by
  refine hv_plain ⟨fun pins s σ H Q I h => ?_⟩
  obtain ⟨F, N, Pf, ρ, S, h⟩ := h
  have h : PR X.kw W F N Pf σ H Q (ixV i ρ (fb ρ).e) := h
  -- either a list of one's own, or by the data
  by_cases own : ∃ ds, ρ[i]? = some (some (.ol ds))
  · obtain ⟨ds, eo⟩ := own
    refine (pe_ix (ixR_all hu) (pe_var hN hv hd hc) hb.e hb.p.px).run pins s σ H Q I ?_
    obtain ⟨v, e1, rd⟩ := S.rep i _ eo
    refine ⟨v, e1, F, N, Pf, ρ, S, ?_⟩
    try dsimp only
    unfold ixV at h
    rw [eo] at h
    simp only at h
    cases e : (fb ρ).e with
    | exc c => simp only [e, R.bind] at h; exact h
    | stuck => simp only [e, R.bind] at h; exact h
    | ok d al =>
      simp only [e, R.bind] at h
      intro y H1 N1 P1 R1
      obtain ⟨q, e2, h⟩ := h.dat
      have r2 := R1.dat e2 Ext.refl
      unfold ixO at h
      cases q with
      | int j =>
        cases r2
        simp only at h
        cases e3 : atI ds j with
        | none => rw [e3] at h; exact h.elim
        | some w =>
          rw [e3] at h
          simp only at h
          cases e4 : view w with
          | none => rw [e4] at h; exact h.elim
          | some w' =>
            rw [e4] at h
            simp only at h
            obtain ⟨I', Q', r, hi, hq, hdd⟩ := rd
            cases r with
            | ol pa hH rs sub nq =>
              obtain ⟨z, e5, e6⟩ := rs.at e3
              refine .inl ⟨_, _, j, z, rfl, rfl, .inl (.inl (R1.ext _ _ hH)), e5, ?_⟩
              have ee : Ext H H1 := R1.ext
              cases fzz : isFz w with
              | true =>
                rw [fzz, if_pos rfl] at h
                have hw : w' = w ∨ (∃ p, w = .n p ∧ w' = .v p) := by
                  cases w with
                  | v p =>
                    simp only [view, Hv.data, Option.map_some, Option.some.injEq] at e4
                    left; rw [← e4]; unfold fz; simp [isNew]
                  | n p =>
                    simp only [view, Hv.data, Option.map_some, Option.some.injEq] at e4
                    unfold fz at e4
                    split at e4
                    · left; exact e4.symm
                    · right; exact ⟨p, rfl, e4.symm⟩
                  | _ => cases fzz
                refine h z H1 (fun _ => False) (fun _ => False) ⟨ee, ?_, fun _ z => z.elim, fun _ z => z.elim⟩
                rcases hw with rfl | ⟨p, rfl, rfl⟩
                · cases w' with
                  | v p => cases e6 with | v e6 => exact .mk (.v ((e6.ext ee fun _ z => z).mono fun a z => z.elim .inl fun z => .inr (.inl z)))
                  | n p => cases e6 with | n e6 => exact .mk (.n ((e6.ext ee fun _ z => z).mono fun a z => .inl z))
                  | _ => cases fzz
                · cases e6 with | n e6 => exact .mk (.v ((e6.ext ee fun _ z => z).mono fun a z => .inr (.inl z)))
              | false =>
                rw [fzz, if_neg Bool.false_ne_true] at h
                refine h z H1 (fun _ => False) (fun _ => False) ⟨ee, ?_, fun _ z => z.elim, fun _ z => z.elim⟩
                exact .mk ((e6.view (I' := fun _ => False) (P' := fun _ => False) e4).ext ee (fun _ z => .inl z) (fun a z => z.elim .inl fun z => .inr (.inl ⟨i, by simp, z.elim (hi a) fun z => hq a (sub a z)⟩)) (fun _ z => z) fun _ z => z)
      | _ => exact h.elim
  · refine (PE_imp (pe_ix (ixR_all hu) (he_var (W := W) hN hv hd hc) hb.e hb.p.px) fun σ H Q h => tE_two (r := rIxA X.kw) (g := fun _ x al y _ => dat2 x y fun p q => ixP (isNew x) al p q) h ?_).run pins s σ H Q I ⟨F, N, Pf, ρ, S, ?_⟩
    · intro F N Pf ρ x d al H1 N1 P1 y e bl H2 N2 P2 S R1 R2 h
      obtain ⟨p, q, e1, e2, h⟩ := h.dat2
      exact ixP_ok h (R1.ext.trans R2.ext) (R1.dat e1 R2.ext) (R2.dat e2 Ext.refl) (one_nv R1 R2.ext)
    · have e : ixV i ρ (fb ρ).e = (varR i ρ).bind fun x al => (fb ρ).e.bind fun y _ => dat2 x y fun p q => ixP (isNew x) al p q := by
        unfold ixV
        split
        · rename_i ds e; exact absurd ⟨ds, e⟩ own
        · rfl
      rw [e] at h
      exact h
end

/-! ### slices -/
def PO' (K : KW) (W : WX) (σ : L2.St) (H : Hp) (Q : Option Int → Hp → Prop) (r : OR) : Prop := match r with
  | .ok b => ∀ H', Ext H H' → Q b H'
  | .exc c => ∀ H' cl od, Ext H H' → ExcV K.k c cl od → W cl od σ H'
  | .stuck => False
def tO (K : KW) (W : WX) (f : Env → OR) : TO := fun σ H Q => ∃ F N Pf ρ, StE K F N Pf H σ ρ ∧ PO' K W σ H Q (f ρ)
theorem cutP_map {K : KW} {S : AS} {H : Hp} {xs : List V} {ds : List PyData} (h : Rps K S H xs ds) (lo hi : Option Int) : Rps K S H (cutV xs lo hi) (cutP ds lo hi) := by
  unfold cutV cutP
  rw [h.len]
  exact (h.drop _).take _
theorem strOk_cut {z : Str} (h : PyData.strOk z = true) (lo hi : Option Int) : PyData.strOk (cutS z lo hi) = true := by
  rw [strOk_iff] at *
  intro c hc
  unfold cutS at hc
  exact h c (List.mem_of_mem_drop (List.mem_of_mem_take (by simpa using hc)))
section
variable {X : Cx} {W : WX} {pos : Pos}
def PO_imp {e : Option Expr} {t t' : TO} (h : PO X e t) (i : ∀ σ H Q, t' σ H Q → t σ H Q) : PO X e t' :=
  ⟨fun pins s σ H Q I q => h.run pins s σ H Q I (i σ H Q q)⟩
theorem ho_none : PO X none (tO X.kw W fun _ => .ok none) := PO_imp po_none fun σ H Q ⟨F, N, Pf, ρ, S, q⟩ => q H Ext.refl
theorem ho_some {e : Expr} {f : Env → VT} (h : HV X W e f) : PO X (some e) (tO X.kw W fun ρ => optR (f ρ).e) := by
  refine PO_imp (po_some h.e) fun σ H Q ⟨F, N, Pf, ρ, S, q⟩ => ⟨F, N, Pf, ρ, S, ?_⟩
  try dsimp only at q ⊢
  cases e : (f ρ).e with
  | ok d al =>
    simp only [e, optR] at q
    intro x H1 N1 P1 R
    cases e1 : data d with
    | none => rw [e1] at q; exact q.elim
    | some p =>
      rw [e1] at q
      cases p with
      | int i =>
        have r := R.dat e1 Ext.refl
        cases r
        exact ⟨i, rfl, q H1 R.ext⟩
      | _ => exact q.elim
  | exc c => simp only [e, optR] at q; exact q
  | stuck => simp only [e, optR] at q; exact q
def rSlAll (K : PySem.W.Frag) : V → Option Int → Option Int → Hp → VK → Prop := fun x lo hi H Q => rSlL K x lo hi H Q ∨ rSlA K x lo hi H Q ∨ rSlS x lo hi H Q
theorem slR_all : SlR X (rSlAll X.K) := SlR.or sl_list (SlR.or sl_tupA sl_str)
theorem hv_sl {a : Expr} {lo hi : Option Expr} {fa : Env → VT} {fl fh : Env → OR} {p2 : Pos} (ha : HV X W a fa) (hl : PO X lo (tO X.kw W fl)) (hh : PO X hi (tO X.kw W fh)) :
    HV X W (.Subscript a (.Slice lo hi none p2) pos) fun ρ => vt ((fa ρ).e.bind fun x al => (fl ρ).bind fun l => (fh ρ).bind fun h => slR x al l h) := by
  refine hv_plain (PE_imp (pe_slice slR_all ha.e hl hh) fun σ H Q h => ?_)
  refine tE_one (r := fun x H1 Q => tO X.kw W fl σ H1 fun l H2 => tO X.kw W fh σ H2 fun u H3 => rSlAll X.K x l u H3 Q) h ?_
  intro F N Pf ρ x d al H1 N1 P1 S R h
  refine ⟨F, N, Pf, ρ, S.more R.ext, ?_⟩
  cases e : fl ρ with
  | exc c => simp only [e, OR.bind] at h; exact fun H' cl od he hx => h H' cl od (R.ext.trans he) hx
  | stuck => simp only [e, OR.bind] at h; exact h
  | ok l =>
    simp only [e, OR.bind] at h
    intro H2 e2
    refine ⟨F, N, Pf, ρ, (S.more R.ext).more e2, ?_⟩
    cases e' : fh ρ with
    | exc c => simp only [e', OR.bind] at h; exact fun H' cl od he hx => h H' cl od ((R.ext.trans e2).trans he) hx
    | stuck => simp only [e', OR.bind] at h; exact h
    | ok u =>
      simp only [e', OR.bind] at h
      intro H3 e3
      have ee := e2.trans e3
      unfold slR at h
      cases ed : data d with
      | none => rw [ed] at h; exact h.elim
      | some p =>
        rw [ed] at h
        have r := R.dat ed ee
        cases p with
        | list ps =>
          obtain ⟨a, xs, rfl, l1, s⟩ := r.ll
          exact .inl ⟨a, xs, rfl, l1.sq, fun p hp => h.mkL (R.ext.trans ee) (cutP_map s _ _) (one_nv R ee) hp⟩
        | tuple ps =>
          obtain ⟨a, xs, rfl, l1, s⟩ := r.sqt
          refine .inr (.inl ⟨a, xs, rfl, l1, fun w => ?_, fun w p hp => ?_⟩)
          · have e4 : cutP ps l u = ps := by
              unfold cutP
              rw [← s.len, w.1, w.2, List.drop_zero, Nat.sub_zero, s.len]
              exact List.take_length
            simp only [e4] at h
            exact h.mkT (R.ext.trans ee) l1 s (one_nv R ee)
          · have e3 : Ext H3 (upd H3 p (.tup (cutV xs l u))) := Ext.new hp
            exact h.mkT ((R.ext.trans ee).trans e3) (.inl (.inl upd_same)) ((cutP_map s _ _).ext e3 fun _ z => z) fun a z => ⟨(one_nv R ee a z).1, e3.ne (one_nv R ee a z).2⟩
        | str z =>
          obtain ⟨rfl, k⟩ := r.strok
          simp only at h
          split at h
          · rename_i hl
            exact .inr (.inr ⟨z, rfl, by simpa [SZ, sizeLine_eq] using hl, h.str (R.ext.trans ee) (strOk_cut k _ _)⟩)
          · exact h.elim
        | _ => exact h.elim

/-! ### displays -/
theorem hv_lst {es : List Expr} {fs : Env → List VT} (hl : es.length ≤ 1000) (ha : HVs X W es fs) : HV X W (.List es pos) fun ρ => vt ((seqR (fs ρ)).bind fun ds al => .ok (.ol ds) al) := by
  refine hv_plain (PE_imp (pe_lst (pa_of ha)) fun σ H Q h => ?_)
  refine tA_then h fun F N Pf ρ x d al H1 N1 P1 ee S R h => ?_
  have hx : x.length = es.length := ((Rps.len' R.rd).trans (seqR_len ee)).trans (ha.len ρ)
  refine ⟨by rw [hx, sizeLine_eq]; omega, fun p hp => ?_⟩
  have e2 : Ext H1 (upd H1 p (.lst x)) := Ext.new hp
  obtain ⟨I, Q', r, hi, hq, hd⟩ := R.rd
  refine h _ _ N1 (fun a => P1 a ∨ a = p) ⟨R.ext.trans e2, ⟨I, fun a => Q' a ∨ a = p, .ol (.inr rfl) upd_same (r.ext e2 (fun _ z => .inl z) (fun _ z => z) (fun _ z => z) fun _ z => z) (fun _ z => .inl z) ?_, fun a z => .inl (hi a z), fun a z => z.elim (fun z => .inl (hq a z)) .inr, fun a z w => ?_⟩, fun a z => ?_, fun a z => ?_⟩
  · exact fun z => (R.pv p (hq p z)).2 hp
  · rcases w with w | w
    · exact hd a z w
    · subst w; exact (R.pv _ (hi _ z)).2 hp
  · obtain ⟨q1, q2, q3⟩ := R.nv a z
    exact ⟨q1, e2.ne q2, fun w => w.elim q3 fun w => by subst w; exact q2 hp⟩
  · rcases z with z | z
    · exact ⟨(R.pv a z).1, e2.ne (R.pv a z).2⟩
    · subst z; exact ⟨R.ext.none hp, by rw [upd_same]; exact fun z => nomatch z⟩
theorem hv_tup {es : List Expr} {fs : Env → List VT} {k : Nat} (hl : es.length ≤ 1000) (ha : HVs X W es fs) : HV X W (.Tuple es k pos) fun ρ => vt ((seqR (fs ρ)).bind fun ds al => if ds.all isFz then (match datas ds with
    | some ps => mkT (isNews ds) ps al
    | none => .stuck) else .ok (.ot ds) al) := by
  refine hv_plain (PE_imp (pe_tup (pa_of ha)) fun σ H Q h => ?_)
  refine tA_then h fun F N Pf ρ x d al H1 N1 P1 ee S R h => ?_
  have hx : x.length = es.length := ((Rps.len' R.rd).trans (seqR_len ee)).trans (ha.len ρ)
  refine ⟨by rw [hx, sizeLine_eq]; omega, fun p hp => ?_⟩
  have e2 : Ext H1 (upd H1 p (.tup x)) := Ext.new hp
  split at h
  · cases ed : datas d with
    | none => rw [ed] at h; exact h.elim
    | some ps =>
      rw [ed] at h
      exact h.mkT (R.ext.trans e2) (.inl (.inl upd_same)) ((R.dat ed Ext.refl).ext e2 fun _ z => z) fun a z => ⟨(R.fresh a z).1, e2.ne (R.fresh a z).2⟩
  · obtain ⟨I, Q', r, hi, hq, hd⟩ := R.rd
    exact h _ _ N1 P1 ⟨R.ext.trans e2, ⟨I, Q', .ot (.inl (.inl upd_same)) (r.ext e2 (fun _ z => .inl z) (fun _ z => z) (fun _ z => z) fun _ z => z), hi, hq, hd⟩, fun a z => let ⟨q1, q2, q3⟩ := R.nv a z; ⟨q1, e2.ne q2, q3⟩, fun a z => ⟨(R.pv a z).1, e2.ne (R.pv a z).2⟩⟩
theorem hv_neg {a : Expr} {fa : Env → VT} (ha : HV X W a fa) : HV X W (.UnaryOp .USub a pos) fun ρ => vt ((fa ρ).e.bind fun x _ => dat x fun p => match p with
    | .int i => .ok (.v (.int (-i))) []
    | _ => .stuck) := by
  refine hv_plain (PE_imp (pe_un un_neg ha.e) fun σ H Q h => tE_one (r := rU fun i => .int (-i)) h ?_)
  intro F N Pf ρ x d al H1 N1 P1 S R h
  obtain ⟨p, e, h⟩ := h.dat
  have r := R.dat e Ext.refl
  cases p with
  | int i => cases r; exact ⟨i, rfl, h.int R.ext⟩
  | _ => exact h.elim
theorem hv_var {i : Nat} {x : Str} (hN : X.N[i]? = some x) (hv : Vis X.env.scope x) (hd : (x == ("__debug__" : Str)) = false) (hc : (x == ("__classdict__" : Str)) = false) : HV X W (.Name x pos) fun ρ => vt (varR i ρ) := hv_plain (he_var hN hv hd hc)
theorem hv_int {i : Int} {j : Nat} : HV X W (.Constant (.int i) j pos) fun _ => vt (.ok (.v (.int i)) []) := hv_plain (he_c pe_int fun _ => .int i)
theorem hv_bl {i : Bool} {j : Nat} : HV X W (.Constant (.bool i) j pos) fun _ => vt (.ok (.v (.bool i)) []) := hv_plain (he_c pe_bl fun _ => .bl i)
theorem hv_non {j : Nat} : HV X W (.Constant .none j pos) fun _ => vt (.ok (.v .none) []) := hv_plain (he_c pe_non fun _ => .non)
theorem hv_str {x : Str} {j : Nat} (k : PyData.strOk x = true) : HV X W (.Constant (.str x) j pos) fun _ => vt (.ok (.v (.str x)) []) := hv_plain (he_c pe_str fun _ => .str k)
theorem hv_glob {x : Str} {v : V} {u : Value} {p : PyData} (hg : Gl X x) (hm : X.mg x = some u) (r : RelV v u) (hd : (x == ("__debug__" : Str)) = false) (hp : ∀ H, Rp X.kw (fun _ => False) H v p) : HV X W (.Name x pos) fun _ => vt (.ok (.v p) []) := hv_plain (he_c (pe_glob hg hm r hd) hp)
theorem hv_bin {o : BOp} {a b : Expr} {fa fb : Env → VT} (ha : HV X W a fa) (hb : HV X W b fb) :
    HV X W (.BinOp a (bop o) b pos) fun ρ => vt ((fa ρ).e.bind fun x al => (fb ρ).e.bind fun y bl => dat2 x y (binP o (isNew x && isNew y) (al ++ bl))) := hv_plain (he_bin ha.e hb.e)
end
end Hv

/-! Hv, part 8m: a text's methods. -/
namespace Hv
open PySem PySem.Spec PyProof.Rows L2

def mtN : Mt → String
  | .join => "join"
  | .startswith => "startswith"
  | .endswith => "endswith"
  | .find => "find"
  | .count => "count"
  | .upper => "upper"
  | .lower => "lower"
  | .isdigit => "isdigit"
  | .isalpha => "isalpha"
  | .isupper => "isupper"
  | .islower => "islower"
  | .zfill => "zfill"
  | .strip => "strip"
  | .split => "split"
  | .partition => "partition"
def mtI : Mt → String
  | .join => "str.join"
  | .startswith => "str.startswith"
  | .endswith => "str.endswith"
  | .find => "str.find"
  | .count => "str.count"
  | .upper => "str.upper"
  | .lower => "str.lower"
  | .isdigit => "str.isdigit"
  | .isalpha => "str.isalpha"
  | .isupper => "str.isupper"
  | .islower => "str.islower"
  | .zfill => "str.zfill"
  | .strip => "str.strip"
  | .split => "str.split"
  | .partition => "str.partition"
theorem mt_slot (m : Mt) : Slot "str" (Str.ofString (mtN m)) (mtI m) := by
  cases m
  · exact F.slot_str_join
  · exact F.slot_str_startswith
  · exact F.slot_str_endswith
  · exact F.slot_str_find
  · exact F.slot_str_count
  · exact F.slot_str_upper
  · exact F.slot_str_lower
  · exact F.slot_str_isdigit
  · exact F.slot_str_isalpha
  · exact F.slot_str_isupper
  · exact F.slot_str_islower
  · exact F.slot_str_zfill
  · exact F.slot_str_strip
  · exact F.slot_str_split
  · exact F.slot_str_partition
theorem mt_ty (m : Mt) : typeOf (.builtin (mtI m)) = pure (.type "method_descriptor") := by
  cases m
  · exact F.type_str_join
  · exact F.type_str_startswith
  · exact F.type_str_endswith
  · exact F.type_str_find
  · exact F.type_str_count
  · exact F.type_str_upper
  · exact F.type_str_lower
  · exact F.type_str_isdigit
  · exact F.type_str_isalpha
  · exact F.type_str_isupper
  · exact F.type_str_islower
  · exact F.type_str_zfill
  · exact F.type_str_strip
  · exact F.type_str_split
  · exact F.type_str_partition
def rMt (K : PySem.W.Frag) : Mt → V → List V → Hp → VK → Prop
  | .join => fun x xs H Q => ∃ a p, ∃ ys : List Str, x = .str a ∧ xs = [.ref p] ∧ (SqL K H p (ys.map V.str) ∨ SqT K H p (ys.map V.str)) ∧
    (ys.map (·.length)).sum + ys.length * a.length ≤ 16777216 ∧ Q (.str (Txt.join a ys)) H
  | .startswith => fun x xs H Q => ∃ a b, x = .str a ∧ xs = [.str b] ∧ Q (.bl (Txt.startswith a b)) H
  | .endswith => fun x xs H Q => ∃ a b, x = .str a ∧ xs = [.str b] ∧ Q (.bl (Txt.endswith a b)) H
  | .find => fun x xs H Q => ∃ a b, x = .str a ∧ xs = [.str b] ∧ Q (.int (Txt.find a b)) H
  | .count => fun x xs H Q => ∃ a b, x = .str a ∧ xs = [.str b] ∧ Q (.int (Txt.count a b)) H
  | .upper => fun x xs H Q => ∃ a, x = .str a ∧ xs = [] ∧ a.length ≤ 5592405 ∧ Q (.str (Txt.upper a)) H
  | .lower => fun x xs H Q => ∃ a, x = .str a ∧ xs = [] ∧ a.length ≤ 5592405 ∧ Q (.str (Txt.lower a)) H
  | .isdigit => fun x xs H Q => ∃ a, x = .str a ∧ xs = [] ∧ True ∧ Q (.bl (Txt.isdigit a)) H
  | .isalpha => fun x xs H Q => ∃ a, x = .str a ∧ xs = [] ∧ True ∧ Q (.bl (Txt.isalpha a)) H
  | .isupper => fun x xs H Q => ∃ a, x = .str a ∧ xs = [] ∧ True ∧ Q (.bl (Txt.isupper a)) H
  | .islower => fun x xs H Q => ∃ a, x = .str a ∧ xs = [] ∧ True ∧ Q (.bl (Txt.islower a)) H
  | .zfill => fun x xs H Q => ∃ (a : Str) (i : Int), x = .str a ∧ xs = [.int i] ∧ PadOk i = true ∧ Q (.str (Txt.zfill a i)) H
  | .strip => fun x xs H Q => ∃ a, x = .str a ∧ xs = [] ∧ a.length ≤ sizeLine ∧ Q (.str (Txt.strip a)) H
  | .split => fun x xs H Q => ∃ a b, x = .str a ∧ xs = [.str b] ∧ (b.length == 0) = false ∧ a.length + 2 ≤ sizeLine ∧ rNewStrs (Txt.split a b) H Q
  | .partition => fun x xs H Q => ∃ a b, x = .str a ∧ xs = [.str b] ∧ (b.length == 0) = false ∧ a.length ≤ sizeLine ∧
    ∀ p, H p = none → Q (.ref p) (upd H p (.tup [.str (Txt.partition a b).1, .str (Txt.partition a b).2.1, .str (Txt.partition a b).2.2]))
theorem mt_all {X : Cx} (m : Mt) : MtR X (mtI m) (rMt X.K m) := by
  cases m
  · exact mt_join
  · exact mt_startswith
  · exact mt_endswith
  · exact mt_find
  · exact mt_count
  · exact mt_upper
  · exact mt_lower
  · exact mt_isdigit
  · exact mt_isalpha
  · exact mt_isupper
  · exact mt_islower
  · exact mt_zfill
  · exact mt_strip
  · exact mt_split
  · exact mt_partition
theorem strsOf_eq : ∀ {ps : List PyData} {ns : List Str}, strsOf ps = some ns → ps = ns.map .str
  | [], ns, h => by simp only [strsOf, Option.some.injEq] at h; subst h; rfl
  | .str i :: r, ns, h => by
    simp only [strsOf] at h
    cases e : strsOf r with
    | none => rw [e] at h; cases h
    | some q =>
      rw [e] at h
      simp only [Option.map_some, Option.some.injEq] at h
      subst h
      rw [strsOf_eq e]; rfl
  | .none :: _, _, h => by cases h
  | .bool _ :: _, _, h => by cases h
  | .int _ :: _, _, h => by cases h
  | .list _ :: _, _, h => by cases h
  | .tuple _ :: _, _, h => by cases h
  | .dict _ :: _, _, h => by cases h
section
variable {K : KW} {W : WX} {F N : AS} {Pf : Nat → AS} {σ : L2.St} {H H1 H2 : Hp} {Q : VK}
theorem PR.okS {x : Str} (h : PR K W F N Pf σ H Q (okS x)) (e : Ext H H1) : Q (.str x) H1 := by
  unfold Hv.okS at h
  split at h
  · rename_i c; exact h.str e c
  · exact h.elim
theorem mt_ok {m : Mt} {a : Str} {vs : List V} {ds : List D} {al : Al} {N1 P1 : AS} (R : Resl K F N Pf H1 al H2 N1 P1 vs ds) (ex : Ext H H1) (h : PR K W F N Pf σ H Q (mtR m a ds)) : rMt K.k m (.str a) vs H2 Q := by
  have e2 : Ext H H2 := ex.trans R.ext
  match ds, R, h with
  | [], R, h =>
    have hv : vs = [] := by
      have := Rps.len' R.rd
      cases vs with
      | nil => rfl
      | cons _ _ => simp at this
    subst hv
    have h : PR K W F N Pf σ H Q (mt0R m a) := h
    cases m with
    | upper =>
      simp only [mt0R] at h
      split at h
      · rename_i c; exact ⟨a, rfl, rfl, c, h.okS e2⟩
      · exact h.elim
    | lower =>
      simp only [mt0R] at h
      split at h
      · rename_i c; exact ⟨a, rfl, rfl, c, h.okS e2⟩
      · exact h.elim
    | strip =>
      simp only [mt0R] at h
      split at h
      · rename_i c; exact ⟨a, rfl, rfl, by simpa [SZ, sizeLine_eq] using c, h.okS e2⟩
      · exact h.elim
    | isdigit => exact ⟨a, rfl, rfl, trivial, PR.bool h e2⟩
    | isalpha => exact ⟨a, rfl, rfl, trivial, PR.bool h e2⟩
    | isupper => exact ⟨a, rfl, rfl, trivial, PR.bool h e2⟩
    | islower => exact ⟨a, rfl, rfl, trivial, PR.bool h e2⟩
    | _ => exact h.elim
  | [d], R, h =>
    cases ed : data d with
    | none => simp only [mtR, ed] at h; exact h.elim
    | some q =>
      simp only [mtR, ed] at h
      obtain ⟨x, rfl, r⟩ := R.one ed
      cases m with
      | join =>
        cases q with
        | list ps =>
          obtain ⟨p, xs, rfl, l, s⟩ := r.ll
          simp only [mt1R, joinR] at h
          split at h
          · rename_i zs hz
            have e3 := strsOf_eq hz
            subst e3
            have e4 := s.strs
            subst e4
            split at h
            · rename_i c; exact ⟨a, p, zs, rfl, rfl, .inl l.sq, c, h.okS e2⟩
            · exact h.elim
          · exact h.elim
        | tuple ps =>
          obtain ⟨p, xs, rfl, l, s⟩ := r.sqt
          simp only [mt1R, joinR] at h
          split at h
          · rename_i zs hz
            have e3 := strsOf_eq hz
            subst e3
            have e4 := s.strs
            subst e4
            split at h
            · rename_i c; exact ⟨a, p, zs, rfl, rfl, .inr l, c, h.okS e2⟩
            · exact h.elim
          · exact h.elim
        | _ => exact h.elim
      | startswith =>
        cases q with
        | str b => obtain ⟨rfl, k⟩ := r.strok; exact ⟨a, b, rfl, rfl, PR.bool h e2⟩
        | _ => exact h.elim
      | endswith =>
        cases q with
        | str b => obtain ⟨rfl, k⟩ := r.strok; exact ⟨a, b, rfl, rfl, PR.bool h e2⟩
        | _ => exact h.elim
      | find =>
        cases q with
        | str b => obtain ⟨rfl, k⟩ := r.strok; exact ⟨a, b, rfl, rfl, PR.int h e2⟩
        | _ => exact h.elim
      | count =>
        cases q with
        | str b => obtain ⟨rfl, k⟩ := r.strok; exact ⟨a, b, rfl, rfl, PR.int h e2⟩
        | _ => exact h.elim
      | zfill =>
        cases q with
        | int i =>
          cases r.int_eq
          simp only [mt1R] at h
          split at h
          · rename_i c; exact ⟨a, i, rfl, rfl, c, h.okS e2⟩
          · exact h.elim
        | _ => exact h.elim
      | split =>
        cases q with
        | str b =>
          obtain ⟨rfl, k⟩ := r.strok
          simp only [mt1R] at h
          split at h
          · rename_i c
            refine ⟨a, b, rfl, rfl, c.1, by simpa [SZ, sizeLine_eq] using c.2.1, fun p hp => ?_⟩
            have e4 : Ext H2 (upd H2 p (.lst ((Txt.split a b).map V.str))) := Ext.new hp
            refine h _ _ (fun _ => False) (fun a => a = p) ⟨e2.trans e4, .mk (RD.oL upd_same ((Rps.of_strs _ fun x hx => ?_)) rfl), fun _ z => z.elim, fun a z => ?_⟩
            · exact List.all_eq_true.mp c.2.2 x hx
            · subst z
              exact ⟨e2.none hp, by rw [upd_same]; exact fun z => nomatch z⟩
          · exact h.elim
        | _ => exact h.elim
      | partition =>
        cases q with
        | str b =>
          obtain ⟨rfl, k⟩ := r.strok
          simp only [mt1R] at h
          split at h
          · rename_i c
            refine ⟨a, b, rfl, rfl, c.1, by simpa [SZ, sizeLine_eq] using c.2.1, fun p hp => ?_⟩
            have e4 : Ext H2 (upd H2 p (.tup [.str (Txt.partition a b).1, .str (Txt.partition a b).2.1, .str (Txt.partition a b).2.2])) := Ext.new hp
            exact h.scal (S := fun _ => False) (e2.trans e4) (.tup (.inl (.inl upd_same)) (.cons (.str c.2.2.1) (.cons (.str c.2.2.2.1) (.cons (.str c.2.2.2.2) .nil)))) rfl
          · exact h.elim
        | _ => exact h.elim
      | _ => exact h.elim
  | _ :: _ :: _, _, h => exact h.elim
end
/-- no call of super -/
def notSup : Expr → Bool
  | .Call (.Name _ _) [] [] _ => false
  | _ => true
theorem base_of {o : Expr} (h : notSup o = true) (name : Str) (env : PySem.Env) (w : Sem Value) : attributeBase o name env w = w := by
  unfold attributeBase
  split
  · simp [notSup] at h
  · rfl
section
variable {X : Cx} {W : WX}
theorem strR_ok {K : KW} {F N : AS} {Pf : Nat → AS} {σ : L2.St} {H : Hp} {Q : VK} {d : D} {f : Str → R} (h : PR K W F N Pf σ H Q (strR d f)) : ∃ a, data d = some (.str a) ∧ PR K W F N Pf σ H Q (f a) := by
  unfold strR at h
  split at h
  · rename_i a e; exact ⟨a, e, h⟩
  · exact h.elim
theorem hv_mth0 {m : Mt} {o : Expr} {fo : Env → VT} {apos cpos : Pos} (ho : HV X W o fo) (hb : notSup o = true) (hl : (apos.endLine == cpos.line) = true) :
    HV X W (.Call (.Attribute o (Str.ofString (mtN m)) apos) [] [] cpos) fun ρ => vt ((fo ρ).e.bind fun x _ => strR x fun a => (seqR []).bind fun ds _ => mtR m a ds) := by
  refine hv_plain (PE_imp (pe_bm0 F.plainAttrs_str (mt_slot m) (mt_ty m) (mt_all m) ho.e (base_of hb _ _ _) hl) fun σ H Q h => ?_)
  show (tE X.kw W fun ρ => (fo ρ).e) σ H fun x H1 => tyV X.K "str" x H1 ∧ rMt X.K m x [] H1 Q
  refine tE_one (r := fun x H1 Q => tyV X.K "str" x H1 ∧ rMt X.K m x [] H1 Q) h fun F N Pf ρ x d al H1 N1 P1 S R h => ?_
  obtain ⟨a, ed, h⟩ := strR_ok h
  obtain ⟨rfl, k⟩ := (R.dat ed Ext.refl).strok
  exact ⟨rfl, mt_ok (al := []) Resl.nil R.ext h⟩
theorem hv_mth1 {m : Mt} {o e : Expr} {fo : Env → VT} {fs : Env → List VT} {apos cpos : Pos} (ho : HV X W o fo) (ha : HVs X W [e] fs) (hb : notSup o = true) (hl : (apos.endLine == cpos.line) = true) :
    HV X W (.Call (.Attribute o (Str.ofString (mtN m)) apos) [e] [] cpos) fun ρ => vt ((fo ρ).e.bind fun x _ => strR x fun a => (seqR (fs ρ)).bind fun ds _ => mtR m a ds) := by
  have hst : starEach [e] X.env = (false, eval e X.env) :: starEach [] X.env := by cases ha with | cons h _ => exact h.p.st _ _
  refine hv_plain (PE_imp (pe_bm F.plainAttrs_str (mt_slot m) (mt_ty m) (mt_all m) ho.e (pa_of ha) (base_of hb _ _ _) (by rw [hst]; rfl) hl hst rfl) fun σ H Q h => ?_)
  show (tE X.kw W fun ρ => (fo ρ).e) σ H fun x H1 => tyV X.K "str" x H1 ∧ (tA X.kw W fun ρ => seqR (fs ρ)) σ H1 fun xs H2 => rMt X.K m x xs H2 Q
  obtain ⟨F, N, Pf, ρ, S, h⟩ := h
  refine ⟨F, N, Pf, ρ, S, ?_⟩
  have h : PR X.kw W F N Pf σ H Q ((fo ρ).e.bind fun x _ => strR x fun a => (seqR (fs ρ)).bind fun ds _ => mtR m a ds) := h
  show PR X.kw W F N Pf σ H _ (fo ρ).e
  cases e1 : (fo ρ).e with
  | ok d al =>
    simp only [R.bind, e1] at h
    intro x H1 N1 P1 R
    obtain ⟨a, ed, h⟩ := strR_ok h
    obtain ⟨rfl, k⟩ := (R.dat ed Ext.refl).strok
    refine ⟨rfl, F, N, Pf, ρ, S.more R.ext, ?_⟩
    show PL X.kw W F N Pf σ H1 _ (seqR (fs ρ))
    cases e2 : seqR (fs ρ) with
    | ok ds bl =>
      intro y H2 N2 P2 R2
      simp only [e2, Rl.bind] at h
      exact mt_ok R2 R.ext h
    | exc c =>
      simp only [e2, Rl.bind] at h
      intro H' cl od he hx
      exact h H' cl od (R.ext.trans he) hx
    | stuck => simp only [e2, Rl.bind] at h; exact h
  | exc c => simp only [R.bind, e1] at h; exact h
  | stuck => simp only [R.bind, e1] at h; exact h
end
end Hv

/-! Hv, part 9: what loops go over; comprehensions. -/
namespace Hv
open PySem PySem.Spec PyProof.Rows L2

/-- at turn i the i-th item, then the end; whatever changes within Z -/
def Walks (K : KW) (S Z : AS) (H0 : Hp) (J : It) (ps : List PyData) : Prop := ∀ i H, Kp Z H0 H →
  (∀ p, ps[i]? = some p → J.go i H ∧ ∀ x H', J.yld i H x H' → Ext H H' ∧ Rp K S H' x p) ∧ (ps.length ≤ i → J.stop i H)
/-- what may change meanwhile: nothing of S, no tuple -/
def Far (S Z : AS) (H0 : Hp) : Prop := (∀ a, S a → ¬ Z a) ∧ ∀ b ys, Z b → ¬ Rd H0 b (.tup ys)
section
variable {K : KW} {S Z : AS} {H0 : Hp}
theorem LL.kp {a : Addr} {xs : List V} {H : Hp} (h : LL K.k H0 a xs) (e : Kp Z H0 H) (z : (∃ xs', Rd H0 a (.lst xs')) → ¬ Z a) : LL K.k H a xs := by
  rcases h with h | h
  · exact .inl (Rd.kp h e (z ⟨_, h⟩))
  · exact .inr h
/-- a list that lies in S, or is written -/
theorem Rp.llS {a : V} {H : Hp} {ds : List PyData} (h : Rp K S H a (.list ds)) : ∃ p xs, a = .ref p ∧ ((S p ∧ Rd H p (.lst xs)) ∨ LitL K.k p xs) ∧ Rps K S H xs ds := by
  cases h with
  | lst s r q => exact ⟨_, _, rfl, .inl ⟨s, r⟩, q⟩
  | lsk l q => exact ⟨_, _, rfl, .inr l, q⟩
theorem Rd.inj {H : Hp} {a : Addr} {u v : HO} (h : Rd H a u) (h' : Rd H a v) : (∃ o, u = .frz o v) ∨ (∃ o, v = .frz o u) ∨ u = v := by
  rcases h with h | ⟨o, h⟩ <;> rcases h' with h' | ⟨o', h'⟩ <;> (rw [h] at h'; injection h' with h')
  · exact .inr (.inr h')
  · exact .inl ⟨_, h'⟩
  · exact .inr (.inl ⟨_, h'.symm⟩)
  · injection h' with h1 h2; exact .inr (.inr h2)
theorem walks_list {x : V} {ps : List PyData} (h : Rp K S H0 x (.list ps)) : ∃ a xs, x = .ref a ∧ SqL K.k H0 a xs ∧ xs.length = ps.length ∧ ∀ Z, Far S Z H0 → Walks K S Z H0 (Itl K.k a) ps := by
  obtain ⟨a, xs, rfl, l, q⟩ := h.llS
  have l0 : LL K.k H0 a xs := l.elim (fun z => .inl z.2) .inr
  refine ⟨a, xs, rfl, l0.sq, q.len, fun Z hz i H e => ?_⟩
  have l1 : LL K.k H a xs := l.elim (fun z => .inl (Rd.kp z.2 e (hz.1 a z.1))) .inr
  have q1 : Rps K S H xs ps := q.kp e (fun _ z => z) hz.1 hz.2
  refine ⟨fun p hp => ?_, fun hl => ⟨xs, l1.sq, by rw [q.len]; exact hl⟩⟩
  obtain ⟨y, e1, r⟩ := q1.get hp
  refine ⟨⟨xs, y, l1.sq, e1⟩, fun x H' hy => ?_⟩
  obtain ⟨rfl, f⟩ := hy
  have e2 := f xs l1.sq
  rw [e1] at e2
  injection e2 with e2
  subst e2
  exact ⟨Ext.refl, r⟩
theorem walks_tuple {x : V} {ps : List PyData} (h : Rp K S H0 x (.tuple ps)) : ∃ a xs, x = .ref a ∧ SqT K.k H0 a xs ∧ xs.length = ps.length ∧ ∀ Z, Far S Z H0 → Walks K S Z H0 (Itt K.k a) ps := by
  obtain ⟨a, xs, rfl, l, q⟩ := h.sqt
  refine ⟨a, xs, rfl, l, q.len, fun Z hz i H e => ?_⟩
  have l1 : SqT K.k H a xs := SqT.kp l e hz.2
  have q1 : Rps K S H xs ps := q.kp e (fun _ z => z) hz.1 hz.2
  refine ⟨fun p hp => ?_, fun hl => ⟨xs, l1, by rw [q.len]; exact hl⟩⟩
  obtain ⟨y, e1, r⟩ := q1.get hp
  refine ⟨⟨xs, y, l1, e1⟩, fun x H' hy => ?_⟩
  obtain ⟨rfl, f⟩ := hy
  have e2 := f xs l1
  rw [e1] at e2
  injection e2 with e2
  subst e2
  exact ⟨Ext.refl, r⟩
theorem walks_str {z : Str} (k : PyData.strOk z = true) : Walks K S Z H0 (Its z) (z.cps.toList.map fun c => .str ⟨#[c]⟩) := by
  intro i H e
  refine ⟨fun p hp => ?_, fun hl => ?_⟩
  · rw [List.getElem?_map] at hp
    cases e1 : z.cps.toList[i]? with
    | none => rw [e1] at hp; cases hp
    | some c =>
      rw [e1] at hp
      injection hp with hp
      subst hp
      have hi : i < z.cps.size := by
        have := (List.getElem?_eq_some_iff.mp e1).1
        simpa using this
      refine ⟨hi, fun x H' hy => ?_⟩
      obtain ⟨rfl, d, hd, rfl⟩ := hy
      have : c = d := by
        have h2 : z.cps.toList[i]? = z.cps[i]? := by simp
        rw [h2, hd] at e1
        exact (Option.some.inj e1).symm
      subst this
      exact ⟨Ext.refl, .str (strOk_one k (List.mem_of_getElem? e1))⟩
  · show z.cps.size ≤ i
    simpa using hl
theorem walks_range {lo : Int} {n : Nat} : Walks K S Z H0 (Itr lo n) (((List.range n).map fun (k : Nat) => lo + k).map .int) := by
  intro i H e
  refine ⟨fun p hp => ?_, fun hl => ?_⟩
  · rw [List.getElem?_map, List.getElem?_map] at hp
    cases e1 : (List.range n)[i]? with
    | none => rw [e1] at hp; cases hp
    | some c =>
      rw [e1] at hp
      injection hp with hp
      subst hp
      obtain ⟨h1, h2⟩ := List.getElem?_eq_some_iff.mp e1
      rw [List.getElem_range] at h2
      subst h2
      rw [List.length_range] at h1
      refine ⟨h1, fun x H' hy => ?_⟩
      obtain ⟨rfl, rfl⟩ := hy
      exact ⟨Ext.refl, .int _⟩
  · show n ≤ i
    simpa using hl
theorem walks_enum {x : V} {ps : List PyData} (h : Rp K S H0 x (.list ps)) : ∃ a xs, x = .ref a ∧ SqL K.k H0 a xs ∧ xs.length = ps.length ∧ ∀ Z, Far S Z H0 → Walks K S Z H0 (Ite K.k a) (enumP ps) := by
  obtain ⟨a, xs, rfl, l, q⟩ := h.llS
  have l0 : LL K.k H0 a xs := l.elim (fun z => .inl z.2) .inr
  refine ⟨a, xs, rfl, l0.sq, q.len, fun Z hz i H e => ?_⟩
  have l1 : LL K.k H a xs := l.elim (fun z => .inl (Rd.kp z.2 e (hz.1 a z.1))) .inr
  have q1 : Rps K S H xs ps := q.kp e (fun _ z => z) hz.1 hz.2
  have hlen : (enumP ps).length = ps.length := by unfold enumP; simp
  refine ⟨fun p hp => ?_, fun hl => ⟨xs, l1.sq, by rw [q.len, ← hlen]; exact hl⟩⟩
  unfold enumP at hp
  rw [List.getElem?_mapIdx] at hp
  cases e0 : ps[i]? with
  | none => rw [e0] at hp; cases hp
  | some p0 =>
    rw [e0] at hp
    injection hp with hp
    subst hp
    obtain ⟨y, e1, r⟩ := q1.get e0
    refine ⟨⟨xs, y, l1.sq, e1⟩, fun x H' hy => ?_⟩
    obtain ⟨T, x', rfl, hT, rfl, f⟩ := hy
    have e2 := f xs l1.sq
    rw [e1] at e2
    injection e2 with e2
    subst e2
    have e3 : Ext H (upd H T (.tup [.int i, y])) := Ext.new hT
    exact ⟨e3, .tup (.inl (.inl upd_same)) (.cons (.int _) (.cons (r.ext e3 fun _ z => z) .nil))⟩
end

section
variable {K : KW} {S Z : AS} {H0 : Hp}
theorem zipP_get {ps qs : List PyData} {i : Nat} {p : PyData} (h : (zipP ps qs)[i]? = some p) : ∃ a b, ps[i]? = some a ∧ qs[i]? = some b ∧ p = .tuple [a, b] := by
  unfold zipP at h
  rw [List.getElem?_zipWith] at h
  cases e1 : ps[i]? with
  | none => rw [e1] at h; cases h
  | some a =>
    cases e2 : qs[i]? with
    | none => rw [e1, e2] at h; cases h
    | some b =>
      rw [e1, e2] at h
      injection h with h
      exact ⟨a, b, rfl, rfl, h.symm⟩
theorem walks_zip {x y : V} {ps qs : List PyData} (h : Rp K S H0 x (.list ps)) (h' : Rp K S H0 y (.list qs)) : ∃ a b xs ys, x = .ref a ∧ y = .ref b ∧ SqL K.k H0 a xs ∧ SqL K.k H0 b ys ∧ xs.length = ps.length ∧ ∀ Z, Far S Z H0 → Walks K S Z H0 (Itz K.k a b) (zipP ps qs) := by
  obtain ⟨a, xs, rfl, l, q⟩ := h.llS
  obtain ⟨b, ys, rfl, l', q'⟩ := h'.llS
  have l0 : LL K.k H0 a xs := l.elim (fun z => .inl z.2) .inr
  have l0' : LL K.k H0 b ys := l'.elim (fun z => .inl z.2) .inr
  refine ⟨a, b, xs, ys, rfl, rfl, l0.sq, l0'.sq, q.len, fun Z hz i H e => ?_⟩
  have l1 : LL K.k H a xs := l.elim (fun z => .inl (Rd.kp z.2 e (hz.1 a z.1))) .inr
  have l1' : LL K.k H b ys := l'.elim (fun z => .inl (Rd.kp z.2 e (hz.1 b z.1))) .inr
  have q1 : Rps K S H xs ps := q.kp e (fun _ z => z) hz.1 hz.2
  have q1' : Rps K S H ys qs := q'.kp e (fun _ z => z) hz.1 hz.2
  refine ⟨fun p hp => ?_, fun hl => ⟨xs, ys, l1.sq, l1'.sq, ?_⟩⟩
  · obtain ⟨p1, p2, g1, g2, rfl⟩ := zipP_get hp
    obtain ⟨y1, e1, r1⟩ := q1.get g1
    obtain ⟨y2, e2, r2⟩ := q1'.get g2
    refine ⟨⟨xs, ys, y1, y2, l1.sq, l1'.sq, e1, e2⟩, fun x H' hy => ?_⟩
    obtain ⟨T, u1, u2, rfl, hT, rfl, f1, f2⟩ := hy
    have e3 := f1 xs l1.sq
    have e4 := f2 ys l1'.sq
    rw [e1] at e3
    rw [e2] at e4
    injection e3 with e3
    injection e4 with e4
    subst e3 e4
    have e5 : Ext H (upd H T (.tup [y1, y2])) := Ext.new hT
    exact ⟨e5, .tup (.inl (.inl upd_same)) (.cons (r1.ext e5 fun _ z => z) (.cons (r2.ext e5 fun _ z => z) .nil))⟩
  · unfold zipP at hl
    rw [List.length_zipWith] at hl
    rw [q.len, q'.len]
    omega
end

/-! ### the iterables -/
theorem PI_or {X : Cx} {tg e : Expr} {t t' : TI} (h : PI X tg e t) (h' : PI X tg e t') : PI X tg e (fun σ H R => t σ H R ∨ t' σ H R) :=
  ⟨fun pins s σ H R I q => q.elim (h.run pins s σ H R I) (h'.run pins s σ H R I)⟩
theorem PI_imp {X : Cx} {tg e : Expr} {t t' : TI} (h : PI X tg e t) (i : ∀ σ H R, t' σ H R → t σ H R) : PI X tg e t' :=
  ⟨fun pins s σ H R I q => h.run pins s σ H R I (i σ H R q)⟩
/-- what is owed where an iterable's parts have come -/
def PW' (K : KW) (W : WX) (F N : AS) (Pf : Nat → AS) (σ : L2.St) (H : Hp) (R : It → Hp → Prop) (k : Sk) (r : Rl) : Prop := match r with
  | .ok ds al => match itemsR k ds al with
    | some (ps, b, _) => ∀ xs H1 Nv Pv J, Resl K F N Pf H al H1 Nv Pv xs ds → ps.length ≤ sizeLine → (∀ Z, Far (SB b F (S1 N Pf al fun a => Nv a ∨ Pv a)) Z H1 → Walks K (SB b F (S1 N Pf al fun a => Nv a ∨ Pv a)) Z H1 J ps) → R J H1
    | none => False
  | .exc c => ∀ H' cl od, Ext H H' → ExcV K.k c cl od → W cl od σ H'
  | .stuck => False
def tI (K : KW) (W : WX) (k : Sk) (f : Env → Rl) : TI := fun σ H R => ∃ F N Pf ρ, StE K F N Pf H σ ρ ∧ PW' K W F N Pf σ H R k (f ρ)
section
variable {X : Cx} {W : WX} {pos : Pos} {tg : Expr}
theorem Res.toL {K : KW} {F N : AS} {Pf : Nat → AS} {H H1 : Hp} {al : Al} {Nv Pv : AS} {x : V} {d : D} (R : Res K F N Pf H al H1 Nv Pv x d) : Resl K F N Pf H al H1 Nv Pv [x] [d] := by
  refine ⟨R.ext, ?_, R.nv, R.pv⟩
  obtain ⟨I, Q, r, hi, hq, hd⟩ := R.rd
  exact ⟨I, Q, .cons (P2 := fun _ => False) r .nil (fun _ z => z) (fun _ z => z.elim) fun _ _ z => z, hi, hq, hd⟩
theorem isNews_one {d : D} : isNews [d] = isNew d := by simp [isNews]
theorem hi_seq {e : Expr} {f : Env → VT} (h : HV X W e f) : PI X tg e (tI X.kw W .seq fun ρ => seqR [f ρ]) := by
  refine PI_imp (PI_or (pi_list (PE_wf h.e)) (PI_or (pi_tup (PE_wf h.e)) (pi_str h.e))) fun σ H RR ⟨F, N, Pf, ρ, S, q⟩ => ?_
  have q : PW' X.kw W F N Pf σ H RR .seq ((f ρ).e.bindL fun d al => .ok [d] (al ++ [])) := q
  cases e1 : (f ρ).e with
  | exc c =>
    simp only [e1, R.bindL] at q
    refine .inr (.inr ⟨F, N, Pf, ρ, S, ?_⟩)
    try dsimp only
    rw [e1]
    exact q
  | stuck => simp only [e1, R.bindL] at q; exact q.elim
  | ok d al =>
    simp only [e1, R.bindL, List.append_nil, PW', itemsR] at q
    unfold elems at q
    cases e2 : data d with
    | none => rw [e2] at q; exact q.elim
    | some p =>
      rw [e2] at q
      cases p with
      | list ps =>
        refine .inl fun wf => ⟨F, N, Pf, ρ, S, ?_⟩
        try dsimp only
        rw [e1]
        intro x H1 N1 P1 R1 wf1
        have r := R1.dat e2 Ext.refl
        obtain ⟨a, xs, rfl, l, hl, w⟩ := walks_list r
        refine ⟨a, rfl, ⟨xs, l⟩, q _ H1 N1 P1 _ R1.toL ?_ w⟩
        rw [← hl]
        rcases l with l | ⟨o, its, n, _, _, _, _, hz, v⟩
        · exact wf1.1 a xs l
        · rw [v.length]; simpa using hz
      | tuple ps =>
        refine .inr (.inl fun wf => ⟨F, N, Pf, ρ, S, ?_⟩)
        try dsimp only
        rw [e1]
        intro x H1 N1 P1 R1 wf1
        have r := R1.dat e2 Ext.refl
        obtain ⟨a, xs, rfl, l, hl, w⟩ := walks_tuple r
        refine ⟨a, rfl, ⟨xs, l⟩, q _ H1 N1 P1 _ R1.toL ?_ w⟩
        rw [← hl]
        rcases l with l | ⟨o, its, n, _, _, _, hz, v⟩
        · exact wf1.2 a xs l
        · rw [v.length]; simpa using hz
      | str z =>
        refine .inr (.inr ⟨F, N, Pf, ρ, S, ?_⟩)
        try dsimp only
        rw [e1]
        intro x H1 N1 P1 R1
        obtain ⟨rfl, k⟩ := (R1.dat e2 Ext.refl).strok
        simp only at q
        split at q
        · rename_i ps b al2 e3
          split at e3
          · rename_i hl
            simp only [Option.some.injEq, Prod.mk.injEq] at e3
            obtain ⟨rfl, rfl, rfl⟩ := e3
            refine ⟨z, rfl, q _ H1 N1 P1 _ R1.toL (by rw [List.length_map, sizeLine_eq, Array.length_toList]; exact hl) fun Z _ => walks_str k⟩
          · cases e3
        · exact q.elim
      | _ => exact q.elim
theorem rgI_eq (a b : Int) : (rgI a b).map PyData.int = ((List.range (b - a).toNat).map fun (k : Nat) => a + k).map .int := rfl
theorem rgOk_iff {a b : Int} (h : rgOk a b = true) : (-(2 ^ 62) ≤ a ∧ a < 2 ^ 62 ∧ -(2 ^ 62) ≤ b ∧ b < 2 ^ 62) ∧ b - a ≤ 16777216 := by
  unfold rgOk at h
  simp only [Bool.and_eq_true, decide_eq_true_eq] at h
  have e : (2 : Int) ^ 62 = 4611686018427387904 := by decide
  rw [e]
  omega
theorem rg_len (a b : Int) : ((rgI a b).map PyData.int).length = (b - a).toNat := by unfold rgI; simp
theorem tI_then {σ : L2.St} {H : Hp} {RR : It → Hp → Prop} {k : Sk} {fs : Env → Rl} (h : tI X.kw W k fs σ H RR) {r : List V → Hp → Prop}
    (hr : ∀ (F N : AS) (Pf : Nat → AS) (ρ : Env) (xs : List V) (ds : List D) (al : Al) (ps : List PyData) (b : Bool) (al2 : Al) (H1 : Hp) (N1 P1 : AS), fs ρ = .ok ds al → itemsR k ds al = some (ps, b, al2) → Resl X.kw F N Pf H al H1 N1 P1 xs ds →
      (∀ J, ps.length ≤ sizeLine → (∀ Z, Far (SB b F (S1 N Pf al fun a => N1 a ∨ P1 a)) Z H1 → Walks X.kw (SB b F (S1 N Pf al fun a => N1 a ∨ P1 a)) Z H1 J ps) → RR J H1) → r xs H1) : tA X.kw W fs σ H r := by
  obtain ⟨F, N, Pf, ρ, S, q⟩ := h
  refine ⟨F, N, Pf, ρ, S, ?_⟩
  cases e : fs ρ with
  | exc c => rw [e] at q; exact q
  | stuck => rw [e] at q; exact q
  | ok ds al =>
    rw [e] at q
    intro xs H1 N1 P1 R1
    simp only [PW'] at q
    cases e2 : itemsR k ds al with
    | none => rw [e2] at q; exact q.elim
    | some w =>
      obtain ⟨ps, b, al2⟩ := w
      rw [e2] at q
      exact hr _ _ _ _ _ _ _ _ _ _ _ _ _ e e2 R1 fun J => q xs H1 N1 P1 J R1
theorem hi_range1 {e : Expr} {fs : Env → List VT} {p : Pos} (hg : Gl X "range") (hm : X.mg "range" = none) (ha : HVs X W [e] fs) : PI X tg (.Call (.Name "range" p) [e] [] pos) (tI X.kw W .range fun ρ => seqR (fs ρ)) := by
  have hst : starEach [e] X.env = [(false, eval e X.env)] := by cases ha with | cons h _ => exact h.p.st _ _
  refine PI_imp (pi_range1 hg hm (pa_of ha) hst) fun σ H RR h => tI_then h ?_
  intro F N Pf ρ xs ds al ps b al2 H1 N1 P1 e0 e1 R1 q
  have hlen := (seqR_len e0).trans (ha.len ρ)
  simp only [itemsR] at e1
  match ds, e1, R1, hlen with
  | [d], e1, R1, _ =>
    simp only at e1
    split at e1
    · rename_i j e2
      obtain ⟨x, rfl, r⟩ := R1.one e2
      cases r
      split at e1
      · rename_i c
        simp only [Option.some.injEq, Prod.mk.injEq] at e1
        obtain ⟨rfl, rfl, rfl⟩ := e1
        obtain ⟨⟨_, _, c1, c2⟩, c3⟩ := rgOk_iff c
        refine ⟨j, rfl, c1, c2, q _ (by rw [rg_len, sizeLine_eq]; omega) fun Z _ => ?_⟩
        have := walks_range (K := X.kw) (S := SB true F (S1 N Pf al fun a => N1 a ∨ P1 a)) (Z := Z) (H0 := H1) (lo := 0) (n := j.toNat)
        rw [rgI_eq, Int.sub_zero]
        exact this
      · cases e1
    · cases e1
  | [d, d2], e1, R1, hlen => simp at hlen
theorem hi_range2 {e e' : Expr} {fs : Env → List VT} {p : Pos} (hg : Gl X "range") (hm : X.mg "range" = none) (ha : HVs X W [e, e'] fs) : PI X tg (.Call (.Name "range" p) [e, e'] [] pos) (tI X.kw W .range fun ρ => seqR (fs ρ)) := by
  have hst : starEach [e, e'] X.env = [(false, eval e X.env), (false, eval e' X.env)] := by
    cases ha with
    | cons h t => cases t with
      | cons h2 t2 => rw [h.p.st, h2.p.st]; rfl
  have hst2 : starEach [e'] X.env = [(false, eval e' X.env)] := by
    cases ha with
    | cons h t => cases t with
      | cons h2 t2 => rw [h2.p.st]; rfl
  refine PI_imp (pi_range2 hg hm (pa_of ha) hst hst2) fun σ H RR h => tI_then h ?_
  intro F N Pf ρ xs ds al ps b al2 H1 N1 P1 e0 e1 R1 q
  have hlen := (seqR_len e0).trans (ha.len ρ)
  simp only [itemsR] at e1
  match ds, e1, R1, hlen with
  | [d], e1, R1, hlen => simp at hlen
  | [d, d2], e1, R1, hlen =>
    simp only at e1
    split at e1
    · rename_i i e2
      split at e1
      · rename_i j e3
        obtain ⟨x, y, S', rfl, r, r'⟩ := R1.two e2 e3
        cases r; cases r'
        split at e1
        · rename_i c
          simp only [Option.some.injEq, Prod.mk.injEq] at e1
          obtain ⟨rfl, rfl, rfl⟩ := e1
          obtain ⟨c1, c3⟩ := rgOk_iff c
          refine ⟨i, j, rfl, c1, q _ (by rw [rg_len, sizeLine_eq]; omega) fun Z _ => ?_⟩
          rw [rgI_eq]
          exact walks_range
        · cases e1
      · cases e1
    · cases e1
theorem PA_wf {es : List Expr} {t : TA} (h : PA X es t) : PA X es (fun σ H Q => Wf H → t σ H fun x H' => Wf H' → Q x H') :=
  ⟨fun pos pins s σ H Q I q => thn (h.run pos pins s σ H _ I (q (wf_of I))) fun u s' ⟨x, H', I', r, k⟩ => ⟨x, H', I', r, k (wf_of I')⟩⟩
theorem hi_enum {e : Expr} {fs : Env → List VT} {p tpos : Pos} {elts : List Expr} {kk : Nat} (hg : Gl X "enumerate") (hm : X.mg "enumerate" = none) (ha : HVs X W [e] fs) :
    PI X (.Tuple elts kk tpos) (.Call (.Name "enumerate" p) [e] [] pos) (tI X.kw W .enum fun ρ => seqR (fs ρ)) := by
  have hst : starEach [e] X.env = [(false, eval e X.env)] := by cases ha with | cons h _ => exact h.p.st _ _
  refine PI_imp (pi_enum hg hm (PA_wf (pa_of ha)) hst) fun σ H RR h wf => tI_then h ?_
  intro F N Pf ρ xs ds al ps b al2 H1 N1 P1 e0 e1 R1 q wf1
  simp only [itemsR] at e1
  have hlen := (seqR_len e0).trans (ha.len ρ)
  match ds, e1, R1, hlen with
  | [d], e1, R1, _ =>
    simp only at e1
    split at e1
    · rename_i ps0 e2
      unfold elems at e1
      rw [e2] at e1
      simp only [Option.map_some, Option.some.injEq, Prod.mk.injEq] at e1
      obtain ⟨rfl, rfl, _⟩ := e1
      obtain ⟨x, rfl, r⟩ := R1.one e2
      obtain ⟨a, xs, rfl, l, hl, w⟩ := walks_enum r
      refine ⟨a, xs, rfl, l, q _ ?_ w⟩
      have : (enumP ps0).length = ps0.length := by unfold enumP; simp
      rw [this, ← hl]
      rcases l with l | ⟨o, its, n, _, _, _, _, hz, v⟩
      · exact wf1.1 a xs l
      · rw [v.length]; simpa using hz
    · cases e1
theorem Resl.twoS {K : KW} {F N : AS} {Pf : Nat → AS} {H H1 : Hp} {al : Al} {Nv Pv : AS} {vs : List V} {d e : D} {p q : PyData} (R : Resl K F N Pf H al H1 Nv Pv vs [d, e]) (e1 : data d = some p) (e2 : data e = some q) :
    ∃ x y, vs = [x, y] ∧ Rp K (SB (isNews [d, e]) F (S1 N Pf al fun a => Nv a ∨ Pv a)) H1 x p ∧ Rp K (SB (isNews [d, e]) F (S1 N Pf al fun a => Nv a ∨ Pv a)) H1 y q := by
  have r := R.dat (p := [p, q]) (by simp [datas, e1, e2]) Ext.refl
  cases r with
  | cons a t =>
    cases t with
    | cons b t =>
      cases t
      exact ⟨_, _, rfl, a, b⟩
theorem zip_al {K : KW} {b : Bool} {F N A : AS} {Pf : Nat → AS} {al : Al} {H : Hp} {J : It} {Z : AS} {ps qs : List PyData} (hp : mutDs ps = false) (hq : mutDs qs = false) (w : Walks K (SB b F (S1 N Pf al A)) Z H J (zipP ps qs)) : Walks K (SB b F (S1 N Pf al A)) Z H J (zipP ps qs) := w
theorem hi_zip {e e2 : Expr} {fs : Env → List VT} {p tpos : Pos} {elts : List Expr} {kk : Nat} (hg : Gl X "zip") (hm : X.mg "zip" = none) (ha : HVs X W [e, e2] fs) :
    PI X (.Tuple elts kk tpos) (.Call (.Name "zip" p) [e, e2] [] pos) (tI X.kw W .zip fun ρ => seqR (fs ρ)) := by
  have hst : starEach [e, e2] X.env = (false, eval e X.env) :: starEach [e2] X.env := by cases ha with | cons h _ => exact h.p.st _ _
  have hst2 : (backTo pos (starEach [e2] X.env)).any (·.1) = false := by
    cases ha with
    | cons h t => cases t with
      | cons h2 t2 => rw [h2.p.st]; rfl
  refine PI_imp (RZ.pi_zipA hg hm (PA_wf (pa_of ha)) hst hst2) fun σ H RR h wf => tI_then h ?_
  intro F N Pf ρ xs ds al ps b al2 H1 N1 P1 e0 e1 R1 q wf1
  simp only [itemsR] at e1
  have hlen := (seqR_len e0).trans (ha.len ρ)
  match ds, e1, R1, hlen with
  | [d], e1, R1, hlen => simp at hlen
  | [d, d2], e1, R1, _ =>
    simp only at e1
    split at e1
    · rename_i ps0 e2
      split at e1
      · rename_i qs0 e3
        split at e1
        · cases e1
        · rename_i hmu
          simp only [Option.some.injEq, Prod.mk.injEq] at e1
          obtain ⟨rfl, rfl, rfl⟩ := e1
          obtain ⟨x, y, rfl, r, r'⟩ := R1.twoS e2 e3
          obtain ⟨a, b, xs, ys, rfl, rfl, l, l', hl, w⟩ := walks_zip r r'
          refine ⟨a, b, xs, ys, rfl, .inl ⟨l, l', q _ ?_ w⟩⟩
          have : (zipP ps0 qs0).length ≤ ps0.length := by
            unfold zipP
            rw [List.length_zipWith]
            omega
          refine Nat.le_trans this ?_
          rw [← hl]
          rcases l with l | ⟨o, its, n, _, _, _, _, hz, v⟩
          · exact wf1.1 a xs l
          · rw [v.length]; simpa using hz
      · cases e1
    · cases e1
end
end Hv

/-! Hv, part 10: targets; comprehensions. -/
namespace Hv
open PySem PySem.Spec PyProof.Rows L2

def tgs : Tg → List Nat
  | .name i => [i]
  | .tup is => is
def gList : List Nat → TGs
  | [] => gNil
  | i :: is => gCons (gName i) (gList is)
def gT (K : PySem.W.Frag) : Tg → TG
  | .name i => gName i
  | .tup is => fun v σ H Q => gTup K is.length (gList is) v σ H Q ∨ gLst K is.length (gList is) v σ H Q

section
variable {K : KW} {F N : AS} {Pf : Nat → AS} {H : Hp} {σ : L2.St} {ρ ρ' : Env}
theorem StE.set {i : Nat} {x : V} {d : D} {P : AS} (S : StE K F N Pf H σ ρ) (r : RW K F N H P x d) (tp : ∀ a, P a → H a ≠ none) : StE K F N (fun j a => (j = i ∧ P a) ∨ (j ≠ i ∧ Pf j a)) H (σ.set i (some x)) (ρ.set i (some d)) where
  len := by rw [List.length_set, List.length_set]; exact S.len
  rep := fun j e h => by
    by_cases hj : i = j
    · subst hj
      have hi : i < ρ.length := by
        have := (List.getElem?_eq_some_iff.mp h).1
        simpa using this
      rw [List.getElem?_set_self hi] at h
      injection h with h; injection h with h
      subst h
      refine ⟨x, by rw [List.getElem?_set_self (by rw [S.len]; exact hi)], ?_⟩
      exact r.ext Ext.refl (fun _ z => .inl z) (fun _ z => z) fun a z => .inl ⟨rfl, z⟩
    · rw [List.getElem?_set_ne hj] at h
      obtain ⟨y, e1, r1⟩ := S.rep j e h
      exact ⟨y, by rw [List.getElem?_set_ne hj]; exact e1, r1.ext Ext.refl (fun _ z => .inl z) (fun _ z => z) fun a z => .inr ⟨Ne.symm hj, z⟩⟩
  tF := S.tF
  tN := S.tN
  tP := fun j a z => z.elim (fun z => tp a z.2) fun z => S.tP j a z.2
theorem wipe_set {i : Nat} {o : Option V} : ∀ {vs : List Nat}, i ∈ vs → wipe (σ.set i o) vs = wipe σ vs
  | v :: vs, h => by
    unfold wipe
    by_cases hi : i ∈ vs
    · rw [wipe_set hi]
    · rcases List.mem_cons.mp h with rfl | h
      · have : ∀ (vs : List Nat) (τ : L2.St), i ∉ vs → wipe (τ.set i o) vs = (wipe τ vs).set i o := by
          intro vs
          induction vs with
          | nil => intro τ _; rfl
          | cons w ws ih =>
            intro τ hn
            unfold wipe
            rw [ih τ fun z => hn (List.mem_cons_of_mem _ z), List.set_comm]
            exact fun z => hn (by rw [z]; exact List.mem_cons_self)
        rw [this vs σ hi, List.set_set]
      · exact absurd h hi
theorem wipe_wipe : ∀ {vs : List Nat}, wipe (wipe σ vs) vs = wipe σ vs := by
  intro vs
  have : ∀ (ws : List Nat), (∀ v ∈ ws, v ∈ vs) → wipe (wipe σ ws) vs = wipe σ vs := by
    intro ws
    induction ws with
    | nil => intro _; rfl
    | cons w ws ih =>
      intro h
      show wipe ((wipe σ ws).set w none) vs = _
      rw [wipe_set (h w List.mem_cons_self), ih fun v hv => h v (List.mem_cons_of_mem _ hv)]
  exact this vs fun _ h => h
theorem StE.wipe (S : StE K F N Pf H σ ρ) : ∀ (vs : List Nat), StE K F N Pf H (L2.wipe σ vs) (wipeE ρ vs)
  | [] => S
  | v :: vs => by
    have ih := S.wipe vs
    unfold L2.wipe wipeE
    refine ⟨by rw [List.length_set, List.length_set]; exact ih.len, fun j d h => ?_, ih.tF, ih.tN, ih.tP⟩
    by_cases hj : v = j
    · subst hj
      have hi : v < (wipeE ρ vs).length := by
        have := (List.getElem?_eq_some_iff.mp h).1
        simpa using this
      rw [List.getElem?_set_self hi] at h
      cases h
    · rw [List.getElem?_set_ne hj] at h ⊢
      exact ih.rep j d h
theorem gList_ok {b : Bool} : ∀ {is : List Nat} {ps : List PyData} {xs : List V} {σ : L2.St} {ρ : Env} {Pf : Nat → AS} {Q : L2.St → Hp → Prop}, StE K F N Pf H σ ρ → Rps K (SB b F N) H xs ps → setTs b is ps ρ = some ρ' →
    (∀ σ' Pf', (∀ j a, Pf' j a → Pf j a) → StE K F N Pf' H σ' ρ' → (∀ vs, (∀ i ∈ is, i ∈ vs) → wipe σ' vs = wipe σ vs) → (∀ j, j ∉ is → σ'[j]? = σ[j]?) → Q σ' H) → gList is xs σ H Q
  | [], [], _, σ, ρ, Pf, Q, S, .nil, e, q => by
    injection e with e
    subst e
    exact ⟨rfl, q σ Pf (fun _ _ z => z) S (fun _ _ => rfl) fun _ _ => rfl⟩
  | i :: is, p :: ps, _, σ, ρ, Pf, Q, S, .cons (x := x) (xs := xs) h t, e, q => by
    have e : setTs b is ps (ρ.set i (some (fz b p))) = some ρ' := e
    refine ⟨x, xs, rfl, ?_⟩
    refine gList_ok (S.set (i := i) (.mk (RD.fz (P := fun _ => False) h)) fun _ z => z.elim) t e fun σ' Pf' hp S' hw hn => q σ' Pf' (fun j a z => ?_) S' (fun vs hv => ?_) fun j hj => ?_
    · rcases hp j a z with ⟨_, z⟩ | ⟨_, z⟩
      · exact z.elim
      · exact z
    · rw [hw vs fun j hj => hv j (List.mem_cons_of_mem _ hj), wipe_set (hv i List.mem_cons_self)]
    · rw [hn j fun z => hj (List.mem_cons_of_mem _ z), List.getElem?_set_ne fun z => hj (by rw [← z]; exact List.mem_cons_self)]
  | [], _ :: _, _, _, _, _, _, _, _, e, _ => by cases e
  | _ :: _, [], _, _, _, _, _, _, _, e, _ => by cases e
theorem setTs_len {b : Bool} : ∀ {is : List Nat} {ps : List PyData} {ρ : Env}, setTs b is ps ρ = some ρ' → ps.length = is.length
  | [], [], _, _ => rfl
  | i :: is, p :: ps, ρ, e => by
    have e : setTs b is ps (ρ.set i (some (fz b p))) = some ρ' := e
    rw [List.length_cons, List.length_cons, setTs_len e]
  | [], _ :: _, _, e => by cases e
  | _ :: _, [], _, e => by cases e
/-- an item into its target -/
theorem gT_ok {t : Tg} {b : Bool} {p : PyData} {x : V} {Q : L2.St → Hp → Prop} (S : StE K F N Pf H σ ρ) (r : Rp K (SB b F N) H x p) (e : setT t b p ρ = some ρ')
    (q : ∀ σ' Pf', (∀ j a, Pf' j a → Pf j a) → StE K F N Pf' H σ' ρ' → (∀ vs, (∀ i ∈ tgs t, i ∈ vs) → wipe σ' vs = wipe σ vs) → (∀ j, j ∉ tgs t → σ'[j]? = σ[j]?) → Q σ' H) : gT K.k t x σ H Q := by
  cases t with
  | name i =>
    have e : some (ρ.set i (some (fz b p))) = some ρ' := e
    injection e with e
    subst e
    refine q (σ.set i (some x)) _ ?_ (S.set (i := i) (.mk (RD.fz (P := fun _ => False) r)) fun _ z => z.elim) (fun vs hv => wipe_set (hv i (by simp [tgs]))) fun j hj => List.getElem?_set_ne fun z => hj (by simp [tgs, z])
    rintro j a (⟨_, z⟩ | ⟨_, z⟩)
    · exact z.elim
    · exact z
  | tup is =>
    cases p with
    | tuple ps =>
      have e : setTs b is ps ρ = some ρ' := e
      obtain ⟨a, xs, rfl, l, s⟩ := r.sqt
      exact .inl ⟨a, xs, rfl, l, by rw [s.len, setTs_len e], gList_ok S s e q⟩
    | list ps =>
      have e : setTs b is ps ρ = some ρ' := e
      obtain ⟨a, xs, rfl, l, s⟩ := r.ll
      exact .inr ⟨a, xs, rfl, l.sq, by rw [s.len, setTs_len e], gList_ok S s e q⟩
    | _ => cases e
theorem RDs.append {I : AS} : ∀ {xs ys : List V} {ds es : List D} {P1 P2 : AS}, RDs K F N I H P1 xs ds → RDs K F N I H P2 ys es → (∀ a, P1 a → ¬ P2 a) → RDs K F N I H (fun a => P1 a ∨ P2 a) (xs ++ ys) (ds ++ es)
  | _, _, _, _, _, _, .nil, q, _ => q.ext Ext.refl (fun _ z => .inl z) (fun _ z => z) (fun _ z => z) fun _ z => .inr z
  | _, _, _, _, P1, P2, .cons (P1 := A) (P2 := B) h t a b c, q, d =>
    .cons (P1 := A) (P2 := fun x => B x ∨ P2 x) h (RDs.append t q fun x z => d x (b x z)) (fun x z => .inl (a x z)) (fun x z => z.elim (fun z => .inl (b x z)) .inr) fun x z w => w.elim (c x z) (d x (a x z))
theorem RWs.snoc {xs : List V} {ds : List D} {y : V} {d : D} {P1 P2 : AS} (h : RWs K F N H P1 xs ds) (q : RW K F N H P2 y d) (dj : ∀ a, P1 a → ¬ P2 a) : RWs K F N H (fun a => P1 a ∨ P2 a) (xs ++ [y]) (ds ++ [d]) := by
  obtain ⟨I1, Q1, r1, i1, q1, d1⟩ := h
  obtain ⟨I2, Q2, r2, i2, q2, d2⟩ := q
  have s2 : RDs K F N I2 H Q2 [y] [d] := .cons (P2 := fun _ => False) r2 .nil (fun _ z => z) (fun _ z => z.elim) fun _ _ z => z
  refine ⟨fun a => I1 a ∨ I2 a, fun a => Q1 a ∨ Q2 a, RDs.append (r1.ext Ext.refl (fun _ z => .inl z) (fun _ z => z) (fun _ z => .inl z) fun _ z => z) (s2.ext Ext.refl (fun _ z => .inl z) (fun _ z => z) (fun _ z => .inr z) fun _ z => z) (fun a z w => dj a (q1 a z) (q2 a w)),
    fun a z => z.elim (fun z => .inl (i1 a z)) fun z => .inr (i2 a z), fun a z => z.elim (fun z => .inl (q1 a z)) fun z => .inr (q2 a z), fun a z w => ?_⟩
  rcases z with z | z <;> rcases w with w | w
  · exact d1 a z w
  · exact dj a (i1 a z) (q2 a w)
  · exact dj a (q1 a w) (i2 a z)
  · exact d2 a z w
theorem RDs.plain {I F' N' I' : AS} {H' : Hp} (ex : Ext H H') : ∀ {xs : List V} {ds : List D} {P : AS}, RDs K F N I H P xs ds → ds.all plainD = true → RDs K F' N' I' H' (fun _ => False) xs ds
  | _, _, _, .nil, _ => .nil
  | _, _, _, .cons h t a b c, e => by
    simp only [List.all_cons, Bool.and_eq_true] at e
    refine .cons (P1 := fun _ => False) ?_ (RDs.plain ex t e.2) (fun _ z => z) (fun _ z => z) fun _ z => z.elim
    cases h with
    | v r => exact .v ((r.imm (S' := fun _ => False) (by simpa [plainD] using e.1)).ext ex fun _ z => z.elim)
    | _ => simp [plainD] at e
theorem mutDs_map_enum : ∀ (ps : List PyData) (f : Nat → Nat), mutDs (ps.mapIdx fun k p => .tuple [.int (f k : Nat), p]) = mutDs ps
  | [], _ => rfl
  | p :: ps, f => by
    rw [List.mapIdx_cons]
    simp only [mutDs, mutD, Bool.or_false, Bool.false_or]
    rw [mutDs_map_enum ps fun k => f (k + 1)]
theorem mutDs_enum (ps : List PyData) : mutDs (enumP ps) = mutDs ps := mutDs_map_enum ps id
theorem mutDs_ints : ∀ ns : List Int, mutDs (ns.map .int) = false
  | [] => rfl
  | n :: ns => by simp [mutDs, mutD, mutDs_ints ns]
theorem elems_al {d : D} {al al2 : Al} {ps : List PyData} {b : Bool} (h : elems d al = some (ps, b, al2)) (m : mutDs ps = true) : al2 = al := by
  unfold elems at h
  split at h
  · simp only [Option.some.injEq, Prod.mk.injEq] at h
    obtain ⟨rfl, _, h⟩ := h
    rw [← h, if_pos m]
  · simp only [Option.some.injEq, Prod.mk.injEq] at h
    obtain ⟨rfl, _, h⟩ := h
    rw [← h, if_pos m]
  · split at h
    · simp only [Option.some.injEq, Prod.mk.injEq] at h
      obtain ⟨rfl, _, _⟩ := h
      exfalso
      have : ∀ l : List Nat, mutDs (l.map fun c => PyData.str ⟨#[c]⟩) = false := by
        intro l
        induction l with
        | nil => rfl
        | cons a l ih => simp [mutDs, mutD, ih]
      rw [this] at m
      cases m
    · cases h
  · cases h
theorem mutDs_zip : ∀ {ps qs : List PyData}, mutDs ps = false → mutDs qs = false → mutDs (zipP ps qs) = false
  | [], _, _, _ => by simp [zipP, mutDs]
  | _ :: _, [], _, _ => by simp [zipP, mutDs]
  | p :: ps, q :: qs, h, h' => by
    simp only [mutDs, Bool.or_eq_false_iff] at h h'
    have := mutDs_zip h.2 h'.2
    simp only [zipP, List.zipWith_cons_cons, mutDs, mutD, h.1, h'.1, Bool.or_self, Bool.false_or] at this ⊢
    exact this
theorem itemsR_al {k : Sk} {ds : List D} {al al2 : Al} {ps : List PyData} {b : Bool} (h : itemsR k ds al = some (ps, b, al2)) (m : mutDs ps = true) : al2 = al := by
  cases k with
  | seq =>
    match ds, h with
    | [d], h => exact elems_al h m
  | range =>
    match ds, h with
    | [d], h =>
      simp only [itemsR] at h
      split at h
      · split at h
        · simp only [Option.some.injEq, Prod.mk.injEq] at h
          obtain ⟨rfl, _⟩ := h
          rw [mutDs_ints] at m
          cases m
        · cases h
      · cases h
    | [d, e], h =>
      simp only [itemsR] at h
      split at h
      · split at h
        · split at h
          · simp only [Option.some.injEq, Prod.mk.injEq] at h
            obtain ⟨rfl, _⟩ := h
            rw [mutDs_ints] at m
            cases m
          · cases h
        · cases h
      · cases h
  | enum =>
    match ds, h with
    | [d], h =>
      simp only [itemsR] at h
      split at h
      · cases e : elems d al with
        | none => rw [e] at h; cases h
        | some w =>
          obtain ⟨ps0, b0, al0⟩ := w
          rw [e] at h
          simp only [Option.map_some, Option.some.injEq, Prod.mk.injEq] at h
          obtain ⟨rfl, _, rfl⟩ := h
          rw [mutDs_enum] at m
          exact elems_al e m
      · cases h
  | rev => cases h
  | zip =>
    match ds, h with
    | [d, e], h =>
      simp only [itemsR] at h
      split at h
      · split at h
        · split at h
          · cases h
          · rename_i hm
            simp only [Option.some.injEq, Prod.mk.injEq] at h
            obtain ⟨rfl, _⟩ := h
            simp only [Bool.or_eq_true, not_or, Bool.not_eq_true] at hm
            rw [mutDs_zip hm.1 hm.2] at m
            cases m
        · cases h
      · cases h
  | items => cases h
end
end Hv

/-! Hv, part 11: list comprehensions. -/
namespace Hv
open PySem PySem.Spec PyProof.Rows L2

section
variable {K : KW} {F N N' F' : AS} {Pf : Nat → AS} {H H1 : Hp} {σ : L2.St} {ρ ρ' : Env}
theorem StE.moreN (S : StE K F N Pf H σ ρ) (h : ∀ a, N a → N' a) (t : ∀ a, N' a → H a ≠ none) : StE K F N' Pf H σ ρ where
  len := S.len
  rep := fun i d e => let ⟨x, e1, r⟩ := S.rep i d e; ⟨x, e1, r.ext Ext.refl (fun _ z => .inl z) h fun _ z => z⟩
  tF := S.tF
  tN := t
  tP := S.tP
theorem mutDs_mem {p : PyData} : ∀ {ps : List PyData}, p ∈ ps → mutDs ps = false → mutD p = false
  | q :: qs, h, m => by
    simp only [mutDs, Bool.or_eq_false_iff] at m
    rcases List.mem_cons.mp h with rfl | h
    · exact m.1
    · exact mutDs_mem h m.2
/-- an item, by the set that it may really lie in -/
theorem item_al {k : Sk} {ds : List D} {al al2 : Al} {ps : List PyData} {b : Bool} {p : PyData} {A : AS} {x : V} (h : itemsR k ds al = some (ps, b, al2)) (hp : p ∈ ps) (r : Rp K (SB b F (S1 N Pf al A)) H x p) : Rp K (SB b F (S1 N Pf al2 A)) H x p := by
  cases m : mutDs ps with
  | true => rw [itemsR_al h m]; exact r
  | false => exact r.imm (mutDs_mem hp m)
end
def WN : WX := fun _ _ _ _ => False
section
variable {X : Cx} {W : WX} {pos : Pos}
theorem RWs.kp {K : KW} {F N F' N' Z P P' : AS} {H H' : Hp} {x : List V} {d : List D} (h : RWs K F N H P x d) (e : Kp Z H H') (hF : ∀ a, F a → F' a ∨ N' a) (hN : ∀ a, N a → N' a) (zF : ∀ a, F a → ¬ Z a) (zN : ∀ a, N a → ¬ Z a) (ht : ∀ b ys, Z b → ¬ Rd H b (.tup ys)) (hP : ∀ a, P a → P' a) (zP : ∀ a, P a → ¬ Z a) : RWs K F' N' H' P' x d :=
  let ⟨I, Q, r, hi, hq, hd⟩ := h
  ⟨I, Q, r.kp e hF hN (fun _ z => z) zF zN (fun a z => zP a (hi a z)) ht (fun _ z => z) fun a z => zP a (hq a z), fun a z => hP a (hi a z), fun a z => hP a (hq a z), hd⟩
/-- a comprehension's turns -/
def lcV (k : Sk) (b : Bool) (own : List Nat) (tg : Tg) (cd : Env → TR) (el : Env → R) (ds : List D) (al : Al) (ρ : Env) : R := match itemsR k ds al with
  | some (ps, b, al) => match lcR (fun p => setT tg b p (wipeE ρ own)) cd el ps with
    | .ok ds bl => .ok (.ol ds) (if ds.all plainD then [] else al ++ bl)
    | _ => .stuck
  | none => .stuck
theorem lcR_step {st : PyData → Option Env} {cd : Env → TR} {el : Env → R} {p : PyData} {ps : List PyData} {ds : List D} {bl : Al} (h : lcR st cd el (p :: ps) = .ok ds bl) : ∃ ρ, st p = some ρ ∧ ((cd ρ = .ok true ∧ ∃ d al ds' bl', el ρ = .ok d al ∧ lcR st cd el ps = .ok ds' bl' ∧ ds = d :: ds' ∧ bl = al ++ bl') ∨ (cd ρ = .ok false ∧ lcR st cd el ps = .ok ds bl)) := by
  unfold lcR at h
  cases e : st p with
  | none => rw [e] at h; cases h
  | some ρ =>
    rw [e] at h
    refine ⟨ρ, rfl, ?_⟩
    simp only at h
    cases e2 : cd ρ with
    | ok b =>
      rw [e2] at h
      cases b with
      | true =>
        simp only at h
        cases e3 : el ρ with
        | ok d al =>
          rw [e3] at h
          simp only at h
          cases e4 : lcR st cd el ps with
          | ok ds' bl' =>
            rw [e4] at h
            simp only [Rl.ok.injEq] at h
            exact .inl ⟨rfl, d, al, ds', bl', rfl, rfl, h.1.symm, h.2.symm⟩
          | exc c => rw [e4] at h; cases h
          | stuck => rw [e4] at h; cases h
        | exc c => rw [e3] at h; cases h
        | stuck => rw [e3] at h; cases h
      | false => exact .inr ⟨rfl, h⟩
    | exc c => rw [e2] at h; cases h
    | stuck => rw [e2] at h; cases h
/-- what is known of the new list between two turns -/
structure LcI (K : KW) (F N : AS) (Pf : Nat → AS) (H0 H1 : Hp) (L : Addr) (A : AS) (al2 : Al) (st : PyData → Option Env) (cd : Env → TR) (el : Env → R) (ps : List PyData) (ds : List D) (bl : Al) (i : Nat) (H : Hp) (acc : List V) (dsA dsR : List D) (blA blR : Al) (Na Pa : AS) : Prop where
  ext : Ext H1 H
  hac : H L = some (.lst acc)
  rest : lcR st cd el (ps.drop i) = .ok dsR blR
  ds : dsA ++ dsR = ds
  bl : blA ++ blR = bl
  len : acc.length ≤ i
  rw : RWs K F (S1 N Pf (al2 ++ blA) Na) H Pa acc dsA
  sub : ∀ a, A a → Na a
  nv : ∀ a, Na a → H0 a = none ∧ H a ≠ none ∧ ¬ Pa a ∧ a ≠ L
  pv : ∀ a, Pa a → H0 a = none ∧ H a ≠ none ∧ a ≠ L
theorem lc_run {F N : AS} {Pf : Nat → AS} {σ : L2.St} {H0 H1 : Hp} {ρ : Env} {Q : VK} {k : Sk} {ds0 : List D} {al al2 : Al} {ps : List PyData} {b : Bool} {N1 P1 : AS} {xs : List V} {J : It} {tg : Tg} {own : List Nat} {cd : Env → TR} {el : Env → R} {ds : List D} {bl : Al}
    (S : StE X.kw F N Pf H0 σ ρ) (R1 : Resl X.kw F N Pf H0 al H1 N1 P1 xs ds0) (e1 : itemsR k ds0 al = some (ps, b, al2)) (hl : ps.length ≤ sizeLine)
    (w : ∀ Z, Far (SB b F (S1 N Pf al fun a => N1 a ∨ P1 a)) Z H1 → Walks X.kw (SB b F (S1 N Pf al fun a => N1 a ∨ P1 a)) Z H1 J ps)
    (hw : ∀ i ∈ tgs tg, i ∈ own) (e2 : lcR (fun p => setT tg b p (wipeE ρ own)) cd el ps = .ok ds bl)
    (h : PR X.kw W F N Pf σ H0 Q (.ok (.ol ds) (if ds.all plainD then [] else al2 ++ bl))) (L : Addr) (hL : H1 L = none) :
    ∃ W : Nat → Nat → Hp → Prop, (∃ m, W 0 m (upd H1 L (.lst []))) ∧ ∀ i m H, W i m H →
      (J.stop i H ∧ Q (.ref L) H) ∨ (J.go i H ∧ ∃ Nx : Hp → Prop, (∀ H', Nx H' → ∃ m', m' < m ∧ W (i + 1) m' H') ∧ ∀ x H', J.yld i H x H' → gT X.K tg x (wipe σ own) H' fun σ2 H2 => wipe σ2 own = wipe σ own ∧ tT X.kw WN cd σ2 H2 fun b H3 =>
        if b = true then tE X.kw WN el σ2 H3 fun y H4 => ∃ acc, H4 L = some (.lst acc) ∧ acc.length < sizeLine ∧ Nx (upd H4 L (.lst (acc ++ [y]))) else Nx H3) := by
  generalize hst : (fun p => setT tg b p (wipeE ρ own)) = st at e2
  refine ⟨fun i m H => m = ps.length - i ∧ i ≤ ps.length ∧ ∃ acc dsA dsR blA blR Na Pa, LcI X.kw F N Pf H0 H1 L (fun a => N1 a ∨ P1 a) al2 st cd el ps ds bl i H acc dsA dsR blA blR Na Pa, ⟨_, rfl, Nat.zero_le _, [], [], ds, [], bl, fun a => N1 a ∨ P1 a, fun _ => False, Ext.new hL, upd_same, e2, rfl, rfl, Nat.le_refl _, ⟨fun _ => False, fun _ => False, .nil, fun _ z => z, fun _ z => z, fun _ z => z.elim⟩, fun _ z => z, fun a z => ?_, fun _ z => z.elim⟩, ?_⟩
  · have q : H0 a = none ∧ H1 a ≠ none := z.elim (fun z => ⟨(R1.nv a z).1, (R1.nv a z).2.1⟩) fun z => R1.pv a z
    refine ⟨q.1, (Ext.new hL).ne q.2, fun z => z, fun z => ?_⟩
    subst z
    exact q.2 hL
  rintro i m H ⟨rfl, hi, acc, dsA, dsR, blA, blR, Na, Pa, I⟩
  have far : Far (SB b F (S1 N Pf al fun a => N1 a ∨ P1 a)) (fun _ => False) H1 := ⟨fun _ _ z => z, fun _ _ z => z.elim⟩
  obtain ⟨wgo, wstop⟩ := w _ far i H I.ext.kp
  have e0 : Ext H0 H := R1.ext.trans I.ext
  have tF : ∀ a, F a → a ≠ L := fun a z e => by subst e; exact R1.ext.ne (S.tF a z) hL
  have tN : ∀ a, N a → a ≠ L := fun a z e => by subst e; exact R1.ext.ne (S.tN a z) hL
  have tP : ∀ i a, Pf i a → a ≠ L := fun i a z e => by subst e; exact R1.ext.ne (S.tP i a z) hL
  by_cases hlt : i < ps.length
  · have hd : ps.drop i = ps[i] :: ps.drop (i + 1) := List.drop_eq_getElem_cons hlt
    have hp : ps[i]? = some ps[i] := by simp [hlt]
    obtain ⟨go, yld⟩ := wgo _ hp
    have hmem : ps[i] ∈ ps := List.getElem_mem hlt
    generalize ps[i] = p at hd hp yld hmem
    refine .inr ⟨go, fun H' => i + 1 ≤ ps.length ∧ ∃ acc dsA dsR blA blR Na Pa, LcI X.kw F N Pf H0 H1 L (fun a => N1 a ∨ P1 a) al2 st cd el ps ds bl (i + 1) H' acc dsA dsR blA blR Na Pa, fun H' z => ⟨_, by omega, rfl, z⟩, fun x H2 hy => ?_⟩
    obtain ⟨ex, r⟩ := yld x H2 hy
    have r := item_al e1 hmem r
    have hrest := I.rest
    rw [hd] at hrest
    obtain ⟨ρ', hst', alt⟩ := lcR_step hrest
    have e02 : Ext H0 H2 := e0.trans ex
    -- the state
    have S2 : StE X.kw F (S1 N Pf al2 fun a => N1 a ∨ P1 a) Pf H2 (wipe σ own) (wipeE ρ own) := ((S.wipe own).more e02).moreN (fun a z => .inl z) fun a z => by
      rcases z with z | ⟨j, _, z⟩ | z
      · exact e02.ne (S.tN a z)
      · exact e02.ne (S.tP j a z)
      · exact (I.ext.trans ex).ne (z.elim (fun z => (R1.nv a z).2.1) fun z => (R1.pv a z).2)
    have hst' : setT tg b p (wipeE ρ own) = some ρ' := by rw [← hst] at hst'; exact hst'
    refine gT_ok (K := X.kw) S2 r hst' fun σ3 Pf' hpf S3 hwp _ => ⟨(hwp own hw).trans wipe_wipe, ?_⟩
    have I' : ∀ H3, Ext H H3 → H3 L = some (.lst acc) ∧ RWs X.kw F (S1 N Pf (al2 ++ blA) Na) H3 Pa acc dsA := fun H3 e => ⟨e _ _ I.hac, I.rw.ext e (fun _ z => .inl z) (fun _ z => z) fun _ z => z⟩
    refine ⟨F, _, Pf', ρ', S3, ?_⟩
    rcases alt with ⟨c1, d, ald, ds', bl', c2, c3, c4, c5⟩ | ⟨c1, c3⟩
    · rw [c1]
      intro H3 ex3
      simp only [if_true]
      refine ⟨F, _, Pf', ρ', S3.more ex3, ?_⟩
      try dsimp only
      rw [c2]
      intro y H4 Nv Pv R4
      have exH : Ext H H4 := ex.trans (ex3.trans R4.ext)
      obtain ⟨a1, a2⟩ := I' H4 exH
      refine ⟨acc, a1, by have := I.len; omega, hlt, acc ++ [y], dsA ++ [d], ds', blA ++ ald, bl', fun a => Na a ∨ Nv a, fun a => Pa a ∨ Pv a, ?_, upd_same, c3, ?_, ?_, ?_, ?_, fun a z => .inl (I.sub a z), ?_, ?_⟩
      · intro a o e
        have hne : a ≠ L := fun z => by subst z; rw [hL] at e; cases e
        rw [upd_ne hne]
        exact exH _ _ (I.ext _ _ e)
      · rw [← I.ds, c4]; simp
      · rw [← I.bl, c5]; simp
      · rw [List.length_append]
        show acc.length + 1 ≤ i + 1
        exact Nat.succ_le_succ I.len
      · have kp : Kp (fun a => a = L) H4 (upd H4 L (.lst (acc ++ [y]))) := fun a o hz e => by rw [upd_ne hz]; exact e
        have nt : ∀ b ys, b = L → ¬ Rd H4 b (.tup ys) := fun b ys hb z => by
          subst hb
          rcases z with z | ⟨o, z⟩ <;> (rw [a1] at z; cases z)
        have fr : ∀ a, Nv a ∨ Pv a → a ≠ L ∧ H a = none := fun a z => by
          have : H3 a = none := z.elim (fun z => (R4.nv a z).1) fun z => (R4.pv a z).1
          have h3 : H a = none := (ex.trans ex3).none this
          exact ⟨fun z => (by subst z; rw [I.hac] at h3; cases h3), h3⟩
        have q1 : RWs X.kw F (S1 N Pf (al2 ++ (blA ++ ald)) fun a => Na a ∨ Nv a) (upd H4 L (.lst (acc ++ [y]))) Pa acc dsA := by
          refine a2.kp kp (fun _ z => .inl z) (fun a z => ?_) (fun a z => tF a z) (fun a z => ?_) nt (fun _ z => z) fun a z => (I.pv a z).2.2
          · rcases z with z | ⟨j, m, z⟩ | z
            · exact .inl z
            · refine .inr (.inl ⟨j, ?_, z⟩)
              simp only [List.mem_append] at m ⊢
              rcases m with m | m
              · exact .inl m
              · exact .inr (.inl m)
            · exact .inr (.inr (.inl z))
          · rcases z with z | ⟨j, m, z⟩ | z
            · exact tN a z
            · exact tP j a z
            · exact (I.nv a z).2.2.2
        have q2 : RW X.kw F (S1 N Pf (al2 ++ (blA ++ ald)) fun a => Na a ∨ Nv a) (upd H4 L (.lst (acc ++ [y]))) Pv y d := by
          refine R4.rd.kp kp (fun _ z => .inl z) (fun a z => ?_) (fun a z => tF a z) (fun a z => ?_) nt (fun _ z => z) fun a z => (fr a (.inr z)).1
          · rcases z with (z | ⟨j, m, z⟩ | z) | ⟨j, m, z⟩ | z
            · exact .inl z
            · exact .inr (.inl ⟨j, List.mem_append_left _ m, z⟩)
            · exact .inr (.inr (.inl (I.sub a z)))
            · exact .inr (.inl ⟨j, List.mem_append_right _ (List.mem_append_right _ m), hpf j a z⟩)
            · exact .inr (.inr (.inr z))
          · rcases z with (z | ⟨j, m, z⟩ | z) | ⟨j, m, z⟩ | z
            · exact tN a z
            · exact tP j a z
            · exact (I.nv a (I.sub a z)).2.2.2
            · exact tP j a (hpf j a z)
            · exact (fr a (.inl z)).1
        refine RWs.snoc q1 q2 fun a z w => (I.pv a z).2.1 (fr a (.inr w)).2
      · have fr : ∀ a, Nv a ∨ Pv a → a ≠ L ∧ H a = none := fun a z => by
          have : H3 a = none := z.elim (fun z => (R4.nv a z).1) fun z => (R4.pv a z).1
          have h3 : H a = none := (ex.trans ex3).none this
          exact ⟨fun z => (by subst z; rw [I.hac] at h3; cases h3), h3⟩
        intro a z
        rcases z with z | z
        · obtain ⟨n1, n2, n3, n4⟩ := I.nv a z
          refine ⟨n1, by rw [upd_ne n4]; exact exH.ne n2, fun w => w.elim n3 fun w => n2 (fr a (.inr w)).2, n4⟩
        · obtain ⟨n1, n2⟩ := fr a (.inl z)
          refine ⟨e0.none n2, by rw [upd_ne n1]; exact (R4.nv a z).2.1, fun w => w.elim (fun w => (I.pv a w).2.1 n2) (R4.nv a z).2.2, n1⟩
      · have fr : ∀ a, Nv a ∨ Pv a → a ≠ L ∧ H a = none := fun a z => by
          have : H3 a = none := z.elim (fun z => (R4.nv a z).1) fun z => (R4.pv a z).1
          have h3 : H a = none := (ex.trans ex3).none this
          exact ⟨fun z => (by subst z; rw [I.hac] at h3; cases h3), h3⟩
        intro a z
        rcases z with z | z
        · obtain ⟨n1, n2, n4⟩ := I.pv a z
          exact ⟨n1, by rw [upd_ne n4]; exact exH.ne n2, n4⟩
        · obtain ⟨n1, n2⟩ := fr a (.inr z)
          exact ⟨e0.none n2, by rw [upd_ne n1]; exact (R4.pv a z).2, n1⟩
    · rw [c1]
      intro H3 ex3
      have exH : Ext H H3 := ex.trans ex3
      obtain ⟨a1, a2⟩ := I' H3 exH
      simp only [Bool.false_eq_true, if_false]
      refine ⟨hlt, acc, dsA, dsR, blA, blR, Na, Pa, I.ext.trans exH, a1, c3, I.ds, I.bl, Nat.le_succ_of_le I.len, a2, I.sub, fun a z => ?_, fun a z => ?_⟩
      · obtain ⟨n1, n2, n3, n4⟩ := I.nv a z
        exact ⟨n1, exH.ne n2, n3, n4⟩
      · obtain ⟨n1, n2, n4⟩ := I.pv a z
        exact ⟨n1, exH.ne n2, n4⟩
  · have e : i = ps.length := by omega
    subst e
    have hrest := I.rest
    rw [List.drop_length] at hrest
    injection hrest with h1 h2
    have hds := I.ds
    have hbl := I.bl
    subst h1 h2
    rw [List.append_nil] at hds hbl
    subst hds hbl
    refine .inl ⟨wstop (Nat.le_refl _), ?_⟩
    have hL0 : H0 L = none := R1.ext.none hL
    have hLH : H L ≠ none := by rw [I.hac]; exact nofun
    obtain ⟨Ii, Qq, r, i1, i2, i3⟩ := I.rw
    cases hpl : dsA.all plainD with
    | true =>
      rw [hpl, if_pos rfl] at h
      refine h (.ref L) H (fun _ => False) (fun a => a = L) ⟨e0, .mk (.ol (Q := fun _ => False) rfl I.hac (r.plain Ext.refl hpl) (fun _ z => z.elim) fun z => z), fun _ z => z.elim, fun a z => ?_⟩
      subst z
      exact ⟨hL0, hLH⟩
    | false =>
      rw [hpl, if_neg Bool.false_ne_true] at h
      refine h (.ref L) H Na (fun a => a = L ∨ Pa a) ⟨e0, ⟨Ii, fun a => a = L ∨ Qq a, .ol (Q := Qq) (.inl rfl) I.hac (r.ext Ext.refl (fun _ z => .inl z) (fun _ z => z) (fun _ z => z) fun _ z => z) (fun _ z => .inr z) fun z => (I.pv L (i2 L z)).2.2 rfl, fun a z => .inr (i1 a z), fun a z => z.elim .inl fun z => .inr (i2 a z), fun a z w => w.elim (fun w => (I.pv a (i1 a z)).2.2 w) (i3 a z)⟩, fun a z => ?_, fun a z => ?_⟩
      · obtain ⟨n1, n2, n3, n4⟩ := I.nv a z
        exact ⟨n1, n2, fun w => w.elim n4 n3⟩
      · rcases z with z | z
        · subst z
          exact ⟨hL0, hLH⟩
        · exact ⟨(I.pv a z).1, (I.pv a z).2.1⟩
theorem allT_one {K : KW} {e : VT} : allT [e] = e.t := by
  show (e.t.bindT fun b => if b then .ok true else .ok false) = e.t
  cases e.t with
  | ok b => cases b <;> rfl
  | _ => rfl
/-- the reading of a comprehension's block -/
abbrev Blk (X : Cx) (scope : Scope) (P : Cx → Prop) : Prop := ∀ (s : Shared) (H : Hp) (C : Addr) (cl : List (Str × Addr)) (fp : List Addr), P (X.blk s H scope (compEnvC scope cl C X.env) fp)
theorem lc_read {iterR : TI} {k : Sk} {fs : Env → Rl} {own : List Nat} {tg : Tg} {cd : Env → TR} {el : Env → R} (hI : iterR = tI X.kw W k fs) (hw : ∀ i ∈ tgs tg, i ∈ own) {σ : L2.St} {H : Hp} {Q : VK}
    (h : tE X.kw W (fun ρ => (fs ρ).bind fun ds al => match itemsR k ds al with
      | some (ps, b, al) => match lcR (fun p => setT tg b p (wipeE ρ own)) cd el ps with
        | .ok ds bl => .ok (.ol ds) (if ds.all plainD then [] else al ++ bl)
        | _ => .stuck
      | none => .stuck) σ H Q) : tLc iterR (gT X.K tg) (tT X.kw WN cd) (tE X.kw WN el) own σ H Q := by
  subst hI
  obtain ⟨F, N, Pf, ρ, S, q⟩ := h
  refine ⟨F, N, Pf, ρ, S, ?_⟩
  dsimp only at q
  cases e : fs ρ with
  | exc c => rw [e] at q; exact q
  | stuck => rw [e] at q; exact q
  | ok ds0 al =>
    rw [e] at q
    simp only [Rl.bind] at q
    simp only [PW']
    cases e1 : itemsR k ds0 al with
    | none => rw [e1] at q; exact q
    | some z =>
      obtain ⟨ps, b, al2⟩ := z
      rw [e1] at q
      simp only at q ⊢
      intro xs H1 N1 P1 J R1 hl w
      cases e2 : lcR (fun p => setT tg b p (wipeE ρ own)) cd el ps with
      | ok ds bl =>
        rw [e2] at q
        exact fun L hL => lc_run S R1 e1 hl w hw e2 q L hL
      | exc c => rw [e2] at q; exact q.elim
      | stuck => rw [e2] at q; exact q.elim
theorem hv_lc {elt tg iter : Expr} {ifs : List Expr} {scope : Scope} {own : List (Str × Nat)} {tg' : Tg} {k : Sk} {fs : Env → Rl} {fc : Env → List VT} {fe : Env → VT} (hc : X.calm = true) (hN : X.N.Nodup) (hi : PI X tg iter (tI X.kw W k fs)) (ok : blkC X.N X.env.scope scope own = true)
    (hw : ∀ i ∈ tgs tg', i ∈ own.map (·.2)) (hg : Blk X scope fun X' => PG X' tg (gT X.K tg')) (ht : Blk X scope fun X' => PTs X' ifs (tT X.kw WN fun ρ => allT (fc ρ))) (he : Blk X scope fun X' => PE X' elt (tE X.kw WN fun ρ => (fe ρ).e)) (hs : ∀ x, foldedSetIterable iter X.env x = pure x) :
    HV X W (.ListComp elt [⟨tg, iter, ifs, 0⟩] scope pos) fun ρ => vt ((fs ρ).bind fun ds al => match itemsR k ds al with
      | some (ps, b, al) => match lcR (fun p => setT tg' b p (wipeE ρ (own.map (·.2)))) (fun ρ => allT (fc ρ)) (fun ρ => (fe ρ).e) ps with
        | .ok ds bl => .ok (.ol ds) (if ds.all plainD then [] else al ++ bl)
        | _ => .stuck
      | none => .stuck) :=
  hv_plain (PE_imp (pe_lc hc hN hi (blkOk_by ok) hg ht he hs) fun σ H Q h => lc_read rfl hw h)
end
end Hv

/-! Hv, part 11d: the length of a dict comprehension; a list from its end. -/
namespace Hv
open PySem PySem.Spec PyProof.Rows L2
theorem putK_keys (kvs : List (Key × V)) (k : Key) (z : V) : (putK kvs k z).map (·.1) = addK (kvs.map (·.1)) k := by
  unfold putK addK
  have e : ((kvs.map (·.1)).any fun j => decide (j = k)) = kvs.any fun kv => decide (kv.1 = k) := by rw [List.any_map]; rfl
  rw [e]
  split
  · rw [List.map_map]
    refine List.map_congr_left fun kv _ => ?_
    show (if kv.1 = k then (kv.1, z) else kv).1 = kv.1
    split <;> rfl
  · simp
theorem keyP_V {K : KW} {S : AS} {H : Hp} {y : V} {p : PyData} {k : Key} (r : Rp K S H y p) (e : keyP p = some k) : y = kV k := by
  cases p with
  | int i => injection e with e; subst e; cases r; rfl
  | str x => injection e with e; subst e; exact r.strok.1
  | _ => cases e
theorem Rps.rev {K : KW} {S : AS} {H : Hp} : ∀ {xs : List V} {ds : List PyData}, Rps K S H xs ds → Rps K S H xs.reverse ds.reverse
  | _, _, .nil => .nil
  | _, _, .cons h t => by
    rw [List.reverse_cons, List.reverse_cons]
    exact (Rps.rev t).append (.cons h .nil)
theorem dkR_step {st : PyData → Option Env} {kx : Env → R} {p : PyData} {ps : List PyData} {acc fin : List Key} (h : dkR st kx (p :: ps) acc = some fin) :
    ∃ ρ d al q k, st p = some ρ ∧ kx ρ = .ok d al ∧ data d = some q ∧ keyP q = some k ∧ dkR st kx ps (addK acc k) = some fin := by
  unfold dkR at h
  cases e : st p with
  | none => rw [e] at h; cases h
  | some ρ =>
    rw [e] at h
    simp only at h
    cases e2 : kx ρ with
    | ok d al =>
      rw [e2] at h
      simp only at h
      cases e3 : data d with
      | none => rw [e3] at h; cases h
      | some q =>
        rw [e3] at h
        simp only [Option.bind_some] at h
        cases e4 : keyP q with
        | none => rw [e4] at h; cases h
        | some k =>
          rw [e4] at h
          exact ⟨ρ, d, al, q, k, rfl, e2, e3, e4, h⟩
    | exc c => rw [e2] at h; cases h
    | stuck => rw [e2] at h; cases h
section
variable {X : Cx} {W : WX} {pos : Pos}
theorem dk_run {F N : AS} {Pf : Nat → AS} {σ : L2.St} {H0 H1 : Hp} {ρ : Env} {Q : Addr → Hp → Prop} {k : Sk} {ds0 : List D} {al al2 : Al} {ps : List PyData} {b : Bool} {N1 P1 : AS} {xs : List V} {J : It} {tg : Tg} {own : List Nat} {kx : Env → R} {fin : List Key} {zv : V}
    (S : StE X.kw F N Pf H0 σ ρ) (R1 : Resl X.kw F N Pf H0 al H1 N1 P1 xs ds0) (e1 : itemsR k ds0 al = some (ps, b, al2)) (hl : ps.length ≤ sizeLine)
    (w : ∀ Z, Far (SB b F (S1 N Pf al fun a => N1 a ∨ P1 a)) Z H1 → Walks X.kw (SB b F (S1 N Pf al fun a => N1 a ∨ P1 a)) Z H1 J ps)
    (hw : ∀ i ∈ tgs tg, i ∈ own) (e2 : dkR (fun p => setT tg b p (wipeE ρ own)) kx ps [] = some fin) (L : Addr) (hL : H1 L = none)
    (h : ∀ H kvs, Ext H0 H → H L = some (.dK kvs) → kvs.length = fin.length → Q L H) :
    ∃ W : Nat → Nat → Hp → Prop, (∃ m, W 0 m (upd H1 L (.dK []))) ∧ ∀ i m H, W i m H →
      (J.stop i H ∧ Q L H) ∨ (J.go i H ∧ ∃ Nx : Hp → Prop, (∀ H', Nx H' → ∃ m', m' < m ∧ W (i + 1) m' H') ∧ ∀ x H', J.yld i H x H' → gT X.K tg x (wipe σ own) H' fun σ2 H2 => wipe σ2 own = wipe σ own ∧ tYes σ2 H2 fun b H3 =>
        if b = true then tE X.kw WN kx σ2 H3 fun y H4 => tC zv σ2 H4 fun z H5 => ∃ kvs k, y = kV k ∧ H5 L = some (.dK kvs) ∧ kvs.length < sizeLine ∧ Nx (upd H5 L (.dK (putK kvs k z))) else Nx H3) := by
  generalize hst : (fun p => setT tg b p (wipeE ρ own)) = st at e2
  refine ⟨fun i m H => m = ps.length - i ∧ i ≤ ps.length ∧ ∃ kvs acc, Ext H1 H ∧ H L = some (.dK kvs) ∧ kvs.map (·.1) = acc ∧ dkR st kx (ps.drop i) acc = some fin ∧ kvs.length ≤ i, ⟨_, rfl, Nat.zero_le _, [], [], Ext.new hL, upd_same, rfl, e2, Nat.le_refl _⟩, ?_⟩
  rintro i m H ⟨rfl, hi, kvs, acc, ext, hac, hkey, hrest, hlen⟩
  have far : Far (SB b F (S1 N Pf al fun a => N1 a ∨ P1 a)) (fun _ => False) H1 := ⟨fun _ _ z => z, fun _ _ z => z.elim⟩
  obtain ⟨wgo, wstop⟩ := w _ far i H ext.kp
  have e0 : Ext H0 H := R1.ext.trans ext
  by_cases hlt : i < ps.length
  · have hd : ps.drop i = ps[i] :: ps.drop (i + 1) := List.drop_eq_getElem_cons hlt
    have hp : ps[i]? = some ps[i] := by simp [hlt]
    obtain ⟨go, yld⟩ := wgo _ hp
    have hmem : ps[i] ∈ ps := List.getElem_mem hlt
    generalize ps[i] = p at hd hp yld hmem
    refine .inr ⟨go, fun H' => i + 1 ≤ ps.length ∧ ∃ kvs acc, Ext H1 H' ∧ H' L = some (.dK kvs) ∧ kvs.map (·.1) = acc ∧ dkR st kx (ps.drop (i + 1)) acc = some fin ∧ kvs.length ≤ i + 1, fun H' z => ⟨_, by omega, rfl, z⟩, fun x H2 hy => ?_⟩
    obtain ⟨ex, r⟩ := yld x H2 hy
    have r := item_al e1 hmem r
    rw [hd] at hrest
    obtain ⟨ρ', d, ald, q, kk, hst', c2, c3, c4, c5⟩ := dkR_step hrest
    have e02 : Ext H0 H2 := e0.trans ex
    have S2 : StE X.kw F (S1 N Pf al2 fun a => N1 a ∨ P1 a) Pf H2 (wipe σ own) (wipeE ρ own) := ((S.wipe own).more e02).moreN (fun a z => .inl z) fun a z => by
      rcases z with z | ⟨j, _, z⟩ | z
      · exact e02.ne (S.tN a z)
      · exact e02.ne (S.tP j a z)
      · exact (ext.trans ex).ne (z.elim (fun z => (R1.nv a z).2.1) fun z => (R1.pv a z).2)
    have hst' : setT tg b p (wipeE ρ own) = some ρ' := by rw [← hst] at hst'; exact hst'
    refine gT_ok (K := X.kw) S2 r hst' fun σ3 Pf' hpf S3 hwp _ => ⟨(hwp own hw).trans wipe_wipe, ?_⟩
    simp only [tYes, if_true]
    refine ⟨F, _, Pf', ρ', S3, ?_⟩
    try dsimp only
    rw [c2]
    intro y H4 Nv Pv R4
    have ry := R4.rd.data c3
    have hky := keyP_V ry c4
    have exH : Ext H H4 := ex.trans R4.ext
    have hac4 := exH _ _ hac
    refine ⟨kvs, kk, hky, hac4, by omega, hlt, putK kvs kk zv, _, ?_, upd_same, putK_keys _ _ _, by rw [hkey]; exact c5, ?_⟩
    · intro a o e
      have hne : a ≠ L := fun z => by subst z; rw [hL] at e; cases e
      rw [upd_ne hne]
      exact exH _ _ (ext _ _ e)
    · exact Nat.le_trans (length_putK _ _ _) (Nat.succ_le_succ hlen)
  · have e : i = ps.length := by omega
    subst e
    rw [List.drop_length] at hrest
    injection hrest with h1
    refine .inl ⟨wstop (Nat.le_refl _), h H kvs e0 hac ?_⟩
    rw [← h1, ← hkey, List.length_map]
theorem hv_dkl {kx vx tg iter : Expr} {scope : Scope} {own : List (Str × Nat)} {tg' : Tg} {k : Sk} {fs : Env → Rl} {fe : Env → VT} {zv : V} {p pos2 : Pos} (hc : X.calm = true) (hN : X.N.Nodup) (hgl : Gl X "len") (hml : X.mg "len" = none) (hi : PI X tg iter (tI X.kw W k fs)) (ok : blkC X.N X.env.scope scope own = true)
    (hw : ∀ i ∈ tgs tg', i ∈ own.map (·.2)) (hg : Blk X scope fun X' => PG X' tg (gT X.K tg')) (he : Blk X scope fun X' => PE X' kx (tE X.kw WN fun ρ => (fe ρ).e)) (hz : Blk X scope fun X' => PE X' vx (tC zv)) (hs : ∀ x, foldedSetIterable iter X.env x = pure x) :
    HV X W (.Call (.Name "len" p) [.DictComp kx vx [⟨tg, iter, [], 0⟩] scope pos] [] pos2) fun ρ => vt ((fs ρ).bind fun ds al => match itemsR k ds al with
      | some (ps, b, _) => match dkR (fun p => setT tg' b p (wipeE ρ (own.map (·.2)))) (fun ρ => (fe ρ).e) ps [] with
        | some ks => .ok (.v (.int ks.length)) []
        | none => .stuck
      | none => .stuck) := by
  refine hv_plain (PE_imp (pe_callB call_lenD hgl hml boot_len (pa_cons (pe_dc (ifs := []) hc hN hi (blkOk_by ok) hg (fun _ _ _ _ _ => pts_nil) he hz hs) pa_nil rfl) (by decide) (by decide) rfl rfl) fun σ H Q h => ?_)
  obtain ⟨F, N, Pf, ρ, S, q⟩ := h
  refine ⟨F, N, Pf, ρ, S, ?_⟩
  dsimp only at q
  cases e : fs ρ with
  | exc c => rw [e] at q; exact q
  | stuck => rw [e] at q; exact q
  | ok ds0 al =>
    rw [e] at q
    simp only [Rl.bind] at q
    simp only [PW']
    cases e1 : itemsR k ds0 al with
    | none => rw [e1] at q; exact q
    | some z =>
      obtain ⟨ps, b, al2⟩ := z
      rw [e1] at q
      simp only at q ⊢
      intro xs H1 N1 P1 J R1 hl w
      cases e2 : dkR (fun p => setT tg' b p (wipeE ρ (own.map (·.2)))) (fun ρ => (fe ρ).e) ps [] with
      | none => rw [e2] at q; exact q.elim
      | some ks =>
        rw [e2] at q
        intro L hL
        refine dk_run (zv := zv) (Q := fun L H2 => ∃ a kvs, [V.ref L] = [V.ref a] ∧ H2 a = some (.dK kvs) ∧ Q (.int kvs.length) H2) S R1 e1 hl w hw e2 L hL fun H' kvs ex hk hlen => ?_
        refine ⟨L, kvs, rfl, hk, ?_⟩
        rw [hlen]
        exact q _ _ _ _ (Res.scal (S := fun _ => False) ex (.int _) rfl)
theorem hv_rev {a : Expr} {fa : Env → VT} {k : Nat} {p1 p2 p3 : Pos} (ha : HV X W a fa) : HV X W (.Subscript a (.Slice none none (some (.UnaryOp .USub (.Constant (.int 1) k p1) p2)) p3) pos) fun ρ => vt ((fa ρ).e.bind fun x al => revD x al) := by
  refine hv_plain (PE_imp (pe_revL ha.e) fun σ H Q h => ?_)
  refine tE_one (r := fun x H1 Q => ∃ (a : Addr) (xs : List V), x = .ref a ∧ SqL X.K H1 a xs ∧ ∀ p, H1 p = none → Q (.ref p) (upd H1 p (.lst xs.reverse))) h fun F N Pf ρ x d al H1 N1 P1 S R h => ?_
  unfold revD at h
  cases e : data d with
  | none => rw [e] at h; exact h.elim
  | some p =>
    rw [e] at h
    cases p with
    | list ps =>
      have r := R.dat e Ext.refl
      obtain ⟨a, xs, rfl, l, s⟩ := r.ll
      refine ⟨a, xs, rfl, l.sq, fun q hq => ?_⟩
      exact h.mkL R.ext (Rps.rev s) R.toL.fresh hq
    | _ => exact h.elim
end
end Hv

/-! Hv, part 12: statements. -/
namespace Hv
open PySem PySem.Spec PyProof.Rows L2

/-! ### the small language's statements -/
inductive S where
  | asg (i : Nat) (e : E)
  | asgT (is : List Nat) (e : E)
  | aug (i : Nat) (o : BOp) (e : E)
  | app (i : Nat) (path : List E) (e : E)
  | seti (i : Nat) (path : List E) (x : E) (e : E)
  | ife (c : E) (a b : List S)
  | for_ (k : Sk) (args : List E) (tg : Tg) (b : List S)
  | while_ (c : E) (b : List S)
  | ret (e : E)
  | retv (i : Nat)
  | retn
  | brk
  | cnt
  | pass
  | raise_ (c : Str)
  | drop (e : E)
  | appPop (i j : Nat) (e : E)
  | try_ (b : List S) (hs : List (List (Str × Bool) × Option Nat × List S))
inductive RS where
  | next (ρ : Env)
  | ret (d : D)
  | brk (ρ : Env)
  | cnt (ρ : Env)
  | exc (c : Str) (ρ : Env)
  | stuck
def frz1 (i : Nat) (ρ : Env) : Env := match ρ[i]? with
  | some (some d) => ρ.set i (view d)
  | _ => ρ
def frz : Al → Env → Env
  | [], ρ => ρ
  | i :: is, ρ => frz is (frz1 i ρ)
def atN (n : Nat) (k : Int) : Option Nat := ixN n k
/-- a part of one's own, changed -/
def updD : D → List Int → (List D → Option (List D)) → Option D
  | .ol ds, [], f => match f ds with
    | some es => some (.ol es)
    | none => none
  | .ol ds, j :: js, f => match ixN ds.length j with
    | some n => match ds[n]? with
      | some d => match updD d js f with
        | some e => some (.ol (ds.set n e))
        | none => none
      | none => none
    | none => none
  | _, _, _ => none
def appF (d : D) (ds : List D) : Option (List D) := if ds.length < SZ then some (ds ++ [d]) else none
def setF (j : Int) (d : D) (ds : List D) : Option (List D) := match ixN ds.length j with
  | some n => some (ds.set n d)
  | none => none
def updR (i : Nat) (js : List Int) (f : List D → Option (List D)) (al : Al) (ρ : Env) : RS := match ρ[i]? with
  | some (some e) => match updD e js f with
    | some e' => if al.contains i then .stuck else .next ((frz al ρ).set i (some e'))
    | none => .stuck
  | _ => .stuck
def jsOf (ds : List D) : Option (List Int) := match datas ds with
  | some ps => intsOf ps
  | none => none
/-- the path leads to a list of one's own -/
def okP (i : Nat) (js : List Int) (ρ : Env) : Bool := match ρ[i]? with
  | some (some e) => (updD e js some).isSome
  | _ => false
def appR (i : Nat) (js : Option (List Int)) (r : R) (ρ : Env) : RS := match js with
  | some js => match r with
    | .ok d al => updR i js (appF d) al ρ
    | .exc c => if okP i js ρ then .exc c ρ else .stuck
    | .stuck => .stuck
  | none => .stuck
def setR (i : Nat) (js : Option (List Int)) (r : R) (d : D) (al : Al) (ρ : Env) : RS := match js with
  | some js => match r with
    | .ok j _ => match data j with
      | some (.int j) => updR i js (setF j d) al ρ
      | _ => .stuck
    | .exc c => if okP i js ρ then .exc c ρ else .stuck
    | .stuck => .stuck
  | none => .stuck
/-- one item out of a list of one's own, onto another one's end -/
def popF (n : Int) (ds : List D) : Option (List D) := if 0 ≤ n ∧ n < ds.length ∧ ds.length ≤ SZ then (match ds[n.toNat]? with
  | some (.v p) => if mutD p then none else some (ds.eraseIdx n.toNat)
  | _ => none) else none
def popP (n : Int) (ds : List D) : Option PyData := match ds[n.toNat]? with
  | some (.v p) => some p
  | _ => none
def appPopR (i j : Nat) (r : R) (ρ : Env) : RS := match r with
  | .ok d _ => match data d with
    | some (.int n) => match ρ[j]? with
      | some (some (.ol ds)) => match popF n ds with
        | some ds' => match popP n ds with
          | some p => if i = j then .stuck else updR i [] (appF (.v p)) [] (ρ.set j (some (.ol ds')))
          | none => .stuck
        | none => .stuck
      | _ => .stuck
    | _ => .stuck
  | .exc c => if okP i [] ρ && okP j [] ρ then .exc c ρ else .stuck
  | .stuck => .stuck
def pathJ (r : Rl) : Option (List Int) := match r with
  | .ok ds _ => jsOf ds
  | _ => none
def R.bindS (r : R) (ρ : Env) (f : D → Al → RS) : RS := match r with
  | .ok d al => f d al
  | .exc c => .exc c ρ
  | .stuck => .stuck
def Rl.bindS (r : Rl) (ρ : Env) (f : List D → Al → RS) : RS := match r with
  | .ok d al => f d al
  | .exc c => .exc c ρ
  | .stuck => .stuck
def TR.bindS (r : TR) (ρ : Env) (f : Bool → RS) : RS := match r with
  | .ok b => f b
  | .exc c => .exc c ρ
  | .stuck => .stuck
def forR (st : PyData → Env → Option Env) (body : Env → RS) : List PyData → Env → RS
  | [], ρ => .next ρ
  | p :: ps, ρ => match st p ρ with
    | none => .stuck
    | some ρ1 => match body ρ1 with
      | .next ρ2 => forR st body ps ρ2
      | .cnt ρ2 => forR st body ps ρ2
      | .brk ρ2 => .next ρ2
      | .ret d => .ret d
      | .exc c ρ2 => .exc c ρ2
      | .stuck => .stuck
def whN (c : Env → TR) (body : Env → RS) : Nat → Env → RS
  | 0, _ => .stuck
  | n + 1, ρ => match c ρ with
    | .ok true => match body ρ with
      | .next ρ2 => whN c body n ρ2
      | .cnt ρ2 => whN c body n ρ2
      | .brk ρ2 => .next ρ2
      | .ret d => .ret d
      | .exc c ρ2 => .exc c ρ2
      | .stuck => .stuck
    | .ok false => .next ρ
    | .exc c => .exc c ρ
    | .stuck => .stuck
open Classical in
noncomputable def wh (c : Env → TR) (body : Env → RS) (ρ : Env) : RS := if h : ∃ n, whN c body n ρ ≠ .stuck then whN c body (choose h) ρ else .stuck
theorem whN_mono {c : Env → TR} {body : Env → RS} : ∀ {n m : Nat} {ρ : Env}, whN c body n ρ ≠ .stuck → n ≤ m → whN c body m ρ = whN c body n ρ
  | 0, _, _, h, _ => absurd rfl h
  | n + 1, 0, _, _, h => absurd h (by omega)
  | n + 1, m + 1, ρ, h, hm => by
    unfold whN at h ⊢
    cases e : c ρ with
    | ok b =>
      cases b with
      | true =>
        simp only [e] at h ⊢
        cases e2 : body ρ <;> simp only [e2] at h ⊢
        · exact whN_mono h (by omega)
        · exact whN_mono h (by omega)
      | false => rfl
    | exc c => rfl
    | stuck => rfl
theorem wh_eq {c : Env → TR} {body : Env → RS} {ρ : Env} {r : RS} (n : Nat) (h : whN c body n ρ = r) (hr : r ≠ .stuck) : wh c body ρ = r := by
  unfold wh
  have hx : ∃ n, whN c body n ρ ≠ .stuck := ⟨n, by rw [h]; exact hr⟩
  rw [dif_pos hx, ← h]
  have h1 := Classical.choose_spec hx
  have h2 : whN c body n ρ ≠ .stuck := by rw [h]; exact hr
  rw [← whN_mono h1 (Nat.le_max_left _ n), ← whN_mono h2 (Nat.le_max_right (Classical.choose hx) n)]
theorem wh_ex {c : Env → TR} {body : Env → RS} {ρ : Env} {r : RS} (h : wh c body ρ = r) (hr : r ≠ .stuck) : ∃ n, whN c body n ρ = r := by
  unfold wh at h
  split at h
  · exact ⟨_, h⟩
  · exact absurd h.symm hr
mutual
/-- the slots whose lists a statement may change -/
def mutS : S → List Nat
  | .app i _ _ => [i]
  | .seti i _ _ _ => [i]
  | .appPop i j _ => [i, j]
  | .ife _ a b => mutSs a ++ mutSs b
  | .for_ _ _ _ b => mutSs b
  | .while_ _ b => mutSs b
  | .try_ b hs => mutSs b ++ mutH hs
  | _ => []
def mutSs : List S → List Nat
  | [] => []
  | s :: ss => mutS s ++ mutSs ss
def mutH : List (List (Str × Bool) × Option Nat × List S) → List Nat
  | [] => []
  | (_, _, b) :: hs => mutSs b ++ mutH hs
end
/-- no slot holds the exception -/
def noXE (ρ : Env) : Bool := ρ.all fun o => match o with
  | some d => noX d
  | none => true
def inX (o : Option Nat) (ρ : Env) : Env := match o with
  | some i => ρ.set i (some .exn)
  | none => ρ
def goneE (o : Option Nat) (ρ : Env) : Env := match o with
  | some i => ρ.set i none
  | none => ρ
/-- behind a suite: its name is gone, and nobody holds the exception -/
def outX (o : Option Nat) (r : RS) : RS := match r with
  | .next ρ => if noXE (goneE o ρ) then .next (goneE o ρ) else .stuck
  | .brk ρ => if noXE (goneE o ρ) then .brk (goneE o ρ) else .stuck
  | .cnt ρ => if noXE (goneE o ρ) then .cnt (goneE o ρ) else .stuck
  | .ret d => if noX d then .ret d else .stuck
  | _ => .stuck
/-- which class is below which -/
abbrev Sub := Str → Str → Option Bool
mutual
noncomputable def sv (C : Cal) (G : Glo) (B : Sub) : S → Env → RS
  | .asg i e, ρ => (ev C G e ρ).e.bindS ρ fun d al => .next ((frz al ρ).set i (some d))
  | .asgT is e, ρ => (ev C G e ρ).e.bindS ρ fun d al => match data d with
    | some p => match setT (.tup is) (isNew d) p (frz al ρ) with
      | some ρ => .next ρ
      | none => .stuck
    | none => .stuck
  | .aug i o e, ρ => match ρ[i]? with
    | some (some (.v (.int a))) => (ev C G e ρ).e.bindS ρ fun d _ => match data d with
      | some (.int b) => match o with
        | .add => .next (ρ.set i (some (.v (.int (a + b)))))
        | .sub => .next (ρ.set i (some (.v (.int (a - b)))))
        | _ => .stuck
      | _ => .stuck
    | _ => .stuck
  | .app i path e, ρ => appR i (pathJ (seqR (evs C G path ρ))) (ev C G e ρ).e ρ
  | .seti i path x e, ρ => (ev C G e ρ).e.bindS ρ fun d al => setR i (pathJ (seqR (evs C G path ρ))) (ev C G x ρ).e d al ρ
  | .ife c a b, ρ => (ev C G c ρ).t.bindS ρ fun k => if k then svs C G B a ρ else svs C G B b ρ
  | .for_ k args tg b, ρ => (seqR (evs C G args ρ)).bindS ρ fun ds al => match itemsR k ds al with
    | some (ps, w, al2) => if al.all (fun i => !(mutSs b).contains i) then forR (fun p ρ => setT tg w p ρ) (svs C G B b) ps (frz al2 ρ) else .stuck
    | none => .stuck
  | .while_ c b, ρ => wh (fun ρ => (ev C G c ρ).t) (svs C G B b) ρ
  | .ret e, ρ => (ev C G e ρ).e.bindS ρ fun d _ => .ret d
  | .retv i, ρ => match ρ[i]? with
    | some (some d) => .ret d
    | _ => .stuck
  | .retn, _ => .ret (.v .none)
  | .brk, ρ => .brk ρ
  | .cnt, ρ => .cnt ρ
  | .pass, ρ => .next ρ
  | .raise_ c, ρ => .exc c ρ
  | .appPop i j e, ρ => appPopR i j (ev C G e ρ).e ρ
  | .drop e, ρ => (ev C G e ρ).e.bindS ρ fun _ _ => .next ρ
  | .try_ b hs, ρ => match svs C G B b ρ with
    | .exc c ρ' => hnd C G B c hs ρ'
    | r => r
noncomputable def svs (C : Cal) (G : Glo) (B : Sub) : List S → Env → RS
  | [], ρ => .next ρ
  | s :: ss, ρ => match sv C G B s ρ with
    | .next ρ' => svs C G B ss ρ'
    | .ret d => .ret d
    | .brk ρ' => .brk ρ'
    | .cnt ρ' => .cnt ρ'
    | .exc c ρ' => .exc c ρ'
    | .stuck => .stuck
noncomputable def hnd (C : Cal) (G : Glo) (B : Sub) (c : Str) : List (List (Str × Bool) × Option Nat × List S) → Env → RS
  | [], ρ => .exc c ρ
  | (cs, o, b) :: hs, ρ => match cs.lookup c with
    | some true => outX o (svs C (setX G c) B b (inX o ρ))
    | some false => hnd C G B c hs ρ
    | none => .stuck
end

/-! ### what a statement owes -/
/-- what may have changed: one's own things in the slots M -/
structure Fr (M : List Nat) (H : Hp) (Pf : Nat → AS) (H' : Hp) (Pf' : Nat → AS) : Prop where
  kp : ∀ a o, H a = some o → ((∀ j ∈ M, ¬ Pf j a) ∨ ∀ xs, o ≠ .lst xs) → H' a = some o
  dm : ∀ a, H a ≠ none → H' a ≠ none
  pf : ∀ j a, Pf' j a → Pf j a ∨ H a = none
section
variable {M M' : List Nat} {H H1 H2 : Hp} {Pf P1 P2 : Nat → AS}
theorem Fr.refl : Fr M H Pf H Pf := ⟨fun _ _ e _ => e, fun _ h => h, fun _ _ h => .inl h⟩
theorem Fr.trans (a : Fr M H Pf H1 P1) (b : Fr M H1 P1 H2 P2) : Fr M H Pf H2 P2 where
  kp := fun x o e h => b.kp x o (a.kp x o e h) (h.elim (fun h => .inl fun j hj z => (a.pf j x z).elim (h j hj) fun z => by rw [z] at e; cases e) .inr)
  dm := fun x h => b.dm x (a.dm x h)
  pf := fun j x z => (b.pf j x z).elim (a.pf j x) fun z => .inr (by
    cases q : H x with
    | none => rfl
    | some o => exact absurd z (a.dm x (by rw [q]; exact nofun)))
theorem Fr.mono (h : ∀ i ∈ M, i ∈ M') (a : Fr M H Pf H1 P1) : Fr M' H Pf H1 P1 := ⟨fun x o e z => a.kp x o e (z.elim (fun z => .inl fun j hj => z j (h j hj)) .inr), a.dm, a.pf⟩
theorem Fr.ext (e : Ext H H1) (h : ∀ j a, P1 j a → Pf j a ∨ H a = none) : Fr M H Pf H1 P1 := ⟨fun x o q _ => e x o q, fun a z => e.ne z, h⟩
end
def PSr (K : KW) (W : WX) (E0 : Hp) (F : AS) (M : List Nat) (N : AS) (Pf : Nat → AS) (H : Hp) (D : Ends) (r : RS) : Prop := match r with
  | .next ρ' => ∀ σ' H' N' Pf', Stt K E0 F N' Pf' H' σ' ρ' → (∀ a, N a → N' a) → Fr M H Pf H' Pf' → D.nx σ' H'
  | .brk ρ' => ∀ σ' H' N' Pf', Stt K E0 F N' Pf' H' σ' ρ' → (∀ a, N a → N' a) → Fr M H Pf H' Pf' → D.bk σ' H'
  | .cnt ρ' => ∀ σ' H' N' Pf', Stt K E0 F N' Pf' H' σ' ρ' → (∀ a, N a → N' a) → Fr M H Pf H' Pf' → D.ct σ' H'
  | .ret d => ∀ x H' N' P', Ext E0 H' → RW K F N' H' P' x d → (∀ a, N' a → E0 a = none ∧ H' a ≠ none ∧ ¬ P' a) → (∀ a, P' a → E0 a = none ∧ H' a ≠ none) → D.rt x H'
  | .exc c ρ' => ∀ σ' H' N' Pf' cl od, Stt K E0 F N' Pf' H' σ' ρ' → (∀ a, N a → N' a) → Fr M H Pf H' Pf' → ExcV K.k c cl od → W cl od σ' H'
  | .stuck => False
def tS (K : KW) (W : WX) (E0 : Hp) (M : List Nat) (g : Env → RS) : TS := fun D σ H => ∃ F N Pf ρ, Stt K E0 F N Pf H σ ρ ∧ PSr K W E0 F M N Pf H D (g ρ)
section
variable {K : KW} {W : WX} {E0 : Hp} {F : AS} {M : List Nat} {N N' : AS} {Pf Pf' : Nat → AS} {H H' : Hp} {Dn : Ends} {σ : L2.St} {ρ : Env}
theorem PSr.shift {r : RS} (h : PSr K W E0 F M N Pf H Dn r) (n : ∀ a, N a → N' a) (f : Fr M H Pf H' Pf') : PSr K W E0 F M N' Pf' H' Dn r := by
  cases r with
  | next ρ => exact fun σ' H2 N2 P2 s n2 f2 => h σ' H2 N2 P2 s (fun a z => n2 a (n a z)) (f.trans f2)
  | brk ρ => exact fun σ' H2 N2 P2 s n2 f2 => h σ' H2 N2 P2 s (fun a z => n2 a (n a z)) (f.trans f2)
  | cnt ρ => exact fun σ' H2 N2 P2 s n2 f2 => h σ' H2 N2 P2 s (fun a z => n2 a (n a z)) (f.trans f2)
  | exc c ρ => exact fun σ' H2 N2 P2 cl od s n2 f2 => h σ' H2 N2 P2 cl od s (fun a z => n2 a (n a z)) (f.trans f2)
  | ret d => exact h
  | stuck => exact h
theorem Stt.frz1 {i : Nat} (s : Stt K E0 F N Pf H σ ρ) : Stt K E0 F (fun a => N a ∨ Pf i a) (fun j a => j ≠ i ∧ Pf j a) H σ (frz1 i ρ) where
  len := by
    unfold Hv.frz1
    split
    · rw [List.length_set]; exact s.len
    · exact s.len
  rep := fun j d h => by
    unfold Hv.frz1 at h
    split at h
    · rename_i d0 e0
      by_cases hj : i = j
      · subst hj
        have hi : i < ρ.length := (List.getElem?_eq_some_iff.mp e0).1
        rw [List.getElem?_set_self hi] at h
        injection h with h
        obtain ⟨x, e1, r⟩ := s.rep i d0 e0
        exact ⟨x, e1, r.view h⟩
      · rw [List.getElem?_set_ne hj] at h
        obtain ⟨x, e1, r⟩ := s.rep j d h
        exact ⟨x, e1, r.ext Ext.refl (fun _ z => .inl z) (fun _ z => .inl z) fun _ z => ⟨Ne.symm hj, z⟩⟩
    · rename_i e0
      by_cases hj : i = j
      · subst hj
        exact absurd h (e0 d)
      · obtain ⟨x, e1, r⟩ := s.rep j d h
        exact ⟨x, e1, r.ext Ext.refl (fun _ z => .inl z) (fun _ z => .inl z) fun _ z => ⟨Ne.symm hj, z⟩⟩
  dis := fun j k a p q => s.dis j k a p.2 q.2
  prv := fun j a p => ⟨fun z => z.elim (s.prv j a p.2).1 fun z => p.1 (s.dis j i a p.2 z), (s.prv j a p.2).2⟩
  new := fun a z => z.elim (s.new a) fun z => (s.prv i a z).2
  old := s.old
  ext := s.ext
theorem Stt.frz : ∀ {al : Al} {N : AS} {Pf : Nat → AS} {ρ : Env}, Stt K E0 F N Pf H σ ρ → Stt K E0 F (fun a => N a ∨ ∃ i, i ∈ al ∧ Pf i a) (fun j a => j ∉ al ∧ Pf j a) H σ (Hv.frz al ρ)
  | [], N, Pf, ρ, s => by
    have e1 : (fun a => N a ∨ ∃ i, i ∈ ([] : Al) ∧ Pf i a) = N := funext fun a => propext ⟨fun z => z.elim id fun ⟨_, z, _⟩ => (by cases z), .inl⟩
    have e2 : (fun j a => j ∉ ([] : Al) ∧ Pf j a) = Pf := funext fun j => funext fun a => propext ⟨fun z => z.2, fun z => ⟨by simp, z⟩⟩
    rw [e1, e2]
    exact s
  | i :: is, N, Pf, ρ, s => by
    have q := Stt.frz (al := is) (s.frz1 (i := i))
    have e1 : (fun a => (N a ∨ Pf i a) ∨ ∃ j, j ∈ is ∧ (j ≠ i ∧ Pf j a)) = (fun a => N a ∨ ∃ j, j ∈ i :: is ∧ Pf j a) := funext fun a => propext ⟨fun z => by
      rcases z with (z | z) | ⟨j, h, _, z⟩
      · exact .inl z
      · exact .inr ⟨i, List.mem_cons_self, z⟩
      · exact .inr ⟨j, List.mem_cons_of_mem _ h, z⟩, fun z => by
      rcases z with z | ⟨j, h, z⟩
      · exact .inl (.inl z)
      · by_cases hj : j = i
        · exact .inl (.inr (hj ▸ z))
        · exact .inr ⟨j, (List.mem_cons.mp h).resolve_left hj, hj, z⟩⟩
    have e2 : (fun j a => j ∉ is ∧ j ≠ i ∧ Pf j a) = (fun j a => j ∉ i :: is ∧ Pf j a) := funext fun j => funext fun a => propext ⟨fun ⟨h1, h2, h3⟩ => ⟨by simp [h1, h2], h3⟩, fun ⟨h1, h3⟩ => by
      simp only [List.mem_cons, not_or] at h1
      exact ⟨h1.2, h1.1, h3⟩⟩
    rw [e1, e2] at q
    exact q
/-- behind an expression: its value beside the slots -/
theorem Stt.join {al : Al} {Nv Pv : AS} {x : V} {d : D} (s : Stt K E0 F N Pf H σ ρ) (R : Res K F N Pf H al H' Nv Pv x d) :
    Stt K E0 F (fun a => N a ∨ (∃ i, i ∈ al ∧ Pf i a) ∨ Nv a) (fun j a => j ∉ al ∧ Pf j a) H' σ (Hv.frz al ρ) where
  len := s.frz.len
  rep := fun j d h => by
    obtain ⟨x, e1, r⟩ := (s.frz (al := al)).rep j d h
    exact ⟨x, e1, r.ext R.ext (fun _ z => .inl z) (fun _ z => z.elim .inl fun z => .inr (.inl z)) fun _ z => z⟩
  dis := s.frz.dis
  prv := fun j a z => by
    obtain ⟨p, q, r⟩ := s.frz.prv j a z
    refine ⟨fun w => ?_, q, R.ext.ne r⟩
    rcases w with w | w | w
    · exact p (.inl w)
    · exact p (.inr w)
    · exact r (R.nv a w).1
  new := fun a w => by
    rcases w with w | ⟨i, _, w⟩ | w
    · exact ⟨(s.new a w).1, R.ext.ne (s.new a w).2⟩
    · exact ⟨(s.prv i a w).2.1, R.ext.ne (s.prv i a w).2.2⟩
    · exact ⟨s.ext.none (R.nv a w).1, (R.nv a w).2.1⟩
  old := s.old
  ext := s.ext.trans R.ext
/-- a slot set -/
theorem Stt.set {i : Nat} {P : AS} {x : V} {d : D} (s : Stt K E0 F N Pf H σ ρ) (r : RW K F N H P x d) (hp : ∀ a, P a → ¬ N a ∧ E0 a = none ∧ H a ≠ none ∧ ∀ j, j ≠ i → ¬ Pf j a) :
    Stt K E0 F N (fun j a => (j = i ∧ P a) ∨ (j ≠ i ∧ Pf j a)) H (σ.set i (some x)) (ρ.set i (some d)) where
  len := by rw [List.length_set, List.length_set]; exact s.len
  rep := (StE.set s.e r fun a z => (hp a z).2.2.1).rep
  dis := fun j k a p q => by
    rcases p with ⟨p, z⟩ | ⟨p, z⟩ <;> rcases q with ⟨q, w⟩ | ⟨q, w⟩
    · rw [p, q]
    · exact absurd w ((hp a z).2.2.2 k q)
    · exact absurd z ((hp a w).2.2.2 j p)
    · exact s.dis j k a z w
  prv := fun j a p => by
    rcases p with ⟨p, z⟩ | ⟨p, z⟩
    · exact ⟨(hp a z).1, (hp a z).2.1, (hp a z).2.2.1⟩
    · exact s.prv j a z
  new := s.new
  old := s.old
  ext := s.ext
/-- a value into a slot -/
theorem Stt.put {al : Al} {Nv Pv : AS} {x : V} {d : D} {i : Nat} (s : Stt K E0 F N Pf H σ ρ) (R : Res K F N Pf H al H' Nv Pv x d) :
    ∃ N' Pf', Stt K E0 F N' Pf' H' (σ.set i (some x)) ((Hv.frz al ρ).set i (some d)) ∧ (∀ a, N a → N' a) ∧ Fr M H Pf H' Pf' := by
  refine ⟨_, _, (s.join R).set R.rd fun a z => ⟨fun w => ?_, s.ext.none (R.pv a z).1, (R.pv a z).2, fun j _ w => ?_⟩, fun _ z => .inl z, Fr.ext R.ext fun j a z => ?_⟩
  · rcases w with w | ⟨i, _, w⟩ | w
    · exact (s.new a w).2 (R.pv a z).1
    · exact (s.prv i a w).2.2 (R.pv a z).1
    · exact (R.nv a w).2.2 z
  · exact (s.prv j a w.2).2.2 (R.pv a z).1
  · rcases z with ⟨_, z⟩ | ⟨_, z⟩
    · exact .inr (R.pv a z).1
    · exact .inl z.2
theorem Stt.drop {al : Al} {Nv Pv : AS} {x : V} {d : D} (s : Stt K E0 F N Pf H σ ρ) (R : Res K F N Pf H al H' Nv Pv x d) : Stt K E0 F N Pf H' σ ρ := s.more R.ext
end
end Hv

/-! Hv, part 13: statements, that they do so. -/
namespace Hv
open PySem PySem.Spec PyProof.Rows L2

theorem PS_imp {X : Cx} {st : Stmt} {t t' : TS} (h : PS X st t) (i : ∀ D σ H, t' D σ H → t D σ H) : PS X st t' :=
  ⟨fun pins s σ H D I q => h.run pins s σ H D I (i D σ H q)⟩
theorem PSs_imp {X : Cx} {st : List Stmt} {t t' : TS} (h : PSs X st t) (i : ∀ D σ H, t' D σ H → t D σ H) : PSs X st t' :=
  ⟨fun pins s σ H D I q => h.run pins s σ H D I (i D σ H q)⟩
theorem PS_or {X : Cx} {st : Stmt} {t t' : TS} (h : PS X st t) (h' : PS X st t') : PS X st (fun D σ H => t D σ H ∨ t' D σ H) :=
  ⟨fun pins s σ H D I q => q.elim (h.run pins s σ H D I) (h'.run pins s σ H D I)⟩
section
variable {K : KW} {W : WX} {E0 : Hp} {F : AS} {M : List Nat} {N N' : AS} {Pf Pf' : Nat → AS} {H H' : Hp} {Dn : Ends} {σ : L2.St} {ρ : Env}
theorem exc_of {c : Str} (s : Stt K E0 F N Pf H σ ρ) (h : PSr K W E0 F M N Pf H Dn (.exc c ρ)) : ∀ H' cl od, Ext H H' → ExcV K.k c cl od → W cl od σ H' :=
  fun H' cl od he hx => h σ H' N Pf cl od (s.more he) (fun _ z => z) (Fr.ext he fun _ _ z => .inl z) hx
theorem tS_e {f : R} {g : D → Al → RS} (s : Stt K E0 F N Pf H σ ρ) (h : PSr K W E0 F M N Pf H Dn (f.bindS ρ g)) {Q : VK}
    (hq : ∀ x d al H1 N1 P1, f = .ok d al → Res K F N Pf H al H1 N1 P1 x d → PSr K W E0 F M N Pf H Dn (g d al) → Q x H1) : PR K W F N Pf σ H Q f := by
  cases f with
  | ok d al => exact fun x H1 N1 P1 R => hq x d al H1 N1 P1 rfl R h
  | exc c => exact exc_of s h
  | stuck => exact h
theorem tS_l {f : Rl} {g : List D → Al → RS} (s : Stt K E0 F N Pf H σ ρ) (h : PSr K W E0 F M N Pf H Dn (f.bindS ρ g)) {Q : List V → Hp → Prop}
    (hq : ∀ x d al H1 N1 P1, f = .ok d al → Resl K F N Pf H al H1 N1 P1 x d → PSr K W E0 F M N Pf H Dn (g d al) → Q x H1) : PL K W F N Pf σ H Q f := by
  cases f with
  | ok d al => exact fun x H1 N1 P1 R => hq x d al H1 N1 P1 rfl R h
  | exc c => exact exc_of s h
  | stuck => exact h
theorem tS_t {f : TR} {g : Bool → RS} (s : Stt K E0 F N Pf H σ ρ) (h : PSr K W E0 F M N Pf H Dn (f.bindS ρ g)) {Q : Bool → Hp → Prop}
    (hq : ∀ b H1, f = .ok b → Ext H H1 → PSr K W E0 F M N Pf H Dn (g b) → Q b H1) : PT' K W σ H Q f := by
  cases f with
  | ok b => exact fun H1 e => hq b H1 rfl e h
  | exc c => exact exc_of s h
  | stuck => exact h
theorem Fr.more (e : Ext H H') : Fr M H Pf H' Pf := Fr.ext e fun _ _ z => .inl z
end
section
variable {X : Cx} {W : WX} {pos : Pos} {E0 : Hp} {M : List Nat}
def isComp : Expr → Bool
  | .ListComp .. => true
  | .SetComp .. => true
  | .DictComp .. => true
  | _ => false
theorem sw0 {e : Expr} (h : isComp e = false) {t : Option Expr} {l : Nat} {env : PySem.Env} : swapsWith e t l env = pure false := by
  cases e <;> first | rfl | (simp [isComp] at h)
def isTup : Expr → Bool
  | .Tuple .. => true
  | _ => false
theorem hs_asg' {t : Expr} {i : Nat} {e : Expr} {f : Env → VT} (h : PS X (.Assign [t] e pos) (tAsg (tE X.kw W fun ρ => (f ρ).e) (gName i))) :
    PS X (.Assign [t] e pos) (tS X.kw W E0 M fun ρ => (f ρ).e.bindS ρ fun d al => .next ((frz al ρ).set i (some d))) := by
  refine PS_imp h fun D σ H ⟨F, N, Pf, ρ, s, q⟩ => ⟨F, N, Pf, ρ, s.e, tS_e s q fun x d al H1 N1 P1 _ R q => ?_⟩
  obtain ⟨N', Pf', s', n, f⟩ := s.put (i := i) (M := M) R
  exact q _ _ _ _ s' n f
theorem hs_asg {i : Nat} {x : Str} {e : Expr} {f : Env → VT} {p' : Pos} (hN : X.N.Nodup) (hi : X.N[i]? = some x) (hx : Loc X.env.scope x) (he : HV X W e f) (hc : isComp e = false) (hf : X.fn x = true ∨ X.env.scope.names.lookup x = some .local) :
    PS X (.Assign [.Name x p'] e pos) (tS X.kw W E0 M fun ρ => (f ρ).e.bindS ρ fun d al => .next ((frz al ρ).set i (some d))) :=
  hs_asg' (ps_set hN hi hx he.e (sw0 hc) hf)
theorem hs_ret {e : Expr} {f : Env → VT} (he : HV X W e f) : PS X (.Return (some e) pos) (tS X.kw W E0 M fun ρ => (f ρ).e.bindS ρ fun d _ => .ret d) := by
  refine PS_imp (ps_ret he.e) fun D σ H ⟨F, N, Pf, ρ, s, q⟩ => ⟨F, N, Pf, ρ, s.e, tS_e s q fun x d al H1 N1 P1 _ R q => ?_⟩
  refine q x H1 _ _ (s.ext.trans R.ext) R.rd (fun a z => ?_) fun a z => ⟨s.ext.none (R.pv a z).1, (R.pv a z).2⟩
  rcases z with z | ⟨j, _, z⟩ | z
  · exact ⟨(s.new a z).1, R.ext.ne (s.new a z).2, fun w => (s.new a z).2 (R.pv a w).1⟩
  · exact ⟨(s.prv j a z).2.1, R.ext.ne (s.prv j a z).2.2, fun w => (s.prv j a z).2.2 (R.pv a w).1⟩
  · exact ⟨s.ext.none (R.nv a z).1, (R.nv a z).2.1, (R.nv a z).2.2⟩
theorem hs_retv {i : Nat} {x : Str} {p : Pos} (hN : X.N[i]? = some x) (hv : Vis X.env.scope x) (hd : (x == ("__debug__" : Str)) = false) (hc : (x == ("__classdict__" : Str)) = false) : PS X (.Return (some (.Name x p)) pos) (tS X.kw W E0 M fun ρ => match ρ[i]? with
    | some (some d) => .ret d
    | _ => .stuck) := by
  refine PS_imp (ps_ret (pe_var hN hv hd hc)) fun D σ H ⟨F, N, Pf, ρ, s, q⟩ => ?_
  try dsimp only at q
  split at q
  · rename_i d e
    obtain ⟨v, e1, r⟩ := s.rep i d e
    refine ⟨v, e1, q v H N (Pf i) s.ext r (fun a z => ⟨(s.new a z).1, (s.new a z).2, fun w => (s.prv i a w).1 z⟩) fun a z => ⟨(s.prv i a z).2.1, (s.prv i a z).2.2⟩⟩
  · exact q.elim
theorem hs_retn : PS X (.Return none pos) (tS X.kw W E0 M fun ρ => .ret (.v .none)) := by
  refine PS_imp ps_retN fun D σ H ⟨F, N, Pf, ρ, s, q⟩ => ?_
  exact q .non H N (fun _ => False) s.ext (.mk (.v .non)) (fun a z => ⟨(s.new a z).1, (s.new a z).2, fun w => w⟩) fun _ z => z.elim
theorem hs_pass : PS X (.Pass pos) (tS X.kw W E0 M fun ρ => .next ρ) := PS_imp ps_pass fun D σ H ⟨F, N, Pf, ρ, s, q⟩ => q σ H N Pf s (fun _ z => z) Fr.refl
theorem hs_brk : PS X (.Break pos) (tS X.kw W E0 M fun ρ => .brk ρ) := PS_imp ps_break fun D σ H ⟨F, N, Pf, ρ, s, q⟩ => q σ H N Pf s (fun _ z => z) Fr.refl
theorem hs_cnt : PS X (.Continue pos) (tS X.kw W E0 M fun ρ => .cnt ρ) := PS_imp ps_continue fun D σ H ⟨F, N, Pf, ρ, s, q⟩ => q σ H N Pf s (fun _ z => z) Fr.refl
theorem hs_drop {e : Expr} {f : Env → VT} (he : HV X W e f) (hc : isComp e = false) : PS X (.Expr e pos) (tS X.kw W E0 M fun ρ => (f ρ).e.bindS ρ fun _ _ => .next ρ) := by
  refine PS_imp (ps_expr he.e (sw0 hc)) fun D σ H ⟨F, N, Pf, ρ, s, q⟩ => ⟨F, N, Pf, ρ, s.e, tS_e s q fun x d al H1 N1 P1 _ R q => ?_⟩
  exact q σ H1 N Pf (s.more R.ext) (fun _ z => z) (Fr.more R.ext)
theorem hss_nil : PSs X [] (tS X.kw W E0 M fun ρ => .next ρ) := PSs_imp pss_nil fun D σ H ⟨F, N, Pf, ρ, s, q⟩ => q σ H N Pf s (fun _ z => z) Fr.refl
def seqS (r : RS) (g : Env → RS) : RS := match r with
  | .next ρ' => g ρ'
  | .ret d => .ret d
  | .brk ρ' => .brk ρ'
  | .cnt ρ' => .cnt ρ'
  | .exc c ρ' => .exc c ρ'
  | .stuck => .stuck
theorem hss_cons {st : Stmt} {sts : List Stmt} {f g : Env → RS} (h1 : PS X st (tS X.kw W E0 M f)) (h2 : PSs X sts (tS X.kw W E0 M g)) : PSs X (st :: sts) (tS X.kw W E0 M fun ρ => seqS (f ρ) g) := by
  refine PSs_imp (pss_cons h1 h2) fun D σ H ⟨F, N, Pf, ρ, s, q⟩ => ⟨F, N, Pf, ρ, s, ?_⟩
  try dsimp only at q ⊢
  cases e : f ρ with
  | next ρ' =>
    simp only [e, seqS] at q
    exact fun σ' H' N' Pf' s' n fr => ⟨F, N', Pf', ρ', s', q.shift n fr⟩
  | _ => simp only [e, seqS] at q; exact q
theorem hs_if {c : Expr} {a b : List Stmt} {fc : Env → VT} {f g : Env → RS} (hc : HV X W c fc) (ha : PSs X a (tS X.kw W E0 M f)) (hb : PSs X b (tS X.kw W E0 M g)) : PS X (.If c a b pos) (tS X.kw W E0 M fun ρ => (fc ρ).t.bindS ρ fun k => if k then f ρ else g ρ) := by
  refine PS_imp (ps_if hc.t ha hb) fun D σ H ⟨F, N, Pf, ρ, s, q⟩ => ⟨F, N, Pf, ρ, s.e, tS_t s q fun k H1 _ e q => ?_⟩
  have s' := s.more e
  cases k with
  | true => exact ⟨F, N, Pf, ρ, s', q.shift (fun _ z => z) (Fr.more e)⟩
  | false => exact ⟨F, N, Pf, ρ, s', q.shift (fun _ z => z) (Fr.more e)⟩
theorem hs_aug {i : Nat} {x : Str} {e : Expr} {f : Env → VT} {p' : Pos} {o : BOp} {op : Operator} (ho : (o = .add ∧ op = .Add) ∨ (o = .sub ∧ op = .Sub)) (hN : X.N.Nodup) (hi : X.N[i]? = some x) (hx : Loc X.env.scope x) (he : HV X W e f) (hf : X.fn x = true ∨ X.env.scope.names.lookup x = some .local) :
    PS X (.AugAssign (.Name x p') op e pos) (tS X.kw W E0 M fun ρ => match ρ[i]? with
    | some (some (.v (.int a))) => (f ρ).e.bindS ρ fun d _ => match data d with
      | some (.int b) => match o with
        | .add => .next (ρ.set i (some (.v (.int (a + b)))))
        | .sub => .next (ρ.set i (some (.v (.int (a - b)))))
        | _ => .stuck
      | _ => .stuck
    | _ => .stuck) := by
  have key : ∀ (g : Int → Int → Int), PIp X op (ipI g) → PS X (.AugAssign (.Name x p') op e pos) (tS X.kw W E0 M fun ρ => match ρ[i]? with
      | some (some (.v (.int a))) => (f ρ).e.bindS ρ fun d _ => match data d with
        | some (.int b) => .next (ρ.set i (some (.v (.int (g a b)))))
        | _ => .stuck
      | _ => .stuck) := by
    intro g hp
    refine PS_imp (ps_aug hN hi hx he.e hp hf) fun D σ H ⟨F, N, Pf, ρ, s, q⟩ => ?_
    try dsimp only at q
    split at q
    · rename_i a e0
      obtain ⟨v, e1, r⟩ := s.rep i _ e0
      have r1 := r.data rfl
      cases r1
      refine ⟨_, e1, F, N, Pf, ρ, s.e, tS_e s q fun y d al H1 N1 P1 _ R q => ?_⟩
      split at q
      · rename_i b e2
        have r2 := R.dat e2 Ext.refl
        cases r2
        refine ⟨_, _, rfl, rfl, q _ _ N _ ((s.more R.ext).set (i := i) (P := fun _ => False) (.mk (.v (.int _))) fun _ z => z.elim) (fun _ z => z) (Fr.ext R.ext fun j a z => ?_)⟩
        rcases z with ⟨_, z⟩ | ⟨_, z⟩
        · exact z.elim
        · exact .inl z
      · exact q.elim
    · exact q.elim
  rcases ho with ⟨rfl, rfl⟩ | ⟨rfl, rfl⟩
  · exact key _ ip_add
  · exact key _ ip_sub
end
end Hv

/-! Hv, part 14: loops. -/
namespace Hv
open PySem PySem.Spec PyProof.Rows L2

section
variable {K : KW} {E0 : Hp} {F N : AS} {Pf : Nat → AS} {H : Hp} {σ : L2.St} {ρ ρ' : Env}
theorem Stt.setF {i : Nat} {x : V} {b : Bool} {p : PyData} (s : Stt K E0 F N Pf H σ ρ) (r : Rp K (SB b F N) H x p) : ∃ Pf', Stt K E0 F N Pf' H (σ.set i (some x)) (ρ.set i (some (fz b p))) ∧ ∀ j a, Pf' j a → Pf j a := by
  refine ⟨_, s.set (i := i) (P := fun _ => False) (.mk (RD.fz r)) fun _ z => z.elim, fun j a z => ?_⟩
  rcases z with ⟨_, z⟩ | ⟨_, z⟩
  · exact z.elim
  · exact z
theorem gList_okS {b : Bool} : ∀ {is : List Nat} {ps : List PyData} {xs : List V} {σ : L2.St} {ρ : Env} {Pf : Nat → AS} {Q : L2.St → Hp → Prop}, Stt K E0 F N Pf H σ ρ → Rps K (SB b F N) H xs ps → setTs b is ps ρ = some ρ' →
    (∀ σ' Pf', (∀ j a, Pf' j a → Pf j a) → Stt K E0 F N Pf' H σ' ρ' → Q σ' H) → gList is xs σ H Q
  | [], [], _, σ, ρ, Pf, Q, S, .nil, e, q => by
    injection e with e
    subst e
    exact ⟨rfl, q σ Pf (fun _ _ z => z) S⟩
  | i :: is, p :: ps, _, σ, ρ, Pf, Q, S, .cons (x := x) (xs := xs) h t, e, q => by
    have e : setTs b is ps (ρ.set i (some (fz b p))) = some ρ' := e
    obtain ⟨P1, s1, h1⟩ := S.setF (i := i) h
    exact ⟨x, xs, rfl, gList_okS s1 t e fun σ' Pf' hp S' => q σ' Pf' (fun j a z => h1 j a (hp j a z)) S'⟩
  | [], _ :: _, _, _, _, _, _, _, _, e, _ => by cases e
  | _ :: _, [], _, _, _, _, _, _, _, e, _ => by cases e
theorem gT_okS {t : Tg} {b : Bool} {p : PyData} {x : V} {Q : L2.St → Hp → Prop} (S : Stt K E0 F N Pf H σ ρ) (r : Rp K (SB b F N) H x p) (e : setT t b p ρ = some ρ')
    (q : ∀ σ' Pf', (∀ j a, Pf' j a → Pf j a) → Stt K E0 F N Pf' H σ' ρ' → Q σ' H) : gT K.k t x σ H Q := by
  cases t with
  | name i =>
    have e : some (ρ.set i (some (fz b p))) = some ρ' := e
    injection e with e
    subst e
    obtain ⟨P1, s1, h1⟩ := S.setF (i := i) r
    exact q _ _ h1 s1
  | tup is =>
    cases p with
    | tuple ps =>
      have e : setTs b is ps ρ = some ρ' := e
      obtain ⟨a, xs, rfl, l, s⟩ := r.sqt
      exact .inl ⟨a, xs, rfl, l, by rw [s.len, setTs_len e], gList_okS S s e q⟩
    | list ps =>
      have e : setTs b is ps ρ = some ρ' := e
      obtain ⟨a, xs, rfl, l, s⟩ := r.ll
      exact .inr ⟨a, xs, rfl, l.sq, by rw [s.len, setTs_len e], gList_okS S s e q⟩
    | _ => cases e
/-- behind some parts: they are not one's own any more -/
theorem Stt.joinL {al : Al} {A : AS} {H' : Hp} (s : Stt K E0 F N Pf H σ ρ) (ex : Ext H H') (na : ∀ a, A a → H a = none ∧ H' a ≠ none) :
    Stt K E0 F (S1 N Pf al A) (fun j a => j ∉ al ∧ Pf j a) H' σ (Hv.frz al ρ) where
  len := s.frz.len
  rep := fun j d h => by
    obtain ⟨x, e1, r⟩ := (s.frz (al := al)).rep j d h
    exact ⟨x, e1, r.ext ex (fun _ z => .inl z) (fun _ z => z.elim .inl fun z => .inr (.inl z)) fun _ z => z⟩
  dis := s.frz.dis
  prv := fun j a z => by
    obtain ⟨p, q, r⟩ := s.frz.prv j a z
    refine ⟨fun w => ?_, q, ex.ne r⟩
    rcases w with w | w | w
    · exact p (.inl w)
    · exact p (.inr w)
    · exact r (na a w).1
  new := fun a w => by
    rcases w with w | ⟨i, _, w⟩ | w
    · exact ⟨(s.new a w).1, ex.ne (s.new a w).2⟩
    · exact ⟨(s.prv i a w).2.1, ex.ne (s.prv i a w).2.2⟩
    · exact ⟨s.ext.none (na a w).1, (na a w).2⟩
  old := s.old
  ext := s.ext.trans ex
end
section
variable {X : Cx} {W : WX} {pos : Pos} {E0 : Hp} {M : List Nat}
theorem hs_asgT {is : List Nat} {tg e : Expr} {f : Env → VT} (he : HV X W e f) (hg : PG X tg (gT X.K (.tup is))) (hc : isComp e = false) (ht : isTup e = false) (h1 : (assignEach [tg] X.env).map (·.2) = [assign tg X.env]) :
    PS X (.Assign [tg] e pos) (tS X.kw W E0 M fun ρ => (f ρ).e.bindS ρ fun d al => match data d with
    | some p => match setT (.tup is) (isNew d) p (frz al ρ) with
      | some ρ => .next ρ
      | none => .stuck
    | none => .stuck) := by
  have hw : swappedStores [tg] e X.env = pure none := by
    cases e <;> first | (simp [isTup] at ht; done) | (cases tg <;> rfl)
  refine PS_imp (ps_asg he.e hg (sw0 hc) hw h1) fun D σ H ⟨F, N, Pf, ρ, s, q⟩ => ⟨F, N, Pf, ρ, s.e, tS_e s q fun x d al H1 N1 P1 _ R q => ?_⟩
  split at q
  · rename_i p e1
    split at q
    · rename_i ρ' e2
      have s1 := s.joinL (al := al) (A := fun a => N1 a ∨ P1 a) R.ext fun a z => z.elim (fun z => ⟨(R.nv a z).1, (R.nv a z).2.1⟩) fun z => R.pv a z
      exact gT_okS (K := X.kw) s1 (R.dat e1 Ext.refl) e2 fun σ' Pf' hp s' => q σ' H1 _ Pf' s' (fun a z => .inl z) (Fr.ext R.ext fun j a z => .inl (hp j a z).2)
    · exact q.elim
  · exact q.elim
theorem forR_step {st : PyData → Env → Option Env} {body : Env → RS} {p : PyData} {ps : List PyData} {ρ : Env} : forR st body (p :: ps) ρ = match st p ρ with
    | none => .stuck
    | some ρ1 => match body ρ1 with
      | .next ρ2 => forR st body ps ρ2
      | .cnt ρ2 => forR st body ps ρ2
      | .brk ρ2 => .next ρ2
      | .ret d => .ret d
      | .exc c ρ2 => .exc c ρ2
      | .stuck => .stuck := rfl
theorem for_run {F N : AS} {Pf : Nat → AS} {σ : L2.St} {H0 H1 : Hp} {ρ : Env} {Dn : Ends} {k : Sk} {ds : List D} {al al2 : Al} {ps : List PyData} {w : Bool} {N1 P1 : AS} {xs : List V} {J : It} {tg : Tg} {mb : List Nat} {body : Env → RS}
    (s : Stt X.kw E0 F N Pf H0 σ ρ) (R : Resl X.kw F N Pf H0 al H1 N1 P1 xs ds) (e1 : itemsR k ds al = some (ps, w, al2)) (hw : ∀ Z, Far (SB w F (S1 N Pf al fun a => N1 a ∨ P1 a)) Z H1 → Walks X.kw (SB w F (S1 N Pf al fun a => N1 a ∨ P1 a)) Z H1 J ps)
    (hm : ∀ i ∈ mb, i ∈ M) (hal : ∀ i ∈ al, i ∉ mb) (q : PSr X.kw W E0 F M N Pf H0 Dn (forR (fun p ρ => setT tg w p ρ) body ps (frz al2 ρ))) :
    ∃ Wv : Nat → Nat → L2.St → Hp → Prop, (∃ m, Wv 0 m σ H1) ∧ ∀ i m σ H, Wv i m σ H →
      (J.stop i H ∧ Dn.nx σ H) ∨ (J.go i H ∧ ∃ Nx : L2.St → Hp → Prop, (∀ σ' H', Nx σ' H' → ∃ m', m' < m ∧ Wv (i + 1) m' σ' H') ∧ ∀ x H', J.yld i H x H' → gT X.K tg x σ H' fun σ2 H2 => tS X.kw W E0 mb body { Dn with nx := Nx, ct := Nx, bk := Dn.nx } σ2 H2) := by
  have na : ∀ a, (N1 a ∨ P1 a) → H0 a = none ∧ H1 a ≠ none := fun a z => z.elim (fun z => ⟨(R.nv a z).1, (R.nv a z).2.1⟩) fun z => R.pv a z
  have s1 := s.joinL (al := al2) (A := fun a => N1 a ∨ P1 a) R.ext na
  have q := q.shift (N' := S1 N Pf al2 fun a => N1 a ∨ P1 a) (Pf' := fun j a => j ∉ al2 ∧ Pf j a) (H' := H1) (fun _ z => .inl z) (Fr.ext R.ext fun j a z => .inl z.2)
  generalize hNN : (S1 N Pf al2 fun a => N1 a ∨ P1 a) = NN at s1 q
  generalize hPf1 : (fun j a => j ∉ al2 ∧ Pf j a) = Pf1 at s1 q
  have far : Far (SB w F (S1 N Pf al fun a => N1 a ∨ P1 a)) (fun a => (∃ j ∈ mb, Pf1 j a) ∧ ∃ ys, H1 a = some (.lst ys)) H1 := by
    refine ⟨fun a z ⟨⟨j, hj, y⟩, _⟩ => ?_, fun b ys ⟨_, zs, hz⟩ r => ?_⟩
    · subst hPf1
      obtain ⟨y1, y2⟩ := y
      rcases z with ⟨_, z⟩ | z | ⟨i, hi, z⟩ | z
      · exact s.old a z (s.prv j a y2).2.1
      · exact (s.prv j a y2).1 z
      · exact hal i hi (s.dis i j a z y2 ▸ hj)
      · exact (s.prv j a y2).2.2 (na a z).1
    · rcases r with r | ⟨o, r⟩ <;> (rw [hz] at r; cases r)
  have wk := hw _ far
  refine ⟨fun i m σ' H' => m = ps.length - i ∧ i ≤ ps.length ∧ ∃ ρ' N' Pf', Stt X.kw E0 F N' Pf' H' σ' ρ' ∧ (∀ a, NN a → N' a) ∧ Fr mb H1 Pf1 H' Pf' ∧ PSr X.kw W E0 F M N' Pf' H' Dn (forR (fun p ρ => setT tg w p ρ) body (ps.drop i) ρ'), ⟨_, rfl, Nat.zero_le _, _, _, _, s1, fun _ z => z, Fr.refl, q⟩, ?_⟩
  rintro i m σ' H' ⟨rfl, hi, ρ', N', Pf', s', nn, fr, q'⟩
  have kp : Kp (fun a => (∃ j ∈ mb, Pf1 j a) ∧ ∃ ys, H1 a = some (.lst ys)) H1 H' := by
    intro a o hz e
    refine fr.kp a o e ?_
    by_cases hl : ∃ ys, o = .lst ys
    · refine .inl fun j hj z => hz ⟨⟨j, hj, z⟩, ?_⟩
      obtain ⟨ys, rfl⟩ := hl
      exact ⟨ys, e⟩
    · exact .inr fun ys h => hl ⟨ys, h⟩
  obtain ⟨wgo, wstop⟩ := wk i H' kp
  by_cases hlt : i < ps.length
  · have hd : ps.drop i = ps[i] :: ps.drop (i + 1) := List.drop_eq_getElem_cons hlt
    have hp : ps[i]? = some ps[i] := by simp [hlt]
    obtain ⟨go, yld⟩ := wgo _ hp
    have hmem : ps[i] ∈ ps := List.getElem_mem hlt
    generalize ps[i] = p at hd hp yld hmem
    refine .inr ⟨go, fun σ4 H4 => i + 1 ≤ ps.length ∧ ∃ ρ' N' Pf', Stt X.kw E0 F N' Pf' H4 σ4 ρ' ∧ (∀ a, NN a → N' a) ∧ Fr mb H1 Pf1 H4 Pf' ∧ PSr X.kw W E0 F M N' Pf' H4 Dn (forR (fun p ρ => setT tg w p ρ) body (ps.drop (i + 1)) ρ'), fun σ4 H4 z => ⟨_, by omega, rfl, z⟩, fun x H2 hy => ?_⟩
    obtain ⟨ex, r⟩ := yld x H2 hy
    have r := item_al e1 hmem r
    rw [hNN] at r
    rw [hd, forR_step] at q'
    have s2 := s'.more ex
    cases hst : setT tg w p ρ' with
    | none => rw [hst] at q'; exact q'.elim
    | some ρ1 =>
      rw [hst] at q'
      simp only at q'
      refine gT_okS (K := X.kw) s2 (r.mono (SB.mono (fun z => z) nn)) hst fun σ3 Pf3 h3 s3 => ⟨F, N', Pf3, ρ1, s3, ?_⟩
      have fr3 : Fr mb H1 Pf1 H2 Pf3 := fr.trans (Fr.ext ex fun j a z => .inl (h3 j a z))
      have q3 : PSr X.kw W E0 F M N' Pf3 H2 Dn (match body ρ1 with
        | .next ρ2 => forR (fun p ρ => setT tg w p ρ) body (ps.drop (i + 1)) ρ2
        | .cnt ρ2 => forR (fun p ρ => setT tg w p ρ) body (ps.drop (i + 1)) ρ2
        | .brk ρ2 => .next ρ2
        | .ret d => .ret d
        | .exc c ρ2 => .exc c ρ2
        | .stuck => .stuck) := q'.shift (fun _ z => z) (Fr.ext ex fun j a z => .inl (h3 j a z))
      cases hb : body ρ1 with
      | next ρ2 =>
        rw [hb] at q3
        exact fun σ4 H4 N4 P4 s4 n4 f4 => ⟨hlt, ρ2, N4, P4, s4, fun a z => n4 a (nn a z), fr3.trans f4, q3.shift n4 (f4.mono hm)⟩
      | cnt ρ2 =>
        rw [hb] at q3
        exact fun σ4 H4 N4 P4 s4 n4 f4 => ⟨hlt, ρ2, N4, P4, s4, fun a z => n4 a (nn a z), fr3.trans f4, q3.shift n4 (f4.mono hm)⟩
      | brk ρ2 =>
        rw [hb] at q3
        exact fun σ4 H4 N4 P4 s4 n4 f4 => q3 σ4 H4 N4 P4 s4 n4 (f4.mono hm)
      | ret d => rw [hb] at q3; exact q3
      | exc c ρ2 =>
        rw [hb] at q3
        exact fun σ4 H4 N4 P4 cl od s4 n4 f4 hx => q3 σ4 H4 N4 P4 cl od s4 n4 (f4.mono hm) hx
      | stuck => rw [hb] at q3; exact q3
  · have e : i = ps.length := by omega
    subst e
    rw [List.drop_length] at q'
    exact .inl ⟨wstop (Nat.le_refl _), q' σ' H' N' Pf' s' (fun _ z => z) Fr.refl⟩
theorem hs_for {tg iter : Expr} {body : List Stmt} {tg' : Tg} {k : Sk} {fs : Env → Rl} {g : Env → RS} {mb : List Nat} (hp : PassesOwn (model X.prog X.w) X.A X.env X.xe) (hc : X.calm = true) (hi : PI X tg iter (tI X.kw W k fs)) (hg : PG X tg (gT X.K tg')) (hb : PSs X body (tS X.kw W E0 mb g))
    (hm : ∀ i ∈ mb, i ∈ M) (hs : ∀ x, foldedSetIterable iter X.env x = pure x) : PS X (.For tg iter body [] pos) (tS X.kw W E0 M fun ρ => (fs ρ).bindS ρ fun ds al => match itemsR k ds al with
    | some (ps, w, al2) => if al.all (fun i => !mb.contains i) then forR (fun p ρ => setT tg' w p ρ) g ps (frz al2 ρ) else .stuck
    | none => .stuck) := by
  refine PS_imp (ps_for hp hc hi hg hb hs) fun D σ H ⟨F, N, Pf, ρ, s, q⟩ => ⟨F, N, Pf, ρ, s.e, ?_⟩
  dsimp only at q
  cases e : fs ρ with
  | exc c => rw [e] at q; exact exc_of s q
  | stuck => rw [e] at q; exact q
  | ok ds al =>
    rw [e] at q
    simp only [Rl.bindS] at q
    simp only [PW']
    cases e1 : itemsR k ds al with
    | none => rw [e1] at q; exact q
    | some z =>
      obtain ⟨ps, w, al2⟩ := z
      rw [e1] at q
      simp only at q ⊢
      split at q
      · rename_i hal
        intro xs H1 N1 P1 J R1 hl wk
        exact for_run s R1 e1 wk hm (fun i hi => by simpa using (List.all_eq_true.mp hal) i hi) q
      · exact q.elim
theorem hs_while {c : Expr} {body : List Stmt} {fc : Env → VT} {g : Env → RS} (hp : PassesOwn (model X.prog X.w) X.A X.env X.xe) (hc : HV X W c fc) (hb : PSs X body (tS X.kw W E0 M g)) :
    PS X (.While c body [] pos) (tS X.kw W E0 M fun ρ => wh (fun ρ => (fc ρ).t) g ρ) := by
  refine PS_imp (ps_while hp hc.t hb) fun D σ H ⟨F, N, Pf, ρ, s, q⟩ => ?_
  dsimp only at q
  generalize hr : wh (fun ρ => (fc ρ).t) g ρ = r at q
  have hne : r ≠ .stuck := fun z => by rw [z] at q; exact q
  obtain ⟨n0, hn0⟩ := wh_ex hr hne
  refine ⟨fun m σ' H' => ∃ ρ' N' Pf', Stt X.kw E0 F N' Pf' H' σ' ρ' ∧ PSr X.kw W E0 F M N' Pf' H' D (whN (fun ρ => (fc ρ).t) g m ρ'), ⟨n0, ρ, N, Pf, s, by rw [hn0]; exact q⟩, ?_⟩
  rintro m σ' H' ⟨ρ', N', Pf', s', q'⟩
  cases m with
  | zero => exact q'.elim
  | succ m =>
    unfold whN at q'
    refine ⟨F, N', Pf', ρ', s'.e, ?_⟩
    dsimp only at q' ⊢
    cases ec : (fc ρ').t with
    | exc c => rw [ec] at q'; exact exc_of s' q'
    | stuck => rw [ec] at q'; exact q'
    | ok b =>
      rw [ec] at q'
      intro H1 ex
      have s1 := s'.more ex
      cases b with
      | false => exact q' σ' H1 N' Pf' s1 (fun _ z => z) (Fr.more ex)
      | true =>
        simp only [if_true] at q' ⊢
        refine ⟨fun σ4 H4 => ∃ ρ' N' Pf', Stt X.kw E0 F N' Pf' H4 σ4 ρ' ∧ PSr X.kw W E0 F M N' Pf' H4 D (whN (fun ρ => (fc ρ).t) g m ρ'), fun σ4 H4 z => ⟨m, Nat.lt_succ_self m, z⟩, F, N', Pf', ρ', s1, ?_⟩
        have q1 := q'.shift (fun _ z => z) (Fr.more (M := M) (Pf := Pf') ex)
        cases hb : g ρ' with
        | next ρ2 => rw [hb] at q1; exact fun σ4 H4 N4 P4 s4 n4 f4 => ⟨ρ2, N4, P4, s4, q1.shift n4 f4⟩
        | cnt ρ2 => rw [hb] at q1; exact fun σ4 H4 N4 P4 s4 n4 f4 => ⟨ρ2, N4, P4, s4, q1.shift n4 f4⟩
        | brk ρ2 => rw [hb] at q1; exact q1
        | ret d => rw [hb] at q1; exact q1
        | exc c ρ2 => rw [hb] at q1; exact q1
        | stuck => rw [hb] at q1; exact q1
end
end Hv

/-! Hv, part 15: lists changed in place. -/
namespace Hv
open PySem PySem.Spec PyProof.Rows L2

/-- along list items -/
def Nav (K : PySem.W.Frag) (H : Hp) : V → List Int → V → Prop
  | x, [], y => x = y
  | x, j :: js, y => ∃ a xs z, x = .ref a ∧ SqL K H a xs ∧ atI xs j = some z ∧ Nav K H z js y
theorem sqlExt {k : PySem.W.Frag} {H H' : Hp} {a : Addr} {xs : List V} (h : SqL k H a xs) (e : Ext H H') : SqL k H' a xs := by
  rcases h with (h | ⟨o, h⟩) | h
  · exact .inl (.inl (e _ _ h))
  · exact .inl (.inr ⟨o, e _ _ h⟩)
  · exact .inr h
/-- all that a list edit needs -/
structure Edk (K : KW) (F N I F' N' I' : AS) (H H' : Hp) (a : Addr) : Prop where
  kp : Kp (fun b => b = a) H H'
  nt : ∀ ys, ¬ Rd H a (.tup ys)
  hF : ∀ a, F a → F' a ∨ N' a
  hN : ∀ a, N a → N' a
  hI : ∀ a, I a → I' a
  nF : ¬ F a
  nN : ¬ N a
  nI : ¬ I a
section
variable {K : KW} {F N I F' N' I' : AS} {H H' : Hp} {a : Addr}
theorem Nav.ext {k : PySem.W.Frag} (e : Ext H H') : ∀ {js : List Int} {x y : V}, Nav k H x js y → Nav k H' x js y
  | [], _, _, h => h
  | j :: js, _, _, ⟨a, xs, z, e1, l, e2, h⟩ => ⟨a, xs, z, e1, sqlExt l e, e2, Nav.ext e h⟩
theorem Nav.snoc {k : PySem.W.Frag} : ∀ {js : List Int} {j : Int} {x y : V}, Nav k H x (js ++ [j]) y → ∃ z, Nav k H x js z ∧ Nav k H z [j] y
  | [], j, x, y, h => ⟨x, rfl, h⟩
  | i :: js, j, x, y, ⟨a, xs, z, e1, l, e2, h⟩ => let ⟨w, h1, h2⟩ := Nav.snoc h; ⟨w, ⟨a, xs, z, e1, l, e2, h1⟩, h2⟩
theorem Edk.rd (k : Edk K F N I F' N' I' H H' a) {P : AS} {x : V} {d : D} (h : RD K F N I H P x d) (np : ¬ P a) : RD K F' N' I' H' P x d :=
  RD.kp k.kp k.hF k.hN k.hI (fun b z w => k.nF (w ▸ z)) (fun b z w => k.nN (w ▸ z)) (fun b z w => k.nI (w ▸ z)) (fun b ys w => w ▸ k.nt ys) h (fun _ z => z) fun b z w => np (w ▸ z)
theorem Edk.rds (k : Edk K F N I F' N' I' H H' a) {P : AS} {x : List V} {d : List D} (h : RDs K F N I H P x d) (np : ¬ P a) : RDs K F' N' I' H' P x d :=
  RDs.kp k.kp k.hF k.hN k.hI (fun b z w => k.nF (w ▸ z)) (fun b z w => k.nN (w ▸ z)) (fun b z w => k.nI (w ▸ z)) (fun b ys w => w ▸ k.nt ys) h (fun _ z => z) fun b z w => np (w ▸ z)
theorem RDs.upd : ∀ {n : Nat} {xs : List V} {ds : List D} {d : D} {Q : AS}, RDs K F N I H Q xs ds → ds[n]? = some d →
    ∃ x P1, xs[n]? = some x ∧ RD K F N I H P1 x d ∧ (∀ b, P1 b → Q b) ∧ ∀ {F' N' I' E : AS} {H' : Hp} {e' : D} {a : Addr}, P1 a → Edk K F N I F' N' I' H H' a → (∀ b, E b → ¬ Q b) →
      RD K F' N' I' H' (fun b => P1 b ∨ E b) x e' → RDs K F' N' I' H' (fun b => Q b ∨ E b) xs (ds.set n e')
  | 0, _, _, _, _, .cons (P1 := P1) (P2 := P2) h t p1 p2 dj, e => by
    injection e with e
    subst e
    refine ⟨_, P1, rfl, h, p1, fun {F' N' I' E H' e' a} pa k hE r => ?_⟩
    exact .cons (P1 := fun b => P1 b ∨ E b) (P2 := P2) r (k.rds t fun z => dj a pa z) (fun b z => z.elim (fun z => .inl (p1 b z)) .inr) (fun b z => .inl (p2 b z)) fun b z w => z.elim (fun z => dj b z w) fun z => hE b z (p2 b w)
  | n + 1, _, _, _, _, .cons (P1 := P1) (P2 := P2) h t p1 p2 dj, e => by
    obtain ⟨x, P3, e1, r, s, up⟩ := RDs.upd t (show _ from e)
    refine ⟨x, P3, e1, r, fun b z => p2 b (s b z), fun {F' N' I' E H' e' a} pa k hE r => ?_⟩
    exact .cons (P1 := P1) (P2 := fun b => P2 b ∨ E b) (k.rd h fun z => dj a z (s a pa)) (up pa k (fun b z w => hE b z (p2 b w)) r) (fun b z => .inl (p1 b z)) (fun b z => z.elim (fun z => .inl (p2 b z)) .inr) fun b z w => w.elim (dj b z) fun w => hE b w (p1 b z)
  | _, _, _, _, _, .nil, e => by cases e
/-- the list that a path leads to, and what may be laid there -/
structure Node (K : KW) (F N I : AS) (H : Hp) (f : List D → Option (List D)) (js : List Int) (P : AS) (x : V) (d' : D) (a : Addr) (xs : List V) (ds ds' : List D) (Q : AS) : Prop where
  nav : Nav K.k H x js (.ref a)
  ha : H a = some (.lst xs)
  rd : RDs K F N I H Q xs ds
  hf : f ds = some ds'
  pa : P a
  sub : ∀ b, Q b → P b
  nq : ¬ Q a
  up : ∀ {F' N' I' Q' E : AS} {H' : Hp} {xs' : List V}, Edk K F N I F' N' I' H H' a → H' a = some (.lst xs') → RDs K F' N' I' H' Q' xs' ds' → (∀ b, Q' b → Q b ∨ E b) → (∀ b, E b → ¬ P b) → RD K F' N' I' H' (fun b => P b ∨ E b) x d'
theorem RD.node {f : List D → Option (List D)} : ∀ (js : List Int) {P : AS} {x : V} {d d' : D}, RD K F N I H P x d → updD d js f = some d' → ∃ a xs ds ds' Q, Node K F N I H f js P x d' a xs ds ds' Q
  | [], _, _, .ol _, _, .ol (Q := Q) (a := a) (xs := xs) (ds := ds) p h r s q, e => by
    unfold updD at e
    split at e
    · rename_i es e2
      injection e with e
      subst e
      exact ⟨a, xs, ds, es, Q, rfl, h, r, e2, p, s, q, fun k ha r' hQ hE => .ol (.inl p) ha r' (fun b z => (hQ b z).elim (fun z => .inl (s b z)) .inr) fun z => (hQ a z).elim q fun z => hE a z p⟩
    · cases e
  | j :: js, P, _, .ol _, _, .ol (Q := Q0) (a := b) (xs := ys) (ds := es) p h r s q, e => by
    unfold updD at e
    split at e
    · rename_i n e1
      split at e
      · rename_i d1 e2
        split at e
        · rename_i d2 e3
          injection e with e
          subst e
          obtain ⟨x0, P0, e5, r0, s0, up0⟩ := RDs.upd r e2
          obtain ⟨a, xs, ds, ds', Q, nd⟩ := RD.node js r0 e3
          refine ⟨a, xs, ds, ds', Q, ⟨b, ys, x0, rfl, SqL.of h, ?_, nd.nav⟩, nd.ha, nd.rd, nd.hf, s a (s0 a nd.pa), fun c z => s c (s0 c (nd.sub c z)), nd.nq, fun {F' N' I' Q' E H' xs'} k ha' r' hQ' hE => ?_⟩
          · unfold atI
            rw [r.len, e1]
            exact e5
          · have hba : b ≠ a := fun z => q (z ▸ s0 a nd.pa)
            exact .ol (Q := fun c => Q0 c ∨ E c) (.inl p) (k.kp _ _ hba h) (up0 nd.pa k (fun c z w => hE c z (s c w)) (nd.up k ha' r' hQ' fun c z w => hE c z (s c (s0 c w)))) (fun c z => z.elim (fun z => .inl (s c z)) .inr) fun z => z.elim q fun z => hE b z p
        · cases e
      · cases e
    · cases e
  | _, _, _, .v _, _, _, e => by simp [updD] at e
  | _, _, _, .n _, _, _, e => by simp [updD] at e
  | _, _, _, .isl _, _, _, e => by simp [updD] at e
  | _, _, _, .ot _, _, _, e => by simp [updD] at e
  | _, _, _, .od _, _, _, e => by simp [updD] at e
  | _, _, _, .dead, _, _, e => by simp [updD] at e
end
/-- a change of a list's items, by items -/
def Edit (f : List D → Option (List D)) (g : List V → List V) (y : V) (d : D) : Prop := ∀ {K : KW} {F N I : AS} {H : Hp} {Q Q2 : AS} {xs : List V} {ds ds' : List D}, f ds = some ds' → RDs K F N I H Q xs ds → RD K F N I H Q2 y d → (∀ a, Q a → ¬ Q2 a) → RDs K F N I H (fun a => Q a ∨ Q2 a) (g xs) ds'
theorem edit_app {y : V} {d : D} : Edit (appF d) (fun xs => xs ++ [y]) y d := by
  intro K F N I H Q Q2 xs ds ds' e r h dj
  unfold appF at e
  split at e
  · injection e with e
    subst e
    exact RDs.append r (.cons (P2 := fun _ => False) h .nil (fun _ z => z) (fun _ z => z.elim) fun _ _ z => z) dj
  · cases e
theorem RDs.set {K : KW} {F N I : AS} {H : Hp} {y : V} {d : D} {Q2 : AS} (h : RD K F N I H Q2 y d) : ∀ {n : Nat} {xs : List V} {ds : List D} {Q : AS}, RDs K F N I H Q xs ds → (∀ a, Q a → ¬ Q2 a) → RDs K F N I H (fun a => Q a ∨ Q2 a) (xs.set n y) (ds.set n d)
  | _, _, _, _, .nil, _ => .nil
  | 0, _, _, _, .cons (P1 := P1) (P2 := P2) h0 t p1 p2 dj, hd => .cons (P1 := Q2) (P2 := P2) h t (fun _ z => .inr z) (fun a z => .inl (p2 a z)) fun a z w => hd a (p2 a w) z
  | n + 1, _, _, _, .cons (P1 := P1) (P2 := P2) h0 t p1 p2 dj, hd => .cons (P1 := P1) (P2 := fun a => P2 a ∨ Q2 a) h0 (RDs.set h t fun a z => hd a (p2 a z)) (fun a z => .inl (p1 a z)) (fun a z => z.elim (fun z => .inl (p2 a z)) .inr) fun a z w => w.elim (dj a z) (hd a (p1 a z))
theorem edit_set {j : Int} {y : V} {d : D} : Edit (setF j d) (fun xs => match ixN xs.length j with
    | some n => xs.set n y
    | none => xs) y d := by
  intro K F N I H Q Q2 xs ds ds' e r h dj
  unfold setF at e
  dsimp only
  rw [r.len]
  split at e
  · rename_i n e1
    injection e with e
    subst e
    try simp only [e1]
    exact RDs.set h r dj
  · cases e
section
variable {K : KW} {E0 : Hp} {F : AS} {M : List Nat} {N : AS} {Pf : Nat → AS} {H H1 H2 : Hp} {σ : L2.St} {ρ : Env} {f : List D → Option (List D)}
/-- a slot's list, a path along: where it lies, and the slots behind its change -/
theorem Stt.edit {i : Nat} {e e' : D} {js : List Int} (s : Stt K E0 F N Pf H σ ρ) (h0 : ρ[i]? = some (some e)) (hu : updD e js f = some e') :
    ∃ x a xs ds ds', σ[i]? = some (some x) ∧ Nav K.k H x js (.ref a) ∧ H a = some (.lst xs) ∧ xs.length = ds.length ∧ f ds = some ds' ∧
      ∀ {al : Al} {H2 : Hp} {Nv Pv : AS} {y : V} {d : D} {g : List V → List V}, i ∉ al → Res K F N Pf H al H2 Nv Pv y d → Edit f g y d → i ∈ M →
        ∃ N' Pf', Stt K E0 F N' Pf' (upd H2 a (.lst (g xs))) σ ((Hv.frz al ρ).set i (some e')) ∧ (∀ a, N a → N' a) ∧ Fr M H Pf (upd H2 a (.lst (g xs))) Pf' := by
  obtain ⟨x, e1, I1, Q1, r, hi1, hq1, hd1⟩ := s.rep i e h0
  obtain ⟨a, xs, ds, ds', Q, nd⟩ := RD.node js r hu
  refine ⟨x, a, xs, ds, ds', e1, nd.nav, nd.ha, nd.rd.len, nd.hf, fun {al H2 Nv Pv y d g} hal R ed hM => ?_⟩
  have pfa : Pf i a := hq1 a nd.pa
  obtain ⟨pa1, pa2, pa3⟩ := s.prv i a pfa
  have ha2 : H2 a = some (.lst xs) := R.ext _ _ nd.ha
  have nt : ∀ ys, ¬ Rd H a (.tup ys) := fun ys w => by rcases w with w | ⟨o, w⟩ <;> (rw [nd.ha] at w; cases w)
  have nt2 : ∀ ys, ¬ Rd H2 a (.tup ys) := fun ys w => by rcases w with w | ⟨o, w⟩ <;> (rw [ha2] at w; cases w)
  obtain ⟨I2, Q2, r2, hi2, hq2, hd2⟩ := R.rd
  have fresh : ∀ b, Pv b → b ≠ a := fun b z w => pa3 (w ▸ (R.pv b z).1)
  have kp2 : Kp (fun b => b = a) H2 (upd H2 a (.lst (g xs))) := fun b o hb e => by rw [upd_ne hb]; exact e
  have kp : Kp (fun b => b = a) H (upd H2 a (.lst (g xs))) := fun b o hb e => kp2 b o hb (R.ext b o e)
  have nFa : ¬ F a := fun z => s.old a z pa2
  have nNa : ¬ (N a ∨ (∃ i, i ∈ al ∧ Pf i a) ∨ Nv a) := fun z => by
    rcases z with z | ⟨j, hj, z⟩ | z
    · exact pa1 z
    · exact hal (s.dis j i a z pfa ▸ hj)
    · exact pa3 (R.nv a z).1
  have k1 : Edk K F N I1 F (fun a => N a ∨ (∃ i, i ∈ al ∧ Pf i a) ∨ Nv a) (fun b => I1 b ∨ I2 b) H (upd H2 a (.lst (g xs))) a :=
    ⟨kp, nt, fun _ z => .inl z, fun _ z => .inl z, fun _ z => .inl z, nFa, fun z => pa1 z, fun z => hd1 a z nd.pa⟩
  have k2 : Edk K F (fun a => N a ∨ (∃ i, i ∈ al ∧ Pf i a) ∨ Nv a) I2 F (fun a => N a ∨ (∃ i, i ∈ al ∧ Pf i a) ∨ Nv a) (fun b => I1 b ∨ I2 b) H2 (upd H2 a (.lst (g xs))) a :=
    ⟨kp2, nt2, fun _ z => .inl z, fun _ z => z, fun _ z => .inr z, nFa, nNa, fun z => fresh a (hi2 a z) rfl⟩
  have old : ∀ b, Q1 b → ¬ Pv b := fun b z w => (s.prv i b (hq1 b z)).2.2 (R.pv b w).1
  have rn := nd.up (E := Q2) k1 upd_same (ed nd.hf (k1.rds nd.rd nd.nq) (k2.rd r2 fun z => fresh a (hq2 a z) rfl) fun b z w => old b (nd.sub b z) (hq2 b w)) (fun b z => z) fun b z w => old b w (hq2 b z)
  have sj := s.join R
  refine ⟨fun a => N a ∨ (∃ i, i ∈ al ∧ Pf i a) ∨ Nv a, fun j b => (j = i ∧ (Pf i b ∨ Pv b)) ∨ (j ≠ i ∧ (j ∉ al ∧ Pf j b)), ⟨?_, fun j d hj => ?_, fun j k b p q => ?_, fun j b p => ?_, fun b z => ?_, s.old, fun b o z => ?_⟩, fun _ z => .inl z, ⟨fun b o z w => ?_, fun b z => ?_, fun j b z => ?_⟩⟩
  · rw [List.length_set]; exact sj.len
  · by_cases hji : i = j
    · subst hji
      have hi : i < (Hv.frz al ρ).length := by
        have := (List.getElem?_eq_some_iff.mp hj).1
        simpa using this
      rw [List.getElem?_set_self hi] at hj
      injection hj with hj; injection hj with hj
      subst hj
      refine ⟨x, e1, fun b => I1 b ∨ I2 b, fun b => Q1 b ∨ Q2 b, rn, fun b z => .inl ⟨rfl, z.elim (fun z => .inl (hi1 b z)) fun z => .inr (hi2 b z)⟩, fun b z => .inl ⟨rfl, z.elim (fun z => .inl (hq1 b z)) fun z => .inr (hq2 b z)⟩, fun b z w => ?_⟩
      rcases z with z | z <;> rcases w with w | w
      · exact hd1 b z w
      · exact (s.prv i b (hi1 b z)).2.2 (R.pv b (hq2 b w)).1
      · exact old b w (hi2 b z)
      · exact hd2 b z w
    · rw [List.getElem?_set_ne hji] at hj
      obtain ⟨z, e3, rz⟩ := sj.rep j d hj
      refine ⟨z, e3, rz.kp kp2 (fun _ z => .inl z) (fun _ z => z) (fun b z w => nFa (w ▸ z)) (fun b z w => nNa (w ▸ z)) (fun b ys w => w ▸ nt2 ys) (fun b z => .inr ⟨Ne.symm hji, z⟩) fun b z w => hji (s.dis i j b (w ▸ pfa) z.2)⟩
  · rcases p with ⟨p, z⟩ | ⟨p, _, z⟩ <;> rcases q with ⟨q, w⟩ | ⟨q, _, w⟩
    · rw [p, q]
    · rcases z with z | z
      · exact absurd (s.dis k i b w z) q
      · exact absurd (R.pv b z).1 (s.prv k b w).2.2
    · rcases w with w | w
      · exact absurd (s.dis j i b z w) p
      · exact absurd (R.pv b w).1 (s.prv j b z).2.2
    · exact s.dis j k b z w
  · have hne : ∀ {b}, H2 b ≠ none → upd H2 a (.lst (g xs)) b ≠ none := fun {b} z => by
      by_cases hb : b = a
      · rw [hb, upd_same]; exact nofun
      · rw [upd_ne hb]; exact z
    rcases p with ⟨p, z | z⟩ | ⟨p, hz, z⟩
    · refine ⟨fun w => ?_, (s.prv i b z).2.1, hne (R.ext.ne (s.prv i b z).2.2)⟩
      rcases w with w | ⟨k, hk, w⟩ | w
      · exact (s.prv i b z).1 w
      · exact hal (s.dis k i b w z ▸ hk)
      · exact (s.prv i b z).2.2 (R.nv b w).1
    · refine ⟨fun w => ?_, s.ext.none (R.pv b z).1, hne (R.pv b z).2⟩
      rcases w with w | ⟨k, hk, w⟩ | w
      · exact (s.new b w).2 (R.pv b z).1
      · exact (s.prv k b w).2.2 (R.pv b z).1
      · exact (R.nv b w).2.2 z
    · obtain ⟨q1, q2, q3⟩ := sj.prv j b ⟨hz, z⟩
      exact ⟨q1, q2, hne q3⟩
  · obtain ⟨q1, q2⟩ := sj.new b z
    refine ⟨q1, ?_⟩
    by_cases hb : b = a
    · rw [hb, upd_same]; exact nofun
    · rw [upd_ne hb]; exact q2
  · have hb : b ≠ a := fun w => by rw [w, pa2] at z; cases z
    rw [upd_ne hb]
    exact sj.ext b o z
  · have hb : b ≠ a := fun y => by
      subst y
      rcases w with w | w
      · exact w i hM pfa
      · rw [nd.ha] at z
        injection z with z
        exact w xs z.symm
    rw [upd_ne hb]
    exact R.ext b o z
  · by_cases hb : b = a
    · rw [hb, upd_same]; exact nofun
    · rw [upd_ne hb]; exact R.ext.ne z
  · rcases z with ⟨rfl, z | z⟩ | ⟨_, _, z⟩
    · exact .inl z
    · exact .inr (R.pv b z).1
    · exact .inl z
end
end Hv

/-! Hv, part 16: paths; append; an item set; raise. -/
namespace Hv
open PySem PySem.Spec PyProof.Rows L2

def unsub : Expr → Expr × List Expr
  | .Subscript o i _ => ((unsub o).1, (unsub o).2 ++ [i])
  | e => (e, [])
theorem seqR_snoc : ∀ (vs : List VT) (v : VT), seqR (vs ++ [v]) = (seqR vs).bindL fun ds al => v.e.bindL fun d bl => .ok (ds ++ [d]) (al ++ bl)
  | [], v => by
    show (v.e.bindL fun d al => (seqR []).bindL fun ds bl => .ok (d :: ds) (al ++ bl)) = v.e.bindL fun d bl => .ok ([] ++ [d]) ([] ++ bl)
    cases v.e with
    | ok d al => simp [R.bindL, seqR, Rl.bindL]
    | _ => rfl
  | u :: vs, v => by
    show (u.e.bindL fun d al => (seqR (vs ++ [v])).bindL fun ds bl => .ok (d :: ds) (al ++ bl)) = (u.e.bindL fun d al => (seqR vs).bindL fun ds bl => .ok (d :: ds) (al ++ bl)).bindL fun ds al => v.e.bindL fun d bl => .ok (ds ++ [d]) (al ++ bl)
    rw [seqR_snoc vs v]
    cases u.e with
    | ok d al =>
      simp only [R.bindL]
      cases seqR vs with
      | ok ds bl =>
        simp only [Rl.bindL]
        cases v.e with
        | ok e cl => simp [R.bindL, Rl.bindL]
        | _ => rfl
      | _ => rfl
    | _ => rfl
section
variable {X : Cx} {W : WX} {pos : Pos}
theorem HVs.snoc : ∀ {l : List Expr} {i : Expr} {fs : Env → List VT}, HVs X W (l ++ [i]) fs → ∃ gs g, HVs X W l gs ∧ HV X W i g ∧ fs = fun ρ => gs ρ ++ [g ρ]
  | [], i, _, .cons h .nil => ⟨_, _, .nil, h, rfl⟩
  | e :: l, i, _, .cons h t => by
    obtain ⟨gs, g, h1, h2, rfl⟩ := HVs.snoc t
    exact ⟨_, g, .cons h h1, h2, rfl⟩
theorem datas_snoc : ∀ {ds : List D} {d : D} {ps : List PyData}, datas (ds ++ [d]) = some ps → ∃ qs p, datas ds = some qs ∧ data d = some p ∧ ps = qs ++ [p]
  | [], d, ps, h => by
    simp only [List.nil_append, datas] at h
    cases e : data d with
    | none => rw [e] at h; cases h
    | some p => rw [e] at h; injection h with h; exact ⟨[], p, rfl, rfl, h.symm⟩
  | e :: ds, d, ps, h => by
    simp only [List.cons_append, datas] at h
    cases e1 : data e with
    | none => rw [e1] at h; cases h
    | some q =>
      cases e2 : datas (ds ++ [d]) with
      | none => rw [e1, e2] at h; cases h
      | some qs =>
        rw [e1, e2] at h
        injection h with h
        obtain ⟨qs', p, h1, h2, rfl⟩ := datas_snoc e2
        exact ⟨q :: qs', p, by simp only [datas, e1, h1], h2, h.symm⟩
theorem intsOf_snoc : ∀ {qs : List PyData} {p : PyData} {js : List Int}, intsOf (qs ++ [p]) = some js → ∃ is j, intsOf qs = some is ∧ p = .int j ∧ js = is ++ [j]
  | [], p, js, h => by
    cases p with
    | int j =>
      simp only [List.nil_append, intsOf, Option.map_some, Option.some.injEq] at h
      exact ⟨[], j, rfl, rfl, h.symm⟩
    | _ => simp [intsOf] at h
  | q :: qs, p, js, h => by
    cases q with
    | int i =>
      simp only [List.cons_append, intsOf] at h
      cases e : intsOf (qs ++ [p]) with
      | none => rw [e] at h; cases h
      | some ks =>
        rw [e] at h
        simp only [Option.map_some, Option.some.injEq] at h
        obtain ⟨is, j, h1, h2, rfl⟩ := intsOf_snoc e
        exact ⟨i :: is, j, by simp [intsOf, h1], h2, h.symm⟩
    | _ => simp [intsOf] at h
theorem jsOf_snoc {ds : List D} {d : D} {js : List Int} (h : jsOf (ds ++ [d]) = some js) : ∃ is j, jsOf ds = some is ∧ data d = some (.int j) ∧ js = is ++ [j] := by
  unfold jsOf at h
  split at h
  · rename_i ps e
    obtain ⟨qs, p, h1, h2, rfl⟩ := datas_snoc e
    obtain ⟨is, j, h3, rfl, h4⟩ := intsOf_snoc h
    exact ⟨is, j, by unfold jsOf; rw [h1]; exact h3, h2, h4⟩
  · cases h
/-- what is owed where a path is gone -/
def tNav (K : KW) (W : WX) (i : Nat) (fs : Env → List VT) : TE := fun σ H Q => ∃ F N Pf ρ, StE K F N Pf H σ ρ ∧ ∃ x0 js y, σ[i]? = some (some x0) ∧ pathJ (seqR (fs ρ)) = some js ∧ Nav K.k H x0 js y ∧ ∀ H1, Ext H H1 → Q y H1
theorem pe_nav {i : Nat} {x : Str} {p : Pos} (hN : X.N[i]? = some x) (hv : Vis X.env.scope x) (hd : (x == ("__debug__" : Str)) = false) (hc : (x == ("__classdict__" : Str)) = false) :
    ∀ (ex : Expr) {fs : Env → List VT}, (unsub ex).1 = .Name x p → HVs X W (unsub ex).2 fs → PE X ex (tNav X.kw W i fs) := by
  intro ex fs h hs
  cases ex with
  | Subscript o ix _ =>
    obtain ⟨gs, g, h1, h2, rfl⟩ := HVs.snoc (show HVs X W ((unsub o).2 ++ [ix]) fs from hs)
    refine PE_imp (pe_ix ix_list (pe_nav hN hv hd hc o h h1) h2.e h2.p.px) fun σ H Q ⟨F, N, Pf, ρ, S, q⟩ => ⟨F, N, Pf, ρ, S, ?_⟩
    obtain ⟨x0, js, y, k1, k2, k3, k4⟩ := q
    rw [seqR_snoc] at k2
    cases e1 : seqR (gs ρ) with
    | exc c => rw [e1] at k2; cases k2
    | stuck => rw [e1] at k2; cases k2
    | ok ds al =>
      rw [e1] at k2
      simp only [Rl.bindL] at k2
      cases e2 : (g ρ).e with
      | exc c => rw [e2] at k2; cases k2
      | stuck => rw [e2] at k2; cases k2
      | ok d bl =>
        rw [e2] at k2
        simp only [R.bindL, pathJ] at k2
        obtain ⟨is, j, j1, j2, rfl⟩ := jsOf_snoc k2
        obtain ⟨z, n1, a, xs, w, rfl, l, e3, rfl⟩ := k3.snoc
        refine ⟨x0, is, _, k1, j1, n1, fun H1 ex => ⟨F, N, Pf, ρ, S.more ex, ?_⟩⟩
        try dsimp only
        rw [e2]
        intro v H2 N2 P2 R
        have r := R.dat j2 Ext.refl
        cases r
        exact ⟨a, xs, j, w, rfl, rfl, sqlExt l (ex.trans R.ext), e3, k4 H2 (ex.trans R.ext)⟩
  | Name _ _ =>
    injection h with h1 h2
    subst h1 h2
    cases hs
    refine PE_imp (pe_var hN hv hd hc) fun σ H Q ⟨F, N, Pf, ρ, S, q⟩ => ?_
    obtain ⟨x0, js, y, k1, k2, k3, k4⟩ := q
    injection k2 with k2
    subst k2
    have k3 : x0 = y := k3
    subst k3
    exact ⟨x0, k1, k4 H Ext.refl⟩
  | _ => cases h
end
section
variable {X : Cx} {W : WX} {pos : Pos} {E0 : Hp} {M : List Nat}
theorem Res.more {K : KW} {F N : AS} {Pf : Nat → AS} {H H1 H2 : Hp} {al : Al} {Nv Pv : AS} {y : V} {d : D} (R : Res K F N Pf H al H1 Nv Pv y d) (e : Ext H1 H2) : Res K F N Pf H al H2 Nv Pv y d :=
  ⟨R.ext.trans e, R.rd.ext e (fun _ z => .inl z) (fun _ z => z) fun _ z => z, fun a z => let ⟨p, q, r⟩ := R.nv a z; ⟨p, e.ne q, r⟩, fun a z => let ⟨p, q⟩ := R.pv a z; ⟨p, e.ne q⟩⟩
theorem updR_inv {K : KW} {F N : AS} {Pf : Nat → AS} {H : Hp} {Dn : Ends} {i : Nat} {js : List Int} {f : List D → Option (List D)} {al : Al} {ρ : Env} (q : PSr K W E0 F M N Pf H Dn (updR i js f al ρ)) :
    ∃ e e', ρ[i]? = some (some e) ∧ updD e js f = some e' ∧ i ∉ al ∧ PSr K W E0 F M N Pf H Dn (.next ((frz al ρ).set i (some e'))) := by
  unfold updR at q
  split at q
  · rename_i e e0
    split at q
    · rename_i e' e1
      split at q
      · exact q.elim
      · rename_i hal
        exact ⟨e, e', e0, e1, by simpa using hal, q⟩
    · exact q.elim
  · exact q.elim
theorem okP_inv {i : Nat} {js : List Int} {ρ : Env} (h : okP i js ρ = true) : ∃ e e', ρ[i]? = some (some e) ∧ updD e js some = some e' := by
  unfold okP at h
  split at h
  · rename_i e e0
    obtain ⟨e', h⟩ := Option.isSome_iff_exists.mp h
    exact ⟨e, e', e0, h⟩
  · cases h
theorem hs_app {o e : Expr} {i : Nat} {x : Str} {p apos cpos : Pos} {fs : Env → List VT} {fe : Env → VT} (hN : X.N[i]? = some x) (hv : Vis X.env.scope x) (hd : (x == ("__debug__" : Str)) = false) (hc : (x == ("__classdict__" : Str)) = false)
    (ho : (unsub o).1 = .Name x p) (hs : HVs X W (unsub o).2 fs) (he : HV X W e fe) (hb : attributeBase o "append" X.env (eval o X.env) = eval o X.env) (hl : (apos.endLine == cpos.line) = true) (hM : i ∈ M) :
    PS X (.Expr (.Call (.Attribute o "append" apos) [e] [] cpos) pos) (tS X.kw W E0 M fun ρ => appR i (pathJ (seqR (fs ρ))) (fe ρ).e ρ) := by
  have hst : starEach [e] X.env = [(false, eval e X.env)] := he.p.st _ _
  refine PS_imp (ps_expr (pe_bm PySem.F.plainAttrs_list PySem.F.slot_list_append PySem.F.type_list_append mt_append (pe_nav hN hv hd hc o ho hs) (pa_cons he.e pa_nil hst) hb (by rw [hst]; rfl) hl hst rfl)) fun D σ H ⟨F, N, Pf, ρ, s, q⟩ => ⟨F, N, Pf, ρ, s.e, ?_⟩
  dsimp only at q
  cases e1 : pathJ (seqR (fs ρ)) with
  | none => rw [e1] at q; exact q.elim
  | some js =>
    rw [e1] at q
    simp only [appR] at q
    cases e2 : (fe ρ).e with
    | stuck => rw [e2] at q; exact q.elim
    | exc c =>
      rw [e2] at q
      simp only at q
      split at q
      · rename_i hk
        obtain ⟨e, e', k1, k2⟩ := okP_inv hk
        obtain ⟨x0, a, xs, ds, ds', k3, k4, k5, k6, k7, _⟩ := s.edit (M := M) k1 k2
        refine ⟨x0, js, _, k3, rfl, k4, fun H1 ex => ⟨.inl ⟨rfl, xs, SqL.of (ex _ _ k5)⟩, F, N, Pf, ρ, s.e.more ex, ?_⟩⟩
        try dsimp only
        rw [e2]
        exact fun H' cl od he hx => exc_of s q H' cl od (ex.trans he) hx
      · exact q.elim
    | ok d al =>
      rw [e2] at q
      obtain ⟨e, e', k1, k2, hal, q⟩ := updR_inv q
      obtain ⟨x0, a, xs, ds, ds', k3, k4, k5, k6, k7, up⟩ := s.edit (M := M) k1 k2
      refine ⟨x0, js, _, k3, rfl, k4, fun H1 ex => ⟨.inl ⟨rfl, xs, SqL.of (ex _ _ k5)⟩, F, N, Pf, ρ, s.e.more ex, ?_⟩⟩
      try dsimp only
      rw [e2]
      intro y H2 N2 P2 R
      have hlen : xs.length < sizeLine := by
        unfold appF at k7
        split at k7
        · rename_i hz
          rw [k6, sizeLine_eq]
          exact hz
        · cases k7
      obtain ⟨N', Pf', s', n, fr⟩ := up (g := fun xs => xs ++ [y]) hal (Res.later ex R) edit_app hM
      exact ⟨a, xs, y, rfl, rfl, R.ext _ _ (ex _ _ k5), hlen, q _ _ _ _ s' n fr⟩
theorem hs_seti {o ix e : Expr} {i : Nat} {x : Str} {p tpos : Pos} {fs : Env → List VT} {fx fe : Env → VT} (hN : X.N[i]? = some x) (hv : Vis X.env.scope x) (hd : (x == ("__debug__" : Str)) = false) (hc : (x == ("__classdict__" : Str)) = false)
    (ho : (unsub o).1 = .Name x p) (hs : HVs X W (unsub o).2 fs) (hx : HV X W ix fx) (he : HV X W e fe) (hM : i ∈ M) (hcm : isComp e = false)
    (ha : ∀ v, assign (.Subscript o ix tpos) X.env v = (do
      let ov ← holding [v] (eval o X.env)
      let iv ← holding [v, ov] (eval ix X.env)
      standAt tpos
      holding [v, ov, iv] (setItem ov iv v)
      release [v, ov, iv] [])) :
    PS X (.Assign [.Subscript o ix tpos] e pos) (tS X.kw W E0 M fun ρ => (fe ρ).e.bindS ρ fun d al => setR i (pathJ (seqR (fs ρ))) (fx ρ).e d al ρ) := by
  refine PS_imp (ps_asg he.e (pg_sub (pe_nav hN hv hd hc o ho hs) hx.e set_list ha) (show swapsWith e (some (.Subscript o ix tpos)) pos.line X.env = pure false from sw0 hcm) (by cases e <;> rfl) rfl) fun D σ H ⟨F, N, Pf, ρ, s, q⟩ => ⟨F, N, Pf, ρ, s.e, tS_e s q fun y d al H1 N1 P1 _ R q => ?_⟩
  have s1 := s.more R.ext
  refine ⟨F, N, Pf, ρ, s1.e, ?_⟩
  cases e1 : pathJ (seqR (fs ρ)) with
  | none => rw [e1] at q; exact q.elim
  | some js =>
    rw [e1] at q
    simp only [setR] at q
    cases e2 : (fx ρ).e with
    | stuck => rw [e2] at q; exact q.elim
    | exc c =>
      rw [e2] at q
      simp only at q
      split at q
      · rename_i hk
        obtain ⟨e, e', k1, k2⟩ := okP_inv hk
        obtain ⟨x0, a, xs, ds, ds', k3, k4, k5, k6, k7, _⟩ := s1.edit (M := M) k1 k2
        refine ⟨x0, js, _, k3, rfl, k4, fun H2 ex => ⟨F, N, Pf, ρ, s1.e.more ex, ?_⟩⟩
        try dsimp only
        rw [e2]
        exact fun H' cl od he hx => exc_of s q H' cl od (R.ext.trans (ex.trans he)) hx
      · exact q.elim
    | ok j bl =>
      rw [e2] at q
      simp only at q
      split at q
      · rename_i j0 e3
        obtain ⟨e, e', k1, k2, hal, q⟩ := updR_inv q
        obtain ⟨x0, a, xs, ds, ds', k3, k4, k5, k6, k7, up⟩ := s.edit (M := M) k1 k2
        refine ⟨x0, js, _, k3, rfl, k4.ext R.ext, fun H2 ex => ⟨F, N, Pf, ρ, s1.e.more ex, ?_⟩⟩
        try dsimp only
        rw [e2]
        intro z H3 N3 P3 R3
        have r := R3.dat e3 Ext.refl
        cases r
        have ex3 := ex.trans R3.ext
        obtain ⟨N', Pf', s', n', fr⟩ := up (g := fun xs => match ixN xs.length j0 with
          | some n => xs.set n y
          | none => xs) hal (R.more ex3) edit_set hM
        cases e4 : ixN xs.length j0 with
        | none =>
          unfold setF at k7
          rw [← k6, e4] at k7
          cases k7
        | some n =>
          refine ⟨a, xs, j0, n, rfl, rfl, ex3 _ _ (R.ext _ _ k5), e4, ?_⟩
          have := q _ _ _ _ s' n' fr
          simpa [e4] using this
      · exact q.elim
theorem hs_raise {e : Expr} {c : Str} (hc : X.calm = true) (tk : Takes X W) (he : PMk X e (fun _ H Q => Q (.ref (He.ga X.K c)) none H)) : PS X (.Raise (some e) none pos) (tS X.kw W E0 M fun ρ => .exc c ρ) :=
  PS_imp (ps_raise hc tk he) fun D σ H ⟨F, N, Pf, ρ, s, q⟩ => exc_of s q H _ _ Ext.refl ⟨rfl, rfl⟩
theorem RDs.erase {K : KW} {F N I : AS} {H : Hp} : ∀ {n : Nat} {xs : List V} {ds : List D} {Q : AS}, RDs K F N I H Q xs ds → RDs K F N I H Q (xs.eraseIdx n) (ds.eraseIdx n)
  | _, _, _, _, .nil => by simpa using .nil
  | 0, _, _, _, .cons h t a b c => RDs.ext t Ext.refl (fun _ z => .inl z) (fun _ z => z) (fun _ z => z) b
  | n + 1, _, _, _, .cons h t a b c => .cons h (RDs.erase t) a b c
theorem RDs.more {K : KW} {F N I : AS} {H : Hp} {Q Q' : AS} {xs : List V} {ds : List D} (h : RDs K F N I H Q xs ds) (q : ∀ a, Q a → Q' a) : RDs K F N I H Q' xs ds := h.ext Ext.refl (fun _ z => .inl z) (fun _ z => z) (fun _ z => z) q
theorem popF_inv {n : Int} {ds ds' : List D} (h : popF n ds = some ds') : 0 ≤ n ∧ n.toNat < ds.length ∧ ds' = ds.eraseIdx n.toNat ∧ (∃ p, ds[n.toNat]? = some (.v p) ∧ mutD p = false) ∧ ds.length ≤ SZ := by
  unfold popF at h
  split at h
  · rename_i c
    split at h
    · rename_i p e
      split at h
      · cases h
      · rename_i m
        injection h with h
        exact ⟨c.1, by omega, h.symm, ⟨p, e, by simpa using m⟩, c.2.2⟩
    · cases h
  · cases h
theorem edit_pop {n : Int} {y : V} {d : D} : Edit (popF n) (fun xs => xs.eraseIdx n.toNat) y d := by
  intro K F N I H Q Q2 xs ds ds' e r h dj
  obtain ⟨_, _, rfl, _⟩ := popF_inv e
  exact (RDs.erase r).more fun a z => .inl z
theorem hs_appPop {e : Expr} {i j : Nat} {x y : Str} {p p' apos cpos apos2 cpos2 : Pos} {fe : Env → VT} (hN : X.N[i]? = some x) (hv : Vis X.env.scope x) (hd : (x == ("__debug__" : Str)) = false) (hc : (x == ("__classdict__" : Str)) = false)
    (hN2 : X.N[j]? = some y) (hv2 : Vis X.env.scope y) (hd2 : (y == ("__debug__" : Str)) = false) (hc2 : (y == ("__classdict__" : Str)) = false) (he : HV X W e fe) (hl : (apos.endLine == cpos.line) = true) (hl2 : (apos2.endLine == cpos2.line) = true) (hM : i ∈ M) (hM2 : j ∈ M) :
    PS X (.Expr (.Call (.Attribute (.Name x p) "append" apos) [.Call (.Attribute (.Name y p') "pop" apos2) [e] [] cpos2] [] cpos) pos) (tS X.kw W E0 M fun ρ => appPopR i j (fe ρ).e ρ) := by
  have hst : starEach [e] X.env = [(false, eval e X.env)] := he.p.st _ _
  have pop := pe_bm (apos := apos2) (cpos := cpos2) PySem.F.plainAttrs_list PySem.F.slot_list_pop PySem.F.type_list_pop (mt_popAt (X := X)) (pe_var (pos := p') hN2 hv2 hd2 hc2) (pa_cons he.e pa_nil hst) rfl (by rw [hst]; rfl) hl2 hst rfl
  refine PS_imp (ps_expr (pe_bm PySem.F.plainAttrs_list PySem.F.slot_list_append PySem.F.type_list_append mt_append (pe_var hN hv hd hc) (pa_cons pop pa_nil rfl) rfl rfl hl rfl rfl)) fun D σ H ⟨F, N, Pf, ρ, s, q⟩ => ?_
  have q : PSr X.kw W E0 F M N Pf H D (appPopR i j (fe ρ).e ρ) := q
  unfold appPopR at q
  cases e2 : (fe ρ).e with
  | stuck => rw [e2] at q; exact q.elim
  | exc c =>
    rw [e2] at q
    simp only at q
    split at q
    · rename_i hk
      rw [Bool.and_eq_true] at hk
      obtain ⟨o1, o1', k1, k2⟩ := okP_inv hk.1
      obtain ⟨o2, o2', k3, k4⟩ := okP_inv hk.2
      obtain ⟨x0, a, xs, ds, ds', h1, h2, h3, _⟩ := s.edit (M := M) k1 k2
      obtain ⟨y0, b, ys, es, es', g1, g2, g3, _⟩ := s.edit (M := M) k3 k4
      cases h2
      cases g2
      refine ⟨_, h1, .inl ⟨rfl, xs, SqL.of h3⟩, _, g1, .inl ⟨rfl, ys, SqL.of g3⟩, F, N, Pf, ρ, s.e, ?_⟩
      try dsimp only
      rw [e2]
      exact exc_of s q
    · exact q.elim
  | ok d al =>
    rw [e2] at q
    simp only at q
    split at q
    · rename_i n en
      split at q
      · rename_i ds k3
        split at q
        · rename_i ds' ep
          obtain ⟨n0, n1, rfl, ⟨v, ev, mv⟩, nsz⟩ := popF_inv ep
          have epp : popP n ds = some v := by unfold popP; rw [ev]
          rw [epp] at q
          simp only at q
          split at q
          · exact q.elim
          · rename_i hij
            have k4 : updD (.ol ds) [] (popF n) = some (.ol (ds.eraseIdx n.toNat)) := by simp only [updD, ep]
            obtain ⟨y0, b, ys, es, es', g1, g2, g3, g4, g5, up⟩ := s.edit (M := M) k3 k4
            cases g2
            obtain ⟨o1, o1', k1, k2, _, q⟩ := updR_inv q
            have k1' : ρ[i]? = some (some o1) := by rw [List.getElem?_set_ne (Ne.symm hij)] at k1; exact k1
            obtain ⟨x0, a, xs, _, _, h1, h2, h3, _⟩ := s.edit (M := M) k1' k2
            cases h2
            refine ⟨_, h1, .inl ⟨rfl, xs, SqL.of h3⟩, _, g1, .inl ⟨rfl, ys, SqL.of g3⟩, F, N, Pf, ρ, s.e, ?_⟩
            try dsimp only
            rw [e2]
            intro w H1 N1 P1 R
            have rw1 := R.dat en Ext.refl
            cases rw1
            have hb1 : H1 b = some (.lst ys) := R.ext _ _ g3
            have R0 : Res X.kw F N Pf H [] H1 (fun _ => False) (fun _ => False) .non (.v .none) := Res.scal (S := fun _ => False) R.ext .non rfl
            obtain ⟨N2, Pf2, s2, m2, fr2⟩ := up (g := fun zs => zs.eraseIdx n.toNat) (by simp) R0 edit_pop hM2
            obtain ⟨z0, e0, I0, Q0, r0, _⟩ := s.rep j _ k3
            rw [g1] at e0
            injection e0 with e0
            injection e0 with e0
            subst e0
            have hw : ∃ w, ys[n.toNat]? = some w ∧ Rp X.kw (fun _ => False) H1 w v := by
              cases r0 with
              | ol _ hH rds _ _ =>
                rw [g3] at hH
                injection hH with hH
                injection hH with hH
                subst hH
                obtain ⟨w, hw, rw0⟩ := rds.get ev
                cases rw0 with
                | v rp => exact ⟨w, hw, (rp.imm (S' := fun _ => False) mv).ext R.ext fun _ z => z⟩
            obtain ⟨w, hw, rp⟩ := hw
            have hlt : n.toNat < ys.length := (List.getElem?_eq_some_iff.mp hw).1
            have hidx : seqIndex? n ys.length = some n.toNat := PySem.seqIndex_of n0 (by omega)
            have hsz : ds.length ≤ 16777216 := nsz
            have hn63 : n < 2 ^ 63 := by omega
            refine ⟨b, ys, n, n.toNat, w, rfl, rfl, hb1, by omega, hn63, hidx, hw, ?_⟩
            have rp2 : Rp X.kw (fun _ => False) (upd H1 b (.lst (ys.eraseIdx n.toNat))) w v := Rp.kp (Z := fun a => a = b) (fun a o ha e => by rw [upd_ne ha]; exact e) (fun _ z => z) (fun _ z => z.elim) (fun c zs hc hz => by
              subst hc
              rcases hz with hz | ⟨o, hz⟩ <;> (rw [hb1] at hz; cases hz)) rp
            have R2 : Res X.kw F N2 Pf2 (upd H1 b (.lst (ys.eraseIdx n.toNat))) [] (upd H1 b (.lst (ys.eraseIdx n.toNat))) (fun _ => False) (fun _ => False) w (.v v) := Res.imm rp2
            obtain ⟨x1, a1, xs1, ds1, ds1', q1, q2, q3, q4, q5, up2⟩ := s2.edit (M := M) k1 k2
            cases q2
            have hx : a = a1 := by
              rw [h1] at q1
              injection q1 with q1
              injection q1 with q1
              injection q1
            subst hx
            obtain ⟨N3, Pf3, s3, m3, fr3⟩ := up2 (g := fun zs => zs ++ [w]) (by simp) R2 edit_app hM
            have hlen : xs1.length < sizeLine := by
              unfold appF at q5
              split at q5
              · rename_i hz
                rw [q4, sizeLine_eq]
                exact hz
              · cases q5
            exact ⟨a, xs1, w, rfl, rfl, q3, hlen, q _ _ _ _ s3 (fun c z => m3 c (m2 c z)) (fr2.trans fr3)⟩
        · exact q.elim
      · exact q.elim
    · exact q.elim
end
end Hv

/-! Hv, part T: try with several clauses, each with a name or without. -/
namespace Hv
open PySem PySem.Spec PyProof.Rows L2

/-- a clause: its class, the slot of its name, its suite -/
structure Cls where
  c : Value
  o : Option Nat
  ts : Addr → Value → Option Addr → TS
def bindA (o : Option Nat) (a : Addr) (σ : L2.St) : L2.St := match o with
  | some i => σ.set i (some (.ref a))
  | none => σ
def gone (o : Option Nat) (σ : L2.St) : L2.St := match o with
  | some i => σ.set i none
  | none => σ
def endA (o : Option Nat) (D : Ends) : Ends where
  nx := fun σ H => D.nx (gone o σ) H
  rt := D.rt
  bk := fun σ H => D.bk (gone o σ) H
  ct := fun σ H => D.ct (gone o σ) H
/-- the clauses' wish, one behind another -/
def wClauses (K : PySem.W.Frag) (W0 : WX) (D : Ends) : List Cls → WX
  | [] => W0
  | k :: ks => fun cls d σ H => ∃ b, PySem.W.exmOne K cls k.c = some b ∧ (b = true → ∀ a, H a = none → k.ts a cls d (endA k.o D) (bindA k.o a σ) H) ∧ (b = false → wClauses K W0 D ks cls d σ H)
/-- a clause's name -/
def NameOk (X : Cx) : Option Str → Option Nat → Prop
  | none, none => True
  | some n, some i => X.N[i]? = some n ∧ X.env.kindOf n = some .local
  | _, _ => False
inductive Clauses (X : Cx) : List ExceptHandler → List Cls → Prop
  | nil : Clauses X [] []
  | cons {x : Str} {nm : Option Str} {k : Cls} {st : Stmt} {sts : List Stmt} {p q : Pos} {hs : List ExceptHandler} {ks : List Cls} : Names X x k.c → NameOk X nm k.o →
      (∀ (a : Addr) (ob : Obj) (cls : Value) (d : Option Addr) (pn : List (Addr × Obj)), Zc cls d ob → (∃ vs, ob.data = .fields vs) → PSs (X.suite a ((a, ob) :: pn)) (st :: sts) (k.ts a cls d)) →
      Clauses X hs ks → Clauses X (.ExceptHandler (some (.Name x p)) nm (st :: sts) q :: hs) (k :: ks)
section
variable {X : Cx}
/-- behind a suite -/
theorem suite_end {a : Addr} {z : Addr × Obj} {pins : List (Addr × Obj)} {D : Ends} {nm : Option Str} {o : Option Nat} {q : Pos} {f : Flow} {s : Shared} (ok : X.Ok) (hN : X.N.Nodup) (hn : NameOk X nm o) (h : SP (X.suite a (z :: (X.pn ++ pins))) [] (endA o D) f s) :
    match nm with
    | none => SP X pins D f s
    | some n => wpAny (model X.prog X.w) X.A (do bindName X.env n .none; unbindBehindTheSuite X.env n q) (fun _ s' => SP X pins D f s') X.xe s := by
  match nm, o, hn with
  | none, none, _ =>
    cases f with
    | ret u => obtain ⟨v, τ, G, J, r, w⟩ := h; exact ⟨v, τ, G, J.unsuite ok, r, w⟩
    | next => obtain ⟨τ, G, J, w⟩ := h; exact ⟨τ, G, J.unsuite ok, w⟩
    | brk => obtain ⟨τ, G, J, w⟩ := h; exact ⟨τ, G, J.unsuite ok, w⟩
    | cont => obtain ⟨τ, G, J, w⟩ := h; exact ⟨τ, G, J.unsuite ok, w⟩
  | some n, some i, ⟨hi, hl⟩ =>
    cases f with
    | ret u => obtain ⟨v, τ, G, J, r, w⟩ := h; exact gone_ok (J.unsuite ok) hN hi hl fun s' J' => ⟨v, _, G, J', r, w⟩
    | next => obtain ⟨τ, G, J, w⟩ := h; exact gone_ok (J.unsuite ok) hN hi hl fun s' J' => ⟨_, G, J', w⟩
    | brk => obtain ⟨τ, G, J, w⟩ := h; exact gone_ok (J.unsuite ok) hN hi hl fun s' J' => ⟨_, G, J', w⟩
    | cont => obtain ⟨τ, G, J, w⟩ := h; exact gone_ok (J.unsuite ok) hN hi hl fun s' J' => ⟨_, G, J', w⟩
theorem ps_clauses {body : List Stmt} {h₀ : ExceptHandler} {hs : List ExceptHandler} {ks : List Cls} {pos : Pos} {tb : WX → TS} {W0 : WX} (top : X.stack = X.env :: X.outer) (fr : X.env.frame = some X.env.locals) (hN : X.N.Nodup) (tk : Takes X W0)
    (hb : ∀ (W : WX) (pn : List (Addr × Obj)) (xe : Value → Shared → Prop), Takes (X.tr pn xe) W → PassesOwn (model X.prog X.w) X.A X.env xe → PSs (X.tr pn xe) body (tb W)) (hc : Clauses X (h₀ :: hs) ks) :
    PS X (.Try body (h₀ :: hs) [] [] pos) (fun D σ H => tb (wClauses X.K W0 D ks) D σ H) := by
  refine ⟨fun pins s σ H D I wish => ?_⟩
  have ok := I.ok
  have frm : X.A.frames = some (X.env :: X.outer) := ok.frames.trans (congrArg some top)
  refine wpAny_Try_except (wpAny_mono ((hb (wClauses X.K W0 D ks) (X.pn ++ pins) _ (fun u s' xx => ?_) PassesOwn.looking).run [] s σ H D (I.toTry _) wish) (fun f s1 sp => ?_) fun _ _ z => z)
  case refine_2 =>
    cases f with
    | ret u => obtain ⟨v, τ, G, J, r, w⟩ := sp; exact ⟨v, τ, G, J.ofTry ok, r, w⟩
    | next => obtain ⟨τ, G, J, w⟩ := sp; exact wpAny_execs_nil ⟨τ, G, J.ofTry ok, w⟩
    | brk => obtain ⟨τ, G, J, w⟩ := sp; exact ⟨τ, G, J.ofTry ok, w⟩
    | cont => obtain ⟨τ, G, J, w⟩ := sp; exact ⟨τ, G, J.ofTry ok, w⟩
  case refine_1 =>
    obtain ⟨a, B, sI, pins', τ, G, cls, d, rfl, J', nb, up, sky, na, os, ag, w⟩ := xx
    have J : Inv X pins τ G sI := J'.ofTry ok
    rw [show (X.tr (X.pn ++ pins) _).stack = X.env :: X.outer from top] at sky
    show wpAny (model X.prog X.w) X.A (noteFrame (.ref a) X.env) _ _ _
    refine Sky.land Zc.steady frm fr sky fun hp fl up2 => ?_
    have J2 : Inv X pins τ G { s' with heap := hp } := J.landed nb fl.1 (up.trans up2) os ag
    obtain ⟨ob, vs, get, zc, fields⟩ := fl.there
    have off : a ∉ frs (X.env :: X.outer) := fun hm => by
      obtain ⟨_, o2, g2, no⟩ := fl.2.2.1.mem hm
      rw [get] at g2
      cases g2
      exact no _ fields
    have offL : a ≠ X.env.locals := fun z => off (List.mem_filterMap.mpr ⟨X.env, List.mem_cons_self, by rw [fr, z]⟩)
    have offF : a ∉ X.fs := fun hm => let ⟨e, he, q⟩ := List.mem_filterMap.mp hm; off (List.mem_filterMap.mpr ⟨e, List.mem_cons_of_mem _ he, q⟩)
    have JS := J2.suite get fields na offL offF
    have go : ∀ {hs' : List ExceptHandler} {ks' : List Cls}, Clauses X hs' ks' → wClauses X.K W0 D ks' cls d τ G → wpAny (model X.prog X.w) X.A (handleBy (.ref a) X.env hs') (SP X pins D) X.xe { s' with heap := hp } := by
     intro hs' ks' hc'
     induction hc' with
     | nil =>
       intro w
       refine wpAny_handleBy_nil ?_
       obtain ⟨_, _, _, ob1, us, T1, oT1, lot, get1, _, fields1, tb1, _⟩ := id fl
       have last : wpAny (model X.prog X.w) X.A (setFlight (.ref a) X.env.frame) (fun _ t => wpAny (model X.prog X.w) X.A (throw (.ref a) : Sem Flow) (SP X pins D) X.xe t) X.xe { s' with heap := hp } := by
         rw [fr]
         exact HandSPX.setFlight_upZ fl fun hq held up3 => wpAny_throw (tk _ _ ⟨a, B, sI, pins, τ, G, cls, d, rfl, J, nb, (up.trans up2).trans up3, .inr (.inr (by rw [top]; exact held)), na, os, ag, w⟩)
       unfold PySem.passOn
       refine wpAny_bind (wpAny_field get1 fields1 tb1 ?_)
       rw [if_neg (show ¬ ((Value.ref T1 == Value.none) = true) by simp)]
       first
         | exact wpAny_bind (wpAny_pure (wpAny_bind last))
         | exact wpAny_bind last
     | @cons x nm k st sts p q hs ks hx hnm hsu _ ih =>
       intro w
       obtain ⟨b, is, yes, no⟩ := w
       have kind : PySem.W.Looks (model X.prog X.w) hp (typeOf (.ref a)) cls := fun A Q E s k q => wpAny_typeOf_ref (k _ _ get) (by rw [zc.1]; exact q)
       refine wpAny_handleBy_cons (codeAny_handlers_test ?_) (by intro q; cases q)
       have name : ∀ {Q E : Value → Shared → Prop}, Q k.c { s' with heap := hp } → wpAny (model X.prog X.w) (X.A.mark (some (.ref a))) (eval (.Name x p) X.env) Q E { s' with heap := hp } := fun {Q E} r => by
         obtain ⟨g1, g2, g3 | ⟨g3, g4, g5⟩⟩ := hx
         · exact ld_glob (X := X.suite a ((a, ob) :: (X.pn ++ pins))) JS g1 g3 r g2
         · exact ld_blt (X := X.suite a ((a, ob) :: (X.pn ++ pins))) JS g1 g3 g4 r g5 g2
       refine name ((PySem.W.exm_one (M := model X.prog X.w) J2.kIn kind is).here ?_)
       match b, yes, no with
       | false, _, no => exact ih (no rfl)
       | true, yes, _ =>
         have run := yes rfl a na
         match nm, k, hnm, hsu, run with
         | none, ⟨c, none, ts⟩, hnm, hsu, run =>
           refine codeAny_handlers_suite (HandSPX.lands_againZ fl fun hq fq up3 => ?_)
           obtain ⟨oq, uq, getq, zq, fieldsq⟩ := fq.there
           have Jq : Inv X pins τ G { s' with heap := hq } := J.landed nb fq.1 ((up.trans up2).trans up3) os ag
           refine wpAny_mono ((hsu a oq cls d (X.pn ++ pins) zq ⟨_, fieldsq⟩).run [] _ τ G (endA none D) (Jq.suite getq fieldsq na offL offF) run) (fun f t sp => ?_) fun _ _ z => z.elim
           have fin := suite_end (D := D) (q := q) ok hN hnm sp
           exact fin
         | some n, ⟨c, some i, ts⟩, hnm, hsu, run =>
           refine codeAny_handlers_suite_as (HandSPX.lands_againZ fl fun hq fq up3 => ?_)
           obtain ⟨oq, uq, getq, zq, fieldsq⟩ := fq.there
           have Jq : Inv X pins τ G { s' with heap := hq } := J.landed nb fq.1 ((up.trans up2).trans up3) os ag
           refine store_ok (X := X.suite a ((a, oq) :: (X.pn ++ pins))) (v := .ref a) (Jq.suite getq fieldsq na offL offF) hN hnm.1 (.inl hnm.2) rfl (fun s5 J5 => ?_) (.inr hnm.2)
           refine wpAny_mono ((hsu a oq cls d (X.pn ++ pins) zq ⟨_, fieldsq⟩).run [] s5 _ G (endA (some i) D) J5 run) (fun f t sp => ?_) fun _ _ z => z.elim
           have fin := suite_end (D := D) (q := q) ok hN hnm sp
           exact fin
    exact go hc w
end
/-! ### over the evaluator -/
section
variable {k : PySem.W.Frag} {p : Params} {u v : Option Value} {E0 : Hp} {F N : AS} {Pf Pf' : Nat → AS} {H H' : Hp} {σ : L2.St} {ρ : Env} {W : WX} {M : List Nat} {Dn : Ends}
theorem RW.kx {P : AS} {x : V} {d : D} (h : RW ⟨k, p, u⟩ F N H P x d) (hv : noX d = true ∨ u = none) : RW ⟨k, p, v⟩ F N H P x d :=
  let ⟨I, Q, r, a, b, c⟩ := h
  ⟨I, Q, r.kx hv, a, b, c⟩
theorem Stt.kx (s : Stt ⟨k, p, u⟩ E0 F N Pf H σ ρ) (hv : noXE ρ = true ∨ u = none) : Stt ⟨k, p, v⟩ E0 F N Pf H σ ρ where
  len := s.len
  rep := fun i d h => by
    obtain ⟨x, e, r⟩ := s.rep i d h
    refine ⟨x, e, r.kx (hv.imp (fun z => ?_) id)⟩
    have := List.all_eq_true.mp z _ (List.mem_of_getElem? h)
    exact this
  dis := s.dis
  prv := s.prv
  new := s.new
  old := s.old
  ext := s.ext
/-- a slot emptied -/
theorem Stt.clear {K : KW} {o : Option Nat} (s : Stt K E0 F N Pf H σ ρ) : Stt K E0 F N Pf H (gone o σ) (goneE o ρ) := by
  cases o with
  | none => exact s
  | some i => exact {
      len := by show (σ.set i none).length = (ρ.set i none).length; rw [List.length_set, List.length_set]; exact s.len
      rep := fun j d h => by
        have h : (ρ.set i none)[j]? = some (some d) := h
        by_cases hj : i = j
        · subst hj
          by_cases hl : i < ρ.length
          · rw [List.getElem?_set_self hl] at h; cases h
          · rw [List.getElem?_eq_none (by simpa using hl)] at h; cases h
        · rw [List.getElem?_set_ne hj] at h
          obtain ⟨x, e, r⟩ := s.rep j d h
          exact ⟨x, by show (σ.set i none)[j]? = _; rw [List.getElem?_set_ne hj]; exact e, r⟩
      dis := s.dis
      prv := s.prv
      new := s.new
      old := s.old
      ext := s.ext }
/-- the exception into its slot -/
theorem Stt.bind {o : Option Nat} {a : Addr} (s : Stt ⟨k, p, some (.ref a)⟩ E0 F N Pf H σ ρ) : ∃ Pf', Stt ⟨k, p, some (.ref a)⟩ E0 F N Pf' H (bindA o a σ) (inX o ρ) ∧ ∀ j b, Pf' j b → Pf j b := by
  cases o with
  | none => exact ⟨Pf, s, fun _ _ z => z⟩
  | some i =>
    refine ⟨_, s.set (i := i) (P := fun _ => False) (.mk (.exn rfl)) fun _ z => z.elim, fun j b z => ?_⟩
    rcases z with ⟨_, z⟩ | ⟨_, z⟩
    · exact z.elim
    · exact z
theorem Fr.less {P2 : Nat → AS} {H2 : Hp} (f : Fr M H Pf' H2 P2) (h : ∀ j b, Pf' j b → Pf j b) : Fr M H Pf H2 P2 where
  kp := fun a o e z => f.kp a o e (z.imp (fun z j hj w => z j hj (h j a w)) id)
  dm := f.dm
  pf := fun j a z => (f.pf j a z).imp (h j a) id
theorem PSr.suite {o : Option Nat} {a : Addr} {r : RS} (h : PSr ⟨k, p, none⟩ W E0 F M N Pf H Dn (outX o r)) (hp : ∀ j b, Pf' j b → Pf j b) : PSr ⟨k, p, some (.ref a)⟩ (fun _ _ _ _ => False) E0 F M N Pf' H (endA o Dn) r := by
  cases r with
  | next ρ =>
    simp only [outX] at h
    split at h
    · rename_i c
      exact fun σ' H' N' P2 s n f => h _ H' N' P2 (s.clear.kx (.inl c)) n (f.less hp)
    · exact h.elim
  | brk ρ =>
    simp only [outX] at h
    split at h
    · rename_i c
      exact fun σ' H' N' P2 s n f => h _ H' N' P2 (s.clear.kx (.inl c)) n (f.less hp)
    · exact h.elim
  | cnt ρ =>
    simp only [outX] at h
    split at h
    · rename_i c
      exact fun σ' H' N' P2 s n f => h _ H' N' P2 (s.clear.kx (.inl c)) n (f.less hp)
    · exact h.elim
  | ret d =>
    simp only [outX] at h
    split at h
    · rename_i c
      exact fun x H' N' P' e r1 n q => h x H' N' P' e (r1.kx (.inl c)) n q
    · exact h.elim
  | exc c ρ => exact h.elim
  | stuck => exact h.elim
end
/-- a clause over the evaluator: what it catches, its name's slot, its suite for each class -/
abbrev CE := List (Str × Bool) × Option Nat × (Str → Env → RS)
def hndF (c : Str) : List CE → Env → RS
  | [], ρ => .exc c ρ
  | (cs, o, g) :: hs, ρ => match cs.lookup c with
    | some true => outX o (g c (inX o ρ))
    | some false => hndF c hs ρ
    | none => .stuck
inductive CEs (X : Cx) (E0 : Hp) (M : List Nat) : List ExceptHandler → List CE → Prop
  | nil : CEs X E0 M [] []
  | cons {x : Str} {cv : Value} {nm : Option Str} {cs : List (Str × Bool)} {o : Option Nat} {g : Str → Env → RS} {st : Stmt} {sts : List Stmt} {p q : Pos} {hs : List ExceptHandler} {ks : List CE} : Names X x cv → NameOk X nm o →
      (∀ c b, cs.lookup c = some b → PySem.W.exmOne X.K (.ref (He.ga X.K c)) cv = some b) →
      (∀ (a : Addr) (ob : Obj) (c : Str) (pn : List (Addr × Obj)), cs.lookup c = some true → Zc (.ref (He.ga X.K c)) none ob → (∃ vs, ob.data = .fields vs) →
        PSs (X.suite a ((a, ob) :: pn)) (st :: sts) (tS ⟨X.K, X.w.params, some (.ref a)⟩ (fun _ _ _ _ => False) E0 M (g c))) →
      CEs X E0 M hs ks → CEs X E0 M (.ExceptHandler (some (.Name x p)) nm (st :: sts) q :: hs) ((cs, o, g) :: ks)
section
variable {X : Cx} {W : WX} {E0 : Hp} {M : List Nat}
theorem ces_clauses {hs : List ExceptHandler} {ks : List CE} (h : CEs X E0 M hs ks) : ∃ cl : List Cls, Clauses X hs cl ∧ ∀ (F N : AS) (Pf : Nat → AS) (H : Hp) (σ : L2.St) (ρ : Env) (D : Ends) (c : Str) (cls : Value) (d : Option Addr),
    Stt ⟨X.K, X.w.params, none⟩ E0 F N Pf H σ ρ → ExcV X.K c cls d → PSr ⟨X.K, X.w.params, none⟩ W E0 F M N Pf H D (hndF c ks ρ) → wClauses X.K W D cl cls d σ H := by
  induction h with
  | nil => exact ⟨[], .nil, fun F N Pf H σ ρ D c cls d s hx q => q σ H N Pf cls d s (fun _ z => z) Fr.refl hx⟩
  | @cons x cv nm cs o g st sts p q hs ks hn hnm hcs hsu _ ih =>
    obtain ⟨cl, h1, h2⟩ := ih
    refine ⟨⟨cv, o, fun a cls d D σ H => ∃ c, ExcV X.K c cls d ∧ cs.lookup c = some true ∧ tS ⟨X.K, X.w.params, some (.ref a)⟩ (fun _ _ _ _ => False) E0 M (g c) D σ H⟩ :: cl, .cons hn hnm (fun a ob cls d pn hz hf => ?_) h1, fun F N Pf H σ ρ D c cls d s hx q => ?_⟩
    · refine ⟨fun pins s σ H D I ⟨c, hx, hc, q⟩ => ?_⟩
      obtain ⟨rfl, rfl⟩ := hx
      exact (hsu a ob c pn hc hz hf).run pins s σ H D I q
    · unfold hndF at q
      split at q
      · rename_i e
        refine ⟨true, by obtain ⟨rfl, _⟩ := hx; exact hcs c _ e, fun _ a na => ⟨c, hx, e, ?_⟩, fun z => by cases z⟩
        obtain ⟨Pf', s', hp⟩ := (s.kx (v := some (.ref a)) (.inr rfl)).bind (o := o) (a := a)
        exact ⟨F, N, Pf', _, s', q.suite hp⟩
      · rename_i e
        exact ⟨false, by obtain ⟨rfl, _⟩ := hx; exact hcs c _ e, fun z => by (cases z), fun _ => h2 F N Pf H σ ρ D c cls d s hx q⟩
      · exact q.elim
theorem hs_try {body : List Stmt} {h₀ : ExceptHandler} {hs : List ExceptHandler} {ks : List CE} {pos : Pos} {f : Env → RS} (top : X.stack = X.env :: X.outer) (fr : X.env.frame = some X.env.locals) (hN : X.N.Nodup) (tk : Takes X W) (hk : X.kw = ⟨X.K, X.w.params, none⟩)
    (hb : ∀ (W' : WX) (pn : List (Addr × Obj)) (xe : Value → Shared → Prop), Takes (X.tr pn xe) W' → PassesOwn (model X.prog X.w) X.A X.env xe → PSs (X.tr pn xe) body (tS X.kw W' E0 M f)) (hc : CEs X E0 M (h₀ :: hs) ks) :
    PS X (.Try body (h₀ :: hs) [] [] pos) (tS X.kw W E0 M fun ρ => match f ρ with
      | .exc c ρ' => hndF c ks ρ'
      | r => r) := by
  obtain ⟨cl, h1, h2⟩ := ces_clauses (W := W) hc
  refine PS_imp (ps_clauses top fr hN tk hb h1) fun D σ H ⟨F, N, Pf, ρ, s, q⟩ => ⟨F, N, Pf, ρ, s, ?_⟩
  have q : PSr X.kw W E0 F M N Pf H D (match f ρ with
      | .exc c ρ' => hndF c ks ρ'
      | r => r) := q
  show PSr X.kw _ E0 F M N Pf H D (f ρ)
  cases e : f ρ with
  | exc c ρ' =>
    rw [e] at q
    intro σ' H' N' Pf' cls d s' n fr' hx
    rw [hk] at s' q
    exact h2 F N' Pf' H' σ' ρ' D c cls d s' (by rw [hk] at hx; exact hx) (q.shift n fr')
  | _ => rw [e] at q; exact q
end
end Hv

/-! Hv, part 17: from the text to the small language: expressions. -/
namespace Hv
open PySem PySem.Spec PyProof.Rows L2

/-- what is known of a def's names -/
structure MC where
  N : List Str
  fns : List (Str × Nat)
  glo : List Str
  fre : List Str
  exc : List Str
  calm : Bool
  cls : List (Str × Option String × List (Str × Bool))
def clsF (Γ : MC) (x : Str) : Option (Str × Option String × List (Str × Bool)) := Γ.cls.find? fun e => decide (e.1 = x)
theorem clsF_ok {Γ : MC} {x : Str} {e : Str × Option String × List (Str × Bool)} (h : clsF Γ x = some e) : e ∈ Γ.cls ∧ e.1 = x :=
  ⟨List.mem_of_find?_eq_some h, by simpa using List.find?_some h⟩
def slotF : List Str → Str → Option Nat
  | [], _ => none
  | y :: ys, x => if y = x then some 0 else match slotF ys x with
    | some i => some (i + 1)
    | none => none
theorem slotF_ok : ∀ {N : List Str} {x : Str} {i : Nat}, slotF N x = some i → N[i]? = some x
  | y :: ys, x, i, h => by
    unfold slotF at h
    split at h
    · rename_i e
      injection h with h
      subst h e
      rfl
    · split at h
      · rename_i j e
        injection h with h
        subst h
        simpa using slotF_ok e
      · cases h
  | [], _, _, h => by cases h
def fnF : List (Str × Nat) → Str → Option (Nat × Nat)
  | [], _ => none
  | y :: ys, x => if y.1 = x then some (0, y.2) else match fnF ys x with
    | some (i, n) => some (i + 1, n)
    | none => none
theorem fnF_ok : ∀ {N : List (Str × Nat)} {x : Str} {i n : Nat}, fnF N x = some (i, n) → N[i]? = some (x, n)
  | y :: ys, x, i, n, h => by
    unfold fnF at h
    split at h
    · rename_i e
      injection h with h; injection h with h1 h2
      subst h1 h2 e
      rfl
    · split at h
      · rename_i j m e
        injection h with h; injection h with h1 h2
        subst h1 h2
        simpa using fnF_ok e
      · cases h
  | [], _, _, _, h => by cases h
def visB (sc : Scope) (x : Str) : Bool := match sc.names.lookup x with
  | some .local => true
  | some .cell => true
  | some .free => true
  | _ => false
def glB (sc : Scope) (x : Str) : Bool := match sc.names.lookup x with
  | some .globalImplicit => true
  | _ => false
def notDbg (x : Str) : Bool := !(x == ("__debug__" : Str)) && !(x == ("__classdict__" : Str))
theorem notDbg_ok {x : Str} (h : notDbg x = true) : (x == ("__debug__" : Str)) = false ∧ (x == ("__classdict__" : Str)) = false := by
  unfold notDbg at h
  simpa using h
def slotV (Γ : MC) (sc : Scope) (x : Str) : Option Nat := if visB sc x && notDbg x then slotF Γ.N x else none
/-- a def of the table -/
def FnF (X : Cx) (x : Str) (n : Nat) (c : List PyData → CR) : Prop := ∃ (k : Nat) (fa : Addr) (fd : FuncData) (ps : List Str), FnOk X.prog X.w X.K X.mg X.base (L2.CX X.prog X.w) k fa fd ps (spF X.kw n c) ∧ Room k X.A ∧ X.mg x = some (.ref fa) ∧ PySem.W.keepIn X.K (.ref fa) = true ∧ Binds X.K fd ps []
/-- a class that a clause or isinstance names -/
def clsV (K : PySem.W.Frag) (x : Str) : Option String → Value
  | none => .ref (He.ga K x)
  | some t => .type t
def clsN (K : PySem.W.Frag) (x : Str) : Option String → V
  | none => .ref (He.ga K x)
  | some t => .ty t
structure ClsE (K : PySem.W.Frag) (mg : Str → Option Value) (e : Str × Option String × List (Str × Bool)) : Prop where
  nm : match e.2.1 with
    | none => mg e.1 = some (.ref (He.ga K e.1))
    | some t => mg e.1 = none ∧ bootBuiltins e.1 = some (.type t) ∧ e.1 ≠ "__name__"
  ck : ∀ c b, e.2.2.lookup c = some b → PySem.W.kitOne K (.ref (He.ga K c)) (clsV K e.1 e.2.1) = some b ∧ PySem.W.exmOne K (.ref (He.ga K c)) (clsV K e.1 e.2.1) = some b ∧ ExcC K (He.ga K c)
structure XI (Γ : MC) (C : Cal) (G : Glo) (sc : Scope) (X : Cx) (W : WX) : Prop where
  hN : X.N = Γ.N
  nd : Γ.N.Nodup
  hsc : X.env.scope = sc
  calm : Γ.calm = true → X.calm = true
  sui : Γ.calm = false → ∃ (X0 : Cx) (a : Addr) (ob : Obj) (pn : List (Addr × Obj)) (c : Str), X = X0.suite a ((a, ob) :: pn) ∧ Zc (.ref (He.ga X.K c)) none ob ∧ (∃ vs, ob.data = .fields vs) ∧ G xk = some (.str c)
  cls : ∀ e ∈ Γ.cls, ClsE X.K X.mg e
  un : X.A.units + 65 < cLine
  tk : Takes X W
  fns : Γ.calm = true → ∀ i x n, Γ.fns[i]? = some (x, n) → FnF X x n (C i)
  glo : ∀ x ∈ Γ.glo, ∃ p v u, G x = some p ∧ X.mg x = some u ∧ RelV v u ∧ ∀ H, Rp X.kw (fun _ => False) H v p
  fre : ∀ x ∈ Γ.fre, X.mg x = none
section
variable {Γ : MC} {C : Cal} {G : Glo} {sc : Scope} {X : Cx} {W : WX}
theorem XI.vis (h : XI Γ C G sc X W) {x : Str} (v : visB sc x = true) : Vis X.env.scope x := by
  rw [h.hsc]
  unfold visB at v
  unfold Vis
  split at v
  · rename_i e; exact .inl e
  · rename_i e; exact .inr (.inl e)
  · rename_i e; exact .inr (.inr e)
  · cases v
theorem XI.gl (h : XI Γ C G sc X W) {x : Str} (v : glB sc x = true) : Gl X x := by
  show X.env.scope.names.lookup x = some .globalImplicit
  rw [h.hsc]
  unfold glB at v
  split at v
  · rename_i e; exact e
  · cases v
theorem XI.slot (h : XI Γ C G sc X W) {x : Str} {i : Nat} (e : slotV Γ sc x = some i) : X.N[i]? = some x ∧ Vis X.env.scope x ∧ (x == ("__debug__" : Str)) = false ∧ (x == ("__classdict__" : Str)) = false := by
  unfold slotV at e
  split at e
  · rename_i c
    simp only [Bool.and_eq_true] at c
    rw [h.hN]
    exact ⟨slotF_ok e, h.vis c.1, notDbg_ok c.2⟩
  · cases e
/-- into a block -/
theorem XI.blk (h : XI Γ C G sc X W) (hc : Γ.calm = true) {s : Shared} {H : Hp} {scope : Scope} {A : Addr} {cl : List (Str × Addr)} {fp : List Addr} : XI Γ C G (relS scope sc) (X.blk s H scope (compEnvC scope cl A X.env) fp) WN where
  hN := h.hN
  nd := h.nd
  hsc := by
    show relS scope X.env.scope = _
    rw [h.hsc]
  calm := h.calm
  sui := fun z => by rw [hc] at z; cases z
  cls := h.cls
  un := h.un
  tk := fun u s' ⟨a, B, sI, pins, σ, H, cls, d, e, I, nb, up, sky, na, os, ag, w⟩ => w.elim
  fns := h.fns
  glo := h.glo
  fre := h.fre
end

/-! ### the translation -/
def trBop : Operator → Option BOp
  | .Add => some .add
  | .Sub => some .sub
  | .Mult => some .mul
  | .FloorDiv => some .div
  | .Mod => some .mod
  | .Pow => some .pow
  | _ => none
theorem trBop_ok {o : Operator} {b : BOp} (h : trBop o = some b) : o = bop b := by
  cases o <;> simp [trBop] at h <;> subst h <;> rfl
def trCop : CmpOp → COp
  | .Eq => .eq
  | .NotEq => .ne
  | .Lt => .lt
  | .LtE => .le
  | .Gt => .gt
  | .GtE => .ge
  | .Is => .isn
  | .IsNot => .notn
  | .In => .in_
  | .NotIn => .nin
theorem trCop_ok (o : CmpOp) : o = copE (trCop o) := by cases o <;> rfl
def trC : Const → Option E
  | .none => some .non
  | .bool b => some (.bl b)
  | .int i => some (.int i)
  | .str x => if PyData.strOk x then some (.str x) else none
  | _ => none
def biAll : List (Bi × Nat) := [(.len, 1), (.int, 1), (.abs, 1), (.max2, 2), (.min2, 2), (.sum, 1), (.maxL, 1), (.minL, 1), (.sorted, 1), (.list, 1), (.tuple, 1), (.any, 1), (.all, 1), (.ord, 1)]
def biF (x : Str) (n : Nat) : Option Bi := match biAll.find? fun p => decide (x = Str.ofString (biN p.1)) && decide (p.2 = n) with
  | some p => some p.1
  | none => none
theorem biF_ok {x : Str} {n : Nat} {b : Bi} (h : biF x n = some b) : x = Str.ofString (biN b) := by
  unfold biF at h
  split at h
  · rename_i p e
    have := List.find?_some e
    simp only [Bool.and_eq_true, decide_eq_true_eq] at this
    injection h with h
    subst h
    exact this.1
  · cases h
def mtAll : List Mt := [.join, .startswith, .endswith, .find, .count, .upper, .lower, .isdigit, .isalpha, .isupper, .islower, .zfill, .strip, .split, .partition]
def mtF (x : Str) : Option Mt := mtAll.find? fun m => decide (x = Str.ofString (mtN m))
theorem mtF_ok {x : Str} {m : Mt} (h : mtF x = some m) : x = Str.ofString (mtN m) := by
  have := List.find?_some h
  simpa using this
def tyAll : List Ty := [.int, .bool, .str, .list, .tuple, .dict]
def tyF (x : Str) : Option Ty := tyAll.find? fun t => decide (x = Str.ofString (tyN t))
theorem tyF_ok {x : Str} {t : Ty} (h : tyF x = some t) : x = Str.ofString (tyN t) := by
  have := List.find?_some h
  simpa using this
def trL (f : Expr → Option E) : List Expr → Option (List E)
  | [] => some []
  | e :: es => match f e with
    | some a => match trL f es with
      | some as => some (a :: as)
      | none => none
    | none => none
def trO (f : Expr → Option E) : Option Expr → Option (Option E)
  | none => some none
  | some e => match f e with
    | some a => some (some a)
    | none => none
/-- a target's names -/
def trTs (f : Str → Option Nat) : List Expr → Option (List Nat)
  | [] => some []
  | .Name x _ :: es => match f x with
    | some i => match trTs f es with
      | some is => some (i :: is)
      | none => none
    | none => none
  | _ => none
def trT (f : Str → Option Nat) : Expr → Option Tg
  | .Name x _ => match f x with
    | some i => some (.name i)
    | none => none
  | .Tuple es _ _ => match trTs f es with
    | some is => some (.tup is)
    | none => none
  | _ => none
def isTupT : Tg → Bool
  | .tup _ => true
  | _ => false
def isSet : Expr → Bool
  | .Set .. => true
  | _ => false
/-- what a loop goes over -/
def trI (Γ : MC) (sc : Scope) (f : Expr → Option E) (tg : Tg) (it : Expr) : Option (Sk × List E) := match it with
  | .Call (.Name x _) args [] _ =>
    if x = ("range" : Str) ∧ glB sc x = true ∧ x ∈ Γ.fre ∧ (args.length = 1 ∨ args.length = 2) then (match trL f args with
      | some es => some (.range, es)
      | none => none)
    else if x = ("enumerate" : Str) ∧ glB sc x = true ∧ x ∈ Γ.fre ∧ args.length = 1 ∧ isTupT tg = true then (match trL f args with
      | some es => some (.enum, es)
      | none => none)
    else if x = ("zip" : Str) ∧ glB sc x = true ∧ x ∈ Γ.fre ∧ args.length = 2 ∧ isTupT tg = true then (match trL f args with
      | some es => some (.zip, es)
      | none => none)
    else (match f it with
      | some e => some (.seq, [e])
      | none => none)
  | _ => if isSet it then none else match f it with
    | some e => some (.seq, [e])
    | none => none
def ownOf (N : List Str) : List (Str × NameKind) → List (Str × Nat)
  | [] => []
  | (x, .local) :: r => (match slotF N x with
    | some i => (x, i) :: ownOf N r
    | none => ownOf N r)
  | (x, .cell) :: r => (match slotF N x with
    | some i => (x, i) :: ownOf N r
    | none => ownOf N r)
  | _ :: r => ownOf N r
/-- a block's own target -/
def slotB (Γ : MC) (scope sc : Scope) (x : Str) : Option Nat := match (relS scope sc).names.lookup x with
  | some .local => slotF Γ.N x
  | some .cell => if scope.names.lookup x == some .cell then slotF Γ.N x else none
  | _ => none
/-- a tuple of two classes -/
def orC (cs cs' : List (Str × Bool)) : List (Str × Bool) := cs.filterMap fun p => (cs'.lookup p.1).map fun b => (p.1, p.2 || b)
theorem orC_ok {c : Str} {r : Bool} {cs' : List (Str × Bool)} : ∀ {cs : List (Str × Bool)}, (orC cs cs').lookup c = some r → ∃ b b', cs.lookup c = some b ∧ cs'.lookup c = some b' ∧ r = (b || b')
  | [], h => by cases h
  | (x, b) :: cs, h => by
    unfold orC at h
    rw [List.filterMap_cons] at h
    cases e : cs'.lookup x with
    | none =>
      simp only [e, Option.map_none] at h
      obtain ⟨b1, b2, h1, h2, h3⟩ := orC_ok (cs := cs) h
      by_cases hx : c = x
      · subst hx
        rw [e] at h2
        cases h2
      · exact ⟨b1, b2, by rw [List.lookup_cons, show (c == x) = false by simpa using hx]; exact h1, h2, h3⟩
    | some b' =>
      simp only [e, Option.map_some] at h
      by_cases hx : c = x
      · subst hx
        rw [List.lookup_cons, beq_self_eq_true] at h
        injection h with h
        exact ⟨b, b', by rw [List.lookup_cons, beq_self_eq_true], e, h.symm⟩
      · rw [List.lookup_cons, show (c == x) = false by simpa using hx] at h
        obtain ⟨b1, b2, h1, h2, h3⟩ := orC_ok (cs := cs) h
        exact ⟨b1, b2, by rw [List.lookup_cons, show (c == x) = false by simpa using hx]; exact h1, h2, h3⟩
def trCall (Γ : MC) (sc : Scope) (f : Expr → Option E) (x : Str) (args : List Expr) : Option E :=
  if glB sc x && notDbg x then match fnF Γ.fns x with
    | some (i, n) => if args.length = n ∧ Γ.calm = true then (match trL f args with
      | some es => some (.call i es)
      | none => none) else none
    | none => if x ∈ Γ.fre then (if x = ("isinstance" : Str) then (match args with
        | [a, .Name t _] => if Γ.calm = true then (if glB sc t ∧ t ∈ Γ.fre then (match tyF t with
          | some ty => (match f a with
            | some e => some (.isi e ty)
            | none => none)
          | none => none) else none) else (match a with
          | .Name e _ => (match slotV Γ sc e with
            | some i => (match clsF Γ t with
              | some k => if glB sc t = true ∧ notDbg t = true then some (.ise i k.2.2) else none
              | none => none)
            | none => none)
          | _ => none)
        | [.Name e _, .Tuple [.Name t _, .Name t' _] _ _] => if Γ.calm = true then none else (match slotV Γ sc e with
          | some i => (match clsF Γ t with
            | some k => (match clsF Γ t' with
              | some k' => if (glB sc t = true ∧ notDbg t = true) ∧ glB sc t' = true ∧ notDbg t' = true then some (.ise i (orC k.2.2 k'.2.2)) else none
              | none => none)
            | none => none)
          | none => none)
        | _ => none)
      else match biF x args.length with
        | some b => if args.isEmpty || (!Γ.calm && biC b) then none else (match trL f args with
          | some es => some (.bi b es)
          | none => none)
        | none => none) else none
  else none
def trE (Γ : MC) : Nat → Scope → Expr → Option E
  | 0, _, _ => none
  | n + 1, sc, ex => match ex with
    | .Constant c _ _ => trC c
    | .Name x _ => match slotV Γ sc x with
      | some i => some (.var i)
      | none => if glB sc x && notDbg x && decide (x ∈ Γ.glo) then some (.glob x) else none
    | .BinOp a o b _ => match trBop o with
      | some o => match trE Γ n sc a with
        | some a => match trE Γ n sc b with
          | some b => some (.bin o a b)
          | none => none
        | none => none
      | none => none
    | .UnaryOp .Not a _ => match trE Γ n sc a with
      | some a => some (.not a)
      | none => none
    | .UnaryOp .USub a _ => match trE Γ n sc a with
      | some a => some (.neg a)
      | none => none
    | .BoolOp .And es _ => if es.isEmpty then none else match trL (trE Γ n sc) es with
      | some es => some (.and es)
      | none => none
    | .BoolOp .Or es _ => if es.isEmpty then none else match trL (trE Γ n sc) es with
      | some es => some (.or es)
      | none => none
    | .Compare a [o] [b] _ => match trE Γ n sc a with
      | some a => match trE Γ n sc b with
        | some b => some (.cmp (trCop o) a b)
        | none => none
      | none => none
    | .Compare a [o, o'] [b, c] _ => match trE Γ n sc a with
      | some a => match trE Γ n sc b with
        | some b => match trE Γ n sc c with
          | some c => some (.chn (trCop o) (trCop o') a b c)
          | none => none
        | none => none
      | none => none
    | .IfExp c a b _ => match trE Γ n sc c with
      | some c => match trE Γ n sc a with
        | some a => match trE Γ n sc b with
          | some b => some (.ifx c a b)
          | none => none
        | none => none
      | none => none
    | .Call (.Name x _) [.DictComp kx (.Constant (.bool _) _ _) [⟨tg, it, [], 0⟩] scope _] [] _ => if (x = ("len" : Str) ∧ Γ.calm = true) ∧ glB sc x = true ∧ x ∈ Γ.fre then (match trT (slotB Γ scope sc) tg with
      | some t => (match trI Γ sc (trE Γ n sc) t it with
        | some (k, args) => if blkC Γ.N sc scope (ownOf Γ.N scope.names) = true ∧ (tgs t).all (fun i => ((ownOf Γ.N scope.names).map (·.2)).contains i) = true then (match trE Γ n (relS scope sc) kx with
          | some e => some (.dkl ((ownOf Γ.N scope.names).map (·.2)) k args t e)
          | none => none) else none
        | none => none)
      | none => none) else none
    | .Call (.Name x _) args [] _ => trCall Γ sc (trE Γ n sc) x args
    | .Call (.Attribute o name apos) args [] cpos => match mtF name with
      | some m => if notSup o = true ∧ (apos.endLine == cpos.line) = true ∧ args.length ≤ 1 then (match trE Γ n sc o with
        | some o => match trL (trE Γ n sc) args with
          | some es => some (.mth m o es)
          | none => none
        | none => none) else none
      | none => none
    | .Subscript a (.Slice none none (some (.UnaryOp .USub (.Constant (.int i) _ _) _)) _) _ => if i = 1 then (match trE Γ n sc a with
      | some a => some (.rev a)
      | none => none) else none
    | .Subscript a (.Slice lo hi none _) _ => match trE Γ n sc a with
      | some a => match trO (trE Γ n sc) lo with
        | some lo => match trO (trE Γ n sc) hi with
          | some hi => some (.sl a lo hi)
          | none => none
        | none => none
      | none => none
    | .Subscript a b _ => match trE Γ n sc a with
      | some a => match trE Γ n sc b with
        | some b => some (.ix a b)
        | none => none
      | none => none
    | .List es _ => if es.length ≤ 1000 then (match trL (trE Γ n sc) es with
      | some es => some (.lst es)
      | none => none) else none
    | .Tuple es _ _ => if es.length ≤ 1000 then (match trL (trE Γ n sc) es with
      | some es => some (.tup es)
      | none => none) else none
    | .ListComp elt [⟨tg, it, ifs, 0⟩] scope _ => match trT (slotB Γ scope sc) tg with
      | some t => match trI Γ sc (trE Γ n sc) t it with
        | some (k, args) => if Γ.calm = true ∧ ifs.length ≤ 1 ∧ blkC Γ.N sc scope (ownOf Γ.N scope.names) = true ∧ (tgs t).all (fun i => ((ownOf Γ.N scope.names).map (·.2)).contains i) = true then (match trL (trE Γ n (relS scope sc)) ifs with
          | some cs => match trE Γ n (relS scope sc) elt with
            | some e => some (.lc ((ownOf Γ.N scope.names).map (·.2)) k args t cs e)
            | none => none
          | none => none) else none
        | none => none
      | none => none
    | _ => none
end Hv

/-! Hv, part 18: the translation keeps the sense: expressions. -/
namespace Hv
open PySem PySem.Spec PyProof.Rows L2

section
variable {Γ : MC} {C : Cal} {G : Glo} {sc : Scope} {X : Cx} {W : WX} {f : Expr → Option E}
theorem trL_ok (hf : ∀ ex e, f ex = some e → HV X W ex (ev C G e)) : ∀ {es : List Expr} {as : List E}, trL f es = some as → HVs X W es (evs C G as)
  | [], as, h => by injection h with h; subst h; exact .nil
  | e :: es, as, h => by
    unfold trL at h
    split at h
    · rename_i a e1
      split at h
      · rename_i as' e2
        injection h with h
        subst h
        exact .cons (hf _ _ e1) (trL_ok hf e2)
      · cases h
    · cases h
theorem trL_len : ∀ {es : List Expr} {as : List E}, trL f es = some as → as.length = es.length
  | [], as, h => by injection h with h; subst h; rfl
  | e :: es, as, h => by
    unfold trL at h
    split at h
    · split at h
      · rename_i as' e2
        injection h with h
        subst h
        rw [List.length_cons, List.length_cons, trL_len e2]
      · cases h
    · cases h
theorem trO_ok (hf : ∀ ex e, f ex = some e → HV X W ex (ev C G e)) {o : Option Expr} {a : Option E} (h : trO f o = some a) : PO X o (tO X.kw W (evO C G a)) := by
  cases o with
  | none => injection h with h; subst h; exact ho_none
  | some e =>
    simp only [trO] at h
    split at h
    · rename_i b e1
      injection h with h
      subst h
      exact ho_some (hf _ _ e1)
    · cases h
theorem trC_ok {c : Const} {e : E} {k : Nat} {p : Pos} (h : trC c = some e) : HV X W (.Constant c k p) (ev C G e) := by
  cases c with
  | none => injection h with h; subst h; exact hv_non
  | bool b => injection h with h; subst h; exact hv_bl
  | int i => injection h with h; subst h; exact hv_int
  | str x =>
    simp only [trC] at h
    split at h
    · rename_i k
      injection h with h; subst h; exact hv_str k
    · cases h
  | _ => cases h
theorem trC_var {c : Const} {i : Nat} (h : trC c = some (.var i)) : False := by
  cases c <;> simp [trC] at h
theorem trCall_var {x : Str} {args : List Expr} {i : Nat} (h : trCall Γ sc f x args = some (.var i)) : False := by
  unfold trCall at h
  repeat' split at h
  all_goals first | cases h | (injection h with h; cases h)
theorem trE_var {n : Nat} {ex : Expr} {i : Nat} (h : trE Γ n sc ex = some (.var i)) : ∃ x p, ex = .Name x p ∧ slotV Γ sc x = some i := by
  cases n with
  | zero => cases h
  | succ n =>
    unfold trE at h
    split at h
    case h_1 => exact (trC_var h).elim
    case h_2 x p =>
      split at h
      · rename_i j e
        injection h with h; injection h with h
        subst h
        exact ⟨x, p, rfl, e⟩
      · split at h
        · injection h with h; cases h
        · cases h
    all_goals first | exact (trCall_var h).elim | (repeat' split at h) <;> first | cases h | (injection h with h; cases h)
theorem isi_hv {a : Expr} {t : Str} {ty : Ty} {e : E} {p p2 pos : Pos} (h : XI Γ C G sc X W) (hg : glB sc ("isinstance" : Str) = true) (hf : ("isinstance" : Str) ∈ Γ.fre) (hg2 : glB sc t = true) (hf2 : t ∈ Γ.fre) (ht : tyF t = some ty) (ha : HV X W a (ev C G e)) :
    HV X W (.Call (.Name "isinstance" p) [a, .Name t p2] [] pos) (ev C G (.isi e ty)) := by
  have := tyF_ok ht
  subst this
  exact hv_isi (h.gl hg) (h.fre _ hf) (h.gl hg2) (h.fre _ hf2) ha
theorem cls_name (h : XI Γ C G sc X W) {t : Str} {k : Str × Option String × List (Str × Bool)} {p2 : Pos} (ek : clsF Γ t = some k) (gt : glB sc t = true) (dt : notDbg t = true) : PE X (.Name t p2) (tC (clsN X.K t k.2.1)) := by
  obtain ⟨k1, k2⟩ := clsF_ok ek
  have hk := (h.cls k k1).nm
  rw [k2] at hk
  cases e : k.2.1 with
  | none => rw [e] at hk; exact pe_glob (h.gl gt) hk rfl (notDbg_ok dt).1
  | some ty => rw [e] at hk; exact pe_bltn (h.gl gt) hk.1 hk.2.1 rfl hk.2.2 (notDbg_ok dt).1
theorem ise_hv (h : XI Γ C G sc X W) (hcm : Γ.calm = false) {e t : Str} {i : Nat} {k : Str × Option String × List (Str × Bool)} {p p1 p2 pos : Pos} (hx : glB sc ("isinstance" : Str) = true) (hfr : ("isinstance" : Str) ∈ Γ.fre) (es : slotV Γ sc e = some i) (ek : clsF Γ t = some k) (gt : glB sc t = true) (dt : notDbg t = true) :
    HV X W (.Call (.Name "isinstance" p) [.Name e p1, .Name t p2] [] pos) (ev C G (.ise i k.2.2)) := by
  have h2 := cls_name (p2 := p2) h ek gt dt
  have hgi := h.gl hx
  have hmi := h.fre _ hfr
  obtain ⟨s1, s2, s3, s4⟩ := h.slot es
  obtain ⟨k1, k2⟩ := clsF_ok ek
  have hck := (h.cls k k1).ck
  rw [k2] at hck
  obtain ⟨X0, a, ob, pn, c, hX, hz, hf, hg⟩ := h.sui hcm
  clear h
  subst hX
  refine hv_plain ?_
  cases hl : k.2.2.lookup c with
  | none =>
    refine ⟨fun pins s σ H Q I ⟨F, N, Pf, ρ, S, q⟩ => False.elim ?_⟩
    simp only [iseR, hg, hl] at q
    split at q <;> exact q
  | some b =>
    obtain ⟨c1, _, c3⟩ := hck c b hl
    refine PE_imp (pe_callB (call_isE c3 hz hf) hgi hmi boot_isinstance (pa_cons (pe_var s1 s2 s3 s4) (pa_cons h2 pa_nil rfl) rfl) (by decide) (by decide) rfl rfl) fun σ H Q ⟨F, N, Pf, ρ, S, q⟩ => ?_
    simp only [iseR, hg, hl] at q
    split at q
    · rename_i e0
      obtain ⟨x, e1, I, P, r, _⟩ := S.rep i _ e0
      cases r with
      | exn hx =>
        have hx : some (Value.ref a) = some (Value.ref _) := hx
        injection hx with hx
        injection hx with hx
        subst hx
        exact ⟨_, e1, _, _, b, rfl, fun u r => (by cases e : k.2.1 <;> (rw [e] at r; exact r)), c1, PR.bool q Ext.refl⟩
    · exact q.elim
theorem call_isET {X : Cx} {a D : Addr} {oe : Obj} {pn : List (Addr × Obj)} (C : ExcC X.K D) (hz : Zc (.ref D) none oe) (hf : ∃ vs, oe.data = .fields vs) : CallR (X.suite a ((a, oe) :: pn)) (.builtin "isinstance")
    (fun xs H Q => ∃ (tp : Addr) (cs : List V) (us : List Value) (b : Bool), xs = [.ref a, .ref tp] ∧ H tp = some (.tup cs) ∧ (∀ ws, Vals cs ws → ws = us) ∧ PySem.W.kitAny X.K (.ref D) us = some b ∧ Q (.bl b) H) := by
  intro pins s σ H xs us Q I r h
  obtain ⟨tp, cs, ws, b, rfl, hT, hall, e, q⟩ := h
  cases r with
  | cons rx rr =>
    cases rr with
    | cons rt rr =>
      cases rr
      cases rx
      cases rt
      obtain ⟨hget, _⟩ := I.pin (a, oe) (List.mem_append.mpr (.inl List.mem_cons_self))
      obtain ⟨vs, hv⟩ := hf
      have J : PySem.W.InstAt s.heap a oe D none := by
        obtain ⟨oc, od, oda, osl⟩ := oe
        obtain ⟨h1, h2⟩ := hz
        dsimp only at h1 h2 hv
        subst h1 h2 hv
        exact ⟨hget, rfl, rfl, trivial⟩
      obtain ⟨_, its, rv, o, h1, h2, n, h3⟩ := (show ObjOk (X.suite a ((a, oe) :: pn)).prog (X.suite a ((a, oe) :: pn)).w H s.heap tp (.tup cs) from I.hok tp _ hT)
      have e3 := hall _ rv
      subst e3
      obtain ⟨oc, od, dt, sl⟩ := o
      simp only at h2 h3
      subst h2 h3
      exact PySem.W.kia_tup (PySem.W.handS_kitx_exc C.hg C.hk C.hs C.hd C.ha C.hn C.ht C.hm) I.kIn J h1 e (fun z => nomatch z) fun tk => ⟨.bl b, H, I.kept (t' := tk) fun _ _ z => z, rfl, q⟩
theorem ise2_hv (h : XI Γ C G sc X W) (hcm : Γ.calm = false) {e t t' : Str} {i m : Nat} {k k' : Str × Option String × List (Str × Bool)} {p p1 p2 p3 p4 pos : Pos} (hx : glB sc ("isinstance" : Str) = true) (hfr : ("isinstance" : Str) ∈ Γ.fre) (es : slotV Γ sc e = some i) (ek : clsF Γ t = some k) (ek' : clsF Γ t' = some k') (gt : glB sc t = true) (dt : notDbg t = true) (gt' : glB sc t' = true) (dt' : notDbg t' = true) :
    HV X W (.Call (.Name "isinstance" p) [.Name e p1, .Tuple [.Name t p2, .Name t' p3] m p4] [] pos) (ev C G (.ise i (orC k.2.2 k'.2.2))) := by
  have h2 := cls_name (p2 := p2) h ek gt dt
  have h3 := cls_name (p2 := p3) h ek' gt' dt'
  have hgi := h.gl hx
  have hmi := h.fre _ hfr
  obtain ⟨s1, s2, s3, s4⟩ := h.slot es
  obtain ⟨k1, k2⟩ := clsF_ok ek
  have hck := (h.cls k k1).ck
  rw [k2] at hck
  obtain ⟨k1', k2'⟩ := clsF_ok ek'
  have hck' := (h.cls k' k1').ck
  rw [k2'] at hck'
  obtain ⟨X0, a, ob, pn, c, hX, hz, hf, hg⟩ := h.sui hcm
  clear h
  subst hX
  refine hv_plain ?_
  cases hl : (orC k.2.2 k'.2.2).lookup c with
  | none =>
    refine ⟨fun pins s σ H Q I ⟨F, N, Pf, ρ, S, q⟩ => False.elim ?_⟩
    simp only [iseR, hg, hl] at q
    split at q <;> exact q
  | some b =>
    obtain ⟨b1, b2, l1, l2, rfl⟩ := orC_ok hl
    obtain ⟨c1, _, c3⟩ := hck c b1 l1
    obtain ⟨c1', _, _⟩ := hck' c b2 l2
    refine PE_imp (pe_callB (call_isET c3 hz hf) hgi hmi boot_isinstance (pa_cons (pe_var s1 s2 s3 s4) (pa_cons (pe_tup (pa_cons h2 (pa_cons h3 pa_nil rfl) rfl)) pa_nil rfl) rfl) (by decide) (by decide) rfl rfl) fun σ H Q ⟨F, N, Pf, ρ, S, q⟩ => ?_
    simp only [iseR, hg, hl] at q
    split at q
    · rename_i e0
      obtain ⟨x, e1, I, P, r, _⟩ := S.rep i _ e0
      cases r with
      | exn hx =>
        have hx : some (Value.ref a) = some (Value.ref _) := hx
        injection hx with hx
        injection hx with hx
        subst hx
        refine ⟨_, e1, by (show 2 ≤ sizeLine; decide), fun tp htp => ⟨tp, _, [clsV (X0.suite a ((a, ob) :: pn)).K t k.2.1, clsV (X0.suite a ((a, ob) :: pn)).K t' k'.2.1], _, rfl, upd_same, fun ws r => ?_, kitAny_cons c1 (fun z => kitAny_cons c1' (fun z' => ?_) fun z' => ?_) (fun z => by rw [z]; rfl), PR.bool q (Ext.new htp)⟩⟩
        · cases r with
          | cons r1 r2 =>
            cases r2 with
            | cons r2 r3 =>
              cases r3
              congr 1
              · cases e : k.2.1 <;> (rw [e] at r1; exact r1)
              · congr 1
                cases e : k'.2.1 <;> (rw [e] at r2; exact r2)
        · rw [z, z']; exact kitAny_nil
        · rw [z, z']; rfl
    · exact q.elim
theorem trCall_ok (h : XI Γ C G sc X W) (hf : ∀ ex e, f ex = some e → HV X W ex (ev C G e)) {x : Str} {args : List Expr} {e : E} {p pos : Pos} (q : trCall Γ sc f x args = some e) : HV X W (.Call (.Name x p) args [] pos) (ev C G e) := by
  unfold trCall at q
  split at q
  · rename_i c
    simp only [Bool.and_eq_true] at c
    have hd := (notDbg_ok c.2).1
    split at q
    · rename_i i n e1
      split at q
      · rename_i hn
        split at q
        · rename_i es e2
          injection q with q
          subst q
          obtain ⟨hn, hcm⟩ := hn
          obtain ⟨k, fa, fd, ps, F, hr, hm, hk, hb⟩ := h.fns hcm _ _ _ (fnF_ok e1)
          have ha := trL_ok hf e2
          cases args with
          | nil =>
            injection e2 with e2
            subst e2 hn
            exact hv_plain (he_call0 h.tk F hr (h.gl c.1) hm hk hb hd)
          | cons a as =>
            subst hn
            exact hv_plain (he_call h.tk F hr (h.gl c.1) hm hk hb ha hd)
        · cases q
      · cases q
    · split at q
      · rename_i hfr
        split at q
        · rename_i hx
          subst hx
          split at q
          · rename_i a t p2
            split at q
            · split at q
              · rename_i c2
                split at q
                · rename_i ty e3
                  split at q
                  · rename_i e4 e5
                    injection q with q
                    subst q
                    exact isi_hv h c.1 hfr c2.1 c2.2 e3 (hf _ _ e5)
                  · cases q
                · cases q
              · cases q
            · rename_i hcm
              split at q
              · split at q
                · rename_i es
                  split at q
                  · rename_i ek
                    split at q
                    · rename_i c2
                      injection q with q
                      subst q
                      exact ise_hv h (by simpa using hcm) c.1 hfr es ek c2.1 c2.2
                    · cases q
                  · cases q
                · cases q
              · cases q
          · split at q
            · cases q
            · rename_i hcm
              split at q
              · rename_i es
                split at q
                · rename_i ek
                  split at q
                  · rename_i ek'
                    split at q
                    · rename_i c2
                      injection q with q
                      subst q
                      exact ise2_hv h (by simpa using hcm) c.1 hfr es ek ek' c2.1.1 c2.1.2 c2.2.1 c2.2.2
                    · cases q
                  · cases q
                · cases q
              · cases q
          · cases q
        · split at q
          · rename_i b e3
            have := biF_ok e3
            subst this
            split at q
            · cases q
            · rename_i hne
              split at q
              · rename_i es e4
                injection q with q
                subst q
                simp only [Bool.or_eq_true, Bool.and_eq_true, Bool.not_eq_true', not_or, not_and] at hne
                cases args with
                | nil => exact absurd rfl hne.1
                | cons a as => exact hv_bi (fun z => h.calm (by
                    cases hc : Γ.calm with
                    | true => rfl
                    | false => exact absurd z (hne.2 hc))) (h.gl c.1) (h.fre _ hfr) (trL_ok hf e4)
              · cases q
          · cases q
      · cases q
  · cases q
/-! ### targets -/
theorem PG_or {tg : Expr} {g g' : TG} (h : PG X tg g) (h' : PG X tg g') : PG X tg (fun v σ H Q => g v σ H Q ∨ g' v σ H Q) :=
  ⟨fun pins s σ H v u Q I r q => q.elim (h.run pins s σ H v u Q I r) (h'.run pins s σ H v u Q I r)⟩
theorem trTs_ok {g : Str → Option Nat} (hg : ∀ x i p, g x = some i → PG X (.Name x p) (gName i)) : ∀ {es : List Expr} {is : List Nat}, trTs g es = some is →
    PGs X es (gList is) ∧ (assignEach es X.env).length = is.length ∧ (assignEach es X.env).findIdx? (·.1) = none
  | [], is, h => by injection h with h; subst h; exact ⟨pgs_nil, rfl, rfl⟩
  | .Name x p :: es, is, h => by
    unfold trTs at h
    split at h
    · rename_i i e1
      split at h
      · rename_i js e2
        injection h with h
        subst h
        obtain ⟨h1, h2, h3⟩ := trTs_ok hg e2
        refine ⟨pgs_cons (hg _ _ _ e1) h1 rfl, ?_, ?_⟩
        · show (assignEach es X.env).length + 1 = _
          rw [h2]; rfl
        · show ((false, assign (.Name x p) X.env) :: assignEach es X.env).findIdx? (·.1) = none
          rw [List.findIdx?_cons]
          simp [h3]
      · cases h
    · cases h
theorem trT_ok (hc : X.calm = true) {g : Str → Option Nat} (hg : ∀ x i p, g x = some i → PG X (.Name x p) (gName i)) {ex : Expr} {t : Tg} (h : trT g ex = some t) : PG X ex (gT X.K t) := by
  unfold trT at h
  split at h
  · split at h
    · rename_i i e1
      injection h with h; subst h
      exact hg _ _ _ e1
    · cases h
  · split at h
    · rename_i is e1
      injection h with h; subst h
      obtain ⟨h1, h2, h3⟩ := trTs_ok hg e1
      exact PG_or (pg_tup hc h1 h2 h3) (pg_lst hc h1 h2 h3)
    · cases h
  · cases h
theorem trT_each {g : Str → Option Nat} {ex : Expr} {t : Tg} (h : trT g ex = some t) : (assignEach [ex] X.env).map (·.2) = [assign ex X.env] := by
  unfold trT at h
  split at h
  · rfl
  · rfl
  · cases h
theorem trT_tup {g : Str → Option Nat} {ex : Expr} {t : Tg} (h : trT g ex = some t) (ht : isTupT t = true) : ∃ es k p, ex = .Tuple es k p := by
  unfold trT at h
  split at h
  · split at h
    · injection h with h; subst h; cases ht
    · cases h
  · exact ⟨_, _, _, rfl⟩
  · cases h
theorem set0 {e : Expr} (h : isSet e = false) {env : PySem.Env} : ∀ x, foldedSetIterable e env x = pure x := by
  intro x
  cases e <;> first | rfl | (simp [isSet] at h)
theorem trI_ok (h : XI Γ C G sc X W) (hf : ∀ ex e, f ex = some e → HV X W ex (ev C G e)) {tg it : Expr} {g : Str → Option Nat} {t : Tg} (ht : trT g tg = some t) {k : Sk} {args : List E} (q : trI Γ sc f t it = some (k, args)) :
    PI X tg it (tI X.kw W k fun ρ => seqR (evs C G args ρ)) ∧ isSet it = false := by
  have one : ∀ {e : E}, f it = some e → PI X tg it (tI X.kw W .seq fun ρ => seqR (evs C G [e] ρ)) := fun e1 => hi_seq (hf _ _ e1)
  unfold trI at q
  split at q
  · rename_i x p as pos
    split at q
    · rename_i c
      obtain ⟨rfl, c1, c2, c3⟩ := c
      split at q
      · rename_i es e1
        injection q with q; injection q with q1 q2
        subst q1 q2
        have ha := trL_ok hf e1
        refine ⟨?_, rfl⟩
        match as, ha, c3 with
        | [a], ha, _ => exact hi_range1 (h.gl c1) (h.fre _ c2) ha
        | [a, b], ha, _ => exact hi_range2 (h.gl c1) (h.fre _ c2) ha
        | [], _, c3 => simp at c3
        | _ :: _ :: _ :: _, _, c3 => simp at c3
      · cases q
    · split at q
      · rename_i c
        obtain ⟨rfl, c1, c2, c3, c4⟩ := c
        split at q
        · rename_i es e1
          injection q with q; injection q with q1 q2
          subst q1 q2
          have ha := trL_ok hf e1
          refine ⟨?_, rfl⟩
          obtain ⟨elts, kk, tp, rfl⟩ := trT_tup ht c4
          match as, ha, c3 with
          | [a], ha, _ => exact hi_enum (h.gl c1) (h.fre _ c2) ha
          | [], _, c3 => simp at c3
          | _ :: _ :: _, _, c3 => simp at c3
        · cases q
      · split at q
        · rename_i c
          obtain ⟨rfl, c1, c2, c3, c4⟩ := c
          split at q
          · rename_i es e1
            injection q with q; injection q with q1 q2
            subst q1 q2
            have ha := trL_ok hf e1
            refine ⟨?_, rfl⟩
            obtain ⟨elts, kk, tp, rfl⟩ := trT_tup ht c4
            match as, ha, c3 with
            | [a, b], ha, _ => exact hi_zip (h.gl c1) (h.fre _ c2) ha
            | [], _, c3 => simp at c3
            | [_], _, c3 => simp at c3
            | _ :: _ :: _ :: _, _, c3 => simp at c3
          · cases q
        · split at q
          · rename_i e e1
            injection q with q; injection q with q1 q2
            subst q1 q2
            exact ⟨one e1, rfl⟩
          · cases q
  · split at q
    · cases q
    · rename_i hs
      split at q
      · rename_i e e1
        injection q with q; injection q with q1 q2
        subst q1 q2
        exact ⟨one e1, by simpa using hs⟩
      · cases q
theorem slotB_ok {scope : Scope} (h : XI Γ C G sc X W) (hcm : Γ.calm = true) {x : Str} {i : Nat} (q : slotB Γ scope sc x = some i) : Blk X scope fun X' => ∀ p, PG X' (.Name x p) (gName i) := by
  intro s H A cl fp p
  have hx := h.blk hcm (s := s) (H := H) (scope := scope) (A := A) (cl := cl) (fp := fp)
  have nd : (X.blk s H scope (compEnvC scope cl A X.env) fp).N.Nodup := by rw [hx.hN]; exact h.nd
  have nx : ∀ {i}, slotF Γ.N x = some i → (X.blk s H scope (compEnvC scope cl A X.env) fp).N[i]? = some x := fun e => by rw [hx.hN]; exact slotF_ok e
  unfold slotB at q
  split at q
  · rename_i e
    have e' : (X.blk s H scope (compEnvC scope cl A X.env) fp).env.scope.names.lookup x = some .local := by rw [hx.hsc]; exact e
    exact pg_name nd (nx q) (.inl e') (.inr e')
  · rename_i e
    split at q
    · rename_i c
      have e' : (X.blk s H scope (compEnvC scope cl A X.env) fp).env.scope.names.lookup x = some .cell := by rw [hx.hsc]; exact e
      exact pg_name nd (nx q) (.inr e') (.inl c)
    · cases q
  · cases q
theorem tT_allnil {K : KW} : PTs X [] (tT X.kw W fun ρ => allT (evs C G [] ρ)) := by
  refine ⟨fun pins s σ H Q I ⟨F, N, Pf, ρ, S, q⟩ => ?_⟩
  exact pts_nil.run pins s σ H Q I (show tYes σ H Q from (show ∀ H', Ext H H' → Q true H' from q) H Ext.refl)
theorem pts_of (hf : ∀ ex e, f ex = some e → HV X W ex (ev C G e)) {cs : List E} {ifs : List Expr} (hl : ifs.length ≤ 1) (q : trL f ifs = some cs) : PTs X ifs (tT X.kw W fun ρ => allT (evs C G cs ρ)) := by
  match ifs, hl, q with
  | [], _, q =>
    injection q with q
    subst q
    exact tT_allnil (K := X.kw)
  | [i], _, q =>
    simp only [trL] at q
    split at q
    · rename_i c e1
      injection q with q
      subst q
      have e : (fun ρ => allT (evs C G [c] ρ)) = fun ρ => (ev C G c ρ).t := funext fun ρ => allT_one (K := X.kw)
      rw [e]
      exact pts_one (hf _ _ e1).t
    · cases q
  | _ :: _ :: _, hl, _ => simp at hl
end
section
variable {Γ : MC} {C : Cal} {G : Glo}
theorem trE_ok : ∀ (n : Nat) {sc : Scope} {X : Cx} {W : WX} (h : XI Γ C G sc X W) (ex : Expr) (e : E), trE Γ n sc ex = some e → HV X W ex (ev C G e)
  | 0, _, _, _, _, _, _, q => by cases q
  | n + 1, sc, X, W, h, ex, e, q => by
    have ih : ∀ (ex : Expr) (e : E), trE Γ n sc ex = some e → HV X W ex (ev C G e) := trE_ok n h
    unfold trE at q
    split at q
    · exact trC_ok q
    · split at q
      · rename_i i e1
        injection q with q; subst q
        obtain ⟨h1, h2, h3, h4⟩ := h.slot e1
        exact hv_var h1 h2 h3 h4
      · split at q
        · rename_i c
          injection q with q; subst q
          simp only [Bool.and_eq_true, decide_eq_true_eq] at c
          obtain ⟨p, v, u, k1, k2, k3, k4⟩ := h.glo _ c.2
          have := hv_glob (W := W) (pos := ‹Pos›) (h.gl c.1.1) k2 k3 (notDbg_ok c.1.2).1 k4
          refine ⟨?_, ?_, this.p⟩
          · have := this.e
            simp only [ev, k1]
            exact this
          · have := this.t
            simp only [ev, k1]
            exact this
        · cases q
    · split at q
      · rename_i o e0
        have := trBop_ok e0
        subst this
        split at q
        · rename_i a e1
          split at q
          · rename_i b e2
            injection q with q; subst q
            exact hv_bin (ih _ _ e1) (ih _ _ e2)
          · cases q
        · cases q
      · cases q
    · split at q
      · rename_i a e1
        injection q with q; subst q
        exact hv_not (ih _ _ e1)
      · cases q
    · split at q
      · rename_i a e1
        injection q with q; subst q
        exact hv_neg (ih _ _ e1)
      · cases q
    · split at q
      · cases q
      · rename_i hne
        split at q
        · rename_i es e1
          injection q with q; subst q
          exact hv_and (trL_ok ih e1) (by rintro rfl; exact hne rfl)
        · cases q
    · split at q
      · cases q
      · rename_i hne
        split at q
        · rename_i es e1
          injection q with q; subst q
          exact hv_or (trL_ok ih e1) (by rintro rfl; exact hne rfl)
        · cases q
    · rename_i a o b pos
      split at q
      · rename_i a' e1
        split at q
        · rename_i b' e2
          injection q with q; subst q
          have := hv_cmp (pos := pos) h.un (o := trCop o) (ih _ _ e1) (ih _ _ e2)
          rw [← trCop_ok] at this
          exact this
        · cases q
      · cases q
    · rename_i a o o' b c pos
      split at q
      · rename_i a' e1
        split at q
        · rename_i b' e2
          split at q
          · rename_i c' e3
            injection q with q; subst q
            have := hv_chn (pos := pos) h.un (o := trCop o) (o' := trCop o') (ih _ _ e1) (ih _ _ e2) (ih _ _ e3)
            rw [← trCop_ok, ← trCop_ok] at this
            exact this
          · cases q
        · cases q
      · cases q
    · split at q
      · rename_i a' e1
        split at q
        · rename_i b' e2
          split at q
          · rename_i c' e3
            injection q with q; subst q
            exact hv_ifx (ih _ _ e1) (ih _ _ e2) (ih _ _ e3)
          · cases q
        · cases q
      · cases q
    · rename_i x p kx bb j1 j2 tg it scope dpos pos
      split at q
      · rename_i c
        obtain ⟨⟨rfl, hcm⟩, c1, c2⟩ := c
        split at q
        · rename_i t e1
          split at q
          · rename_i k args e2
            split at q
            · rename_i c3
              split at q
              · rename_i el e4
                injection q with q; subst q
                obtain ⟨i1, i2⟩ := trI_ok h ih e1 e2
                exact hv_dkl (zv := .bl bb) (h.calm hcm) (by rw [h.hN]; exact h.nd) (h.gl c1) (h.fre _ c2) i1 (by rw [h.hN, h.hsc]; exact c3.1) (fun i hi => by simpa using (List.all_eq_true.mp c3.2) i hi)
                  (fun s H A cl fp => trT_ok (X := X.blk s H scope (compEnvC scope cl A X.env) fp) (h.calm hcm) (fun x i p hx => slotB_ok h hcm hx s H A cl fp p) e1)
                  (fun s H A cl fp => (trE_ok n (h.blk hcm) _ _ e4).e) (fun s H A cl fp => pe_bl) (set0 i2)
              · cases q
            · cases q
          · cases q
        · cases q
      · cases q
    · exact trCall_ok h ih q
    · rename_i o name apos args cpos
      split at q
      · rename_i m e0
        cases mtF_ok e0
        split at q
        · rename_i c
          obtain ⟨c1, c2, c3⟩ := c
          split at q
          · rename_i o' e1
            split at q
            · rename_i es e2
              injection q with q; subst q
              match args, es, e2, c3 with
              | [], es, e2, _ =>
                injection e2 with e2
                subst e2
                exact hv_mth0 (ih _ _ e1) c1 c2
              | [a], es, e2, _ =>
                have := hv_mth1 (m := m) (apos := apos) (cpos := cpos) (ih _ _ e1) (trL_ok ih e2) c1 c2
                exact this
              | _ :: _ :: _, _, _, c3 => simp at c3
            · cases q
          · cases q
        · cases q
      · cases q
    · split at q
      · rename_i c
        subst c
        split at q
        · rename_i a' e1
          injection q with q; subst q
          exact hv_rev (ih _ _ e1)
        · cases q
      · cases q
    · split at q
      · rename_i a' e1
        split at q
        · rename_i b' e2
          split at q
          · rename_i c' e3
            injection q with q; subst q
            exact hv_sl (ih _ _ e1) (trO_ok ih e2) (trO_ok ih e3)
          · cases q
        · cases q
      · cases q
    · rename_i a b pos _ _
      split at q
      · rename_i a' e1
        split at q
        · rename_i b' e2
          injection q with q; subst q
          cases hv : varOf a' with
          | some i =>
            have ha : a' = .var i := by
              cases a' <;> simp [varOf] at hv
              subst hv; rfl
            subst ha
            obtain ⟨x, p, rfl, e3⟩ := trE_var e1
            obtain ⟨h1, h2, h3, h4⟩ := h.slot e3
            exact hv_ixv h.un h1 h2 h3 h4 (ih _ _ e2)
          | none =>
            have := hv_ix (pos := pos) h.un (ih _ _ e1) (ih _ _ e2)
            have e : ev C G (.ix a' b') = fun ρ => vt ((ev C G a' ρ).e.bind fun x al => (ev C G b' ρ).e.bind fun y _ => dat2 x y fun p q => ixP (isNew x) al p q) := by
              funext ρ
              simp only [ev, hv]
            rw [e]
            exact this
        · cases q
      · cases q
    · split at q
      · rename_i hl
        split at q
        · rename_i es e1
          injection q with q; subst q
          exact hv_lst hl (trL_ok ih e1)
        · cases q
      · cases q
    · split at q
      · rename_i hl
        split at q
        · rename_i es e1
          injection q with q; subst q
          exact hv_tup hl (trL_ok ih e1)
        · cases q
      · cases q
    · rename_i elt tg it ifs scope pos
      split at q
      · rename_i t e1
        split at q
        · rename_i k args e2
          split at q
          · rename_i c
            obtain ⟨hcm, c1, c2, c3⟩ := c
            split at q
            · rename_i cs e3
              split at q
              · rename_i el e4
                injection q with q; subst q
                obtain ⟨i1, i2⟩ := trI_ok h ih e1 e2
                exact hv_lc (h.calm hcm) (by rw [h.hN]; exact h.nd) i1 (by rw [h.hN, h.hsc]; exact c2) (fun i hi => by simpa using (List.all_eq_true.mp c3) i hi)
                  (fun s H A cl fp => trT_ok (X := X.blk s H scope (compEnvC scope cl A X.env) fp) (h.calm hcm) (fun x i p hx => slotB_ok h hcm hx s H A cl fp p) e1)
                  (fun s H A cl fp => pts_of (trE_ok n (h.blk hcm)) c1 e3) (fun s H A cl fp => (trE_ok n (h.blk hcm) _ _ e4).e) (set0 i2)
              · cases q
            · cases q
          · cases q
        · cases q
      · cases q
    · cases q
end
end Hv

/-! Hv, part 19: from the text to the small language: statements. -/
namespace Hv
open PySem PySem.Spec PyProof.Rows L2

def isSlice : Expr → Bool
  | .Slice .. => true
  | _ => false
def isCall : Expr → Bool
  | .Call .. => true
  | _ => false
def baseN : Expr → Option (Str × Pos)
  | .Name x p => some (x, p)
  | _ => none
def locB (sc : Scope) (x : Str) : Bool := match sc.names.lookup x with
  | some .local => true
  | some .cell => true
  | _ => false
def slotL (Γ : MC) (sc : Scope) (x : Str) : Option Nat := if locB sc x then slotF Γ.N x else none
/-- name = [..] on one line -/
def compLine (sc : Scope) (x : Str) (p : Pos) (e : Expr) : Bool := match e with
  | .ListComp _ _ scope pos => (match sc.kind with | .function => true | _ => false) && (match sc.names.lookup x with | some .local => true | _ => false) && (p.line == pos.line) && !(scope.names.any fun (n, k) => n == x && (k == .local || k == .cell))
  | _ => false
/-- name = [..], the name a cell -/
def compCell (sc : Scope) (x : Str) (e : Expr) : Bool := match e with
  | .ListComp _ _ _ _ => (match sc.names.lookup x with | some .cell => true | _ => false)
  | _ => false
theorem sw_cell {sc : Scope} {x : Str} {e : Expr} {p : Pos} {l : Nat} {env : PySem.Env} (h : compCell sc x e = true) (hs : env.scope = sc) : swapsWith e (some (.Name x p)) l env = pure false := by
  unfold compCell at h
  split at h
  · split at h
    · rename_i hl
      have ky : env.kindOf x = some .cell := by
        show env.scope.names.lookup x = _
        rw [hs]; exact hl
      unfold swapsWith
      simp only [ky]
      have e : (some NameKind.cell == some NameKind.local) = false := rfl
      simp [e, show (NameKind.cell == NameKind.local) = false from rfl]
    · cases h
  · cases h
/-- what the small language has no word for: nothing is said of it -/
def badS : S := .asgT [] (.int 0)
def trSs (f : Stmt → Option S) : List Stmt → Option (List S)
  | [] => some []
  | s :: ss => match trSs f ss with
    | some as => some ((f s).getD badS :: as)
    | none => none
/-- a clause's name -/
def nmF (N : List Str) (sc : Scope) : Option Str → Option (Option Nat)
  | none => some none
  | some n => match sc.names.lookup n with
    | some .local => (match slotF N n with
      | some i => some (some i)
      | none => none)
    | _ => none
def trH (Γ : MC) (sc : Scope) (f : Stmt → Option S) : List ExceptHandler → Option (List (List (Str × Bool) × Option Nat × List S))
  | [] => some []
  | .ExceptHandler (some (.Name x _)) nm (st :: sts) _ :: hs => match clsF Γ x with
    | some k => if glB sc x = true ∧ notDbg x = true then (match nmF Γ.N sc nm with
      | some o => match trSs f (st :: sts) with
        | some b => match trH Γ sc f hs with
          | some r => some ((k.2.2, o, b) :: r)
          | none => none
        | none => none
      | none => none) else none
    | none => none
  | _ => none
def MC.hot (Γ : MC) : MC := { Γ with calm := false }
/-- x.append(y.pop(..)) -/
def trPop (Γ : MC) (n : Nat) (sc : Scope) (i : Nat) (o e : Expr) : Option S := match o, e with
  | .Name _ _, .Call (.Attribute (.Name y _) m apos) [ix] [] cpos => if m = ("pop" : Str) ∧ (apos.endLine == cpos.line) = true then (match slotV Γ sc y with
    | some j => match trE Γ n sc ix with
      | some a => some (.appPop i j a)
      | none => none
    | none => none) else none
  | _, _ => none
def trS : Nat → MC → Scope → Stmt → Option S
  | 0, _, _, _ => none
  | n + 1, Γ, sc, st => match st with
    | .Try body (h₀ :: hs) [] [] _ => if Γ.calm = true then (match trSs (trS n Γ sc) body with
      | some b => match trH Γ sc (trS n Γ.hot sc) (h₀ :: hs) with
        | some r => some (.try_ b r)
        | none => none
      | none => none) else none
    | .Assign [.Name x p] e _ => match slotL Γ sc x with
      | some i => match trE Γ n sc e with
        | some a => if isComp e = false ∨ compLine sc x p e = true ∨ compCell sc x e = true then some (.asg i a) else none
        | none => none
      | none => none
    | .Assign [.Tuple es k p] e _ => match trT (slotL Γ sc) (.Tuple es k p) with
      | some (.tup is) => match trE Γ n sc e with
        | some a => if Γ.calm = true ∧ isComp e = false ∧ isTup e = false then some (.asgT is a) else none
        | none => none
      | _ => none
    | .Assign [.Subscript o ix _] e _ => match baseN (unsub o).1 with
      | some (x, _) => match slotV Γ sc x with
        | some i => match trL (trE Γ n sc) (unsub o).2 with
          | some path => match trE Γ n sc ix with
            | some j => match trE Γ n sc e with
              | some a => if isComp e = false ∧ isSlice ix = false then some (.seti i path j a) else none
              | none => none
            | none => none
          | none => none
        | none => none
      | none => none
    | .AugAssign (.Name x _) .Add e _ => match slotL Γ sc x with
      | some i => match trE Γ n sc e with
        | some a => some (.aug i .add a)
        | none => none
      | none => none
    | .AugAssign (.Name x _) .Sub e _ => match slotL Γ sc x with
      | some i => match trE Γ n sc e with
        | some a => some (.aug i .sub a)
        | none => none
      | none => none
    | .Expr (.Call (.Attribute o m apos) [e] [] cpos) _ => if m = ("append" : Str) ∧ isCall o = false ∧ (apos.endLine == cpos.line) = true then (match baseN (unsub o).1 with
      | some (x, _) => match slotV Γ sc x with
        | some i => match trL (trE Γ n sc) (unsub o).2 with
          | some path => match trE Γ n sc e with
            | some a => some (.app i path a)
            | none => trPop Γ n sc i o e
          | none => none
        | none => none
      | none => none) else none
    | .Expr e _ => match trE Γ n sc e with
      | some a => if isComp e = false then some (.drop a) else none
      | none => none
    | .If c a b _ => match trE Γ n sc c with
      | some c => match trSs (trS n Γ sc) a with
        | some a => match trSs (trS n Γ sc) b with
          | some b => some (.ife c a b)
          | none => none
        | none => none
      | none => none
    | .For tg it b [] _ => match trT (slotL Γ sc) tg with
      | some t => match trI Γ sc (trE Γ n sc) t it with
        | some (k, args) => if Γ.calm = true then (match trSs (trS n Γ sc) b with
          | some b => some (.for_ k args t b)
          | none => none) else none
        | none => none
      | none => none
    | .While c b [] _ => match trE Γ n sc c with
      | some c => if Γ.calm = true then (match trSs (trS n Γ sc) b with
        | some b => some (.while_ c b)
        | none => none) else none
      | none => none
    | .Return none _ => some .retn
    | .Return (some (.Name x p)) _ => match slotV Γ sc x with
      | some i => some (.retv i)
      | none => match trE Γ n sc (.Name x p) with
        | some a => some (.ret a)
        | none => none
    | .Return (some e) _ => match trE Γ n sc e with
      | some a => some (.ret a)
      | none => none
    | .Pass _ => some .pass
    | .Break _ => some .brk
    | .Continue _ => some .cnt
    | .Raise (some (.Call (.Name x _) [.Constant (.str _) _ _] [] _)) none _ => if Γ.calm = true ∧ x ∈ Γ.exc ∧ glB sc x = true ∧ notDbg x = true then some (.raise_ x) else none
    | _ => none
/-- what is known of a def's body, beyond its expressions' -/
structure XS (Γ : MC) (C : Cal) (G : Glo) (sc : Scope) (X : Cx) (W : WX) : Prop extends XI Γ C G sc X W where
  fn : ∀ x, X.fn x = true
  po : Γ.calm = true → PassesOwn (model X.prog X.w) X.A X.env X.xe
  stk : Γ.calm = true → X.stack = X.env :: X.outer ∧ X.env.frame = some X.env.locals
  kwn : Γ.calm = true → X.kw = ⟨X.K, X.w.params, none⟩
  xkn : ∀ x ∈ Γ.glo, x ≠ xk
  exc : ∀ x ∈ Γ.exc, He.Fa.ok X.K (.exc x) = true ∧ X.mg x = some (.ref (He.ga X.K x))
section
variable {Γ : MC} {C : Cal} {G : Glo} {B : Sub} {sc : Scope} {X : Cx} {W : WX} {E0 : Hp}
theorem XS.loc (h : XS Γ C G sc X W) {x : Str} {i : Nat} (e : slotL Γ sc x = some i) : X.N[i]? = some x ∧ L2.Loc X.env.scope x := by
  unfold slotL at e
  split at e
  · rename_i c
    rw [h.hN, h.hsc]
    refine ⟨slotF_ok e, ?_⟩
    unfold locB at c
    unfold L2.Loc
    split at c
    · rename_i e; exact .inl e
    · rename_i e; exact .inr e
    · cases c
  · cases e
theorem XS.pg (h : XS Γ C G sc X W) {x : Str} {i : Nat} {p : Pos} (e : slotL Γ sc x = some i) : PG X (.Name x p) (gName i) := by
  obtain ⟨h1, h2⟩ := h.loc e
  exact pg_name (by rw [h.hN]; exact h.nd) h1 h2 (.inl (h.fn x))
theorem XS.nds (h : XS Γ C G sc X W) : X.N.Nodup := by rw [h.hN]; exact h.nd
theorem baseN_ok {e : Expr} {x : Str} {p : Pos} (h : baseN e = some (x, p)) : e = .Name x p := by
  cases e <;> simp [baseN] at h
  obtain ⟨rfl, rfl⟩ := h
  rfl
theorem badS_ok {K : KW} {M : List Nat} {st : Stmt} : PS X st (tS K W E0 M (sv C G B badS)) := ⟨fun pins s σ H D I q => by
  obtain ⟨F, N, Pf, ρ, _, q⟩ := q
  have e : sv C G B badS ρ = .stuck := by unfold badS; simp only [sv]; rfl
  rw [e] at q
  exact q.elim⟩
theorem trSs_ok {f : Stmt → Option S} {M : List Nat} (hf : ∀ st s, f st = some s → (∀ i ∈ mutS s, i ∈ M) → PS X st (tS X.kw W E0 M (sv C G B s))) : ∀ {sts : List Stmt} {ss : List S}, trSs f sts = some ss → (∀ i ∈ mutSs ss, i ∈ M) → PSs X sts (tS X.kw W E0 M (svs C G B ss))
  | [], ss, h, _ => by injection h with h; subst h; exact hss_nil
  | st :: sts, ss, h, hm => by
    unfold trSs at h
    split at h
    · rename_i as e2
      injection h with h; subst h
      refine hss_cons ?_ (trSs_ok hf e2 fun i hi => hm i (by unfold mutSs; exact List.mem_append_right _ hi))
      cases e1 : f st with
      | none => exact badS_ok
      | some a =>
        rw [e1] at hm
        exact hf _ _ e1 fun i hi => hm i (by unfold mutSs; exact List.mem_append_left _ hi)
    · cases h
theorem assign_sub {o ix : Expr} {tpos : Pos} {env : PySem.Env} (h : isSlice ix = false) : ∀ v, assign (.Subscript o ix tpos) env v = (do
      let ov ← holding [v] (eval o env)
      let iv ← holding [v, ov] (eval ix env)
      standAt tpos
      holding [v, ov, iv] (setItem ov iv v)
      release [v, ov, iv] []) := by
  intro v
  cases ix <;> first | rfl | (simp [isSlice] at h)
theorem attr_base {o : Expr} {a : Str} {env : PySem.Env} (h : isCall o = false) : attributeBase o a env (eval o env) = eval o env := by
  cases o <;> first | rfl | (simp [isCall] at h)
theorem raise_ok (h : XS Γ C G sc X W) {x m : Str} {j : Nat} {p p2 pos : Pos} (hx : x ∈ Γ.exc) (hg : glB sc x = true) (hd : notDbg x = true) : PMk X (.Call (.Name x p) [.Constant (.str m) j p2] [] pos) (fun _ H Q => Q (.ref (He.ga X.K x)) none H) := by
  obtain ⟨h1, h2⟩ := h.exc x hx
  obtain ⟨k1, k2, k3, k4⟩ := He.exc_ok h1
  exact pmk_own PySem.F.excBase_ValueError k1 h2 k2 (raises_own k3 k4) (h.gl hg) (notDbg_ok hd).1
/-- into a try's body -/
theorem XS.body (h : XS Γ C G sc X W) (hcm : Γ.calm = true) {W' : WX} {pn : List (Addr × Obj)} {xe : Value → Shared → Prop} (tk : Takes (X.tr pn xe) W') (po : PassesOwn (model X.prog X.w) X.A X.env xe) : XS Γ C G sc (X.tr pn xe) W' where
  hN := h.hN
  nd := h.nd
  hsc := h.hsc
  calm := h.calm
  sui := fun z => by rw [hcm] at z; cases z
  cls := h.cls
  un := h.un
  tk := tk
  fns := h.fns
  glo := h.glo
  fre := h.fre
  fn := h.fn
  po := fun _ => po
  stk := h.stk
  kwn := h.kwn
  xkn := h.xkn
  exc := h.exc
/-- into a clause's suite -/
theorem XS.hot (h : XS Γ C G sc X W) {a : Addr} {ob : Obj} {c : Str} {pn : List (Addr × Obj)} (hz : Zc (.ref (He.ga X.K c)) none ob) (hf : ∃ vs, ob.data = .fields vs) : XS Γ.hot C (setX G c) sc (X.suite a ((a, ob) :: pn)) (fun _ _ _ _ => False) where
  hN := h.hN
  nd := h.nd
  hsc := h.hsc
  calm := fun z => by cases z
  sui := fun _ => ⟨X, a, ob, pn, c, rfl, hz, hf, if_pos rfl⟩
  cls := h.cls
  un := h.un
  tk := takes_none5
  fns := fun z => by cases z
  glo := fun x hx => by
    obtain ⟨p, v, u, h1, h2, h3, h4⟩ := h.glo x hx
    exact ⟨p, v, u, by rw [← h1]; exact if_neg (h.xkn x hx), h2, h3, fun H => (h4 H).kx⟩
  fre := h.fre
  fn := h.fn
  po := fun z => by cases z
  stk := fun z => by cases z
  kwn := fun z => by cases z
  xkn := h.xkn
  exc := h.exc
theorem nmF_ok (h : XS Γ C G sc X W) {nm : Option Str} {o : Option Nat} (e : nmF Γ.N sc nm = some o) : NameOk X nm o := by
  cases nm with
  | none => injection e with e; subst e; exact trivial
  | some n =>
    simp only [nmF] at e
    split at e
    · rename_i hl
      split at e
      · rename_i i hi
        injection e with e
        subst e
        refine ⟨by rw [h.hN]; exact slotF_ok hi, ?_⟩
        show X.env.scope.names.lookup n = _
        rw [h.hsc]
        exact hl
      · cases e
    · cases e
theorem cls_names (h : XS Γ C G sc X W) {t : Str} {k : Str × Option String × List (Str × Bool)} (ek : clsF Γ t = some k) (gt : glB sc t = true) (dt : notDbg t = true) : Names X t (clsV X.K t k.2.1) := by
  obtain ⟨k1, k2⟩ := clsF_ok ek
  have hk := (h.cls k k1).nm
  rw [k2] at hk
  refine ⟨h.gl gt, (notDbg_ok dt).1, ?_⟩
  cases e : k.2.1 with
  | none => rw [e] at hk; exact .inl hk
  | some ty => rw [e] at hk; exact .inr hk
theorem hnd_F {c : Str} : ∀ {hs : List (List (Str × Bool) × Option Nat × List S)} {ρ : Env}, hnd C G B c hs ρ = hndF c (hs.map fun z => (z.1, z.2.1, fun c => svs C (setX G c) B z.2.2)) ρ
  | [], ρ => by simp only [hnd, List.map_nil, hndF]
  | (cs, o, b) :: hs, ρ => by
    have ih := hnd_F (c := c) (hs := hs) (ρ := ρ)
    simp only [hnd, List.map_cons, hndF]
    generalize cs.lookup c = v
    match v with
    | none => rfl
    | some true => rfl
    | some false => exact ih
theorem comp_set (h : XS Γ C G sc X W) {n : Nat} {x : Str} {i : Nat} {p spos : Pos} {e : Expr} {a : E} (hi : slotL Γ sc x = some i) (q : trE Γ n sc e = some a) (hc : compLine sc x p e = true) : PS X (.Assign [.Name x p] e spos) (tAsg (tE X.kw W fun ρ => (ev C G a ρ).e) (gName i)) := by
  cases n with
  | zero => cases q
  | succ n =>
    have ih : ∀ (ex : Expr) (e : E), trE Γ n sc ex = some e → HV X W ex (ev C G e) := trE_ok n h.toXI
    unfold trE at q
    unfold compLine at hc
    split at hc
    · rename_i elt gens scope pos
      simp only [Bool.and_eq_true, Bool.not_eq_true'] at hc
      obtain ⟨⟨⟨c1, c2⟩, c3⟩, c4⟩ := hc
      have k1 : sc.kind = .function := by
        split at c1
        · assumption
        · cases c1
      have k2 : sc.names.lookup x = some .local := by
        split at c2
        · assumption
        · cases c2
      split at q
      all_goals first | contradiction | skip
      rename_i elt' tg it ifs scope' pos' heq
      injection heq with g1 g2 g3 g4
      subst g1 g2 g3 g4
      split at q
      · rename_i t e1
        split at q
        · rename_i k args e2
          split at q
          · rename_i c
            obtain ⟨hcm, d1, d2, d3⟩ := c
            split at q
            · rename_i cs e3
              split at q
              · rename_i el e4
                injection q with q; subst q
                obtain ⟨i1, i2⟩ := trI_ok h.toXI ih e1 e2
                obtain ⟨l1, l2⟩ := h.loc hi
                refine PS_imp (ps_setLc (te := tE X.kw WN fun ρ => (ev C G el ρ).e) (tt := tT X.kw WN fun ρ => allT (evs C G cs ρ)) (g := gT X.K t) (h.calm hcm) h.nds l1 (by rw [h.hsc]; exact k2) (sw_true (by rw [h.hsc]; exact k1) (by rw [h.hsc]; exact k2) c3 c4) i1 (blkOk_by (by rw [h.hN, h.hsc]; exact d2))
                  (fun s H A cl fp => trT_ok (X := X.blk s H scope (compEnvC scope cl A X.env) fp) (h.calm hcm) (fun x i p hx => slotB_ok h.toXI hcm hx s H A cl fp p) e1)
                  (fun s H A cl fp => pts_of (trE_ok n (h.toXI.blk hcm)) d1 e3) (fun s H A cl fp => (trE_ok n (h.toXI.blk hcm) _ _ e4).e) (set0 i2)) fun D σ H q => ?_
                exact lc_read rfl (fun i hi => by simpa using (List.all_eq_true.mp d3) i hi) q
              · cases q
            · cases q
          · cases q
        · cases q
      · cases q
    · cases hc
/-- the clauses -/
theorem trH_ok (h : XS Γ C G sc X W) {f : Stmt → Option S} {M : List Nat} (hf : ∀ (a : Addr) (ob : Obj) (c : Str) (pn : List (Addr × Obj)), Zc (.ref (He.ga X.K c)) none ob → (∃ vs, ob.data = .fields vs) → ∀ st s, f st = some s → (∀ i ∈ mutS s, i ∈ M) → PS (X.suite a ((a, ob) :: pn)) st (tS (X.suite a ((a, ob) :: pn)).kw (fun _ _ _ _ => False) E0 M (sv C (setX G c) B s))) :
    ∀ {hs : List ExceptHandler} {r : List (List (Str × Bool) × Option Nat × List S)}, trH Γ sc f hs = some r → (∀ i ∈ mutH r, i ∈ M) → CEs X E0 M hs (r.map fun z => (z.1, z.2.1, fun c => svs C (setX G c) B z.2.2))
  | [], r, q, _ => by
    simp only [trH, Option.some.injEq] at q
    subst q
    exact .nil
  | hd :: hs, r, q, hM => by
    unfold trH at q
    split at q
    · rename_i heq; cases heq
    · rename_i x p nm st sts pos hs' heq
      injection heq with g1 g2
      subst g1 g2
      split at q
      · rename_i k ek
        split at q
        · rename_i c
          split at q
          · rename_i o eo
            split at q
            · rename_i b eb
              split at q
              · rename_i r' er
                injection q with q
                subst q
                have ih := trH_ok h hf er fun i hi => hM i (by unfold mutH; exact List.mem_append_right _ hi)
                refine .cons (cls_names h ek c.1 c.2) (nmF_ok h eo) (fun c b hl => ?_) (fun a ob c pn _ hz hv => ?_) ih
                · obtain ⟨k1, k2⟩ := clsF_ok ek
                  have := ((h.cls k k1).ck c b hl).2.1
                  rw [k2] at this
                  exact this
                · exact trSs_ok (hf a ob c pn hz hv) eb fun i hi => hM i (by unfold mutH; exact List.mem_append_left _ hi)
              · cases q
            · cases q
          · cases q
        · cases q
      · cases q
    · cases q
theorem trS_ok : ∀ (n : Nat) {Γ : MC} {G : Glo} {X : Cx} {W : WX}, XS Γ C G sc X W → ∀ (st : Stmt) (s : S) (M : List Nat), trS n Γ sc st = some s → (∀ i ∈ mutS s, i ∈ M) → PS X st (tS X.kw W E0 M (sv C G B s))
  | 0, _, _, _, _, _, _, _, _, q, _ => by cases q
  | n + 1, Γ, G, X, W, h, st, s, M, q, hM => by
    have ihE : ∀ (ex : Expr) (e : E), trE Γ n sc ex = some e → HV X W ex (ev C G e) := trE_ok n h.toXI
    have ihS : ∀ M st s, trS n Γ sc st = some s → (∀ i ∈ mutS s, i ∈ M) → PS X st (tS X.kw W E0 M (sv C G B s)) := fun M st s => trS_ok n h st s M
    unfold trS at q
    split at q
    · split at q
      · rename_i hcm
        split at q
        · rename_i b e1
          split at q
          · rename_i r e2
            injection q with q; subst q
            obtain ⟨s1, s2⟩ := h.stk hcm
            have hr := trH_ok (E0 := E0) (B := B) (M := M) h (fun a ob c pn hz hv st s q hm => trS_ok n (h.hot hz hv) st s M q hm) e2 fun i hi => hM i (by unfold mutS; exact List.mem_append_right _ hi)
            have key := hs_try (pos := ‹Pos›) (f := svs C G B b) s1 s2 h.nds h.tk (h.kwn hcm) (fun W' pn xe tk po => trSs_ok (fun st s q hm => trS_ok n (h.body hcm tk po) st s M q hm) e1 fun i hi => hM i (by unfold mutS; exact List.mem_append_left _ hi)) hr
            have e : sv C G B (.try_ b r) = fun ρ => match svs C G B b ρ with
                | .exc c ρ' => hndF c (r.map fun z => (z.1, z.2.1, fun c => svs C (setX G c) B z.2.2)) ρ'
                | r => r := by
              funext ρ
              simp only [sv]
              cases svs C G B b ρ with
              | exc c ρ' => exact hnd_F
              | _ => rfl
            rw [e]
            exact key
          · cases q
        · cases q
      · cases q
    · split at q
      · rename_i i e1
        split at q
        · rename_i a e2
          split at q
          · rename_i c
            injection q with q; subst q
            obtain ⟨l1, l2⟩ := h.loc e1
            rcases c with c | c | c
            · exact hs_asg h.nds l1 l2 (ihE _ _ e2) c (.inl (h.fn _))
            · exact hs_asg' (comp_set h e1 e2 c)
            · exact hs_asg' (ps_set h.nds l1 l2 (ihE _ _ e2).e (sw_cell c h.hsc) (.inl (h.fn _)))
          · cases q
        · cases q
      · cases q
    · split at q
      · rename_i is e1
        split at q
        · rename_i a e2
          split at q
          · rename_i c
            injection q with q; subst q
            exact hs_asgT (ihE _ _ e2) (trT_ok (h.calm c.1) (fun x i p hx => h.pg hx) e1) c.2.1 c.2.2 (trT_each e1)
          · cases q
        · cases q
      · cases q
    · split at q
      · rename_i x p e0
        split at q
        · rename_i i e1
          split at q
          · rename_i path e2
            split at q
            · rename_i j e3
              split at q
              · rename_i a e4
                split at q
                · rename_i c
                  injection q with q; subst q
                  obtain ⟨h1, h2, h3, h4⟩ := h.slot e1
                  exact hs_seti h1 h2 h3 h4 (baseN_ok e0) (trL_ok ihE e2) (ihE _ _ e3) (ihE _ _ e4) (hM i (by simp [mutS])) c.1 (assign_sub c.2)
                · cases q
              · cases q
            · cases q
          · cases q
        · cases q
      · cases q
    · split at q
      · rename_i i e1
        split at q
        · rename_i a e2
          injection q with q; subst q
          obtain ⟨l1, l2⟩ := h.loc e1
          exact hs_aug (.inl ⟨rfl, rfl⟩) h.nds l1 l2 (ihE _ _ e2) (.inl (h.fn _))
        · cases q
      · cases q
    · split at q
      · rename_i i e1
        split at q
        · rename_i a e2
          injection q with q; subst q
          obtain ⟨l1, l2⟩ := h.loc e1
          exact hs_aug (.inr ⟨rfl, rfl⟩) h.nds l1 l2 (ihE _ _ e2) (.inl (h.fn _))
        · cases q
      · cases q
    · split at q
      · rename_i c
        obtain ⟨rfl, c2, c3⟩ := c
        split at q
        · rename_i x p e0
          split at q
          · rename_i i e1
            split at q
            · rename_i path e2
              split at q
              · rename_i a e4
                injection q with q; subst q
                obtain ⟨h1, h2, h3, h4⟩ := h.slot e1
                exact hs_app h1 h2 h3 h4 (baseN_ok e0) (trL_ok ihE e2) (ihE _ _ e4) (attr_base c2) c3 (hM i (by simp [mutS]))
              · unfold trPop at q
                split at q
                · split at q
                  · rename_i cm
                    obtain ⟨rfl, cl⟩ := cm
                    split at q
                    · rename_i j f1
                      split at q
                      · rename_i a f2
                        injection q with q; subst q
                        obtain ⟨h1, h2, h3, h4⟩ := h.slot e1
                        obtain ⟨g1, g2, g3, g4⟩ := h.slot f1
                        have e0 := baseN_ok e0
                        injection e0 with e0 e0'
                        subst e0 e0'
                        exact hs_appPop h1 h2 h3 h4 g1 g2 g3 g4 (ihE _ _ f2) c3 cl (hM i (by simp [mutS])) (hM j (by simp [mutS]))
                      · cases q
                    · cases q
                  · cases q
                · cases q
            · cases q
          · cases q
        · cases q
      · cases q
    · split at q
      · rename_i a e1
        split at q
        · rename_i c
          injection q with q; subst q
          exact hs_drop (ihE _ _ e1) c
        · cases q
      · cases q
    · split at q
      · rename_i c' e1
        split at q
        · rename_i a' e2
          split at q
          · rename_i b' e3
            injection q with q; subst q
            exact hs_if (ihE _ _ e1) (trSs_ok (ihS M) e2 fun i hi => hM i (by unfold mutS; exact List.mem_append_left _ hi)) (trSs_ok (ihS M) e3 fun i hi => hM i (by unfold mutS; exact List.mem_append_right _ hi))
          · cases q
        · cases q
      · cases q
    · split at q
      · rename_i t e1
        split at q
        · rename_i k args e2
          split at q
          · rename_i hcm
            split at q
            · rename_i b' e3
              injection q with q; subst q
              obtain ⟨i1, i2⟩ := trI_ok h.toXI ihE e1 e2
              exact hs_for (h.po hcm) (h.calm hcm) i1 (trT_ok (h.calm hcm) (fun x i p hx => h.pg hx) e1) (trSs_ok (ihS (mutSs b')) e3 fun i hi => hi) (fun i hi => hM i (by unfold mutS; exact hi)) (set0 i2)
            · cases q
          · cases q
        · cases q
      · cases q
    · split at q
      · rename_i c' e1
        split at q
        · rename_i hcm
          split at q
          · rename_i b' e3
            injection q with q; subst q
            exact hs_while (h.po hcm) (ihE _ _ e1) (trSs_ok (ihS M) e3 fun i hi => hM i (by unfold mutS; exact hi))
          · cases q
        · cases q
      · cases q
    · injection q with q; subst q
      exact hs_retn
    · split at q
      · rename_i i e1
        injection q with q; subst q
        obtain ⟨h1, h2, h3, h4⟩ := h.slot e1
        exact hs_retv h1 h2 h3 h4
      · split at q
        · rename_i a e2
          injection q with q; subst q
          exact hs_ret (ihE _ _ e2)
        · cases q
    · split at q
      · rename_i a e2
        injection q with q; subst q
        exact hs_ret (ihE _ _ e2)
      · cases q
    · injection q with q; subst q; exact hs_pass
    · injection q with q; subst q; exact hs_brk
    · injection q with q; subst q; exact hs_cnt
    · split at q
      · rename_i c
        injection q with q; subst q
        exact hs_raise (h.calm c.1) h.tk (raise_ok h c.2.1 c.2.2.1 c.2.2.2)
      · cases q
    · cases q
end
end Hv

/-! Hv, part 20: the defs of a law, and the law. -/
namespace Hv
open PySem PySem.Spec PyProof.Rows L2

/-- a def: where it stands, its slots -/
structure Fd where
  d : He.DefD
  N : List Str
def Fd.ps (f : Fd) : List Str := f.d.params.args.map (·.arg)
/-- a law's names -/
structure Tb where
  T : List Fd
  gl : List (Str × PyData)
  fre : List Str
  exc : List Str
  cls : List (Str × Option String × List (Str × Bool))
def Tb.mc (t : Tb) (f : Fd) : MC := ⟨f.N, t.T.map fun f => (f.d.name, f.ps.length), t.gl.map (·.1), t.fre, t.exc, true, t.cls⟩
def Tb.G (t : Tb) : Glo := fun x => t.gl.lookup x
def Tb.tr (t : Tb) (f : Fd) : Option (List S) := trSs (trS 40 (t.mc f) f.d.scope) f.d.body
def Tb.body (t : Tb) (f : Fd) : List S := (t.tr f).getD []
def startE (n : Nat) (ps : List PyData) : Env := ps.map (fun p => some (.v p)) ++ List.replicate (n - ps.length) none
noncomputable def runF (C : Cal) (G : Glo) (B : Sub) (n m : Nat) (body : List S) (ps : List PyData) : CR := if ps.length = n then match svs C G B body (startE m ps) with
  | .next _ => .ok (.v .none)
  | .ret d => .ok d
  | .exc c _ => .exc c
  | _ => .stuck else .stuck
noncomputable def callN (t : Tb) (B : Sub) : Nat → Cal
  | 0 => fun _ _ => .stuck
  | k + 1 => fun i ps => match t.T[i]? with
    | some f => runF (callN t B k) t.G B f.ps.length f.N.length (t.body f) ps
    | none => .stuck
def isFn (k : ScopeKind) : Bool := match k with | .function => true | _ => false
def fdC (f : Fd) : Bool := isFn f.d.scope.kind && !f.d.scope.isCoroutine && !f.d.scope.isGenerator && decide f.N.Nodup && decide (f.N.take f.ps.length = f.ps) && (f.ps.all fun x => locB f.d.scope x) && (f.d.scope.names.all fun y => match y.2 with | .free => false | _ => true)
theorem fdC_ok {f : Fd} (h : fdC f = true) : FnScope f.N f.ps f.d.scope := by
  unfold fdC at h
  simp only [Bool.and_eq_true, Bool.not_eq_true', decide_eq_true_eq, List.all_eq_true] at h
  obtain ⟨⟨⟨⟨⟨⟨h1, h2⟩, h3⟩, h4⟩, h5⟩, h6⟩, h7⟩ := h
  refine ⟨?_, h2, h3, h4, h5, fun x hx => ?_, fun y hy e => ?_⟩
  · unfold isFn at h1
    split at h1
    · assumption
    · cases h1
  · have := h6 x hx
    unfold locB at this
    split at this
    · rename_i e; exact .inl e
    · rename_i e; exact .inr e
    · cases this
  · have := h7 y hy
    rw [e] at this
    cases this
def Tb.ok (t : Tb) : Bool := (t.T.all fun f => fdC f && (t.tr f).isSome) && t.gl.all fun p => decide (p.1 ≠ xk)
/-- how a def's arguments are bound -/
def BindOk (f : Fd) : Prop := ∀ (kV doc pm : Value) (an : Option Addr) (cdv ct : Value) (us : List Value), us.length = f.ps.length → bindArgs (PySem.W.fnOf f.d.name f.d.qual f.d.params f.d.body f.d.scope .none kV doc pm an cdv ct) ⟨us, []⟩ = pure (f.ps.zip us)
/-- what the head says -/
structure Hd (t : Tb) (w : World) (K : PySem.W.Frag) (mg : Str → Option Value) : Prop where
  fns : ∀ (i : Nat) (f : Fd), t.T[i]? = some f → ∃ fa fd, FunD K f.d.name f.d.qual f.d.params f.d.body f.d.scope [] [] fa fd ∧ mg f.d.name = some (.ref fa)
  glo : ∀ x p, t.G x = some p → ∃ v u, mg x = some u ∧ RelV v u ∧ ∀ H, Rp ⟨K, w.params, none⟩ (fun _ => False) H v p
  fre : ∀ x ∈ t.fre, mg x = none
  exc : ∀ x ∈ t.exc, He.Fa.ok K (.exc x) = true ∧ mg x = some (.ref (He.ga K x))
  cls : ∀ e ∈ t.cls, ClsE K mg e
section
variable {t : Tb} {B : Sub} {P : Program} {w : World} {K : PySem.W.Frag} {mg : Str → Option Value} {base : Heap}
theorem spF_len {K : KW} {n : Nat} {f : List PyData → CR} {vs : List V} {H : Hp} {Q : VK} {E : XK} (h : spF K n f vs H Q E) : vs.length = n := h.1
theorem start_get {N : List Str} {vs : List V} {i : Nat} {x : V} (h : vs[i]? = some x) : (L2.start N vs)[i]? = some (some x) := by
  unfold L2.start
  have hi : i < vs.length := (List.getElem?_eq_some_iff.mp h).1
  rw [List.getElem?_append_left (by simpa using hi), List.getElem?_map, h]
  rfl
theorem stt_start {k : KW} {F : AS} {H : Hp} {vs : List V} {ps : List PyData} {N : List Str} (r : Rps k F H vs ps) (hF : ∀ a, F a → H a ≠ none) : Stt k H F (fun _ => False) (fun _ _ => False) H (L2.start N vs) (startE N.length ps) where
  len := by
    unfold L2.start startE
    simp [r.len]
  rep := fun i d h => by
    unfold startE at h
    by_cases hi : i < ps.length
    · rw [List.getElem?_append_left (by simpa using hi), List.getElem?_map] at h
      cases e : ps[i]? with
      | none => rw [e] at h; cases h
      | some p =>
        rw [e] at h
        injection h with h; injection h with h
        subst h
        obtain ⟨x, e1, rx⟩ := r.get e
        exact ⟨x, start_get e1, .mk (.v (rx.mono fun _ z => .inl z))⟩
    · rw [List.getElem?_append_right (by simpa using hi)] at h
      rw [List.getElem?_replicate] at h
      split at h <;> cases h
  dis := fun _ _ _ z => z.elim
  prv := fun _ _ z => z.elim
  new := fun _ z => z.elim
  old := hF
  ext := Ext.refl
theorem lookup_map {α β : Type} {l : List (Str × β)} {x : Str} (h : x ∈ l.map (·.1)) : ∃ p, l.lookup x = some p := by
  induction l with
  | nil => cases h
  | cons a l ih =>
    by_cases hx : x = a.1
    · subst hx
      exact ⟨a.2, by simp [List.lookup]⟩
    · have : (x == a.1) = false := by simpa using hx
      obtain ⟨p, hp⟩ := ih (by simpa [hx] using h)
      exact ⟨p, by rw [List.lookup, this]; exact hp⟩
theorem table_ok (hd : Hd t w K mg) (hc : t.ok = true) (hb : ∀ f ∈ t.T, BindOk f) : ∀ (k i : Nat) (f : Fd) (fa : Addr) (fd : FuncData), t.T[i]? = some f → FunD K f.d.name f.d.qual f.d.params f.d.body f.d.scope [] [] fa fd → FnOk P w K mg base (L2.CX P w) k fa fd f.ps (spF ⟨K, w.params, none⟩ f.ps.length (callN t B k i))
  | 0, i, f, fa, fd, hf, F => by
    refine ⟨fun vs H Q E h => h.1, fun A outer s H args us vs Q E hr he hbd hv hs => ?_⟩
    obtain ⟨_, F, ps, _, _, z⟩ := hs
    exact z.elim
  | k + 1, i, f, fa, fd, hf, F => by
    have hfm := List.mem_of_getElem? hf
    have hc' := hc
    unfold Tb.ok at hc'
    simp only [Bool.and_eq_true] at hc'
    have hck := List.all_eq_true.mp hc'.1 f hfm
    simp only [Bool.and_eq_true] at hck
    have S := fdC_ok hck.1
    obtain ⟨body, htr⟩ := Option.isSome_iff_exists.mp hck.2
    have hbody : t.body f = body := by unfold Tb.body; rw [htr]; rfl
    refine F.ok S (fun vs H Q E h => h.1) fun cdv A outer s H vs Q E hr hsp => ?_
    refine ⟨tS ⟨K, w.params, none⟩ (fun cl od _ H' => E cl od H') H (mutSs body) (svs (callN t B k) t.G B body), ?_, ?_⟩
    · have hk : (cxOf (L2.CX P w) P w K mg base f.N f.d.qual f.d.scope fa cdv A outer s H E).kw = ⟨K, w.params, none⟩ := by
        show (⟨K, w.params, (A.deeper (envOfC f.d.qual f.d.scope s.heap.objs.size fa cdv)).handled⟩ : KW) = _
        rw [hr.hd]
      have xs : XS (t.mc f) (callN t B k) t.G f.d.scope (cxOf (L2.CX P w) P w K mg base f.N f.d.qual f.d.scope fa cdv A outer s H E) (fun cl od _ H' => E cl od H') := {
        hN := rfl
        nd := S.nd
        hsc := rfl
        calm := fun _ => rfl
        sui := fun z => by cases z
        cls := hd.cls
        un := by
          have := hr.un
          show (A.deeper _).units + 65 < cLine
          omega
        tk := takes_of (E := E) (E₁ := fun e' s'' => L2.CX P w outer H s E e' s'') rfl rfl rfl rfl
        fns := fun _ j x n e => by
          have e : (t.T.map fun f => (f.d.name, f.ps.length))[j]? = some (x, n) := e
          rw [List.getElem?_map] at e
          cases e1 : t.T[j]? with
          | none => rw [e1] at e; cases e
          | some g =>
            rw [e1] at e
            injection e with e; injection e with e2 e3
            subst e2 e3
            obtain ⟨ga, gd, G, gm⟩ := hd.fns j g e1
            exact ⟨k, ga, gd, g.ps, by rw [hk]; exact table_ok hd hc hb k j g ga gd e1 G, hr, gm, G.kp, G.bindsN (hb g (List.mem_of_getElem? e1))⟩
        glo := fun x hx => by
          obtain ⟨p, hp⟩ := lookup_map (α := Unit) (show x ∈ t.gl.map (·.1) from hx)
          obtain ⟨v, u, h1, h2, h3⟩ := hd.glo x p hp
          exact ⟨p, v, u, hp, h1, h2, fun H => (h3 H).kx⟩
        fre := fun x hx => hd.fre x hx
        fn := fun _ => rfl
        po := fun _ => passes_of (K := fun e s'' => L2.CX P w outer H s E e s'') (E₁ := fun e' s'' => L2.CX P w outer H s E e' s'') rfl
        exc := fun x hx => hd.exc x hx
        stk := fun _ => ⟨rfl, rfl⟩
        kwn := fun _ => hk
        xkn := fun x hx => by
          obtain ⟨p, hp, rfl⟩ := List.mem_map.mp (show x ∈ t.gl.map (·.1) from hx)
          simpa using List.all_eq_true.mp hc'.2 p hp }
      rw [← hk]
      exact trSs_ok (fun st s h hm => trS_ok 40 xs st s _ h hm) htr fun i hi => hi
    · obtain ⟨hlen, F0, ps, r, hF0, q⟩ := hsp
      refine ⟨F0, _, _, startE f.N.length ps, stt_start r hF0, ?_⟩
      have hcall : callN t B (k + 1) i ps = runF (callN t B k) t.G B f.ps.length f.N.length body ps := by
        show (match t.T[i]? with
          | some f => runF (callN t B k) t.G B f.ps.length f.N.length (t.body f) ps
          | none => .stuck) = _
        rw [hf, ← hbody]
      rw [hcall] at q
      unfold runF at q
      rw [if_pos (by rw [← r.len]; exact hlen)] at q
      cases e : svs (callN t B k) t.G B body (startE f.N.length ps) with
      | next ρ' =>
        rw [e] at q
        exact fun σ' H' N' Pf' s' n fr => q .non H' (fun _ => False) (fun _ => False) s'.ext (.mk (.v .non)) (fun _ z => z.elim) fun _ z => z.elim
      | ret d => rw [e] at q; exact fun x H' N' P' ex r n p => q x H' N' P' ex r n p
      | brk ρ' => rw [e] at q; exact q.elim
      | cnt ρ' => rw [e] at q; exact q.elim
      | exc c ρ' =>
        rw [e] at q
        exact fun σ' H' N' Pf' cl od s' n fr hx => q H' cl od s'.ext hx
      | stuck => rw [e] at q; exact q.elim
end
end Hv

/-! Hv, part 21: a law, by its table. -/
namespace Hv
open PySem PySem.Spec PyProof.Rows L2

/-! ### what the head has written -/
def allB (f : Value → PyData → Bool) : List Value → List PyData → Bool
  | [], [] => true
  | u :: us, p :: ps => f u p && allB f us ps
  | _, _ => false
def valB (K : PySem.W.Frag) : Nat → Value → PyData → Bool
  | 0, _, _ => false
  | n + 1, u, p => match p with
    | .none => (match u with
      | .none => true
      | _ => false)
    | .bool b => (match u with
      | .bool c => decide (c = b)
      | _ => false)
    | .int i => (match u with
      | .int j _ => decide (j = i)
      | _ => false)
    | .str x => (match u with
      | .str y _ => decide (y = x) && PyData.strOk x
      | _ => false)
    | .tuple ps => (match u with
      | .ref a => (match K.lookup a with
        | some ⟨.type c, _, .seq its _, _⟩ => decide (c = "tuple") && (decide (its.size ≤ sizeLine) && allB (valB K n) its.toList ps)
        | _ => false)
      | _ => false)
    | .list ps => (match u with
      | .ref a => (match K.lookup a with
        | some ⟨.type c, none, .seq its _, _⟩ => decide (c = "list") && (decide (its.size ≤ sizeLine) && allB (valB K n) its.toList ps)
        | _ => false)
      | _ => false)
    | _ => false
theorem allB_ok {K : KW} {f : Value → PyData → Bool} (hf : ∀ u p, f u p = true → ∃ v, RelV v u ∧ ∀ S H, Rp K S H v p) : ∀ {us : List Value} {ps : List PyData}, allB f us ps = true → ∃ vs, Vals vs us ∧ ∀ S H, Rps K S H vs ps
  | [], [], _ => ⟨[], .nil, fun _ _ => .nil⟩
  | u :: us, p :: ps, h => by
    simp only [allB, Bool.and_eq_true] at h
    obtain ⟨v, r, q⟩ := hf u p h.1
    obtain ⟨vs, r2, q2⟩ := allB_ok hf h.2
    exact ⟨v :: vs, .cons r r2, fun S H => .cons (q S H) (q2 S H)⟩
  | [], _ :: _, h => by simp [allB] at h
  | _ :: _, [], h => by simp [allB] at h
theorem valB_ok {K : KW} : ∀ (n : Nat) (u : Value) (p : PyData), valB K.k n u p = true → ∃ v, RelV v u ∧ ∀ S H, Rp K S H v p
  | 0, _, _, h => by cases h
  | n + 1, u, p, h => by
    cases p with
    | none => cases u <;> first | exact ⟨.non, rfl, fun _ _ => .non⟩ | cases h
    | bool b =>
      cases u with
      | bool c =>
        have e : c = b := of_decide_eq_true h
        subst e
        exact ⟨.bl c, rfl, fun _ _ => .bl c⟩
      | _ => cases h
    | int i =>
      cases u with
      | int j t =>
        have e : j = i := of_decide_eq_true h
        subst e
        exact ⟨.int j, ⟨t, rfl⟩, fun _ _ => .int j⟩
      | _ => cases h
    | str x =>
      cases u with
      | str y t =>
        have h : (decide (y = x) && PyData.strOk x) = true := h
        simp only [Bool.and_eq_true, decide_eq_true_eq] at h
        obtain ⟨rfl, h2⟩ := h
        exact ⟨.str y, ⟨t, rfl⟩, fun _ _ => .str h2⟩
      | _ => cases h
    | tuple ps =>
      cases u with
      | ref a =>
        simp only [valB] at h
        split at h
        · rename_i c od its m sl e
          simp only [Bool.and_eq_true, decide_eq_true_eq] at h
          obtain ⟨rfl, h2, h3⟩ := h
          obtain ⟨vs, r, q⟩ := allB_ok (valB_ok (K := K) n) h3
          exact ⟨.ref a, rfl, fun S H => .tup (.inr ⟨_, its, m, e, rfl, rfl, h2, r⟩) (q S H)⟩
        · cases h
      | _ => cases h
    | list ps =>
      cases u with
      | ref a =>
        simp only [valB] at h
        split at h
        · rename_i c its m sl e
          simp only [Bool.and_eq_true, decide_eq_true_eq] at h
          obtain ⟨rfl, h2, h3⟩ := h
          obtain ⟨vs, r, q⟩ := allB_ok (valB_ok (K := K) n) h3
          exact ⟨.ref a, rfl, fun S H => .lsk ⟨_, its, m, e, rfl, rfl, rfl, h2, r⟩ (q S H)⟩
        · cases h
      | _ => cases h
    | dict kvs => cases h
def gloB (K : PySem.W.Frag) (p : Str × PyData) : Bool := match PySem.W.nsIn K mainGlobals p.1 with
  | some (some u) => valB K 8 u p.2
  | _ => false
def excB (K : PySem.W.Frag) (D : Addr) : Bool :=
  He.eqO (PySem.W.findIn K (.ref D) "__getattribute__") (some (some (.builtin "BaseException.__getattribute__"))) && (He.eqO (PySem.W.findIn K (.ref D) "__getattr__") (some none) && (decide (PySem.W.subIn K (.ref D) (.type "BaseException") = some true) &&
    (PySem.W.hasDictIn K D && (He.eqO (PySem.W.findIn K (.ref D) "__class__") (some (some (.builtin "object.__class__"))) && (He.eqO (PySem.W.specialIn K (.builtin "object.__class__") "__get__") (some (some (.builtin "getset_descriptor.__get__"))) &&
      (decide (PySem.W.takesIn K (.builtin "object.__class__") = some true) && decide (PySem.W.mroIn K D (.type "object") = some true)))))))
theorem excB_ok {K : PySem.W.Frag} {D : Addr} (h : excB K D = true) : ExcC K D := by
  unfold excB at h
  simp only [Bool.and_eq_true, decide_eq_true_eq] at h
  obtain ⟨h1, h2, h3, h4, h5, h6, h7, h8⟩ := h
  exact ⟨He.eqO_ok h1, He.eqO_ok h2, h3, h4, He.eqO_ok h5, He.eqO_ok h6, h7, h8⟩
def ckB (K : PySem.W.Frag) (e : Str × Option String × List (Str × Bool)) : Bool := e.2.2.all fun q => decide (PySem.W.kitOne K (.ref (He.ga K q.1)) (clsV K e.1 e.2.1) = some q.2) && (decide (PySem.W.exmOne K (.ref (He.ga K q.1)) (clsV K e.1 e.2.1) = some q.2) && excB K (He.ga K q.1))
def Tb.ex (t : Tb) (K : PySem.W.Frag) : Bool := t.gl.all (gloB K) && t.cls.all (ckB K)
def faC (e : Str × Option String × List (Str × Bool)) : He.Fa := match e.2.1 with
  | none => .glo e.1
  | some _ => .free e.1
def Tb.fa (t : Tb) : List He.Fa := t.T.map (fun f => .glo f.d.name) ++ (t.fre.map .free ++ (t.exc.flatMap (fun x => [.exc x, .glo x]) ++ t.cls.map faC))
def Tb.fn (t : Tb) : List He.DefD := t.T.map (·.d)
def okC (e : Str × Option String × List (Str × Bool)) : Bool := match e.2.1 with
  | none => true
  | some ty => decide (bootBuiltins e.1 = some (.type ty)) && decide (e.1 ≠ "__name__")
def Tb.at_ (t : Tb) : Bool := (t.T.all fun f => decide (f.d.at_ = (f.d.name, none)) && f.d.dfl.isEmpty && f.d.kwd.isEmpty) && t.cls.all okC
section
variable {t : Tb} {w : World} {K : PySem.W.Frag} {mg : Str → Option Value} {h : Heap}
theorem SaysD.mem {fa : List He.Fa} {fn : List He.DefD} (c : He.SaysD fa fn K) {f : He.Fa} (hf : f ∈ fa) : f.ok K = true := by
  obtain ⟨i, hi⟩ := List.getElem?_of_mem hf
  exact c.fact i hi
theorem lookup_mem' {α : Type} {l : List (Str × α)} {x : Str} {p : α} (h : l.lookup x = some p) : (x, p) ∈ l := by
  induction l with
  | nil => cases h
  | cons a l ih =>
    rw [List.lookup] at h
    split at h
    · rename_i e
      injection h with h
      subst h
      have : x = a.1 := by simpa using e
      subst this
      exact List.mem_cons_self
    · exact List.mem_cons_of_mem _ (ih h)
theorem hd_of (KX : K.In h) (G : h.Ns mainGlobals mg) (c : He.SaysD t.fa t.fn K) (hx : t.ex K = true) (ha : t.at_ = true) : Hd t w K mg := by
  unfold Tb.at_ at ha
  unfold Tb.ex at hx
  simp only [Bool.and_eq_true, List.all_eq_true, decide_eq_true_eq] at ha hx
  obtain ⟨h1, h2⟩ := ha
  obtain ⟨x1, x2⟩ := hx
  refine ⟨fun i f hf => ?_, fun x p hp => ?_, fun x hx => ?_, fun x hx => ?_, fun e he => ?_⟩
  · obtain ⟨⟨k1, k2⟩, k3⟩ := h1 f (List.mem_of_getElem? hf)
    have e : t.fn[i]? = some f.d := by
      show (t.T.map (·.d))[i]? = some f.d
      rw [List.getElem?_map, hf]
      rfl
    obtain ⟨fd, F⟩ := c.def_ i e
    have d1 : f.d.dvs K = [] := by
      show f.d.dfl.map _ = []
      rw [List.isEmpty_iff.mp k2]
      rfl
    have d2 : f.d.kws K = [] := by
      show f.d.kwd.map _ = []
      rw [List.isEmpty_iff.mp k3]
      rfl
    rw [d1, d2, k1] at F
    refine ⟨_, fd, F, He.glo_ok KX G (SaysD.mem c ?_)⟩
    exact List.mem_append_left _ (List.mem_map.mpr ⟨f, List.mem_of_getElem? hf, rfl⟩)
  · have hm := lookup_mem' (show t.gl.lookup x = some p from hp)
    have hk := x1 _ hm
    unfold gloB at hk
    split at hk
    · rename_i u e
      obtain ⟨v, r, q⟩ := valB_ok (K := ⟨K, w.params, none⟩) 8 u p hk
      exact ⟨v, u, PySem.W.mg_of KX G e, r, fun H => q _ H⟩
    · cases hk
  · exact He.free_ok KX G (SaysD.mem c (List.mem_append_right _ (List.mem_append_left _ (List.mem_map.mpr ⟨x, hx, rfl⟩))))
  · have fm : ∀ f, f ∈ ([.exc x, .glo x] : List He.Fa) → f ∈ t.fa := fun f hf => List.mem_append_right _ (List.mem_append_right _ (List.mem_append_left _ (List.mem_flatMap.mpr ⟨x, hx, hf⟩)))
    exact ⟨SaysD.mem c (fm _ List.mem_cons_self), He.glo_ok KX G (SaysD.mem c (fm _ (List.mem_cons_of_mem _ List.mem_cons_self)))⟩
  · have fm : faC e ∈ t.fa := List.mem_append_right _ (List.mem_append_right _ (List.mem_append_right _ (List.mem_map.mpr ⟨e, he, rfl⟩)))
    have hf := SaysD.mem c fm
    have hk := h2 e he
    refine ⟨?_, fun c b hl => ?_⟩
    · unfold faC at hf
      unfold okC at hk
      cases q : e.2.1 with
      | none => rw [q] at hf; exact He.glo_ok KX G hf
      | some ty =>
        rw [q] at hf hk
        simp only [Bool.and_eq_true, decide_eq_true_eq] at hk
        exact ⟨He.free_ok KX G hf, hk.1, hk.2⟩
    · have hm := lookup_mem' hl
      have hb := x2 e he
      unfold ckB at hb
      have := List.all_eq_true.mp hb _ hm
      simp only [Bool.and_eq_true, decide_eq_true_eq] at this
      exact ⟨this.1, this.2.1, excB_ok this.2.2⟩
theorem rp_ints' {k : KW} {S : AS} {H : Hp} : ∀ ns : List Int, Rps k S H (ns.map V.int) (ns.map .int)
  | [] => .nil
  | n :: ns => .cons (.int n) (rp_ints' ns)
theorem room_caller {k : Nat} (hk : k ≤ 231) : Room k callerA := by
  refine ⟨rfl, ?_, ?_⟩
  · show 1 + 300 + 3 * k + 5 < 1000
    omega
  · have : (4000 : Nat) < cLine := by decide
    show 4 + 16 * k + 200 < cLine
    omega
theorem law_walk {l : PySem.W.OpenLaw} {q : Program} {loose : List Str} {XP : (Str → Option Value) → Heap → Prop} {d : DefRec} {B : Sub} {m n k iL : Nat} {fL : Fd} {x : Str} (hn : l.most = some n) (hn2 : n ≤ sizeLine) (hdf : d.params.defaults = [])
    (hi : t.T[iL]? = some fL) (hps : fL.ps = [x]) (hname : fL.d.name = d.name) (hc : t.ok = true) (hat : t.at_ = true) (hb : ∀ f ∈ t.T, BindOk f) (hk : k ≤ 231)
    (law : ∀ ns : List Int, ns.length ≤ n → callN t B k iL [.list (ns.map .int)] = .ok (.v (.bool true))) :
    PySem.W.WalkO q loose XP (He.hookX m t.fa t.fn [] [] t.ex).says l.row.toRowW d [] (fun f vs => PySem.call f vs) := by
  refine LamX.walk_ofTsE (n := n) (k := k) (x := x) (CX := fun w => L2.CX l.prog w) hn hn2 hdf (room_caller hk) (fun w mg fa h Y G hmg => ?_) fun w H s e s' ⟨_, _, _, _, _, _, _, _, _, _, _, _, z⟩ => z
  obtain ⟨K, KX, c⟩ := Y
  have hd := hd_of (w := w) KX G c.t.d c.more hat
  obtain ⟨fa', fd, F, hm⟩ := hd.fns iL fL hi
  have e : fa' = fa := by
    rw [hname, hmg] at hm
    injection hm with hm
    injection hm with hm
    exact hm.symm
  subst e
  refine ⟨K, KX, fd, [], spF ⟨K, w.params, none⟩ fL.ps.length (callN t B k iL), (fun p hp => nomatch hp), (fun p hp => nomatch hp), (fun p hp => nomatch hp), fun s u => ?_, fun H a ns hl _ _ hS => ?_, fun base Kb Gb _ => ?_⟩
  · have := F.bindsA (hb fL (List.mem_of_getElem? hi)) s [u] (by rw [hps]; rfl)
    rw [hps] at this
    exact this
  · refine ⟨by rw [hps]; rfl, fun b => b = a ∧ H b ≠ none, [.list (ns.map .int)], .cons ?_ .nil, fun b z => z.2, ?_⟩
    · rcases hS with hS | hS
      · refine .lst ⟨rfl, ?_⟩ hS (rp_ints' ns)
        rcases hS with hS | ⟨o, hS⟩ <;> (rw [hS]; exact nofun)
      · exact .lsk hS (rp_ints' ns)
    · rw [law ns hl]
      intro y H' N' P' ex r _ _
      obtain ⟨I, Q, r, _⟩ := r
      cases r with
      | v r => cases r; rfl
  · have := table_ok (P := l.prog) (w := w) (base := base) (B := B) hd hc hb k iL fL fa' fd hi F
    rw [hps] at this
    rw [hps]
    exact this
end
end Hv

/-! Hw, part 1: the evaluator in plain Lean, step by step. -/
namespace Hv
open PySem

theorem call_eq {t : Tb} {B : Sub} {k i : Nat} {ps : List PyData} (n m : Nat) {body : List S} (h : (t.T[i]?.map fun f => (f.ps.length, f.N.length, t.tr f)) = some (n, m, some body)) : callN t B (k + 1) i ps = runF (callN t B k) t.G B n m body ps := by
  show (match t.T[i]? with
    | some f => runF (callN t B k) t.G B f.ps.length f.N.length (t.body f) ps
    | none => .stuck) = _
  cases e : t.T[i]? with
  | none => rw [e] at h; cases h
  | some f =>
    rw [e] at h
    simp only [Option.map_some, Option.some.injEq, Prod.mk.injEq] at h
    obtain ⟨rfl, rfl, h⟩ := h
    simp only
    unfold Tb.body
    rw [h]
    rfl
/-- a list of ints -/
abbrev IL (ns : List Int) : PyData := .list (ns.map .int)
theorem datas_v : ∀ ps : List PyData, datas (ps.map .v) = some ps
  | [] => rfl
  | p :: ps => by simp only [List.map_cons, datas, data, datas_v ps]
theorem data_oL (ps : List PyData) : data (oL ps) = some (.list ps) := by
  unfold oL
  simp only [data, datas_v, Option.map_some]
theorem isNews_v : ∀ ps : List PyData, isNews (ps.map .v) = !mutDs ps
  | [] => rfl
  | p :: ps => by simp only [List.map_cons, isNews, isNew, isNews_v ps, mutDs, Bool.not_or]
theorem isNew_oL (ps : List PyData) : isNew (oL ps) = !mutDs ps := by
  unfold oL
  simp only [isNew, isNews_v]
theorem hasVs_v : ∀ ps : List PyData, hasVs (ps.map .v) = mutDs ps
  | [] => rfl
  | p :: ps => by simp only [List.map_cons, hasVs, hasV, hasVs_v ps, mutDs]
theorem owns_v : ∀ ps : List PyData, owns (ps.map .v) = ps.map .v
  | [] => rfl
  | p :: ps => by simp only [List.map_cons, owns, own, owns_v ps]
theorem mutDs_int (ns : List Int) : mutDs (ns.map .int) = false := mutDs_ints ns
theorem intsOf_int : ∀ ns : List Int, intsOf (ns.map .int) = some ns
  | [] => rfl
  | n :: ns => by simp only [List.map_cons, intsOf, intsOf_int ns, Option.map_some]
theorem noDicts_int : ∀ ns : List Int, noDicts (ns.map .int) = true
  | [] => rfl
  | n :: ns => by simp only [List.map_cons, noDicts, noDict, noDicts_int ns, Bool.and_true]
theorem atI_nat' {α : Type} (xs : List α) (i : Nat) : L2.atI xs (i : Int) = xs[i]? := by
  unfold L2.atI L2.ixN
  by_cases h : i < xs.length
  · have h2 : (i : Int) < xs.length := by omega
    simp [h2]
  · have h2 : ¬ (i : Int) < xs.length := by omega
    simp only [if_pos (Int.natCast_nonneg i), if_neg h2]
    simp [List.getElem?_eq_none (Nat.le_of_not_lt h)]
section
variable {d e : D} {ds : List D} {al bl : Al} {c : Str} {p q : PyData} {ps qs : List PyData} {ρ : Env} {b b' : Bool} {i j : Int} {n m : Nat} {C : Cal} {G : Glo} {B : Sub} {x y : Str}
theorem s1 {f : D → Al → R} : (R.ok d al).bind f = f d al := rfl
theorem s2 {f : D → Al → TR} : (R.ok d al).bindT f = f d al := rfl
theorem s3 {f : D → Al → Rl} : (R.ok d al).bindL f = f d al := rfl
theorem s4 {f : D → Al → RS} : (R.ok d al).bindS ρ f = f d al := rfl
theorem s5 {f : List D → Al → R} : (Rl.ok ds al).bind f = f ds al := rfl
theorem s6 {f : List D → Al → Rl} : (Rl.ok ds al).bindL f = f ds al := rfl
theorem s7 {f : List D → Al → RS} : (Rl.ok ds al).bindS ρ f = f ds al := rfl
theorem s8 {f : Bool → R} : (TR.ok b).bind f = f b := rfl
theorem s9 {f : Bool → TR} : (TR.ok b).bindT f = f b := rfl
theorem s10 {f : Bool → RS} : (TR.ok b).bindS ρ f = f b := rfl
theorem s11 {r : R} : (vt r).e = r := rfl
theorem s12 {r : R} : (vt r).t = truR r := rfl
theorem s13 : truR (.ok (.v (.bool b)) al) = .ok b := rfl
theorem s14 : truR (.ok (.v (.int i)) al) = .ok (i != 0) := rfl
theorem s15 : truR (.ok (.v .none) al) = .ok false := rfl
theorem s16 : seqR [] = .ok [] [] := rfl
theorem s17 {e : VT} {es : List VT} : seqR (e :: es) = e.e.bindL fun d al => (seqR es).bindL fun ds bl => .ok (d :: ds) (al ++ bl) := rfl
theorem s18 {e : VT} : andR [e] = e.e := rfl
theorem s19 {e f : VT} {es : List VT} : andR (e :: f :: es) = e.e.bind fun d al => (datT d fun p => (truP p).t).bind fun b => if b then andR (f :: es) else .ok d al := rfl
theorem s20 {e : VT} : orR [e] = e.e := rfl
theorem s21 {e f : VT} {es : List VT} : orR (e :: f :: es) = e.e.bind fun d al => (datT d fun p => (truP p).t).bind fun b => if b then .ok d al else orR (f :: es) := rfl
theorem s22 {e : VT} : andT [e] = e.t := rfl
theorem s23 {e f : VT} {es : List VT} : andT (e :: f :: es) = e.t.bindT fun b => if b then andT (f :: es) else .ok false := rfl
theorem s24 {e : VT} : orT [e] = e.t := rfl
theorem s25 {e f : VT} {es : List VT} : orT (e :: f :: es) = e.t.bindT fun b => if b then .ok true else orT (f :: es) := rfl
theorem s26 {f : PyData → R} : dat (.v p) f = f p := rfl
theorem s27 {f : PyData → R} : dat (.n p) f = f p := rfl
theorem s28 {f : PyData → R} : dat (oL ps) f = f (.list ps) := by unfold dat; rw [data_oL]
theorem s29 {f : PyData → PyData → R} : dat2 (.v p) e f = dat e fun q => f p q := rfl
theorem s30 {f : PyData → PyData → R} : dat2 (.n p) e f = dat e fun q => f p q := rfl
theorem s31 {f : PyData → PyData → R} : dat2 (oL ps) e f = dat e fun q => f (.list ps) q := by unfold dat2; rw [data_oL]; rfl
theorem s32 {f : PyData → TR} : datT (.v p) f = f p := rfl
theorem s33 : (BR.ok b).r = .ok (.v (.bool b)) [] := rfl
theorem s34 : (BR.ok b).t = .ok b := rfl
theorem s35 : truP (.bool b) = .ok b := rfl
theorem s36 : truP (.int i) = .ok (i != 0) := rfl
theorem s37 : optR (.ok (.v (.int i)) al) = .ok (some i) := rfl
theorem s38 {o : Option Int} {f : Option Int → R} : (OR.ok o).bind f = f o := rfl
/-! names -/
def varD (i : Nat) : Option (Option D) → R
  | some (some (.v p)) => .ok (.v p) []
  | some (some (.n p)) => .ok (.n p) []
  | some (some d) => match view d with
    | some e => .ok e [i]
    | none => .stuck
  | _ => .stuck
theorem v1 : varR n ρ = varD n ρ[n]? := rfl
theorem v2 : varD n (some (some (.v p))) = .ok (.v p) [] := rfl
theorem v3 : varD n (some (some (.n p))) = .ok (.n p) [] := rfl
theorem v4 : varD n (some (some (oL ps))) = .ok (fz (!mutDs ps) (.list ps)) [n] := by
  show (match view (oL ps) with
    | some e => R.ok e [n]
    | none => .stuck) = _
  unfold view
  rw [data_oL, isNew_oL]
  rfl
theorem v5 {ns : List Int} : fz (!mutDs (ns.map .int)) (IL ns) = .n (IL ns) := by rw [mutDs_int]; rfl
theorem v6 : fz b (.int i) = .v (.int i) := by cases b <;> rfl
theorem v7 : fz b (.bool b') = .v (.bool b') := by cases b <;> rfl
theorem v8 : fz b .none = .v .none := by cases b <;> rfl
theorem v9 : fz b (.str x) = .v (.str x) := by cases b <;> rfl
theorem v10 : fz true (.list ps) = .n (.list ps) := rfl
theorem v11 : fz false p = .v p := rfl
theorem v12 (h : mutD p = false) : fz b p = .v p := by unfold fz; rw [h, Bool.and_false]; rfl
/-! expressions -/
theorem e1 : ev C G .non ρ = vt (.ok (.v .none) []) := rfl
theorem e2 : ev C G (.bl b) ρ = vt (.ok (.v (.bool b)) []) := rfl
theorem e3 : ev C G (.int i) ρ = vt (.ok (.v (.int i)) []) := rfl
theorem e4 : ev C G (.str x) ρ = vt (.ok (.v (.str x)) []) := rfl
theorem e5 : ev C G (.var n) ρ = vt (varR n ρ) := rfl
theorem e6 {o : BOp} {a b : E} : ev C G (.bin o a b) ρ = vt ((ev C G a ρ).e.bind fun x al => (ev C G b ρ).e.bind fun y bl => dat2 x y (binP o (isNew x && isNew y) (al ++ bl))) := rfl
theorem e7 {o : COp} {a b : E} : ev C G (.cmp o a b) ρ = vt ((ev C G a ρ).e.bind fun x _ => (ev C G b ρ).e.bind fun y _ => dat2 x y fun p q => (cmpP o p q).r) := rfl
theorem e8 {es : List E} : ev C G (.and es) ρ = ⟨andR (evs C G es ρ), andT (evs C G es ρ)⟩ := rfl
theorem e9 {es : List E} : ev C G (.or es) ρ = ⟨orR (evs C G es ρ), orT (evs C G es ρ)⟩ := rfl
theorem e10 {a : E} : ev C G (.not a) ρ = ⟨(truR (ev C G a ρ).e).bind fun b => .ok (.v (.bool (!b))) [], (ev C G a ρ).t.bindT fun b => .ok (!b)⟩ := rfl
theorem e11 {c a b : E} : ev C G (.ifx c a b) ρ = ⟨(ev C G c ρ).t.bind fun k => if k then (ev C G a ρ).e else (ev C G b ρ).e, (ev C G c ρ).t.bindT fun k => if k then (ev C G a ρ).t else (ev C G b ρ).t⟩ := rfl
def calD (C : Cal) (f : Nat) (ds : List D) (al : Al) : R := match datas ds with
  | some ps => callR (C f ps) al
  | none => .stuck
theorem e12 {f : Nat} {es : List E} : ev C G (.call f es) ρ = vt ((seqR (evs C G es ρ)).bind fun ds al => calD C f ds al) := rfl
theorem e13 {b : Bi} {es : List E} : ev C G (.bi b es) ρ = vt ((seqR (evs C G es ρ)).bind fun ds al => biR b ds al) := rfl
theorem e14 {a : E} {t : Ty} : ev C G (.isi a t) ρ = vt ((ev C G a ρ).e.bind fun x _ => dat x fun p => .ok (.v (.bool (tyP p t))) []) := rfl
theorem e15 {a b : E} (h : varOf a = none) : ev C G (.ix a b) ρ = vt ((ev C G a ρ).e.bind fun x al => (ev C G b ρ).e.bind fun y _ => dat2 x y fun p q => ixP (isNew x) al p q) := by simp only [ev, h]
def ixvD (n : Nat) (o : Option (Option D)) (rb : R) : R := match o with
  | some (some (.ol ds)) => rb.bind fun y _ => dat y (ixO n ds)
  | _ => (varD n o).bind fun x al => rb.bind fun y _ => dat2 x y fun p q => ixP (isNew x) al p q
theorem e16 {b : E} : ev C G (.ix (.var n) b) ρ = vt (ixvD n ρ[n]? (ev C G b ρ).e) := rfl
theorem e17 {a : E} {lo hi : Option E} : ev C G (.sl a lo hi) ρ = vt ((ev C G a ρ).e.bind fun x al => (evO C G lo ρ).bind fun l => (evO C G hi ρ).bind fun h => slR x al l h) := rfl
theorem e18 {es : List E} : ev C G (.lst es) ρ = vt ((seqR (evs C G es ρ)).bind fun ds al => .ok (.ol ds) al) := rfl
def tupD (ds : List D) (al : Al) : R := if ds.all isFz then (match datas ds with
    | some ps => mkT (isNews ds) ps al
    | none => .stuck) else .ok (.ot ds) al
theorem e19 {es : List E} : ev C G (.tup es) ρ = vt ((seqR (evs C G es ρ)).bind fun ds al => tupD ds al) := rfl
/-- a comprehension's turns -/
def lcT (C : Cal) (G : Glo) (own : List Nat) (tg : Tg) (cs : List E) (elt : E) (ρ : Env) (ps : List PyData) (b : Bool) : Rl := lcR (fun p => setT tg b p (wipeE ρ own)) (fun ρ => allT (evs C G cs ρ)) (fun ρ => (ev C G elt ρ).e) ps
def lcO (r : Rl) (al : Al) : R := match r with
  | .ok ds bl => .ok (.ol ds) (if ds.all plainD then [] else al ++ bl)
  | _ => .stuck
def lcI (k : Sk) (ds : List D) (al : Al) (f : List PyData → Bool → Rl) : R := match itemsR k ds al with
  | some (ps, b, al) => lcO (f ps b) al
  | none => .stuck
theorem e20 {own : List Nat} {k : Sk} {args : List E} {tg : Tg} {cs : List E} {elt : E} : ev C G (.lc own k args tg cs elt) ρ = vt ((seqR (evs C G args ρ)).bind fun ds al => lcI k ds al (lcT C G own tg cs elt ρ)) := by
  have : ∀ ds al, (match itemsR k ds al with
      | some (ps, b, al) => match lcR (fun p => setT tg b p (wipeE ρ own)) (fun ρ => allT (evs C G cs ρ)) (fun ρ => (ev C G elt ρ).e) ps with
        | .ok ds bl => R.ok (.ol ds) (if ds.all plainD then [] else al ++ bl)
        | _ => .stuck
      | none => .stuck) = lcI k ds al (lcT C G own tg cs elt ρ) := fun ds al => by
    unfold lcI lcT lcO
    rfl
  simp only [ev]
  congr
theorem e21 : evs C G [] ρ = [] := rfl
theorem e22 {e : E} {es : List E} : evs C G (e :: es) ρ = ev C G e ρ :: evs C G es ρ := rfl
theorem e23 : evO C G none ρ = .ok none := rfl
theorem e24 {e : E} : evO C G (some e) ρ = optR (ev C G e ρ).e := rfl
theorem e25 {a : E} : ev C G (.neg a) ρ = vt ((ev C G a ρ).e.bind fun x _ => dat x fun p => match p with
    | .int i => .ok (.v (.int (-i))) []
    | _ => .stuck) := rfl
theorem e26 {o o' : COp} {a b c : E} : ev C G (.chn o o' a b c) ρ = vt ((ev C G a ρ).e.bind fun x _ => (ev C G b ρ).e.bind fun y _ => dat2 x y fun p q => match cmpP o p q with
    | .ok true => (ev C G c ρ).e.bind fun z _ => dat z fun r => (cmpP o' q r).r
    | .ok false => .ok (.v (.bool false)) []
    | .stuck => .stuck) := rfl
theorem e27 {g : Str} : ev C G (.glob g) ρ = vt (match G g with
    | some d => .ok (.v d) []
    | none => .stuck) := rfl
/-! values -/
theorem x1 : binP .add b al (.int i) (.int j) = .ok (.v (.int (i + j))) [] := rfl
theorem x2 : binP .sub b al (.int i) (.int j) = .ok (.v (.int (i - j))) [] := rfl
theorem x3 (h : mulOk i j = true) : binP .mul b al (.int i) (.int j) = .ok (.v (.int (i * j))) [] := by simp only [binP, h, if_true]
theorem x4 (h : divOk j = true) : binP .div b al (.int i) (.int j) = .ok (.v (.int (i / j))) [] := by simp only [binP, h, if_true]
theorem x5 (h : 0 < j) : binP .mod b al (.int i) (.int j) = .ok (.v (.int (i % j))) [] := by simp only [binP, decide_eq_true h, if_true]
theorem x6 : cmpP .lt (.int i) (.int j) = .ok (decide (i < j)) := rfl
theorem x7 : cmpP .le (.int i) (.int j) = .ok (decide (i ≤ j)) := rfl
theorem x8 : cmpP .gt (.int i) (.int j) = .ok (decide (j < i)) := rfl
theorem x9 : cmpP .ge (.int i) (.int j) = .ok (decide (j ≤ i)) := rfl
theorem x10 (h : cmpOk p = true) (h' : cmpOk q = true) : cmpP .eq p q = .ok (PyData.eqv p q) := by simp only [cmpP, h, h', Bool.and_self, if_true]
theorem x11 (h : cmpOk p = true) (h' : cmpOk q = true) : cmpP .ne p q = .ok (!PyData.eqv p q) := by simp only [cmpP, h, h', Bool.and_self, if_true]
theorem x12 : cmpP .isn .none .none = .ok true := rfl
theorem x13 : cmpP .isn (.int i) .none = .ok false := rfl
theorem x14 : cmpP .isn (.bool b) .none = .ok false := rfl
theorem x15 : cmpP .isn (.list ps) .none = .ok false := rfl
theorem x16 : cmpP .isn (.tuple ps) .none = .ok false := rfl
theorem x17 : cmpP .isn (.str x) .none = .ok false := rfl
theorem x18 : biR .len [d] al = bi1 .len d al := rfl
theorem x19 (h : data d = some (.list ps)) : bi1 .len d al = .ok (.v (.int ps.length)) [] := by simp only [bi1, h]
theorem x20 (h : data d = some (.tuple ps)) : bi1 .len d al = .ok (.v (.int ps.length)) [] := by simp only [bi1, h]
theorem x21 : biR .int [.v (.int i)] al = .ok (.v (.int i)) [] := rfl
theorem x22 : biR .int [.v (.bool b)] al = .ok (.v (.int (if b then 1 else 0))) [] := rfl
theorem x23 : biR .min2 [.v (.int i), .v (.int j)] al = .ok (.v (.int (if j < i then j else i))) [] := rfl
theorem x24 : biR .max2 [.v (.int i), .v (.int j)] al = .ok (.v (.int (if j > i then j else i))) [] := rfl
theorem x25 : biR .len [.v (.list ps)] al = .ok (.v (.int ps.length)) [] := rfl
theorem x26 : biR .len [.n (.list ps)] al = .ok (.v (.int ps.length)) [] := rfl
theorem x27 : biR .len [.v (.tuple ps)] al = .ok (.v (.int ps.length)) [] := rfl
theorem x28 : biR .len [oL ps] al = .ok (.v (.int ps.length)) [] := by show bi1 .len (oL ps) al = _; rw [x19 (data_oL ps)]
theorem x29 {m : Nat} : ixP b al (.list ps) (.int (m : Int)) = match ps[m]? with
    | some p => itR b p al
    | none => .stuck := by simp only [ixP, atI_nat'] <;> rfl
theorem x30 {m : Nat} : ixP b al (.tuple ps) (.int (m : Int)) = match ps[m]? with
    | some p => itR b p al
    | none => .stuck := by simp only [ixP, atI_nat'] <;> rfl
theorem y0 : ixP b al (.list ps) (.int 0) = match ps[0]? with
    | some p => itR b p al
    | none => .stuck := x29 (m := 0)
theorem y1 : ixP b al (.list ps) (.int 1) = match ps[1]? with
    | some p => itR b p al
    | none => .stuck := x29 (m := 1)
theorem y2 : ixP b al (.list ps) (.int 2) = match ps[2]? with
    | some p => itR b p al
    | none => .stuck := x29 (m := 2)
theorem y3 : ixP b al (.list ps) (.int 3) = match ps[3]? with
    | some p => itR b p al
    | none => .stuck := x29 (m := 3)
theorem y4 : ixP b al (.list ps) (.int 4) = match ps[4]? with
    | some p => itR b p al
    | none => .stuck := x29 (m := 4)
theorem y5 : ixP b al (.list ps) (.int 5) = match ps[5]? with
    | some p => itR b p al
    | none => .stuck := x29 (m := 5)
theorem x31 : itR b (.int i) al = .ok (.v (.int i)) [] := rfl
theorem x32 : itR b (.bool b') al = .ok (.v (.bool b')) [] := rfl
theorem x33 : itR b .none al = .ok (.v .none) [] := rfl
theorem x34 : ixvD n (some (some (.v p))) (.ok d al) = dat2 (.v p) d fun p q => ixP (isNew (.v p)) [] p q := rfl
theorem x35 : ixvD n (some (some (.n p))) (.ok d al) = dat2 (.n p) d fun p q => ixP true [] p q := rfl
theorem x36 : ixvD n (some (some (oL ps))) (.ok (.v (.int (m : Int))) al) = match ps[m]? with
    | some p => .ok (.v p) []
    | none => .stuck := by
  show dat (.v (.int (m : Int))) (ixO n (ps.map .v)) = _
  rw [s26]
  show (match L2.atI (ps.map D.v) (m : Int) with
    | some e => match view e with
      | some w => R.ok w (if isFz e then [] else [n])
      | none => .stuck
    | none => .stuck) = _
  rw [atI_nat', List.getElem?_map]
  cases ps[m]? with
  | none => rfl
  | some p =>
    simp only [Option.map_some, view, data, isNew, fz, isFz, if_true]
    cases mutD p <;> rfl
theorem x37 (h : mutD p = false) : itR b p al = .ok (.v p) [] := by unfold itR; rw [h]; rfl
theorem x39 : mutDs [] = false := rfl
theorem x40 {ns : List Int} (h : maxI ns = some i) : biR .maxL [.n (IL ns)] al = .ok (.v (.int i)) [] := by
  show bi1 .maxL (.n (IL ns)) al = _
  simp only [bi1, data, intsOf_int, Option.bind_some, h]
theorem x41 {ns : List Int} (h : maxI ns = some i) : biR .maxL [.v (IL ns)] al = .ok (.v (.int i)) [] := by
  show bi1 .maxL (.v (IL ns)) al = _
  simp only [bi1, data, intsOf_int, Option.bind_some, h]
theorem a1 : allT [] = .ok true := rfl
theorem a2 {e : VT} {es : List VT} : allT (e :: es) = e.t.bindT fun b => if b then allT es else .ok false := rfl
theorem x38 : tyP (.int i) .int = true := rfl
/-! calls -/
theorem k1 {f : Nat} : calD C f ds al = match datas ds with
  | some ps => callR (C f ps) al
  | none => .stuck := rfl
theorem k2 (h : mutD p = false) : callR (.ok (.v p)) al = .ok (.v p) [] := by simp only [callR, hasV, h, own, Bool.false_eq_true, if_false]
theorem k3 (h : mutDs ps = false) : callR (.ok (oL ps)) al = .ok (oL ps) [] := by
  unfold oL
  simp only [callR, hasV, hasVs_v, h, own, owns_v, Bool.false_eq_true, if_false]
theorem k4 : datas [] = some [] := rfl
theorem k5 (h : data d = some p) : datas (d :: ds) = (datas ds).map (p :: ·) := by
  simp only [datas, h]
  cases datas ds <;> rfl
theorem k6 : data (.v p) = some p := rfl
theorem k7 : data (.n p) = some p := rfl
theorem k8 : datas (.v p :: ds) = (datas ds).map (p :: ·) := k5 rfl
theorem k9 : datas (.n p :: ds) = (datas ds).map (p :: ·) := k5 rfl
theorem k10 : datas (oL ps :: ds) = (datas ds).map (.list ps :: ·) := k5 (data_oL ps)
/-! statements -/
noncomputable def blk (C : Cal) (G : Glo) (B : Sub) (b : List S) : Env → RS := svs C G B b
theorem t0 {s : S} {ss : List S} : svs C G B (s :: ss) ρ = seqS (sv C G B s ρ) (blk C G B ss) := by
  show (match sv C G B s ρ with
    | .next ρ' => svs C G B ss ρ'
    | .ret d => .ret d
    | .brk ρ' => .brk ρ'
    | .cnt ρ' => .cnt ρ'
    | .exc c ρ' => .exc c ρ'
    | .stuck => .stuck) = _
  cases sv C G B s ρ <;> rfl
theorem t1 : svs C G B [] ρ = .next ρ := rfl
theorem t2 {f : Env → RS} : seqS (.next ρ) f = f ρ := rfl
theorem t3 {f : Env → RS} : seqS (.ret d) f = .ret d := rfl
theorem t4 {f : Env → RS} : seqS (.brk ρ) f = .brk ρ := rfl
theorem t5 {f : Env → RS} : seqS (.cnt ρ) f = .cnt ρ := rfl
theorem t6 {f : Env → RS} : seqS (.exc c ρ) f = .exc c ρ := rfl
theorem t7 {b : List S} : blk C G B b ρ = svs C G B b ρ := rfl
theorem t8 {e : E} : sv C G B (.asg n e) ρ = (ev C G e ρ).e.bindS ρ fun d al => .next ((frz al ρ).set n (some d)) := by simp only [sv]
theorem t9 {e : E} : sv C G B (.ret e) ρ = (ev C G e ρ).e.bindS ρ fun d _ => .ret d := by simp only [sv]
def rvD : Option (Option D) → RS
  | some (some d) => .ret d
  | _ => .stuck
theorem t10 : sv C G B (.retv n) ρ = rvD ρ[n]? := by simp only [sv]; rfl
theorem t11 : rvD (some (some d)) = .ret d := rfl
theorem t12 {c : E} {a b : List S} : sv C G B (.ife c a b) ρ = (ev C G c ρ).t.bindS ρ fun k => if k then blk C G B a ρ else blk C G B b ρ := by simp only [sv]; rfl
/-- a loop by its items -/
noncomputable def forD (k : Sk) (ds : List D) (al : Al) (C : Cal) (G : Glo) (B : Sub) (tg : Tg) (b : List S) (ρ : Env) : RS := match itemsR k ds al with
  | some (ps, w, al2) => if al.all (fun i => !(mutSs b).contains i) then forR (fun p ρ => setT tg w p ρ) (blk C G B b) ps (frz al2 ρ) else .stuck
  | none => .stuck
theorem t13 {k : Sk} {args : List E} {tg : Tg} {b : List S} : sv C G B (.for_ k args tg b) ρ = (seqR (evs C G args ρ)).bindS ρ fun ds al => forD k ds al C G B tg b ρ := by simp only [sv]; rfl
def cnd (C : Cal) (G : Glo) (c : E) : Env → TR := fun ρ => (ev C G c ρ).t
theorem t14 {c : E} {b : List S} : sv C G B (.while_ c b) ρ = wh (cnd C G c) (blk C G B b) ρ := by simp only [sv]; rfl
theorem t14' {c : E} : cnd C G c ρ = (ev C G c ρ).t := rfl
theorem t15 {e : E} {path : List E} : sv C G B (.app n path e) ρ = appR n (pathJ (seqR (evs C G path ρ))) (ev C G e ρ).e ρ := by simp only [sv]
theorem t16 : sv C G B .brk ρ = .brk ρ := by simp only [sv]
theorem t17 : sv C G B .cnt ρ = .cnt ρ := by simp only [sv]
theorem t18 : sv C G B .pass ρ = .next ρ := by simp only [sv]
theorem t19 : sv C G B .retn ρ = .ret (.v .none) := by simp only [sv]
def augD (n : Nat) (o : BOp) (ρ : Env) (r : R) : Option (Option D) → RS
  | some (some (.v (.int a))) => r.bindS ρ fun d _ => match data d with
    | some (.int b) => match o with
      | .add => .next (ρ.set n (some (.v (.int (a + b)))))
      | .sub => .next (ρ.set n (some (.v (.int (a - b)))))
      | _ => .stuck
    | _ => .stuck
  | _ => .stuck
theorem t20 {o : BOp} {e : E} : sv C G B (.aug n o e) ρ = augD n o ρ (ev C G e ρ).e ρ[n]? := by
  simp only [sv]
  unfold augD
  rfl
theorem t21 : augD n .add ρ (.ok (.v (.int j)) al) (some (some (.v (.int i)))) = .next (ρ.set n (some (.v (.int (i + j))))) := rfl
theorem t22 : augD n .sub ρ (.ok (.v (.int j)) al) (some (some (.v (.int i)))) = .next (ρ.set n (some (.v (.int (i - j))))) := rfl
theorem t23 : pathJ (.ok [] al) = some [] := rfl
theorem t24 : pathJ (.ok [.v (.int i)] al) = some [i] := rfl
theorem t25 {js : List Int} : appR n (some js) (.ok d al) ρ = updR n js (appF d) al ρ := rfl
def updE (n : Nat) (js : List Int) (f : List D → Option (List D)) (al : Al) (ρ : Env) : Option (Option D) → RS
  | some (some e) => match updD e js f with
    | some e' => if al.contains n then .stuck else .next ((frz al ρ).set n (some e'))
    | none => .stuck
  | _ => .stuck
theorem t26 {js : List Int} {f : List D → Option (List D)} : updR n js f al ρ = updE n js f al ρ ρ[n]? := by
  unfold updR updE
  rfl
theorem t27 (h : ps.length < 16777216) : updE n [] (appF (.v p)) [] ρ (some (some (oL ps))) = .next (ρ.set n (some (oL (ps ++ [p])))) := by
  have e : appF (.v p) (ps.map D.v) = some ((ps ++ [p]).map D.v) := by
    unfold appF SZ
    rw [List.length_map, if_pos h, List.map_append]
    rfl
  unfold updE oL updD
  simp only [e, List.contains_nil, Bool.false_eq_true, if_false, frz]
theorem t28 : frz [] ρ = ρ := rfl
theorem t29 : setT (.name n) b p ρ = some (ρ.set n (some (fz b p))) := rfl
theorem z1 : D.ol [] = oL [] := rfl
theorem z2 : D.ol [.v p] = oL [p] := rfl
theorem z3 : D.ol [.v p, .v q] = oL [p, q] := rfl
theorem itemsR_rg (h : rgOk 0 j = true) : itemsR .range [.v (.int j)] al = some ((rgI 0 j).map .int, true, []) := by
  show (if rgOk 0 j = true then some ((rgI 0 j).map PyData.int, true, []) else none) = _
  exact if_pos h
theorem rgOk_nat (h : n ≤ 16777216) : rgOk 0 (n : Int) = true := by
  unfold rgOk
  simp only [Bool.and_eq_true, decide_eq_true_eq]
  omega
theorem f1 {tg : Tg} {b : List S} (h : n ≤ 16777216) : forD .range [.v (.int (n : Int))] [] C G B tg b ρ = forR (fun p ρ => setT tg true p ρ) (blk C G B b) ((rgI 0 (n : Int)).map .int) ρ := by
  unfold forD
  rw [itemsR_rg (rgOk_nat h)]
  rfl
theorem f2 {tg : Tg} {b : List S} (h : mutDs ps = false) (hm : al.all (fun i => !(mutSs b).contains i) = true) : forD .seq [.n (.list ps)] al C G B tg b ρ = forR (fun p ρ => setT tg true p ρ) (blk C G B b) ps ρ := by
  unfold forD itemsR elems
  simp only [data, isNew, h, Bool.false_eq_true, if_false, hm, if_true, frz]
theorem f3 {tg : Tg} {b : List S} (h : mutDs ps = false) : forD .seq [.v (.list ps)] [] C G B tg b ρ = forR (fun p ρ => setT tg (isNew (.v (.list ps))) p ρ) (blk C G B b) ps ρ := by
  unfold forD itemsR elems
  simp only [data, h, Bool.false_eq_true, if_false, List.all_nil, if_true, frz]
theorem f4 {tg : Tg} {b : List S} (h : mutDs ps = false) : forD .seq [oL ps] [] C G B tg b ρ = forR (fun p ρ => setT tg (isNew (oL ps)) p ρ) (blk C G B b) ps ρ := by
  unfold forD itemsR elems
  simp only [data_oL, h, Bool.false_eq_true, if_false, List.all_nil, if_true, frz]
theorem f5 {tg : Tg} {b : List S} (h : mutDs ps = false) : forD .enum [.v (.list ps)] [] C G B tg b ρ = forR (fun p ρ => setT tg (isNew (.v (.list ps))) p ρ) (blk C G B b) (enumP ps) ρ := by
  unfold forD itemsR elems
  simp only [data, h, Bool.false_eq_true, if_false, List.all_nil, if_true, frz, Option.map_some]
/-! comprehensions -/
theorem l1 {f : List PyData → Bool → Rl} (h : n ≤ 16777216) : lcI .range [.v (.int (n : Int))] al f = lcO (f ((rgI 0 (n : Int)).map .int) true) [] := by
  unfold lcI
  rw [itemsR_rg (rgOk_nat h)]
theorem l2 {f : List PyData → Bool → Rl} (h : mutDs ps = false) : lcI .seq [oL ps] al f = lcO (f ps (isNew (oL ps))) [] := by
  unfold lcI itemsR elems
  simp only [data_oL, h, Bool.false_eq_true, if_false]
theorem plainD_v : ∀ ps : List PyData, (ps.map D.v).all plainD = !mutDs ps
  | [] => rfl
  | p :: ps => by simp only [List.map_cons, List.all_cons, plainD_v ps, plainD, mutDs, Bool.not_or]
theorem l3 (h : mutDs ps = false) : lcO (.ok (ps.map .v) bl) al = .ok (oL ps) [] := by
  unfold lcO oL
  simp only [plainD_v, h, Bool.not_false, if_true]
def retC : RS → CR
  | .next _ => .ok (.v .none)
  | .ret d => .ok d
  | .exc c _ => .exc c
  | _ => .stuck
theorem r1 {body : List S} (h : ps.length = n) : runF C G B n m body ps = retC (svs C G B body (startE m ps)) := by unfold runF; rw [if_pos h]; cases svs C G B body (startE m ps) <;> rfl
theorem r2 : retC (.ret d) = .ok d := rfl
theorem r3 : retC (.next ρ) = .ok (.v .none) := rfl
theorem r4 : retC (.exc c ρ) = .exc c := rfl
end
end Hv

/-! Hw, part 2: loops in plain Lean. -/
namespace Hv
open PySem

section
variable {st : PyData → Env → Option Env} {body : Env → RS} {ps : List PyData} {ρ : Env}
theorem forR_upto (P : Nat → Env → Prop) (m : Nat) (hm : m ≤ ps.length) (h : ∀ i p ρ, i < m → ps[i]? = some p → P i ρ → ∃ ρ1, st p ρ = some ρ1 ∧ ∃ ρ2, (body ρ1 = .next ρ2 ∨ body ρ1 = .cnt ρ2) ∧ P (i + 1) ρ2) (h0 : P 0 ρ) :
    ∃ ρ', forR st body ps ρ = forR st body (ps.drop m) ρ' ∧ P m ρ' := by
  induction m with
  | zero => exact ⟨ρ, by simp, h0⟩
  | succ m ih =>
    obtain ⟨ρ', e, p⟩ := ih (by omega) fun i p ρ hi => h i p ρ (by omega)
    have hlt : m < ps.length := by omega
    obtain ⟨ρ1, e1, ρ2, e2, p2⟩ := h m ps[m] ρ' (by omega) (by simp [hlt]) p
    refine ⟨ρ2, ?_, p2⟩
    rw [e, List.drop_eq_getElem_cons hlt, forR_step, e1]
    rcases e2 with e2 | e2 <;> simp only [e2]
theorem forR_inv (P : Nat → Env → Prop) (h : ∀ i p ρ, ps[i]? = some p → P i ρ → ∃ ρ1, st p ρ = some ρ1 ∧ ∃ ρ2, (body ρ1 = .next ρ2 ∨ body ρ1 = .cnt ρ2) ∧ P (i + 1) ρ2) (h0 : P 0 ρ) :
    ∃ ρ', forR st body ps ρ = .next ρ' ∧ P ps.length ρ' := by
  obtain ⟨ρ', e, p⟩ := forR_upto (st := st) (body := body) P ps.length (Nat.le_refl _) (fun i p ρ _ => h i p ρ) h0
  exact ⟨ρ', by rw [e, List.drop_length]; rfl, p⟩
theorem forR_ret (P : Nat → Env → Prop) (m : Nat) (p : PyData) (d : D) (hm : ps[m]? = some p) (h : ∀ i p ρ, i < m → ps[i]? = some p → P i ρ → ∃ ρ1, st p ρ = some ρ1 ∧ ∃ ρ2, (body ρ1 = .next ρ2 ∨ body ρ1 = .cnt ρ2) ∧ P (i + 1) ρ2) (h0 : P 0 ρ)
    (hr : ∀ ρ, P m ρ → ∃ ρ1, st p ρ = some ρ1 ∧ body ρ1 = .ret d) : forR st body ps ρ = .ret d := by
  have hlt : m < ps.length := (List.getElem?_eq_some_iff.mp hm).1
  obtain ⟨ρ', e, q⟩ := forR_upto (st := st) (body := body) P m (by omega) h h0
  obtain ⟨ρ1, e1, e2⟩ := hr ρ' q
  have hp : ps[m] = p := by simpa [hlt] using hm
  rw [e, List.drop_eq_getElem_cons hlt, hp, forR_step, e1]
  simp only [e2]
theorem forR_brk (P Q : Nat → Env → Prop) (m : Nat) (p : PyData) (hm : ps[m]? = some p) (h : ∀ i p ρ, i < m → ps[i]? = some p → P i ρ → ∃ ρ1, st p ρ = some ρ1 ∧ ∃ ρ2, (body ρ1 = .next ρ2 ∨ body ρ1 = .cnt ρ2) ∧ P (i + 1) ρ2) (h0 : P 0 ρ)
    (hr : ∀ ρ, P m ρ → ∃ ρ1, st p ρ = some ρ1 ∧ ∃ ρ2, body ρ1 = .brk ρ2 ∧ Q m ρ2) : ∃ ρ', forR st body ps ρ = .next ρ' ∧ Q m ρ' := by
  have hlt : m < ps.length := (List.getElem?_eq_some_iff.mp hm).1
  obtain ⟨ρ', e, q⟩ := forR_upto (st := st) (body := body) P m (by omega) h h0
  obtain ⟨ρ1, e1, ρ2, e2, q2⟩ := hr ρ' q
  have hp : ps[m] = p := by simpa [hlt] using hm
  refine ⟨ρ2, ?_, q2⟩
  rw [e, List.drop_eq_getElem_cons hlt, hp, forR_step, e1]
  simp only [e2]
end
/-- goes on, so that -/
def Nx (r : RS) (Q : Env → Prop) : Prop := match r with
  | .next ρ => Q ρ
  | .cnt ρ => Q ρ
  | _ => False
theorem nx1 {ρ : Env} {Q : Env → Prop} : Nx (.next ρ) Q = Q ρ := rfl
theorem nx2 {ρ : Env} {Q : Env → Prop} : Nx (.cnt ρ) Q = Q ρ := rfl
theorem nx_ex {r : RS} {Q : Env → Prop} (h : Nx r Q) : ∃ ρ2, (r = .next ρ2 ∨ r = .cnt ρ2) ∧ Q ρ2 := by
  cases r with
  | next ρ => exact ⟨ρ, .inl rfl, h⟩
  | cnt ρ => exact ⟨ρ, .inr rfl, h⟩
  | _ => exact h.elim
section
variable {st : PyData → Env → Option Env} {body : Env → RS} {ps : List PyData} {ρ : Env} {r : RS}
theorem go_inv (hf : forR st body ps ρ = r) (P : Nat → Env → Prop) (h0 : P 0 ρ) (h : ∀ i p ρ, ps[i]? = some p → P i ρ → ∃ ρ1, st p ρ = some ρ1 ∧ Nx (body ρ1) (P (i + 1))) :
    ∃ ρ', r = .next ρ' ∧ P ps.length ρ' := let ⟨ρ', e, p⟩ := forR_inv P (fun i p ρ hp q => let ⟨ρ1, e, z⟩ := h i p ρ hp q; ⟨ρ1, e, nx_ex z⟩) h0; ⟨ρ', by rw [← hf, e], p⟩
theorem go_ret (hf : forR st body ps ρ = r) (P : Nat → Env → Prop) (m : Nat) (p : PyData) (d : D) (hm : ps[m]? = some p) (h0 : P 0 ρ) (h : ∀ i p ρ, i < m → ps[i]? = some p → P i ρ → ∃ ρ1, st p ρ = some ρ1 ∧ Nx (body ρ1) (P (i + 1)))
    (hr : ∀ ρ, P m ρ → ∃ ρ1, st p ρ = some ρ1 ∧ body ρ1 = .ret d) : r = .ret d := by rw [← hf]; exact forR_ret P m p d hm (fun i p ρ hi hp q => let ⟨ρ1, e, z⟩ := h i p ρ hi hp q; ⟨ρ1, e, nx_ex z⟩) h0 hr
theorem go_brk (hf : forR st body ps ρ = r) (P Q : Nat → Env → Prop) (m : Nat) (p : PyData) (hm : ps[m]? = some p) (h0 : P 0 ρ) (h : ∀ i p ρ, i < m → ps[i]? = some p → P i ρ → ∃ ρ1, st p ρ = some ρ1 ∧ Nx (body ρ1) (P (i + 1)))
    (hr : ∀ ρ, P m ρ → ∃ ρ1, st p ρ = some ρ1 ∧ ∃ ρ2, body ρ1 = .brk ρ2 ∧ Q m ρ2) : ∃ ρ', r = .next ρ' ∧ Q m ρ' := let ⟨ρ', e, q⟩ := forR_brk P Q m p hm (fun i p ρ hi hp q => let ⟨ρ1, e, z⟩ := h i p ρ hi hp q; ⟨ρ1, e, nx_ex z⟩) h0 hr; ⟨ρ', by rw [← hf, e], q⟩
end
section
variable {c : Env → TR} {body : Env → RS} {ρ ρ2 : Env} {r : RS}
theorem wh_stop (h : c ρ = .ok false) : wh c body ρ = .next ρ := wh_eq 1 (by simp only [whN, h]) nofun
theorem wh_step (h : c ρ = .ok true) (hb : body ρ = .next ρ2) (hr : wh c body ρ2 = r) (hn : r ≠ .stuck) : wh c body ρ = r := by
  obtain ⟨n, e⟩ := wh_ex hr hn
  exact wh_eq (n + 1) (by simp only [whN, h, hb, e]) hn
end
section
variable {st : PyData → Option Env} {cd : Env → TR} {el : Env → R}
theorem lcR_fm (b : PyData → Bool) (f : PyData → D) : ∀ {ps : List PyData}, (∀ p ∈ ps, ∃ ρ, st p = some ρ ∧ cd ρ = .ok (b p) ∧ (b p = true → el ρ = .ok (f p) [])) → lcR st cd el ps = .ok ((ps.filter b).map f) []
  | [], _ => rfl
  | p :: ps, h => by
    obtain ⟨ρ, h1, h2, h3⟩ := h p List.mem_cons_self
    have ih := lcR_fm b f (ps := ps) fun q hq => h q (List.mem_cons_of_mem _ hq)
    unfold lcR
    simp only [h1, h2]
    cases e : b p with
    | true => simp only [h3 e, ih, List.filter_cons, e, if_true, List.map_cons, List.append_nil]
    | false => simp only [ih, List.filter_cons, e, Bool.false_eq_true, if_false]
theorem lcR_map (f : PyData → D) {ps : List PyData} (h : ∀ p ∈ ps, ∃ ρ, st p = some ρ ∧ cd ρ = .ok true ∧ el ρ = .ok (f p) []) : lcR st cd el ps = .ok (ps.map f) [] := by
  have := lcR_fm (cd := cd) (el := el) (st := st) (fun _ => true) f (ps := ps) fun p hp => let ⟨ρ, h1, h2, h3⟩ := h p hp; ⟨ρ, h1, h2, fun _ => h3⟩
  rw [this, List.filter_eq_self.mpr fun _ _ => rfl]
end
theorem rgOk_int {a b : Int} (h1 : -4611686018427387904 < a) (h2 : b < 4611686018427387904) (h3 : a < 4611686018427387904) (h4 : -4611686018427387904 < b) (h : b - a ≤ 16777216) : rgOk a b = true := by
  unfold rgOk
  simp only [Bool.and_eq_true, decide_eq_true_eq]
  omega
theorem rgI_nat (n : Nat) : rgI 0 (n : Int) = (List.range n).map fun (k : Nat) => (k : Int) := by
  unfold rgI
  simp
theorem rgI_get {n i : Nat} {p : PyData} (h : ((rgI 0 (n : Int)).map PyData.int)[i]? = some p) : i < n ∧ p = .int i := by
  rw [rgI_nat] at h
  simp only [List.getElem?_map, List.getElem?_range', Option.map_map] at h
  by_cases hi : i < n
  · rw [List.getElem?_range hi] at h
    simp at h
    exact ⟨hi, h.symm⟩
  · rw [List.getElem?_eq_none (by simpa using hi)] at h
    simp at h
theorem rgI_len (n : Nat) : ((rgI 0 (n : Int)).map PyData.int).length = n := by rw [rgI_nat]; simp
theorem mem_rgI {n : Nat} {p : PyData} (h : p ∈ (rgI 0 (n : Int)).map PyData.int) : ∃ i, i < n ∧ p = .int (i : Nat) := by
  obtain ⟨i, hi⟩ := List.getElem?_of_mem h
  exact ⟨i, rgI_get hi⟩
theorem mulOk_mod {a j : Int} : mulOk (a % 2147483647) j = true := by
  unfold mulOk
  have h1 : 0 ≤ a % 2147483647 := Int.emod_nonneg _ (by decide)
  have h2 : a % 2147483647 < 2147483647 := Int.emod_lt_of_pos _ (by decide)
  generalize a % 2147483647 = m at h1 h2
  simp only [Bool.or_eq_true, decide_eq_true_eq]
  omega
theorem mulOk_r {i j : Int} (h : j.natAbs < 18446744073709551616) : mulOk i j = true := by
  unfold mulOk
  simp only [Bool.or_eq_true, decide_eq_true_eq]
  exact .inr h
theorem divOk_of {j : Int} (h : 0 < j) (h' : j ≤ 1000000000000) : divOk j = true := by
  unfold divOk
  simp only [Bool.and_eq_true, decide_eq_true_eq]
  omega
/-! ### compared -/
theorem depth_int : ∀ ns : List Int, PyData.depthAll (ns.map .int) = 0
  | [] => by simp [PyData.depthAll]
  | n :: ns => by
    have := depth_int ns
    simp [PyData.depthAll, PyData.depth, this]
theorem cmpOk_IL (ns : List Int) : cmpOk (IL ns) = true := by
  simp [cmpOk, noDict, noDicts_int, PyData.depth, depth_int]
theorem eqvAll_int : ∀ a b : List Int, PyData.eqvAll (a.map .int) (b.map .int) = decide (a = b)
  | [], [] => rfl
  | x :: xs, y :: ys => by simp [PyData.eqvAll, PyData.eqv, eqvAll_int xs ys, Bool.decide_and]; rfl
  | [], _ :: _ => rfl
  | _ :: _, [] => rfl
theorem cmp_eqi {i j : Int} : cmpP .eq (.int i) (.int j) = .ok (decide (i = j)) := by
  rw [x10 (by simp [cmpOk, noDict, PyData.depth]) (by simp [cmpOk, noDict, PyData.depth])]
  rfl
theorem cmp_nei {i j : Int} : cmpP .ne (.int i) (.int j) = .ok (!decide (i = j)) := by
  rw [x11 (by simp [cmpOk, noDict, PyData.depth]) (by simp [cmpOk, noDict, PyData.depth])]
  rfl
theorem eqv_IL (a b : List Int) : PyData.eqv (IL a) (IL b) = decide (a = b) := by
  simp [PyData.eqv, eqvAll_int]
theorem cmpOk_int (i : Int) : cmpOk (.int i) = true := by simp [cmpOk, noDict, PyData.depth]
theorem cmpOk_bool (i : Bool) : cmpOk (.bool i) = true := by simp [cmpOk, noDict, PyData.depth]
theorem cmpOk_str (i : Str) : cmpOk (.str i) = true := by simp [cmpOk, noDict, PyData.depth]
theorem cmpOk_non : cmpOk .none = true := by simp [cmpOk, noDict, PyData.depth]
end Hv

/-! Hw, part 3: texts by their signs; loops as folds. -/
namespace Hv
open PySem

abbrev tx (l : List Nat) : PyData := .str (SX.S l)
abbrev ch (c : Nat) : PyData := .str (SX.S [c])
section
variable {d e : D} {ds : List D} {al bl : Al} {p q : PyData} {ps qs : List PyData} {ρ : Env} {b b' w : Bool} {i j : Int} {n m c : Nat} {C : Cal} {G : Glo} {B : Sub} {l l' : List Nat}
theorem sl1 (a b : Nat) : (([a] : List Nat) < [b]) ↔ a < b := by
  constructor
  · intro h
    cases h with
    | rel h => exact h
    | cons h => cases h
  · intro h
    exact .rel h
theorem le_tl : cmpP .le (tx [n]) (ch c) = .ok (decide (n ≤ c)) := by
  show BR.ok (!decide (([c] : List Nat) < [n])) = _
  congr 1
  simp only [sl1, ← decide_not]
  congr 1
  exact propext Nat.not_lt
theorem in_tx : cmpP .in_ (ch c) (tx l) = .ok (decide (c ∈ l)) := by
  show BR.ok (strIn (SX.S [c]) (SX.S l)) = _
  unfold strIn
  rw [SX.in_one]
theorem nin_tx : cmpP .nin (ch c) (tx l) = .ok (!decide (c ∈ l)) := by
  show (match inP (ch c) (tx l) with
    | .ok b => BR.ok (!b)
    | .stuck => .stuck) = _
  have : inP (ch c) (tx l) = .ok (decide (c ∈ l)) := in_tx
  rw [this]
theorem eq_tx : cmpP .eq (tx l) (tx l') = .ok (decide (l = l')) := by
  rw [x10 (cmpOk_str _) (cmpOk_str _)]
  show BR.ok (SX.S l == SX.S l') = _
  rw [SX.S_beq_eq]
theorem ne_tx : cmpP .ne (tx l) (tx l') = .ok (!decide (l = l')) := by
  rw [x11 (cmpOk_str _) (cmpOk_str _)]
  show BR.ok (!(SX.S l == SX.S l')) = _
  rw [SX.S_beq_eq]
theorem cat_tx (h : l.length + l'.length ≤ 16777216) : binP .add w al (tx l) (tx l') = .ok (.v (tx (l ++ l'))) [] := by
  show (if (SX.S l).length + (SX.S l').length ≤ SZ then R.ok (.v (.str (SX.S l ++ SX.S l'))) [] else .stuck) = _
  rw [SX.S_len, SX.S_len, SX.S_cat, if_pos (show _ ≤ SZ from h)]
theorem elems_tx (h : l.length ≤ 16777216) : elems (.v (tx l)) al = some (l.map ch, true, []) := by
  show (if (SX.S l).length ≤ SZ then some ((SX.S l).cps.toList.map fun c => PyData.str ⟨#[c]⟩, true, ([] : Al)) else none) = _
  rw [SX.S_len, if_pos (show _ ≤ SZ from h)]
theorem f_tx {tg : Tg} {b : List S} (h : l.length ≤ 16777216) : forD .seq [.v (tx l)] [] C G B tg b ρ = forR (fun p ρ => setT tg true p ρ) (blk C G B b) (l.map ch) ρ := by
  unfold forD itemsR
  simp only [elems_tx h, List.all_nil, if_true, frz]
theorem l_tx {f : List PyData → Bool → Rl} (h : l.length ≤ 16777216) : lcI .seq [.v (tx l)] al f = lcO (f (l.map ch) true) [] := by
  unfold lcI itemsR
  simp only [elems_tx h]
theorem strOk_S (h : ∀ c ∈ l, c < 1114112) : PyData.strOk (SX.S l) = true := strOk_iff.mpr fun c hc => h c (by simpa using hc)
theorem joinL_flat : ∀ (ls : List (List Nat)), TL.joinL [] ls = ls.flatten
  | [] => rfl
  | [p] => by simp [TL.joinL]
  | p :: q :: r => by
    show p ++ ([] ++ TL.joinL [] (q :: r)) = _
    rw [joinL_flat (q :: r)]
    simp
theorem strsOf_tx : ∀ (ls : List (List Nat)), strsOf (ls.map tx) = some (ls.map SX.S)
  | [] => rfl
  | p :: ls => by simp only [List.map_cons, strsOf, strsOf_tx ls, Option.map_some]
theorem sum_len : ∀ ls : List (List Nat), ((ls.map SX.S).map (·.length)).sum = ls.flatten.length
  | [] => rfl
  | p :: ls => by
    have := sum_len ls
    simp only [List.map_cons, List.sum_cons, List.flatten_cons, List.length_append, SX.S_len] at this ⊢
    omega
theorem join_tx (ls : List (List Nat)) (h : ls.flatten.length ≤ 16777216) (hk : ∀ c ∈ ls.flatten, c < 1114112) : joinR (SX.S []) (ls.map tx) = .ok (.v (tx ls.flatten)) [] := by
  unfold joinR
  rw [strsOf_tx]
  simp only
  rw [sum_len, SX.S_len, SX.join_S, joinL_flat, List.length_nil, Nat.mul_zero, Nat.add_zero, if_pos (show _ ≤ SZ from h)]
  unfold okS
  rw [if_pos (strOk_S hk)]
theorem len_tx (h : l.length ≤ 16777216) : biR .len [.v (tx l)] al = .ok (.v (.int l.length)) [] := by
  show (if (SX.S l).length ≤ SZ then R.ok (.v (.int ((SX.S l).length : Nat))) [] else .stuck) = _
  rw [SX.S_len, if_pos (show _ ≤ SZ from h)]
theorem ix_tx {m : Nat} (h : l.length ≤ 16777216) : ixP w al (tx l) (.int (m : Int)) = match l[m]? with
    | some c => .ok (.v (ch c)) []
    | none => .stuck := by
  show (if (SX.S l).length ≤ SZ then (match L2.atI (SX.S l).cps.toList (m : Int) with
      | some c => R.ok (.v (.str ⟨#[c]⟩)) []
      | none => .stuck) else .stuck) = _
  rw [SX.S_len, if_pos (show _ ≤ SZ from h), atI_nat']
theorem fz_tx : fz b (tx l) = .v (tx l) := v9
theorem mutDs_tx : ∀ ls : List (List Nat), mutDs (ls.map tx) = false
  | [] => rfl
  | p :: ls => by simp only [List.map_cons, mutDs, mutD, mutDs_tx ls, Bool.false_or]
theorem mutDs_ch : ∀ ls : List Nat, mutDs (ls.map ch) = false
  | [] => rfl
  | p :: ls => by simp only [List.map_cons, mutDs, mutD, mutDs_ch ls, Bool.false_or]
/-- the last item -/
theorem atI_last {α : Type} (xs : List α) (x : α) : L2.atI (xs ++ [x]) (-1) = some x := by
  unfold L2.atI L2.ixN
  have h : ¬ (0 : Int) ≤ -1 := by decide
  rw [if_neg h]
  have h2 : -(((xs ++ [x]).length : Nat) : Int) ≤ -1 := by simp; omega
  rw [if_pos h2]
  have : (-1 + ((xs ++ [x]).length : Int)).toNat = xs.length := by simp; omega
  rw [this]
  simp
theorem ixN_last {n : Nat} : L2.ixN (n + 1) (-1) = some n := by
  unfold L2.ixN
  have h : ¬ (0 : Int) ≤ -1 := by decide
  rw [if_neg h]
  have h2 : -((n + 1 : Nat) : Int) ≤ -1 := by omega
  rw [if_pos h2]
  have : (-1 + ((n + 1 : Nat) : Int)).toNat = n := by omega
  rw [this]
theorem ixv_last : ixvD n (some (some (oL (ps ++ [p])))) (.ok (.v (.int (-1))) al) = .ok (.v p) [] := by
  show dat (.v (.int (-1))) (ixO n ((ps ++ [p]).map .v)) = _
  rw [s26]
  show (match L2.atI ((ps ++ [p]).map D.v) (-1) with
    | some e => match view e with
      | some w => R.ok w (if isFz e then [] else [n])
      | none => .stuck
    | none => .stuck) = _
  rw [List.map_append, List.map_singleton, atI_last]
  simp only [view, data, Option.map_some, isNew, fz, isFz, if_true]
  cases mutD p <;> rfl
theorem setR_eq {js : List Int} : setR n (some js) (.ok (.v (.int j)) al) d bl ρ = updR n js (setF j d) bl ρ := rfl
theorem set_last : updE n [] (setF (-1) (.v q)) [] ρ (some (some (oL (ps ++ [p])))) = .next (ρ.set n (some (oL (ps ++ [q])))) := by
  have e : setF (-1) (.v q) ((ps ++ [p]).map D.v) = some ((ps ++ [q]).map D.v) := by
    unfold setF
    rw [List.length_map, List.length_append, List.length_singleton, ixN_last]
    simp
  unfold updE oL updD
  simp only [e, List.contains_nil, Bool.false_eq_true, if_false, frz]
theorem t_seti {path : List E} {x e : E} : sv C G B (.seti n path x e) ρ = (ev C G e ρ).e.bindS ρ fun d al => setR n (pathJ (seqR (evs C G path ρ))) (ev C G x ρ).e d al ρ := by simp only [sv]
theorem e_mth {m : Mt} {o : E} {es : List E} : ev C G (.mth m o es) ρ = vt ((ev C G o ρ).e.bind fun x _ => strR x fun a => (seqR (evs C G es ρ)).bind fun ds _ => mtR m a ds) := rfl
theorem strR_v {a : Str} {f : Str → R} : strR (.v (.str a)) f = f a := rfl
theorem mtR1 {m : Mt} {a : Str} (h : data d = some q) : mtR m a [d] = mt1R m a q := by simp only [mtR, h]
theorem mt_j {a : Str} : mt1R .join a (.list ps) = joinR a ps := rfl
theorem k2b : callR (.ok (.v (.bool b))) al = .ok (.v (.bool b)) [] := rfl
theorem k2i : callR (.ok (.v (.int i))) al = .ok (.v (.int i)) [] := rfl
theorem k2s {a : Str} : callR (.ok (.v (.str a))) al = .ok (.v (.str a)) [] := rfl
theorem k2n : callR (.ok (.v .none)) al = .ok (.v .none) [] := rfl
theorem l2n {f : List PyData → Bool → Rl} (h : mutDs ps = false) : lcI .seq [.n (.list ps)] al f = lcO (f ps true) [] := by
  unfold lcI itemsR elems
  simp only [data, isNew, h, Bool.false_eq_true, if_false]
theorem l2v {f : List PyData → Bool → Rl} (h : mutDs ps = false) : lcI .seq [.v (.list ps)] al f = lcO (f ps (isNew (.v (.list ps)))) [] := by
  unfold lcI itemsR elems
  simp only [data, h, Bool.false_eq_true, if_false]
theorem we0 : wipeE ρ [] = ρ := rfl
theorem we1 {is : List Nat} : wipeE ρ (n :: is) = (wipeE ρ is).set n none := rfl
theorem l3c {α : Type} {g : α → PyData} {cs : List α} (h : mutDs (cs.map g) = false) : lcO (.ok (cs.map (D.v ∘ g)) bl) al = .ok (oL (cs.map g)) [] := by
  rw [← List.map_map]
  exact l3 h
theorem zl3 {pa pb pc : PyData} : D.ol [.v pa, .v pb, .v pc] = oL [pa, pb, pc] := rfl
theorem zl4 {pa pb pc pd : PyData} : D.ol [.v pa, .v pb, .v pc, .v pd] = oL [pa, pb, pc, pd] := rfl
theorem zl5 {pa pb pc pd pe : PyData} : D.ol [.v pa, .v pb, .v pc, .v pd, .v pe] = oL [pa, pb, pc, pd, pe] := rfl
theorem zl6 {pa pb pc pd pe pf : PyData} : D.ol [.v pa, .v pb, .v pc, .v pd, .v pe, .v pf] = oL [pa, pb, pc, pd, pe, pf] := rfl
theorem zl7 {pa pb pc pd pe pf pg : PyData} : D.ol [.v pa, .v pb, .v pc, .v pd, .v pe, .v pf, .v pg] = oL [pa, pb, pc, pd, pe, pf, pg] := rfl
theorem zl8 {pa pb pc pd pe pf pg ph : PyData} : D.ol [.v pa, .v pb, .v pc, .v pd, .v pe, .v pf, .v pg, .v ph] = oL [pa, pb, pc, pd, pe, pf, pg, ph] := rfl
theorem zl9 {pa pb pc pd pe pf pg ph pi_ : PyData} : D.ol [.v pa, .v pb, .v pc, .v pd, .v pe, .v pf, .v pg, .v ph, .v pi_] = oL [pa, pb, pc, pd, pe, pf, pg, ph, pi_] := rfl
theorem zl10 {pa pb pc pd pe pf pg ph pi_ pj : PyData} : D.ol [.v pa, .v pb, .v pc, .v pd, .v pe, .v pf, .v pg, .v ph, .v pi_, .v pj] = oL [pa, pb, pc, pd, pe, pf, pg, ph, pi_, pj] := rfl
theorem zl11 {pa pb pc pd pe pf pg ph pi_ pj pk : PyData} : D.ol [.v pa, .v pb, .v pc, .v pd, .v pe, .v pf, .v pg, .v ph, .v pi_, .v pj, .v pk] = oL [pa, pb, pc, pd, pe, pf, pg, ph, pi_, pj, pk] := rfl
theorem zl12 {pa pb pc pd pe pf pg ph pi_ pj pk pl : PyData} : D.ol [.v pa, .v pb, .v pc, .v pd, .v pe, .v pf, .v pg, .v ph, .v pi_, .v pj, .v pk, .v pl] = oL [pa, pb, pc, pd, pe, pf, pg, ph, pi_, pj, pk, pl] := rfl
theorem zl13 {pa pb pc pd pe pf pg ph pi_ pj pk pl pm : PyData} : D.ol [.v pa, .v pb, .v pc, .v pd, .v pe, .v pf, .v pg, .v ph, .v pi_, .v pj, .v pk, .v pl, .v pm] = oL [pa, pb, pc, pd, pe, pf, pg, ph, pi_, pj, pk, pl, pm] := rfl
theorem zl14 {pa pb pc pd pe pf pg ph pi_ pj pk pl pm pn : PyData} : D.ol [.v pa, .v pb, .v pc, .v pd, .v pe, .v pf, .v pg, .v ph, .v pi_, .v pj, .v pk, .v pl, .v pm, .v pn] = oL [pa, pb, pc, pd, pe, pf, pg, ph, pi_, pj, pk, pl, pm, pn] := rfl
theorem zl15 {pa pb pc pd pe pf pg ph pi_ pj pk pl pm pn po : PyData} : D.ol [.v pa, .v pb, .v pc, .v pd, .v pe, .v pf, .v pg, .v ph, .v pi_, .v pj, .v pk, .v pl, .v pm, .v pn, .v po] = oL [pa, pb, pc, pd, pe, pf, pg, ph, pi_, pj, pk, pl, pm, pn, po] := rfl
theorem zl16 {pa pb pc pd pe pf pg ph pi_ pj pk pl pm pn po pp : PyData} : D.ol [.v pa, .v pb, .v pc, .v pd, .v pe, .v pf, .v pg, .v ph, .v pi_, .v pj, .v pk, .v pl, .v pm, .v pn, .v po, .v pp] = oL [pa, pb, pc, pd, pe, pf, pg, ph, pi_, pj, pk, pl, pm, pn, po, pp] := rfl
theorem xi0 : ixvD n (some (some (oL ps))) (.ok (.v (.int 0)) al) = match ps[0]? with
    | some p => .ok (.v p) []
    | none => .stuck := x36 (m := 0)
theorem xi1 : ixvD n (some (some (oL ps))) (.ok (.v (.int 1)) al) = match ps[1]? with
    | some p => .ok (.v p) []
    | none => .stuck := x36 (m := 1)
theorem xi2 : ixvD n (some (some (oL ps))) (.ok (.v (.int 2)) al) = match ps[2]? with
    | some p => .ok (.v p) []
    | none => .stuck := x36 (m := 2)
theorem xi3 : ixvD n (some (some (oL ps))) (.ok (.v (.int 3)) al) = match ps[3]? with
    | some p => .ok (.v p) []
    | none => .stuck := x36 (m := 3)
theorem xi4 : ixvD n (some (some (oL ps))) (.ok (.v (.int 4)) al) = match ps[4]? with
    | some p => .ok (.v p) []
    | none => .stuck := x36 (m := 4)
theorem xi5 : ixvD n (some (some (oL ps))) (.ok (.v (.int 5)) al) = match ps[5]? with
    | some p => .ok (.v p) []
    | none => .stuck := x36 (m := 5)
theorem xi6 : ixvD n (some (some (oL ps))) (.ok (.v (.int 6)) al) = match ps[6]? with
    | some p => .ok (.v p) []
    | none => .stuck := x36 (m := 6)
theorem xi7 : ixvD n (some (some (oL ps))) (.ok (.v (.int 7)) al) = match ps[7]? with
    | some p => .ok (.v p) []
    | none => .stuck := x36 (m := 7)
theorem xi8 : ixvD n (some (some (oL ps))) (.ok (.v (.int 8)) al) = match ps[8]? with
    | some p => .ok (.v p) []
    | none => .stuck := x36 (m := 8)
theorem xi9 : ixvD n (some (some (oL ps))) (.ok (.v (.int 9)) al) = match ps[9]? with
    | some p => .ok (.v p) []
    | none => .stuck := x36 (m := 9)
theorem xi10 : ixvD n (some (some (oL ps))) (.ok (.v (.int 10)) al) = match ps[10]? with
    | some p => .ok (.v p) []
    | none => .stuck := x36 (m := 10)
theorem xi11 : ixvD n (some (some (oL ps))) (.ok (.v (.int 11)) al) = match ps[11]? with
    | some p => .ok (.v p) []
    | none => .stuck := x36 (m := 11)
theorem xi12 : ixvD n (some (some (oL ps))) (.ok (.v (.int 12)) al) = match ps[12]? with
    | some p => .ok (.v p) []
    | none => .stuck := x36 (m := 12)
theorem xi13 : ixvD n (some (some (oL ps))) (.ok (.v (.int 13)) al) = match ps[13]? with
    | some p => .ok (.v p) []
    | none => .stuck := x36 (m := 13)
theorem xi14 : ixvD n (some (some (oL ps))) (.ok (.v (.int 14)) al) = match ps[14]? with
    | some p => .ok (.v p) []
    | none => .stuck := x36 (m := 14)
theorem xi15 : ixvD n (some (some (oL ps))) (.ok (.v (.int 15)) al) = match ps[15]? with
    | some p => .ok (.v p) []
    | none => .stuck := x36 (m := 15)
theorem md1 : mutD (.int i) = false := rfl
theorem md2 : mutD (.bool b) = false := rfl
theorem md3 {a : Str} : mutD (.str a) = false := rfl
theorem md4 : mutD .none = false := rfl
theorem md5 : mutDs (p :: ps) = (mutD p || mutDs ps) := rfl
theorem neg1 : (R.ok (.v (.int i)) al).bind (fun x _ => dat x fun p => match p with
    | .int i => .ok (.v (.int (-i))) []
    | _ => .stuck) = .ok (.v (.int (-i))) [] := rfl
end
section
variable {st : PyData → Env → Option Env} {body : Env → RS} {ρ0 : Env} {r : RS}
/-- a loop as a fold: the state, and what else the slots hold -/
theorem go_foldk {α σ τ : Type} {f : α → PyData} (enc : σ → τ → Env) (step : σ → α → σ) (I : Nat → σ → Prop) (N : Nat) : ∀ {cs : List α} {k : Nat} {ρ0 : Env} (hk : k + cs.length = N) (hf : forR st body (cs.map f) ρ0 = r) {s : σ} {t : τ}, ρ0 = enc s t → I k s →
    (∀ i s t, i < N → ∀ c ∈ cs, I i s → I (i + 1) (step s c) ∧ ∃ ρ1, st (f c) (enc s t) = some ρ1 ∧ Nx (body ρ1) (fun ρ => ∃ t', ρ = enc (step s c) t')) → ∃ t', r = .next (enc (cs.foldl step s) t') ∧ I N (cs.foldl step s)
  | [], k, ρ0, hk, hf, s, t, h0, hI, _ => ⟨t, by rw [← hf, h0]; rfl, by simp only [List.length_nil, Nat.add_zero] at hk; exact hk ▸ hI⟩
  | c :: cs, k, ρ0, hk, hf, s, t, h0, hI, h => by
    rw [List.length_cons] at hk
    obtain ⟨h1, ρ1, h2, h3⟩ := h k s t (by omega) c List.mem_cons_self hI
    obtain ⟨ρ2, h4, t', h5⟩ := nx_ex h3
    subst h0
    rw [List.map_cons, forR_step, h2] at hf
    have hf : forR st body (cs.map f) ρ2 = r := by
      rcases h4 with h4 | h4 <;> simpa only [h4] using hf
    exact go_foldk enc step I N (k := k + 1) (by omega) hf h5 h1 fun i s t hi c hc => h i s t hi c (List.mem_cons_of_mem _ hc)
theorem go_fold {α σ τ : Type} {f : α → PyData} (enc : σ → τ → Env) (step : σ → α → σ) (I : Nat → σ → Prop) {cs : List α} (hf : forR st body (cs.map f) ρ0 = r) (s : σ) (t : τ) (h0 : ρ0 = enc s t) (hI : I 0 s)
    (h : ∀ i s t, i < cs.length → ∀ c ∈ cs, I i s → I (i + 1) (step s c) ∧ ∃ ρ1, st (f c) (enc s t) = some ρ1 ∧ Nx (body ρ1) (fun ρ => ∃ t', ρ = enc (step s c) t')) : ∃ t', r = .next (enc (cs.foldl step s) t') ∧ I cs.length (cs.foldl step s) :=
  go_foldk enc step I cs.length (k := 0) (by omega) hf h0 hI h
end
/-- a comprehension over mapped items -/
theorem lcR_mapf {α : Type} {st : PyData → Option Env} {cd : Env → TR} {el : Env → R} {f : α → PyData} (g : α → PyData) {cs : List α} (h : ∀ c ∈ cs, ∃ ρ, st (f c) = some ρ ∧ cd ρ = .ok true ∧ el ρ = .ok (.v (g c)) []) : lcR st cd el (cs.map f) = .ok ((cs.map g).map .v) [] := by
  induction cs with
  | nil => rfl
  | cons c cs ih =>
    obtain ⟨ρ, h1, h2, h3⟩ := h c List.mem_cons_self
    have ih := ih fun c hc => h c (List.mem_cons_of_mem _ hc)
    rw [List.map_cons]
    unfold lcR
    simp only [h1, h2, h3, ih]
    rfl
/-- .. that leaves some out -/
theorem lcR_filf {α : Type} {st : PyData → Option Env} {cd : Env → TR} {el : Env → R} {f : α → PyData} (b : α → Bool) (g : α → PyData) {cs : List α} (h : ∀ c ∈ cs, ∃ ρ, st (f c) = some ρ ∧ cd ρ = .ok (b c) ∧ (b c = true → el ρ = .ok (.v (g c)) [])) : lcR st cd el (cs.map f) = .ok (((cs.filter b).map g).map .v) [] := by
  induction cs with
  | nil => rfl
  | cons c cs ih =>
    obtain ⟨ρ, h1, h2, h3⟩ := h c List.mem_cons_self
    have ih := ih fun c hc => h c (List.mem_cons_of_mem _ hc)
    rw [List.map_cons]
    unfold lcR
    simp only [h1, h2]
    cases e : b c with
    | true => simp only [h3 e, ih, List.filter_cons, e, if_true]; rfl
    | false => simp only [ih, List.filter_cons, e, Bool.false_eq_true, if_false]
theorem lc1 {α : Type} {C : Cal} {G : Glo} {own : List Nat} {i : Nat} {elt : E} {ρ : Env} {b : Bool} {f g : α → PyData} {cs : List α} (h : ∀ c ∈ cs, (ev C G elt ((wipeE ρ own).set i (some (fz b (f c))))).e = .ok (.v (g c)) []) :
    lcT C G own (.name i) [] elt ρ (cs.map f) b = .ok ((cs.map g).map .v) [] :=
  lcR_mapf g fun c hc => ⟨_, rfl, rfl, h c hc⟩
theorem mutDs_mi {α : Type} (h : α → Int) : ∀ cs : List α, mutDs (cs.map fun c => .int (h c)) = false
  | [] => rfl
  | c :: cs => by simp only [List.map_cons, mutDs, mutD, mutDs_mi h cs, Bool.false_or]
theorem intsOf_mi {α : Type} (h : α → Int) : ∀ cs : List α, intsOf (cs.map fun c => .int (h c)) = some (cs.map h)
  | [] => rfl
  | c :: cs => by simp only [List.map_cons, intsOf, intsOf_mi h cs, Option.map_some]
theorem sum_mi {α : Type} {al : Al} (h : α → Int) (cs : List α) : biR .sum [oL (cs.map fun c => .int (h c))] al = .ok (.v (.int (cs.map h).sum)) [] := by
  show bi1 .sum (oL (cs.map fun c => .int (h c))) al = _
  simp only [bi1, data_oL, intsOf_mi]
theorem nx_seq {r : RS} {f : Env → RS} {Q : Env → Prop} (ρ' : Env) (h : r = .next ρ') (h2 : Nx (f ρ') Q) : Nx (seqS r f) Q := by rw [h]; exact h2
theorem re_seq {r : RS} {f : Env → RS} {q : CR} (ρ' : Env) (h : r = .next ρ') (h2 : retC (f ρ') = q) : retC (seqS r f) = q := by rw [h]; exact h2
theorem re_seqE {τ : Type} {r : RS} {f : Env → RS} {q : CR} (ρ' : τ → Env) (h : ∃ t, r = .next (ρ' t)) (h2 : ∀ t, retC (f (ρ' t)) = q) : retC (seqS r f) = q := by
  obtain ⟨t, rfl⟩ := h
  exact h2 t
theorem nx_seqE {τ : Type} {r : RS} {f : Env → RS} {Q : Env → Prop} (ρ' : τ → Env) (h : ∃ t, r = .next (ρ' t)) (h2 : ∀ t, Nx (f (ρ' t)) Q) : Nx (seqS r f) Q := by
  obtain ⟨t, rfl⟩ := h
  exact h2 t
/-- a loop that only looks -/
theorem go_chk {α τ : Type} {st : PyData → Env → Option Env} {body : Env → RS} {f : α → PyData} {cs : List α} {ρ0 : Env} (enc : τ → Env) (t : τ) (h0 : ρ0 = enc t) (h : ∀ t, ∀ c ∈ cs, ∃ ρ1, st (f c) (enc t) = some ρ1 ∧ Nx (body ρ1) (fun ρ => ∃ t', ρ = enc t')) :
    ∃ t', forR st body (cs.map f) ρ0 = .next (enc t') := by
  obtain ⟨t', e, _⟩ := go_fold (σ := Unit) (fun _ t => enc t) (fun _ _ => ()) (fun _ _ => True) rfl () t h0 trivial (fun i s t hi c hc _ => ⟨trivial, h t c hc⟩)
  exact ⟨t', e⟩
end Hv

/-! Hw, part 4: try; loops that end early; what is not int. -/
namespace Hv
open PySem

section
variable {C : Cal} {G : Glo} {B : Sub} {ρ ρ' : Env} {c x y : Str} {d : D} {al : Al} {p q : PyData} {ps : List PyData} {n : Nat}
/-- a try by what its body did -/
noncomputable def tryD (C : Cal) (G : Glo) (B : Sub) (hs : List (List (Str × Bool) × Option Nat × List S)) : RS → RS
  | .exc c ρ' => hnd C G B c hs ρ'
  | r => r
theorem t_try {b : List S} {hs : List (List (Str × Bool) × Option Nat × List S)} : sv C G B (.try_ b hs) ρ = tryD C G B hs (svs C G B b ρ) := by
  simp only [sv]
  rfl
theorem try1 {hs : List (List (Str × Bool) × Option Nat × List S)} : tryD C G B hs (.ret d) = .ret d := rfl
theorem try2 {hs : List (List (Str × Bool) × Option Nat × List S)} : tryD C G B hs (.next ρ) = .next ρ := rfl
theorem try3 {hs : List (List (Str × Bool) × Option Nat × List S)} : tryD C G B hs (.exc c ρ) = hnd C G B c hs ρ := rfl
theorem hnd0 : hnd C G B c [] ρ = .exc c ρ := by simp only [hnd]
theorem hndT {cs : List (Str × Bool)} {o : Option Nat} {b : List S} {hs : List (List (Str × Bool) × Option Nat × List S)} (h : cs.lookup c = some true) : hnd C G B c ((cs, o, b) :: hs) ρ = outX o (blk C (setX G c) B b (inX o ρ)) := by simp only [hnd, h]; rfl
theorem hndF' {cs : List (Str × Bool)} {o : Option Nat} {b : List S} {hs : List (List (Str × Bool) × Option Nat × List S)} (h : cs.lookup c = some false) : hnd C G B c ((cs, o, b) :: hs) ρ = hnd C G B c hs ρ := by simp only [hnd, h]
theorem e_ise {cs : List (Str × Bool)} {i : Nat} : ev C G (.ise i cs) ρ = vt (iseR G i cs ρ) := rfl
def iseD (G : Glo) (cs : List (Str × Bool)) : Option (Option D) → R
  | some (some .exn) => match G xk with
    | some (.str c) => match cs.lookup c with
      | some b => .ok (.v (.bool b)) []
      | none => .stuck
    | _ => .stuck
  | _ => .stuck
theorem ise_eq {cs : List (Str × Bool)} {i : Nat} : iseR G i cs ρ = iseD G cs ρ[i]? := rfl
theorem iseD_ok {cs : List (Str × Bool)} {b : Bool} (h : cs.lookup c = some b) : iseD (setX G c) cs (some (some .exn)) = .ok (.v (.bool b)) [] := by
  unfold iseD setX
  simp only [if_true, h]
theorem outX_ret {o : Option Nat} (h : noX d = true) : outX o (.ret d) = .ret d := by simp only [outX, h, if_true]
theorem noX_v : noX (.v p) = true := rfl
theorem inX_s : inX (some n) ρ = ρ.set n (some .exn) := rfl
theorem lk_hit {b : Bool} {l : List (Str × Bool)} : ((x, b) :: l).lookup x = some b := by simp [List.lookup]
theorem lk_miss {b : Bool} {l : List (Str × Bool)} (h : (x == y) = false) : ((y, b) :: l).lookup x = l.lookup x := by simp [List.lookup, h]
theorem t_drop {e : E} : sv C G B (.drop e) ρ = (ev C G e ρ).e.bindS ρ fun _ _ => .next ρ := by simp only [sv]
theorem t_raise : sv C G B (.raise_ c) ρ = .exc c ρ := by simp only [sv]
theorem s_ex {f : D → Al → RS} : (R.exc c).bindS ρ f = .exc c ρ := rfl
theorem s_exb {f : D → Al → R} : (R.exc c).bind f = .exc c := rfl
theorem s_exl {f : D → Al → Rl} : (R.exc c).bindL f = .exc c := rfl
theorem s_exll {f : List D → Al → Rl} : (Rl.exc c).bindL f = .exc c := rfl
theorem s_exlb {f : List D → Al → R} : (Rl.exc c).bind f = .exc c := rfl
theorem k2e : callR (.exc c) al = .exc c := rfl
end
section
variable {st : PyData → Env → Option Env} {body : Env → RS} {ρ0 : Env}
/-- a loop that goes on while b holds, and ends the body's way at the first item where it does not -/
theorem go_all {α τ : Type} {f : α → PyData} (b : α → Bool) (enc : τ → Env) (r : RS → Prop) :
    ∀ {cs : List α} {ρ0 : Env} (t : τ) (h0 : ρ0 = enc t), (∀ t, ∀ c ∈ cs, ∃ ρ1, st (f c) (enc t) = some ρ1 ∧ (b c = true → Nx (body ρ1) (fun ρ => ∃ t', ρ = enc t')) ∧ (b c = false → ((∃ c ρ, body ρ1 = .exc c ρ) ∨ ∃ d, body ρ1 = .ret d) ∧ r (body ρ1))) →
    (cs.all b = true ∧ ∃ t', forR st body (cs.map f) ρ0 = .next (enc t')) ∨ (cs.all b = false ∧ r (forR st body (cs.map f) ρ0))
  | [], ρ0, t, h0, _ => .inl ⟨rfl, t, by rw [h0]; rfl⟩
  | c :: cs, ρ0, t, h0, h => by
    obtain ⟨ρ1, h1, h2, h3⟩ := h t c List.mem_cons_self
    subst h0
    rw [List.map_cons, forR_step, h1]
    cases hb : b c with
    | true =>
      obtain ⟨ρ2, h4, t', h5⟩ := nx_ex (h2 hb)
      have ih := go_all b enc r (cs := cs) (ρ0 := ρ2) t' h5 fun t c hc => h t c (List.mem_cons_of_mem _ hc)
      rw [List.all_cons, hb, Bool.true_and]
      rcases h4 with h4 | h4 <;> (simp only [h4]; exact ih)
    | false =>
      obtain ⟨h4, h5⟩ := h3 hb
      rw [List.all_cons, hb, Bool.false_and]
      refine .inr ⟨rfl, ?_⟩
      rcases h4 with ⟨c', ρ', h4⟩ | ⟨d, h4⟩
      · rw [h4] at h5; simp only [h4]; exact h5
      · rw [h4] at h5; simp only [h4]; exact h5
end
/-! ### values of all kinds -/
theorem data_fz (b : Bool) (p : PyData) : data (fz b p) = some p := by unfold fz; split <;> rfl
theorem itR_nil (b : Bool) (p : PyData) : itR b p [] = .ok (fz b p) [] := by
  unfold itR
  by_cases h : mutD p = true
  · rw [if_pos h]
  · rw [if_neg h, v12 (by simpa using h)]
theorem kf {b : Bool} {p : PyData} {ds : List D} : datas (fz b p :: ds) = (datas ds).map (p :: ·) := k5 (data_fz b p)
theorem var_fz {n : Nat} {b : Bool} {p : PyData} : varD n (some (some (fz b p))) = .ok (fz b p) [] := by
  unfold fz
  split <;> rfl
theorem isi_fz {b : Bool} {p : PyData} {f : PyData → R} : dat (fz b p) f = f p := by unfold dat; rw [data_fz]
theorem dat2_fz {b : Bool} {p : PyData} {e : D} {f : PyData → PyData → R} : dat2 (fz b p) e f = dat e fun q => f p q := by unfold dat2; rw [data_fz]; rfl
theorem ty_ii {i : Int} : tyP (.int i) .int = true := rfl
theorem ty_ib {i : Int} : tyP (.int i) .bool = false := rfl
section
variable {C : Cal} {G : Glo} {B : Sub} {ρ ρ' : Env} {c x y : Str} {d : D} {al : Al} {p q : PyData} {ps : List PyData} {n : Nat} {is : List Nat} {b : Bool}
def asgTD (is : List Nat) (ρ : Env) (d : D) (al : Al) : RS := match data d with
  | some p => match setT (.tup is) (isNew d) p (frz al ρ) with
    | some ρ => .next ρ
    | none => .stuck
  | none => .stuck
theorem t_asgT {e : E} : sv C G B (.asgT is e) ρ = (ev C G e ρ).e.bindS ρ fun d al => asgTD is ρ d al := by simp only [sv]; rfl
def nxO : Option Env → RS
  | some ρ => .next ρ
  | none => .stuck
theorem asgT_v : asgTD is ρ (.v p) al = nxO (setT (.tup is) (!mutD p) p (frz al ρ)) := by
  unfold asgTD nxO
  simp only [data, isNew]
theorem asgT_n : asgTD is ρ (.n p) al = nxO (setT (.tup is) true p (frz al ρ)) := by
  unfold asgTD nxO
  simp only [data, isNew]
theorem asgT_l : asgTD is ρ (oL ps) al = nxO (setT (.tup is) (!mutDs ps) (.list ps) (frz al ρ)) := by
  unfold asgTD nxO
  simp only [data_oL, isNew_oL]
theorem nx_s : nxO (some ρ) = .next ρ := rfl
theorem sT1 : setT (.tup is) b (.tuple ps) ρ = setTs b is ps ρ := rfl
theorem sT2 : setT (.tup is) b (.list ps) ρ = setTs b is ps ρ := rfl
theorem sT3 : setTs b (n :: is) (p :: ps) ρ = setTs b is ps (ρ.set n (some (fz b p))) := rfl
theorem sT4 : setTs b [] [] ρ = some ρ := rfl
end
theorem l2t {ps : List PyData} {al : Al} {f : List PyData → Bool → Rl} (h : mutDs ps = false) : lcI .seq [.v (.tuple ps)] al f = lcO (f ps (isNew (.v (.tuple ps)))) [] := by
  unfold lcI itemsR elems
  simp only [data, h, Bool.false_eq_true, if_false]
theorem f_tup {C : Cal} {G : Glo} {B : Sub} {tg : Tg} {b : List S} {ρ : Env} {ps : List PyData} (h : mutDs ps = false) : forD .seq [.v (.tuple ps)] [] C G B tg b ρ = forR (fun p ρ => setT tg (isNew (.v (.tuple ps))) p ρ) (blk C G B b) ps ρ := by
  unfold forD itemsR elems
  simp only [data, h, Bool.false_eq_true, if_false, List.all_nil, if_true, frz]
theorem all_mi {α : Type} {al : Al} (h : α → Bool) (cs : List α) : biR .all [oL (cs.map fun c => .bool (h c))] al = .ok (.v (.bool (cs.all h))) [] := by
  have e : ∀ cs : List α, boolsOf (cs.map fun c => .bool (h c)) = some (cs.map h) := fun cs => by
    induction cs with
    | nil => rfl
    | cons c cs ih => simp only [List.map_cons, boolsOf, ih, Option.map_some]
  show bi1 .all (oL (cs.map fun c => .bool (h c))) al = _
  simp only [bi1, data_oL, e, List.all_map]
  rfl
theorem mutDs_mb {α : Type} (h : α → Bool) : ∀ cs : List α, mutDs (cs.map fun c => .bool (h c)) = false
  | [] => rfl
  | c :: cs => by simp only [List.map_cons, mutDs, mutD, mutDs_mb h cs, Bool.false_or]
theorem lc1i {C : Cal} {G : Glo} {own : List Nat} {i : Nat} {elt : E} {ρ : Env} {b : Bool} {g : PyData → PyData} {cs : List PyData} (h : ∀ c ∈ cs, (ev C G elt ((wipeE ρ own).set i (some (fz b c)))).e = .ok (.v (g c)) []) :
    lcT C G own (.name i) [] elt ρ cs b = .ok ((cs.map g).map .v) [] := by
  have := lc1 (f := id) (cs := cs) (g := g) (own := own) (ρ := ρ) (C := C) (G := G) (elt := elt) (i := i) (b := b) h
  simpa using this
section
variable {b : Bool} {al : Al} {ps : List PyData}
theorem yt0 : ixP b al (.tuple ps) (.int 0) = match ps[0]? with
    | some p => itR b p al
    | none => .stuck := x30 (m := 0)
theorem yt1 : ixP b al (.tuple ps) (.int 1) = match ps[1]? with
    | some p => itR b p al
    | none => .stuck := x30 (m := 1)
theorem yt2 : ixP b al (.tuple ps) (.int 2) = match ps[2]? with
    | some p => itR b p al
    | none => .stuck := x30 (m := 2)
theorem yt3 : ixP b al (.tuple ps) (.int 3) = match ps[3]? with
    | some p => itR b p al
    | none => .stuck := x30 (m := 3)
theorem yt4 : ixP b al (.tuple ps) (.int 4) = match ps[4]? with
    | some p => itR b p al
    | none => .stuck := x30 (m := 4)
theorem yt5 : ixP b al (.tuple ps) (.int 5) = match ps[5]? with
    | some p => itR b p al
    | none => .stuck := x30 (m := 5)
theorem yt6 : ixP b al (.tuple ps) (.int 6) = match ps[6]? with
    | some p => itR b p al
    | none => .stuck := x30 (m := 6)
theorem yt7 : ixP b al (.tuple ps) (.int 7) = match ps[7]? with
    | some p => itR b p al
    | none => .stuck := x30 (m := 7)
theorem yt8 : ixP b al (.tuple ps) (.int 8) = match ps[8]? with
    | some p => itR b p al
    | none => .stuck := x30 (m := 8)
theorem yt9 : ixP b al (.tuple ps) (.int 9) = match ps[9]? with
    | some p => itR b p al
    | none => .stuck := x30 (m := 9)
theorem yl6 : ixP b al (.list ps) (.int 6) = match ps[6]? with
    | some p => itR b p al
    | none => .stuck := x29 (m := 6)
theorem yl7 : ixP b al (.list ps) (.int 7) = match ps[7]? with
    | some p => itR b p al
    | none => .stuck := x29 (m := 7)
theorem yl8 : ixP b al (.list ps) (.int 8) = match ps[8]? with
    | some p => itR b p al
    | none => .stuck := x29 (m := 8)
theorem yl9 : ixP b al (.list ps) (.int 9) = match ps[9]? with
    | some p => itR b p al
    | none => .stuck := x29 (m := 9)
theorem yl10 : ixP b al (.list ps) (.int 10) = match ps[10]? with
    | some p => itR b p al
    | none => .stuck := x29 (m := 10)
theorem yl11 : ixP b al (.list ps) (.int 11) = match ps[11]? with
    | some p => itR b p al
    | none => .stuck := x29 (m := 11)
theorem yl12 : ixP b al (.list ps) (.int 12) = match ps[12]? with
    | some p => itR b p al
    | none => .stuck := x29 (m := 12)
theorem yl13 : ixP b al (.list ps) (.int 13) = match ps[13]? with
    | some p => itR b p al
    | none => .stuck := x29 (m := 13)
theorem yl14 : ixP b al (.list ps) (.int 14) = match ps[14]? with
    | some p => itR b p al
    | none => .stuck := x29 (m := 14)
theorem yl15 : ixP b al (.list ps) (.int 15) = match ps[15]? with
    | some p => itR b p al
    | none => .stuck := x29 (m := 15)
end
section
variable {C : Cal} {G : Glo} {ρ : Env} {b : E}
theorem ei_lst {es : List E} : ev C G (.ix (.lst es) b) ρ = vt ((ev C G (.lst es) ρ).e.bind fun x al => (ev C G b ρ).e.bind fun y _ => dat2 x y fun p q => ixP (isNew x) al p q) := e15 rfl
theorem ei_tup {es : List E} : ev C G (.ix (.tup es) b) ρ = vt ((ev C G (.tup es) ρ).e.bind fun x al => (ev C G b ρ).e.bind fun y _ => dat2 x y fun p q => ixP (isNew x) al p q) := e15 rfl
theorem ei_ix {a1 a2 : E} : ev C G (.ix (.ix a1 a2) b) ρ = vt ((ev C G (.ix a1 a2) ρ).e.bind fun x al => (ev C G b ρ).e.bind fun y _ => dat2 x y fun p q => ixP (isNew x) al p q) := e15 rfl
theorem ei_call {f : Nat} {es : List E} : ev C G (.ix (.call f es) b) ρ = vt ((ev C G (.call f es) ρ).e.bind fun x al => (ev C G b ρ).e.bind fun y _ => dat2 x y fun p q => ixP (isNew x) al p q) := e15 rfl
theorem ei_glob {g : Str} : ev C G (.ix (.glob g) b) ρ = vt ((ev C G (.glob g) ρ).e.bind fun x al => (ev C G b ρ).e.bind fun y _ => dat2 x y fun p q => ixP (isNew x) al p q) := e15 rfl
theorem ei_sl {a1 : E} {lo hi : Option E} : ev C G (.ix (.sl a1 lo hi) b) ρ = vt ((ev C G (.sl a1 lo hi) ρ).e.bind fun x al => (ev C G b ρ).e.bind fun y _ => dat2 x y fun p q => ixP (isNew x) al p q) := e15 rfl
theorem ei_bi {f : Bi} {es : List E} : ev C G (.ix (.bi f es) b) ρ = vt ((ev C G (.bi f es) ρ).e.bind fun x al => (ev C G b ρ).e.bind fun y _ => dat2 x y fun p q => ixP (isNew x) al p q) := e15 rfl
theorem ei_str {g : Str} : ev C G (.ix (.str g) b) ρ = vt ((ev C G (.str g) ρ).e.bind fun x al => (ev C G b ρ).e.bind fun y _ => dat2 x y fun p q => ixP (isNew x) al p q) := e15 rfl
theorem ei_bin {o : BOp} {a1 a2 : E} : ev C G (.ix (.bin o a1 a2) b) ρ = vt ((ev C G (.bin o a1 a2) ρ).e.bind fun x al => (ev C G b ρ).e.bind fun y _ => dat2 x y fun p q => ixP (isNew x) al p q) := e15 rfl
theorem ei_mth {m : Mt} {a1 : E} {es : List E} : ev C G (.ix (.mth m a1 es) b) ρ = vt ((ev C G (.mth m a1 es) ρ).e.bind fun x al => (ev C G b ρ).e.bind fun y _ => dat2 x y fun p q => ixP (isNew x) al p q) := e15 rfl
end
theorem f_lv {C : Cal} {G : Glo} {B : Sub} {tg : Tg} {b : List S} {ρ : Env} {ps : List PyData} : forD .seq [.v (.list ps)] [] C G B tg b ρ = forR (fun p ρ => setT tg false p ρ) (blk C G B b) ps ρ := by
  have e : elems (.v (.list ps)) [] = some (ps, false, []) := by
    unfold elems
    simp only [data, isNew, mutD, Bool.not_true]
    split <;> rfl
  unfold forD itemsR
  simp only [e, List.all_nil, if_true, frz]
/-! ### a list of one's own with items of all kinds -/
def fL (ps : List PyData) : D := .ol (ps.map (fz true))
theorem datas_fz (b : Bool) : ∀ ps : List PyData, datas (ps.map (fz b)) = some ps
  | [] => rfl
  | p :: ps => by rw [List.map_cons, kf, datas_fz b ps]; rfl
theorem data_fL (ps : List PyData) : data (fL ps) = some (.list ps) := by
  show (datas (ps.map (fz true))).map PyData.list = _
  rw [datas_fz]; rfl
theorem isNew_fz (p : PyData) : isNew (fz true p) = true := by
  unfold fz
  cases h : mutD p with
  | true => rfl
  | false => simp [isNew, h]
theorem isNews_fz : ∀ ps : List PyData, isNews (ps.map (fz true)) = true
  | [] => rfl
  | p :: ps => by simp only [List.map_cons, isNews, isNew_fz, isNews_fz ps, Bool.and_self]
theorem isNew_fL (ps : List PyData) : isNew (fL ps) = true := isNews_fz ps
theorem view_fL (ps : List PyData) : view (fL ps) = some (.n (.list ps)) := by
  unfold view
  rw [data_fL, isNew_fL]
  rfl
theorem var_fL {n : Nat} {ps : List PyData} : varD n (some (some (fL ps))) = .ok (.n (.list ps)) [n] := by
  show (match view (fL ps) with
    | some e => R.ok e [n]
    | none => .stuck) = _
  rw [view_fL]
theorem fL_im {ps : List PyData} (h : mutDs ps = false) : fL ps = oL ps := by
  unfold fL oL
  congr 1
  refine List.map_congr_left fun p hp => ?_
  refine v12 ?_
  induction ps with
  | nil => cases hp
  | cons q qs ih =>
    simp only [mutDs, Bool.or_eq_false_iff] at h
    rcases List.mem_cons.mp hp with rfl | hp
    · exact h.1
    · exact ih h.2 hp
theorem fl_set {n s : Nat} {ps : List PyData} {p : PyData} {ρ : Env} (h : s < ps.length) : updE n [] (setF (s : Int) (fz true p)) [] ρ (some (some (fL ps))) = .next (ρ.set n (some (fL (ps.set s p)))) := by
  have e : setF (s : Int) (fz true p) (ps.map (fz true)) = some ((ps.set s p).map (fz true)) := by
    unfold setF
    have : L2.ixN (ps.map (fz true)).length (s : Int) = some s := by
      unfold L2.ixN
      rw [List.length_map]
      have h1 : (s : Int) < ps.length := by omega
      simp [h1]
    rw [this]
    simp
  unfold updE fL updD
  simp only [e, List.contains_nil, Bool.false_eq_true, if_false, frz]
theorem fl_app {n : Nat} {ps : List PyData} {p : PyData} {ρ : Env} (h : ps.length < 16777216) : updE n [] (appF (fz true p)) [] ρ (some (some (fL ps))) = .next (ρ.set n (some (fL (ps ++ [p])))) := by
  have e : appF (fz true p) (ps.map (fz true)) = some ((ps ++ [p]).map (fz true)) := by
    unfold appF SZ
    rw [List.length_map, if_pos h]
    simp
  unfold updE fL updD
  simp only [e, List.contains_nil, Bool.false_eq_true, if_false, frz]
theorem list_n {ps : List PyData} {al : Al} : biR .list [.n (.list ps)] al = .ok (fL ps) (if mutDs ps then al else []) := by
  show bi1 .list (.n (.list ps)) al = _
  simp only [bi1, data, isNew, mkL]
  cases h : mutDs ps with
  | true => rfl
  | false => simp only [Bool.false_eq_true, if_false]; rw [fL_im h]
theorem list_tv {ps : List PyData} {al : Al} (h : mutDs ps = false) : biR .list [.v (.tuple ps)] al = .ok (oL ps) [] := by
  show bi1 .list (.v (.tuple ps)) al = _
  simp only [bi1, data, mkL, h, Bool.false_eq_true, if_false]
theorem list_lv {ps : List PyData} {al : Al} (h : mutDs ps = false) : biR .list [.v (.list ps)] al = .ok (oL ps) [] := by
  show bi1 .list (.v (.list ps)) al = _
  simp only [bi1, data, mkL, h, Bool.false_eq_true, if_false]
/-- the items of a list that is read -/
theorem f_ln {C : Cal} {G : Glo} {B : Sub} {tg : Tg} {b : List S} {ρ : Env} {ps : List PyData} {al : Al} (hm : al.all (fun i => !(mutSs b).contains i) = true) : forD .seq [.n (.list ps)] al C G B tg b ρ = forR (fun p ρ => setT tg true p ρ) (blk C G B b) ps (frz (if mutDs ps then al else []) ρ) := by
  unfold forD itemsR elems
  simp only [data, isNew, hm, if_true]
theorem frz1_fL {n : Nat} {ρ : Env} {ps : List PyData} (h : ρ[n]? = some (some (fL ps))) : frz [n] ρ = ρ.set n (some (.n (.list ps))) := by
  show frz1 n ρ = _
  unfold frz1
  rw [h]
  simp only [view_fL]
def frzD (n : Nat) (ρ : Env) : Option (Option D) → Env
  | some (some d) => ρ.set n (view d)
  | _ => ρ
theorem frz_c {n : Nat} {is : List Nat} {ρ : Env} : frz (n :: is) ρ = frz is (frzD n ρ ρ[n]?) := by
  show frz is (frz1 n ρ) = _
  congr 1
theorem frz_fL {n : Nat} {ρ : Env} {ps : List PyData} : frzD n ρ (some (some (fL ps))) = ρ.set n (some (.n (.list ps))) := by
  show ρ.set n (view (fL ps)) = _
  rw [view_fL]
theorem frz_n {n : Nat} {ρ : Env} {p : PyData} : frzD n ρ (some (some (.n p))) = ρ.set n (view (.n p)) := rfl
theorem frz_v {n : Nat} {ρ : Env} {p : PyData} : frzD n ρ (some (some (.v p))) = ρ.set n (view (.v p)) := rfl
theorem frz_o {n : Nat} {ρ : Env} {ps : List PyData} : frzD n ρ (some (some (oL ps))) = ρ.set n (some (fz (!mutDs ps) (.list ps))) := by
  show ρ.set n (view (oL ps)) = _
  unfold view
  rw [data_oL, isNew_oL]
  rfl
/-! ### compared, whatever it is -/
mutual
theorem eqv_nd : ∀ d : PyData, noDict d = true → PyData.eqv d d = true
  | .none, _ => by simp [PyData.eqv]
  | .bool _, _ => by simp [PyData.eqv]
  | .int _, _ => by simp [PyData.eqv]
  | .str _, _ => by simp [PyData.eqv]
  | .list ds, h => by simp only [PyData.eqv]; exact eqvs_nd ds (by simpa [noDict] using h)
  | .tuple ds, h => by simp only [PyData.eqv]; exact eqvs_nd ds (by simpa [noDict] using h)
  | .dict _, h => by simp [noDict] at h
theorem eqvs_nd : ∀ ds : List PyData, noDicts ds = true → PyData.eqvAll ds ds = true
  | [], _ => by simp [PyData.eqvAll]
  | d :: ds, h => by
    simp only [noDicts, Bool.and_eq_true] at h
    simp only [PyData.eqvAll, eqv_nd d h.1, eqvs_nd ds h.2, Bool.and_self]
end
/-- small: no dict, not deep -/
def Sm (n : Nat) (p : PyData) : Prop := noDict p = true ∧ p.depth ≤ n
theorem Sm.mono {n m : Nat} {p : PyData} (h : Sm n p) (hm : n ≤ m) : Sm m p := ⟨h.1, Nat.le_trans h.2 hm⟩
theorem Sms {n : Nat} : ∀ {ps : List PyData}, (∀ p ∈ ps, Sm n p) → noDicts ps = true ∧ PyData.depthAll ps ≤ n
  | [], _ => ⟨rfl, by simp [PyData.depthAll]⟩
  | p :: ps, h => by
    obtain ⟨h1, h2⟩ := h p List.mem_cons_self
    obtain ⟨h3, h4⟩ := Sms fun q hq => h q (List.mem_cons_of_mem _ hq)
    refine ⟨by simp [noDicts, h1, h3], ?_⟩
    simp only [PyData.depthAll]
    omega
theorem Sm.list {n : Nat} {ps : List PyData} (h : ∀ p ∈ ps, Sm n p) : Sm (n + 1) (.list ps) := by
  obtain ⟨h1, h2⟩ := Sms h
  refine ⟨by simpa [noDict] using h1, ?_⟩
  simp only [PyData.depth]
  omega
theorem Sm.tuple {n : Nat} {ps : List PyData} (h : ∀ p ∈ ps, Sm n p) : Sm (n + 1) (.tuple ps) := by
  obtain ⟨h1, h2⟩ := Sms h
  refine ⟨by simpa [noDict] using h1, ?_⟩
  simp only [PyData.depth]
  omega
theorem Sm.int (n : Nat) (i : Int) : Sm n (.int i) := ⟨rfl, by simp [PyData.depth]⟩
theorem Sm.bool (n : Nat) (i : Bool) : Sm n (.bool i) := ⟨rfl, by simp [PyData.depth]⟩
theorem Sm.str (n : Nat) (i : Str) : Sm n (.str i) := ⟨rfl, by simp [PyData.depth]⟩
theorem Sm.none (n : Nat) : Sm n .none := ⟨rfl, by simp [PyData.depth]⟩
theorem Sm.cmp {p : PyData} (h : Sm 64 p) : cmpOk p = true := by
  unfold cmpOk
  rw [h.1, decide_eq_true h.2]
  rfl
theorem ne_self {p : PyData} (h : Sm 64 p) : cmpP .ne p p = .ok false := by
  rw [x11 h.cmp h.cmp, eqv_nd p h.1]
  rfl
theorem eq_self {p : PyData} (h : Sm 64 p) : cmpP .eq p p = .ok true := by
  rw [x10 h.cmp h.cmp, eqv_nd p h.1]
theorem cmp_neb {a b : Bool} : cmpP .ne (.bool a) (.bool b) = .ok (a != b) := by
  rw [x11 (cmpOk_bool _) (cmpOk_bool _)]
  cases a <;> cases b <;> rfl
theorem cmp_nes {a b : Str} : cmpP .ne (.str a) (.str b) = .ok (!decide (a = b)) := by
  rw [x11 (cmpOk_str _) (cmpOk_str _)]
  simp [PyData.eqv]
  rfl
theorem cmp_eqs {a b : Str} : cmpP .eq (.str a) (.str b) = .ok (decide (a = b)) := by
  rw [x10 (cmpOk_str _) (cmpOk_str _)]
  simp [PyData.eqv]
  rfl
theorem itR_s {b : Bool} {x : Str} {al : Al} : itR b (.str x) al = .ok (.v (.str x)) [] := rfl
theorem ol_app {n : Nat} {ds : List D} {d : D} {ρ : Env} (h : ds.length < 16777216) : updE n [] (appF d) [] ρ (some (some (.ol ds))) = .next (ρ.set n (some (.ol (ds ++ [d])))) := by
  have e : appF d ds = some (ds ++ [d]) := by unfold appF; exact if_pos h
  unfold updE updD
  simp only [e, List.contains_nil, Bool.false_eq_true, if_false, frz]
theorem var_ol {n : Nat} {ds : List D} {ps : List PyData} (h : datas ds = some ps) (h2 : isNews ds = true) : varD n (some (some (.ol ds))) = .ok (.n (.list ps)) [n] := by
  show (match view (.ol ds) with
    | some e => R.ok e [n]
    | none => .stuck) = _
  have : view (.ol ds) = some (.n (.list ps)) := by
    unfold view
    simp only [data, h, Option.map_some, isNew, h2]
    rfl
  rw [this]
theorem datas_app : ∀ {ds es : List D} {ps qs : List PyData}, datas ds = some ps → datas es = some qs → datas (ds ++ es) = some (ps ++ qs)
  | [], es, ps, qs, h1, h2 => by injection h1 with h1; subst h1; exact h2
  | d :: ds, es, ps, qs, h1, h2 => by
    simp only [datas] at h1
    cases e1 : data d with
    | none => rw [e1] at h1; cases h1
    | some p =>
      cases e2 : datas ds with
      | none => rw [e1, e2] at h1; cases h1
      | some rs =>
        rw [e1, e2] at h1
        injection h1 with h1
        subst h1
        simp only [List.cons_append, datas, e1, datas_app e2 h2]
theorem isNews_app : ∀ {ds es : List D}, isNews (ds ++ es) = (isNews ds && isNews es)
  | [], es => by simp [isNews]
  | d :: ds, es => by simp only [List.cons_append, isNews, isNews_app (ds := ds), Bool.and_assoc]
theorem cat_tup {b : Bool} {al : Al} {ps qs : List PyData} (h : mutDs (ps ++ qs) = false) (hl : ps.length + qs.length ≤ 16777216) : binP .add b al (.tuple ps) (.tuple qs) = .ok (.v (.tuple (ps ++ qs))) [] := by
  simp only [binP, mkT, h, Bool.false_eq_true, if_false]
  exact if_pos hl
theorem cat_lst {b : Bool} {al : Al} {ps qs : List PyData} (h : mutDs (ps ++ qs) = false) (hl : ps.length + qs.length ≤ 16777216) : binP .add b al (.list ps) (.list qs) = .ok (oL (ps ++ qs)) [] := by
  simp only [binP, mkL, h, Bool.false_eq_true, if_false]
  exact if_pos hl
theorem mutDs_app : ∀ {ps qs : List PyData}, mutDs (ps ++ qs) = (mutDs ps || mutDs qs)
  | [], qs => rfl
  | p :: ps, qs => by rw [List.cons_append, md5, mutDs_app (ps := ps), md5, Bool.or_assoc]
theorem mutDs_take : ∀ {ps : List PyData} {n : Nat}, mutDs ps = false → mutDs (ps.take n) = false
  | _, 0, _ => by simp [mutDs]
  | [], _ + 1, _ => rfl
  | p :: ps, n + 1, h => by
    rw [md5, Bool.or_eq_false_iff] at h
    rw [List.take_succ_cons, md5, h.1, mutDs_take h.2]
    rfl
theorem mutDs_drop : ∀ {ps : List PyData} {n : Nat}, mutDs ps = false → mutDs (ps.drop n) = false
  | _, 0, h => by simpa using h
  | [], _ + 1, _ => rfl
  | p :: ps, n + 1, h => by
    rw [md5, Bool.or_eq_false_iff] at h
    rw [List.drop_succ_cons]
    exact mutDs_drop h.2
/-! ### cuts -/
theorem cut_to {α : Type} {xs : List α} {n : Nat} : cutP xs (some 0) (some (n : Int)) = xs.take n := by
  unfold cutP
  have h1 : HT.sIx xs.length 0 (some 0) = 0 := by rw [show (0 : Int) = ((0 : Nat) : Int) from rfl, HT.sIx_nat]; simp
  rw [h1, HT.sIx_nat]
  simp [List.take_eq_take_iff]
theorem cut_from {α : Type} {xs : List α} {n : Nat} : cutP xs (some (n : Int)) none = xs.drop n := by
  unfold cutP
  rw [HT.sIx_nat, HT.sIx_none]
  by_cases h : n ≤ xs.length
  · rw [Nat.min_eq_left h]
    exact List.take_of_length_le (by simp)
  · rw [Nat.min_eq_right (by omega), List.drop_of_length_le (by omega), List.drop_of_length_le (by omega)]
    simp
theorem sl_tup {b : Bool} {al : Al} {ps : List PyData} {lo hi : Option Int} (h : mutDs (cutP ps lo hi) = false) : slR (fz b (.tuple ps)) al lo hi = .ok (.v (.tuple (cutP ps lo hi))) [] := by
  unfold slR
  rw [data_fz]
  simp only [mkT, h, Bool.false_eq_true, if_false]
theorem sl_tv {al : Al} {ps : List PyData} {lo hi : Option Int} (h : mutDs (cutP ps lo hi) = false) : slR (.v (.tuple ps)) al lo hi = .ok (.v (.tuple (cutP ps lo hi))) [] := by
  simp only [slR, data, mkT, h, Bool.false_eq_true, if_false]
theorem sl_ln {al : Al} {ps : List PyData} {lo hi : Option Int} (h : mutDs (cutP ps lo hi) = false) : slR (.n (.list ps)) al lo hi = .ok (oL (cutP ps lo hi)) [] := by
  simp only [slR, data, mkL, h, Bool.false_eq_true, if_false]
theorem sl_lv {al : Al} {ps : List PyData} {lo hi : Option Int} (h : mutDs (cutP ps lo hi) = false) : slR (.v (.list ps)) al lo hi = .ok (oL (cutP ps lo hi)) [] := by
  simp only [slR, data, mkL, h, Bool.false_eq_true, if_false]
theorem md6 {ps : List PyData} : mutD (.tuple ps) = mutDs ps := rfl
theorem md7 {ps : List PyData} : mutD (.list ps) = true := rfl
/-! ### numbers in a list by an index that is reckoned -/
def gi (ns : List Int) (i : Int) : Int := ns.getD i.toNat 0
theorem gi_mem {ns : List Int} {i : Int} (h0 : 0 ≤ i) (h1 : i < ns.length) : gi ns i ∈ ns := by
  unfold gi
  have : i.toNat < ns.length := by omega
  rw [List.getD_eq_getElem?_getD, List.getElem?_eq_getElem this]
  exact List.getElem_mem this
theorem atI_in {α : Type} {xs : List α} {i : Int} (h0 : 0 ≤ i) (h1 : i < xs.length) : L2.atI xs i = xs[i.toNat]? := by
  obtain ⟨n, rfl⟩ := Int.eq_ofNat_of_zero_le h0
  rw [atI_nat']
  simp
theorem gi_get {ns : List Int} {i : Int} (h0 : 0 ≤ i) (h1 : i < ns.length) : (ns.map PyData.int)[i.toNat]? = some (.int (gi ns i)) := by
  have : i.toNat < ns.length := by omega
  unfold gi
  rw [List.getElem?_map, List.getD_eq_getElem?_getD, List.getElem?_eq_getElem this]
  rfl
theorem ix_v {ns : List Int} {i : Int} {b : Bool} {al : Al} (h0 : 0 ≤ i) (h1 : i < ns.length) : ixP b al (IL ns) (.int i) = .ok (.v (.int (gi ns i))) [] := by
  show (match L2.atI (ns.map PyData.int) i with
    | some p => itR b p al
    | none => .stuck) = _
  rw [atI_in h0 (by simpa using h1), gi_get h0 h1]
  rfl
theorem ixv_o {ns : List Int} {i : Int} {n : Nat} {al : Al} (h0 : 0 ≤ i) (h1 : i < ns.length) : ixvD n (some (some (oL (ns.map .int)))) (.ok (.v (.int i)) al) = .ok (.v (.int (gi ns i))) [] := by
  obtain ⟨m, rfl⟩ := Int.eq_ofNat_of_zero_le h0
  rw [x36]
  have := gi_get h0 h1
  simp only [Int.toNat_natCast] at this
  rw [this]
/-- an item of a list by an index that is reckoned -/
theorem ixq_v {ps : List PyData} {i : Int} {b : Bool} {al : Al} {p : PyData} (h0 : 0 ≤ i) (h : ps[i.toNat]? = some p) : ixP b al (.list ps) (.int i) = itR b p al := by
  obtain ⟨m, rfl⟩ := Int.eq_ofNat_of_zero_le h0
  rw [x29]
  simp only [Int.toNat_natCast] at h
  rw [h]
theorem ixq_o {ps : List PyData} {i : Int} {n : Nat} {al : Al} {p : PyData} (h0 : 0 ≤ i) (h : ps[i.toNat]? = some p) : ixvD n (some (some (oL ps))) (.ok (.v (.int i)) al) = .ok (.v p) [] := by
  obtain ⟨m, rfl⟩ := Int.eq_ofNat_of_zero_le h0
  rw [x36]
  simp only [Int.toNat_natCast] at h
  rw [h]
theorem get_in {α : Type} {xs : List α} {i : Int} (h0 : 0 ≤ i) (h1 : i < xs.length) : ∃ x, xs[i.toNat]? = some x ∧ x ∈ xs := by
  have : i.toNat < xs.length := by omega
  exact ⟨_, List.getElem?_eq_getElem this, List.getElem_mem this⟩
theorem ol_set {n : Nat} {ps : List PyData} {i : Int} {p : PyData} {ρ : Env} (h0 : 0 ≤ i) (h1 : i < ps.length) : updE n [] (setF i (.v p)) [] ρ (some (some (oL ps))) = .next (ρ.set n (some (oL (ps.set i.toNat p)))) := by
  obtain ⟨m, rfl⟩ := Int.eq_ofNat_of_zero_le h0
  have e : setF (m : Int) (.v p) (ps.map D.v) = some ((ps.set m p).map D.v) := by
    unfold setF
    have : L2.ixN (ps.map D.v).length (m : Int) = some m := by
      unfold L2.ixN
      rw [List.length_map]
      simp [h1]
    rw [this]
    simp
  unfold updE oL updD
  simp only [e, List.contains_nil, Bool.false_eq_true, if_false, frz, Int.toNat_natCast]
/-! ### four numbers -/
abbrev Q4 : Type := Int × Int × Int × Int
def qd (q : Q4) : PyData := .tuple [.int q.1, .int q.2.1, .int q.2.2.1, .int q.2.2.2]
theorem mut_qd (q : Q4) : mutD (qd q) = false := rfl
theorem mut_qds : ∀ qs : List Q4, mutDs (qs.map qd) = false
  | [] => rfl
  | q :: qs => by rw [List.map_cons, md5, mut_qd, mut_qds qs]; rfl
theorem Sm.qd (q : Q4) : Sm 1 (qd q) := Sm.tuple (n := 0) fun p hp => by
  simp only [List.mem_cons, List.not_mem_nil, or_false] at hp
  rcases hp with rfl | rfl | rfl | rfl <;> exact Sm.int _ _
theorem fz_qd {b : Bool} {q : Q4} : fz b (Hv.qd q) = .v (Hv.qd q) := v12 rfl
theorem itR_qd {b : Bool} {q : Q4} {al : Al} : itR b (Hv.qd q) al = .ok (.v (Hv.qd q)) [] := by rw [x37 (mut_qd q)]
theorem qd_mk {a b c d : Int} : PyData.tuple [.int a, .int b, .int c, .int d] = qd (a, b, c, d) := rfl
theorem asg_qd {i j k l : Nat} {ρ : Env} {q : Q4} {al : Al} : asgTD [i, j, k, l] ρ (.v (qd q)) al = .next (((((frz al ρ).set i (some (.v (.int q.1)))).set j (some (.v (.int q.2.1)))).set k (some (.v (.int q.2.2.1)))).set l (some (.v (.int q.2.2.2)))) := by
  rw [asgT_v]
  unfold qd
  rw [sT1, sT3, sT3, sT3, sT3, sT4]
  simp only [v6]
  rfl
theorem st_qd {i j k l : Nat} {ρ : Env} {q : Q4} {b : Bool} : setT (.tup [i, j, k, l]) b (qd q) ρ = some ((((ρ.set i (some (.v (.int q.1)))).set j (some (.v (.int q.2.1)))).set k (some (.v (.int q.2.2.1)))).set l (some (.v (.int q.2.2.2)))) := by
  unfold qd
  rw [sT1, sT3, sT3, sT3, sT3, sT4]
  simp only [v6]
theorem len_n {ps : List PyData} {al : Al} : biR .len [.n (.list ps)] al = .ok (.v (.int ps.length)) [] := rfl
section
variable {α : Type} {P : α → Prop} {g : α → CR} {r : RS} {f : Env → RS}
theorem ex_seq (ρ' : Env) (h : r = .next ρ') (h2 : ∃ a, P a ∧ retC (f ρ') = g a) : ∃ a, P a ∧ retC (seqS r f) = g a := by rw [h]; exact h2
theorem ex_seqE {τ : Type} (ρ' : τ → Env) (I : τ → Prop) (h : ∃ t, I t ∧ r = .next (ρ' t)) (h2 : ∀ t, I t → ∃ a, P a ∧ retC (f (ρ' t)) = g a) : ∃ a, P a ∧ retC (seqS r f) = g a := by
  obtain ⟨t, i, rfl⟩ := h
  exact h2 t i
end
theorem lc4 {C : Cal} {G : Glo} {own : List Nat} {i j k l : Nat} {elt : E} {ρ : Env} {b : Bool} {g : Q4 → PyData} {qs : List Q4} (h : ∀ q ∈ qs, (ev C G elt (((((wipeE ρ own).set i (some (.v (.int q.1)))).set j (some (.v (.int q.2.1)))).set k (some (.v (.int q.2.2.1)))).set l (some (.v (.int q.2.2.2))))).e = .ok (.v (g q)) []) :
    lcT C G own (.tup [i, j, k, l]) [] elt ρ (qs.map qd) b = .ok ((qs.map g).map .v) [] :=
  lcR_mapf g fun q hq => ⟨_, st_qd, rfl, h q hq⟩
theorem lc4q {C : Cal} {G : Glo} {own : List Nat} {i j k l : Nat} {elt : E} {ρ : Env} {b : Bool} (g : Q4 → Q4) {qs : List Q4} (h : ∀ q ∈ qs, (ev C G elt (((((wipeE ρ own).set i (some (.v (.int q.1)))).set j (some (.v (.int q.2.1)))).set k (some (.v (.int q.2.2.1)))).set l (some (.v (.int q.2.2.2))))).e = .ok (.v (qd (g q))) []) :
    lcT C G own (.tup [i, j, k, l]) [] elt ρ (qs.map qd) b = .ok (((qs.map g).map qd).map .v) [] := by
  rw [List.map_map (f := g)]
  exact lc4 h
theorem nx_seqI {τ : Type} {r : RS} {f : Env → RS} {Q : Env → Prop} (ρ' : τ → Env) (I : τ → Prop) (h : ∃ t, I t ∧ r = .next (ρ' t)) (h2 : ∀ t, I t → Nx (f (ρ' t)) Q) : Nx (seqS r f) Q := by
  obtain ⟨t, i, rfl⟩ := h
  exact h2 t i
theorem f1i {C : Cal} {G : Glo} {B : Sub} {ρ : Env} {m : Int} {tg : Tg} {b : List S} (h0 : 0 ≤ m) (h : m ≤ 16777216) : forD .range [.v (.int m)] [] C G B tg b ρ = forR (fun p ρ => setT tg true p ρ) (blk C G B b) ((rgI 0 m).map .int) ρ := by
  obtain ⟨n, rfl⟩ := Int.eq_ofNat_of_zero_le h0
  exact f1 (by omega)
theorem l1i {al : Al} {m : Int} {f : List PyData → Bool → Rl} (h0 : 0 ≤ m) (h : m ≤ 16777216) : lcI .range [.v (.int m)] al f = lcO (f ((rgI 0 m).map .int) true) [] := by
  obtain ⟨n, rfl⟩ := Int.eq_ofNat_of_zero_le h0
  exact l1 (by omega)
section
variable {τ : Type} {I : τ → Prop} {g : τ → Env} {r : RS} {f : Env → RS} {C : Cal} {G : Glo} {B : Sub} {c : E} {a b : List S} {ρ : Env}
theorem eq_seq (ρ' : Env) (h : r = .next ρ') (h2 : ∃ t, I t ∧ f ρ' = .next (g t)) : ∃ t, I t ∧ seqS r f = .next (g t) := by rw [h]; exact h2
theorem eq_seqI {σ : Type} (ρ' : σ → Env) (J : σ → Prop) (h : ∃ t, J t ∧ r = .next (ρ' t)) (h2 : ∀ s, J s → ∃ t, I t ∧ f (ρ' s) = .next (g t)) : ∃ t, I t ∧ seqS r f = .next (g t) := by
  obtain ⟨s, j, rfl⟩ := h
  exact h2 s j
theorem eq_ife (v : Bool) (hc : (ev C G c ρ).t = .ok v) (h1 : v = true → ∃ t, I t ∧ svs C G B a ρ = .next (g t)) (h2 : v = false → ∃ t, I t ∧ svs C G B b ρ = .next (g t)) : ∃ t, I t ∧ sv C G B (.ife c a b) ρ = .next (g t) := by
  rw [t12, hc, s10]
  cases v with
  | true => exact h1 rfl
  | false => exact h2 rfl
theorem eq_nil (t : τ) (i : I t) (h : ρ = g t) : ∃ t, I t ∧ svs C G B [] ρ = .next (g t) := ⟨t, i, by rw [t1, h]⟩
end
theorem cut_ft {α : Type} {xs : List α} {n m : Nat} (h : n ≤ xs.length) : cutP xs (some (n : Int)) (some (m : Int)) = (xs.drop n).take (m - n) := by
  unfold cutP
  rw [HT.sIx_nat, HT.sIx_nat, Nat.min_eq_left h]
  by_cases hm : m ≤ xs.length
  · rw [Nat.min_eq_left hm]
  · rw [Nat.min_eq_right (by omega)]
    rw [List.take_of_length_le (by simp), List.take_of_length_le (by simp; omega)]
theorem list_q {qs : List Q4} {al : Al} : biR .list [.n (.list (qs.map qd))] al = .ok (oL (qs.map qd)) [] := by
  rw [list_n, mut_qds, fL_im (mut_qds qs)]
  rfl
theorem er_map {α β : Type} (f : α → β) : ∀ (l : List α) (n : Nat), (l.map f).eraseIdx n = (l.eraseIdx n).map f
  | [], _ => by simp
  | _ :: _, 0 => by simp
  | x :: l, n + 1 => by simp [er_map f l n]
theorem t_appPop {C : Cal} {G : Glo} {B : Sub} {i j : Nat} {e : E} {ρ : Env} : sv C G B (.appPop i j e) ρ = appPopR i j (ev C G e ρ).e ρ := by simp only [sv]
theorem app_pop {i j : Nat} {n : Int} {al : Al} {ρ : Env} {ss ms : List PyData} {p : PyData} (hij : i ≠ j) (hj : ρ[j]? = some (some (oL ss))) (hi : ρ[i]? = some (some (oL ms))) (h0 : 0 ≤ n) (hp : ss[n.toNat]? = some p) (hm : mutD p = false) (hs : ss.length ≤ 16777216) (hl : ms.length < 16777216) :
    appPopR i j (.ok (.v (.int n)) al) ρ = .next ((ρ.set j (some (oL (ss.eraseIdx n.toNat)))).set i (some (oL (ms ++ [p])))) := by
  have h1 : n.toNat < ss.length := (List.getElem?_eq_some_iff.mp hp).1
  have e1 : popF n (ss.map D.v) = some ((ss.eraseIdx n.toNat).map D.v) := by
    unfold popF
    rw [if_pos ⟨h0, by rw [List.length_map]; omega, by rw [List.length_map]; exact hs⟩, List.getElem?_map, hp]
    simp only [Option.map_some, hm, Bool.false_eq_true, if_false]
    rw [er_map]
  have e2 : popP n (ss.map D.v) = some p := by
    unfold popP
    rw [List.getElem?_map, hp]
    rfl
  unfold appPopR
  simp only [data, hj, oL, e1, e2, if_neg hij]
  show updR i [] (appF (.v p)) [] (ρ.set j (some (oL (ss.eraseIdx n.toNat)))) = _
  rw [t26, List.getElem?_set_ne (Ne.symm hij), hi, t27 hl]
  rfl
end Hv

/-! Hw, part 5: texts, more. -/
namespace Hv
open PySem L2
section
variable {l l' : List Nat} {al : Al} {w b : Bool} {c n : Nat} {i : Int} {lo hi : Option Int}
theorem cutS_S : cutS (SX.S l) lo hi = SX.S (cutP l lo hi) := by
  unfold cutS cutP
  simp [SX.S_len]
theorem cutP_len {α : Type} {xs : List α} : (cutP xs lo hi).length ≤ xs.length := by
  unfold cutP
  simp
  omega
theorem sl_tx (h : l.length ≤ 16777216) : slR (.v (tx l)) al lo hi = .ok (.v (tx (cutP l lo hi))) [] := by
  show (if (SX.S l).length ≤ SZ then R.ok (.v (.str (cutS (SX.S l) lo hi))) [] else .stuck) = _
  rw [SX.S_len, if_pos (show _ ≤ SZ from h), cutS_S]
theorem cut_none {α : Type} {xs : List α} {n : Nat} : cutP xs none (some (n : Int)) = xs.take n := by
  unfold cutP
  rw [HT.sIx_none, HT.sIx_nat]
  simp [List.take_eq_take_iff]
theorem isu_k : ∀ c, c < 128 → Txt.isupper (SX.S [c]) = (decide (65 ≤ c) && decide (c ≤ 90)) := by decide +kernel
theorem isl_k : ∀ c, c < 128 → Txt.islower (SX.S [c]) = (decide (97 ≤ c) && decide (c ≤ 122)) := by decide +kernel
theorem isd_k : ∀ c, c < 128 → Txt.isdigit (SX.S [c]) = (decide (48 ≤ c) && decide (c ≤ 57)) := by decide +kernel
theorem mtR0 {m : Mt} {a : Str} : mtR m a [] = mt0R m a := rfl
theorem isu_tx (h : c < 128) : mt0R .isupper (SX.S [c]) = .ok (.v (.bool (decide (65 ≤ c) && decide (c ≤ 90)))) [] := by
  show R.ok (.v (.bool (Txt.isupper (SX.S [c])))) [] = _
  rw [isu_k c h]
theorem isl_tx (h : c < 128) : mt0R .islower (SX.S [c]) = .ok (.v (.bool (decide (97 ≤ c) && decide (c ≤ 122)))) [] := by
  show R.ok (.v (.bool (Txt.islower (SX.S [c])))) [] = _
  rw [isl_k c h]
theorem up_tx (h : ∀ c ∈ l, c < 128) (hl : l.length ≤ 5592405) : mt0R .upper (SX.S l) = .ok (.v (tx (l.map PyProof.Rows.up1))) [] := by
  show (if (SX.S l).length ≤ 5592405 then okS (Txt.upper (SX.S l)) else .stuck) = _
  rw [SX.S_len, if_pos hl, SX.upper_S (List.all_eq_true.mpr fun c hc => decide_eq_true (h c hc))]
  unfold okS
  rw [if_pos (strOk_S fun c hc => ?_)]
  obtain ⟨d, hd, rfl⟩ := List.mem_map.mp hc
  have := h d hd
  unfold PyProof.Rows.up1
  split <;> omega
theorem lo_tx (h : ∀ c ∈ l, c < 128) (hl : l.length ≤ 5592405) : mt0R .lower (SX.S l) = .ok (.v (tx (l.map PyProof.Rows.lo1))) [] := by
  show (if (SX.S l).length ≤ 5592405 then okS (Txt.lower (SX.S l)) else .stuck) = _
  rw [SX.S_len, if_pos hl, SX.lower_S (List.all_eq_true.mpr fun c hc => decide_eq_true (h c hc))]
  unfold okS
  rw [if_pos (strOk_S fun c hc => ?_)]
  obtain ⟨d, hd, rfl⟩ := List.mem_map.mp hc
  have := h d hd
  unfold PyProof.Rows.lo1
  split <;> omega
theorem rep_S {n : Nat} : repS (SX.S [c]) n = SX.S (List.replicate n c) := by
  unfold repS SX.S
  congr 1
  simp
theorem rep_tx (h : n ≤ 16777216) (hc : c < 1114112) : binP .mul w al (ch c) (.int (n : Int)) = .ok (.v (tx (List.replicate n c))) [] := by
  show (if repOk (SX.S [c]).length (n : Int) then okS (repS (SX.S [c]) (n : Int).toNat) else .stuck) = _
  rw [if_pos, Int.toNat_natCast, rep_S]
  · unfold okS
    rw [if_pos (strOk_S fun d hd => ?_)]
    rw [(List.mem_replicate.mp hd).2]
    exact hc
  · unfold repOk
    simp [SX.S_len]
    omega
theorem ix_txI (h : l.length ≤ 16777216) (h0 : 0 ≤ i) {c : Nat} (hc : l[i.toNat]? = some c) : ixP w al (tx l) (.int i) = .ok (.v (ch c)) [] := by
  obtain ⟨m, rfl⟩ := Int.eq_ofNat_of_zero_le h0
  simp only [Int.toNat_natCast] at hc
  rw [ix_tx h, hc]
theorem mod_rng (x : Int) {n : Int} (h : 0 < n) : 0 ≤ x % n ∧ x % n < n := ⟨Int.emod_nonneg _ (by omega), Int.emod_lt_of_pos _ h⟩
theorem Sm.tx (n : Nat) (l : List Nat) : Sm n (tx l) := Sm.str n _
theorem fz_str {x : Str} : fz b (.str x) = .v (.str x) := v9
end
end Hv

/-! Ty, part 1: values with kinds, and what the evaluator does with them. -/
namespace Hv
open PySem

/-- what a step gives: a value, an exception, or no word -/
inductive M (α : Type) where
  | ok (a : α)
  | exc (c : Str)
  | stuck
section
variable {α β γ : Type}
def M.bind (m : M α) (f : α → M β) : M β := match m with
  | .ok a => f a
  | .exc c => .exc c
  | .stuck => .stuck
def M.ofO (o : Option α) : M α := match o with
  | some a => .ok a
  | none => .stuck
/-- a value, if something holds -/
def M.when (b : Bool) (a : α) : M α := if b then .ok a else .stuck
theorem M.ok_bind {a : α} {f : α → M β} : (M.ok a).bind f = f a := rfl
theorem M.exc_bind {c : Str} {f : α → M β} : (M.exc c : M α).bind f = .exc c := rfl
theorem M.stuck_bind {f : α → M β} : (M.stuck : M α).bind f = .stuck := rfl
theorem M.ofO_some {a : α} : M.ofO (some a) = .ok a := rfl
theorem M.when_t {b : Bool} {a : α} (h : b = true) : M.when b a = .ok a := by rw [h]; rfl
end
structure T2 (α β : Type) where
  a : α
  b : β
  deriving DecidableEq
structure T3 (α β γ : Type) where
  a : α
  b : β
  c : γ
  deriving DecidableEq
structure T4 (α β γ δ : Type) where
  a : α
  b : β
  c : γ
  d : δ
  deriving DecidableEq
structure T5 (α β γ δ ε : Type) where
  a : α
  b : β
  c : γ
  d : δ
  e : ε
  deriving DecidableEq
/-- a tuple of any length -/
structure Tu (α : Type) where
  l : List α
  deriving DecidableEq
abbrev Tx : Type := List Nat

class En (α : Type) where
  enc : α → PyData
open En (enc)
section
variable {α β γ δ ε : Type} [En α] [En β] [En γ] [En δ] [En ε]
instance : En Int := ⟨.int⟩
instance : En Bool := ⟨.bool⟩
instance : En Unit := ⟨fun _ => .none⟩
instance : En PyData := ⟨id⟩
instance : En (List α) := ⟨fun l => .list (l.map enc)⟩
instance : En (List Nat) := ⟨fun l => .str (SX.S l)⟩
instance : En (Option α) := ⟨fun o => match o with | none => .none | some a => enc a⟩
instance : En (T2 α β) := ⟨fun t => .tuple [enc t.a, enc t.b]⟩
instance : En (T3 α β γ) := ⟨fun t => .tuple [enc t.a, enc t.b, enc t.c]⟩
instance : En (T4 α β γ δ) := ⟨fun t => .tuple [enc t.a, enc t.b, enc t.c, enc t.d]⟩
instance : En (T5 α β γ δ ε) := ⟨fun t => .tuple [enc t.a, enc t.b, enc t.c, enc t.d, enc t.e]⟩
instance : En (Tu α) := ⟨fun t => .tuple (t.l.map enc)⟩
end
/-- never changed -/
class Im (α : Type) [En α] : Prop where
  im : ∀ a : α, mutD (enc a) = false
theorem mutDs_im {α : Type} [En α] [Im α] : ∀ l : List α, mutDs (l.map enc) = false
  | [] => rfl
  | a :: l => by rw [List.map_cons, md5, Im.im a, mutDs_im l]; rfl
section
variable {α β γ δ ε : Type} [En α] [En β] [En γ] [En δ] [En ε] [Im α] [Im β] [Im γ] [Im δ] [Im ε]
instance : Im Int := ⟨fun _ => rfl⟩
instance : Im Bool := ⟨fun _ => rfl⟩
instance : Im Unit := ⟨fun _ => rfl⟩
instance : Im (List Nat) := ⟨fun _ => rfl⟩
instance : Im (Option α) := ⟨fun o => match o with | none => rfl | some a => Im.im a⟩
instance : Im (T2 α β) := ⟨fun t => by show mutDs [enc t.a, enc t.b] = false; simp only [mutDs, Im.im, Bool.or_self]⟩
instance : Im (T3 α β γ) := ⟨fun t => by show mutDs [enc t.a, enc t.b, enc t.c] = false; simp only [mutDs, Im.im, Bool.or_self]⟩
instance : Im (T4 α β γ δ) := ⟨fun t => by show mutDs [enc t.a, enc t.b, enc t.c, enc t.d] = false; simp only [mutDs, Im.im, Bool.or_self]⟩
instance : Im (T5 α β γ δ ε) := ⟨fun t => by show mutDs [enc t.a, enc t.b, enc t.c, enc t.d, enc t.e] = false; simp only [mutDs, Im.im, Bool.or_self]⟩
instance : Im (Tu α) := ⟨fun t => mutDs_im t.l⟩
end
/-- may be compared -/
class Eq_ (α : Type) [En α] [DecidableEq α] where
  n : Nat
  sm : ∀ a : α, Sm n (enc a)
  eqv : ∀ a b : α, PyData.eqv (enc a) (enc b) = decide (a = b)
theorem eqvAll_enc {α : Type} [En α] [DecidableEq α] [Eq_ α] : ∀ a b : List α, PyData.eqvAll (a.map enc) (b.map enc) = decide (a = b)
  | [], [] => by simp [PyData.eqvAll]
  | x :: xs, y :: ys => by simp [PyData.eqvAll, Eq_.eqv, eqvAll_enc xs ys, Bool.decide_and]
  | [], _ :: _ => by simp [PyData.eqvAll]
  | _ :: _, [] => by simp [PyData.eqvAll]
section
variable {α β γ δ ε : Type} [En α] [En β] [En γ] [En δ] [En ε] [DecidableEq α] [DecidableEq β] [DecidableEq γ] [DecidableEq δ] [DecidableEq ε] [Eq_ α] [Eq_ β] [Eq_ γ] [Eq_ δ] [Eq_ ε]
instance : Eq_ Int := ⟨0, Sm.int 0, fun a b => rfl⟩
instance : Eq_ Bool := ⟨0, Sm.bool 0, fun a b => by cases a <;> cases b <;> rfl⟩
instance : Eq_ (List Nat) := ⟨0, fun a => Sm.str 0 _, fun a b => by show (SX.S a == SX.S b) = _; rw [SX.S_beq_eq]⟩
instance : Eq_ (List α) := ⟨Eq_.n α + 1, fun a => Sm.list fun p hp => by
  obtain ⟨x, _, rfl⟩ := List.mem_map.mp hp; exact Eq_.sm x, fun a b => by show PyData.eqv (.list (a.map enc)) (.list (b.map enc)) = _; simp only [PyData.eqv]; exact eqvAll_enc a b⟩
instance : Eq_ (Tu α) := ⟨Eq_.n α + 1, fun a => Sm.tuple fun p hp => by
  obtain ⟨x, _, rfl⟩ := List.mem_map.mp hp; exact Eq_.sm x, fun a b => by show PyData.eqv (.tuple (a.l.map enc)) (.tuple (b.l.map enc)) = _; simp only [PyData.eqv]; rw [eqvAll_enc]; cases a; cases b; simp⟩
instance : Eq_ (T2 α β) := ⟨max (Eq_.n α) (Eq_.n β) + 1, fun t => Sm.tuple fun p hp => by
  simp only [List.mem_cons, List.not_mem_nil, or_false] at hp
  rcases hp with rfl | rfl
  · exact (Eq_.sm t.a).mono (by omega)
  · exact (Eq_.sm t.b).mono (by omega), fun s t => by
  show PyData.eqv (.tuple [enc s.a, enc s.b]) (.tuple [enc t.a, enc t.b]) = _
  cases s; cases t
  simp [PyData.eqv, PyData.eqvAll, Eq_.eqv, Bool.decide_and]⟩
instance : Eq_ (T3 α β γ) := ⟨max (Eq_.n α) (max (Eq_.n β) (Eq_.n γ)) + 1, fun t => Sm.tuple fun p hp => by
  simp only [List.mem_cons, List.not_mem_nil, or_false] at hp
  rcases hp with rfl | rfl | rfl
  · exact (Eq_.sm t.a).mono (by omega)
  · exact (Eq_.sm t.b).mono (by omega)
  · exact (Eq_.sm t.c).mono (by omega), fun s t => by
  show PyData.eqv (.tuple [enc s.a, enc s.b, enc s.c]) (.tuple [enc t.a, enc t.b, enc t.c]) = _
  cases s; cases t
  simp [PyData.eqv, PyData.eqvAll, Eq_.eqv, Bool.decide_and]⟩
instance : Eq_ (T4 α β γ δ) := ⟨max (max (Eq_.n α) (Eq_.n δ)) (max (Eq_.n β) (Eq_.n γ)) + 1, fun t => Sm.tuple fun p hp => by
  simp only [List.mem_cons, List.not_mem_nil, or_false] at hp
  rcases hp with rfl | rfl | rfl | rfl
  · exact (Eq_.sm t.a).mono (by omega)
  · exact (Eq_.sm t.b).mono (by omega)
  · exact (Eq_.sm t.c).mono (by omega)
  · exact (Eq_.sm t.d).mono (by omega), fun s t => by
  show PyData.eqv (.tuple [enc s.a, enc s.b, enc s.c, enc s.d]) (.tuple [enc t.a, enc t.b, enc t.c, enc t.d]) = _
  cases s; cases t
  simp [PyData.eqv, PyData.eqvAll, Eq_.eqv, Bool.decide_and]⟩
end

/-! ### how the evaluator holds a value -/
inductive All2 {α β : Type} (R : α → β → Prop) : List α → List β → Prop
  | nil : All2 R [] []
  | cons {a : α} {b : β} {as : List α} {bs : List β} : R a b → All2 R as bs → All2 R (a :: as) (b :: bs)
/-- R: may be read; O: a list of one's own -/
inductive Mo where
  | R
  | O (m : Mo)
mutual
/-- what is never changed is a value -/
def nf : D → Bool
  | .v _ => true
  | .n p => mutD p
  | .isl p => mutD p
  | .ol ds => nfs ds
  | .ot ds => nfs ds && (match datas ds with
    | some ps => mutDs ps
    | none => false)
  | .od kvs => true
  | .dead => false
  | .exn => false
def nfs : List D → Bool
  | [] => true
  | d :: ds => nf d && nfs ds
end
theorem nf_v {d : D} {p : PyData} (h : nf d = true) (hd : data d = some p) (hp : mutD p = false) : d = .v p := by
  cases d with
  | v q => injection hd with hd; rw [hd]
  | n q => injection hd with hd; subst hd; rw [show mutD q = true from h] at hp; cases hp
  | isl q => injection hd with hd; subst hd; rw [show mutD q = true from h] at hp; cases hp
  | ol ds =>
    cases e : datas ds with
    | none => simp [data, e] at hd
    | some ps => simp only [data, e, Option.map_some, Option.some.injEq] at hd; subst hd; cases hp
  | ot ds =>
    cases e : datas ds with
    | none => simp [data, e] at hd
    | some ps =>
      simp only [data, e, Option.map_some, Option.some.injEq] at hd
      subst hd
      simp only [nf, e, Bool.and_eq_true] at h
      rw [show mutD (.tuple ps) = mutDs ps from rfl, h.2] at hp; cases hp
  | od kvs =>
    cases e : dataK kvs with
    | none => simp [data, e] at hd
    | some ps => simp only [data, e, Option.map_some, Option.some.injEq] at hd; subst hd; cases hp
  | dead => cases hd
  | exn => cases hd
def MR : Mo → D → PyData → Prop
  | .R => fun d p => data d = some p ∧ nf d = true
  | .O m => fun d p => ∃ ds ps, d = .ol ds ∧ p = .list ps ∧ All2 (MR m) ds ps
theorem All2.datas {R : D → PyData → Prop} (h : ∀ d p, R d p → data d = some p) : ∀ {ds : List D} {ps : List PyData}, All2 R ds ps → datas ds = some ps
  | _, _, .nil => rfl
  | _, _, .cons a t => by simp only [Hv.datas, h _ _ a, t.datas h]
theorem All2.mono {α β : Type} {R S : α → β → Prop} (h : ∀ a b, R a b → S a b) : ∀ {as : List α} {bs : List β}, All2 R as bs → All2 S as bs
  | _, _, .nil => .nil
  | _, _, .cons a t => .cons (h _ _ a) (t.mono h)
theorem All2.len {α β : Type} {R : α → β → Prop} : ∀ {as : List α} {bs : List β}, All2 R as bs → as.length = bs.length
  | _, _, .nil => rfl
  | _, _, .cons a t => by rw [List.length_cons, List.length_cons, t.len]
theorem All2.get {α β : Type} {R : α → β → Prop} : ∀ {as : List α} {bs : List β} {i : Nat} {b : β}, All2 R as bs → bs[i]? = some b → ∃ a, as[i]? = some a ∧ R a b
  | _, _, _, _, .nil, e => by simp at e
  | _, _, 0, _, .cons h _, e => ⟨_, rfl, by simp at e; exact e ▸ h⟩
  | _, _, i + 1, _, .cons _ t, e => by
    obtain ⟨x, e1, h⟩ := All2.get (i := i) t (by simpa using e)
    exact ⟨x, by simpa using e1, h⟩
theorem All2.set {α β : Type} {R : α → β → Prop} {a : α} {b : β} (h : R a b) : ∀ {as : List α} {bs : List β} (i : Nat), All2 R as bs → All2 R (as.set i a) (bs.set i b)
  | _, _, _, .nil => .nil
  | _, _, 0, .cons _ t => .cons h t
  | _, _, i + 1, .cons q t => .cons q (t.set h i)
theorem All2.app {α β : Type} {R : α → β → Prop} : ∀ {as as' : List α} {bs bs' : List β}, All2 R as bs → All2 R as' bs' → All2 R (as ++ as') (bs ++ bs')
  | _, _, _, _, .nil, q => q
  | _, _, _, _, .cons h t, q => .cons h (t.app q)
theorem MR.data : ∀ {m : Mo} {d : D} {p : PyData}, MR m d p → data d = some p
  | .R, _, _, h => h.1
  | .O m, _, _, ⟨ds, ps, h1, h2, h⟩ => by
    subst h1; subst h2
    show (Hv.datas ds).map PyData.list = _
    rw [h.datas fun _ _ => MR.data]
    rfl
theorem MR.r : ∀ {m : Mo} {d : D} {p : PyData}, MR m d p → MR .R d p
  | .R, _, _, h => h
  | .O m, _, _, ⟨ds, ps, h1, h2, h⟩ => ⟨MR.data (m := .O m) ⟨ds, ps, h1, h2, h⟩, by
    subst h1
    show nfs ds = true
    clear h2
    induction h with
    | nil => rfl
    | cons a t ih => simp only [nfs, (MR.r a).2, ih, Bool.and_self]⟩
theorem MR.v (p : PyData) : MR .R (.v p) p := ⟨rfl, rfl⟩
theorem nf_fz (b : Bool) (p : PyData) : nf (fz b p) = true := by
  unfold Hv.fz
  split
  · rename_i h
    simp only [Bool.and_eq_true] at h
    exact h.2
  · rfl
theorem MR.fz (b : Bool) (p : PyData) : MR .R (fz b p) p := ⟨data_fz b p, nf_fz b p⟩
theorem MR.im {m : Mo} {d : D} {p : PyData} (h : MR m d p) (hp : mutD p = false) : d = .v p := nf_v h.r.2 h.data hp
theorem All2.fz (b : Bool) : ∀ ps : List PyData, All2 (MR .R) (ps.map (fz b)) ps
  | [] => .nil
  | p :: ps => .cons (MR.fz b p) (All2.fz b ps)
theorem All2.v : ∀ ps : List PyData, All2 (MR .R) (ps.map .v) ps
  | [] => .nil
  | p :: ps => .cons (MR.v p) (All2.v ps)
theorem MR.view {m : Mo} {d : D} {p : PyData} (h : MR m d p) : view d = some (Hv.fz (isNew d) p) := by
  unfold Hv.view
  rw [h.data]; rfl
mutual
theorem data_own : ∀ d : D, data (own d) = data d
  | .v _ => rfl
  | .n _ => rfl
  | .isl _ => rfl
  | .ol ds => by show (datas (owns ds)).map PyData.list = _; rw [datas_owns ds]; rfl
  | .ot ds => by show (datas (owns ds)).map PyData.tuple = _; rw [datas_owns ds]; rfl
  | .od kvs => by show (dataK (ownK kvs)).map PyData.dict = _; rw [dataK_ownK kvs]; rfl
  | .dead => rfl
  | .exn => rfl
theorem datas_owns : ∀ ds : List D, datas (owns ds) = datas ds
  | [] => rfl
  | d :: ds => by simp only [owns, datas, data_own d, datas_owns ds]
theorem dataK_ownK : ∀ ds : List (PyData × D), dataK (ownK ds) = dataK ds
  | [] => rfl
  | (k, d) :: ds => by simp only [ownK, dataK, data_own d, dataK_ownK ds]
end
mutual
theorem nf_own : ∀ d : D, nf (own d) = nf d
  | .v _ => rfl
  | .n _ => rfl
  | .isl _ => rfl
  | .ol ds => nfs_owns ds
  | .ot ds => by show (nfs (owns ds) && _) = (nfs ds && _); rw [nfs_owns ds, datas_owns ds]
  | .od kvs => rfl
  | .dead => rfl
  | .exn => rfl
theorem nfs_owns : ∀ ds : List D, nfs (owns ds) = nfs ds
  | [] => rfl
  | d :: ds => by simp only [owns, nfs, nf_own d, nfs_owns ds]
end
theorem MR.own : ∀ {m : Mo} {d : D} {p : PyData}, MR m d p → MR m (own d) p
  | .R, d, p, h => ⟨by rw [data_own]; exact h.1, by rw [nf_own]; exact h.2⟩
  | .O m, _, _, ⟨ds, ps, h1, h2, h⟩ => by
    subst h1; subst h2
    refine ⟨owns ds, ps, rfl, rfl, ?_⟩
    induction h with
    | nil => exact .nil
    | cons a t ih => exact .cons (MR.own a) ih
theorem hasVs_im : ∀ {ds : List D} {ps : List PyData}, All2 (MR .R) ds ps → mutDs ps = false → ds = ps.map .v
  | _, _, .nil, _ => rfl
  | _, _, .cons a t, h => by
    rw [md5, Bool.or_eq_false_iff] at h
    rw [a.im h.1, hasVs_im t h.2]; rfl

/-! ### slots -/
inductive Sl where
  | U
  | S (m : Mo) (p : PyData)
def gG : List Sl → Nat → Sl
  | [], _ => .U
  | s :: _, 0 => s
  | _ :: Γ, n + 1 => gG Γ n
def sG : List Sl → Nat → Sl → List Sl
  | [], _, _ => []
  | _ :: Γ, 0, s => s :: Γ
  | t :: Γ, n + 1, s => t :: sG Γ n s
theorem sG_len : ∀ {Γ : List Sl} {i : Nat} {s : Sl}, (sG Γ i s).length = Γ.length
  | [], _, _ => rfl
  | _ :: _, 0, _ => rfl
  | _ :: Γ, n + 1, s => by simp only [sG, List.length_cons, sG_len]
theorem gG_lt : ∀ {Γ : List Sl} {i : Nat} {m : Mo} {p : PyData}, gG Γ i = .S m p → i < Γ.length
  | [], _, _, _, h => by cases h
  | _ :: _, 0, _, _, _ => by simp
  | _ :: Γ, n + 1, _, _, h => by have := gG_lt (Γ := Γ) h; simp; omega
theorem gG_self : ∀ {Γ : List Sl} {i : Nat} {s : Sl}, i < Γ.length → gG (sG Γ i s) i = s
  | [], _, _, h => by simp at h
  | _ :: _, 0, _, _ => rfl
  | _ :: Γ, n + 1, s, h => gG_self (Γ := Γ) (by simpa using h)
theorem gG_ne : ∀ {Γ : List Sl} {i j : Nat} {s : Sl}, i ≠ j → gG (sG Γ i s) j = gG Γ j
  | [], _, _, _, _ => rfl
  | _ :: _, 0, 0, _, h => absurd rfl h
  | _ :: _, 0, _ + 1, _, _ => rfl
  | _ :: _, _ + 1, 0, _, _ => rfl
  | _ :: Γ, n + 1, k + 1, s, h => gG_ne (Γ := Γ) (by omega)
structure St (Γ : List Sl) (ρ : Env) : Prop where
  len : Γ.length = ρ.length
  at_ : ∀ i m p, gG Γ i = .S m p → ∃ d, ρ[i]? = some (some d) ∧ MR m d p
def frG1 (i : Nat) (Γ : List Sl) : List Sl := match gG Γ i with
  | .S _ p => sG Γ i (.S .R p)
  | .U => Γ
def frG : List Nat → List Sl → List Sl
  | [], Γ => Γ
  | i :: is, Γ => frG is (frG1 i Γ)
def wG (Γ : List Sl) : List Nat → List Sl
  | [] => Γ
  | i :: is => sG (wG Γ is) i .U
section
variable {Γ Γ' : List Sl} {ρ : Env} {i j : Nat} {m : Mo} {p : PyData} {d : D}
theorem St.set (s : St Γ ρ) (h : MR m d p) : St (sG Γ i (.S m p)) (ρ.set i (some d)) where
  len := by rw [sG_len, List.length_set]; exact s.len
  at_ := fun j m' p' e => by
    by_cases hj : i = j
    · subst hj
      have hl := gG_lt e
      rw [sG_len] at hl
      rw [gG_self hl] at e
      cases e
      exact ⟨d, by rw [List.getElem?_set_self (by rw [← s.len]; exact hl)], h⟩
    · rw [gG_ne hj] at e
      rw [List.getElem?_set_ne hj]
      exact s.at_ j m' p' e
theorem St.setU {o : Option D} (s : St Γ ρ) : St (sG Γ i .U) (ρ.set i o) where
  len := by rw [sG_len, List.length_set]; exact s.len
  at_ := fun j m' p' e => by
    by_cases hj : i = j
    · subst hj
      have hl := gG_lt e
      rw [sG_len] at hl
      rw [gG_self hl] at e
      cases e
    · rw [gG_ne hj] at e
      rw [List.getElem?_set_ne hj]
      exact s.at_ j m' p' e
theorem St.wipe (s : St Γ ρ) : ∀ is, St (wG Γ is) (wipeE ρ is)
  | [] => s
  | i :: is => (s.wipe is).setU
theorem frz1_at (h : ∃ d, ρ[i]? = some (some d) ∧ MR m d p) : ∃ d, (frz1 j ρ)[i]? = some (some d) ∧ MR .R d p ∧ (i ≠ j → MR m d p) := by
  obtain ⟨d, h1, h2⟩ := h
  unfold frz1
  by_cases hj : j = i
  · subst hj
    rw [h1]
    simp only
    have hl : j < ρ.length := (List.getElem?_eq_some_iff.mp h1).1
    rw [List.getElem?_set_self hl, h2.view]
    exact ⟨_, rfl, MR.fz _ _, fun z => absurd rfl z⟩
  · split
    · rw [List.getElem?_set_ne hj]
      exact ⟨d, h1, h2.r, fun _ => h2⟩
    · exact ⟨d, h1, h2.r, fun _ => h2⟩
theorem frz_at : ∀ {al : Al} {ρ : Env} {m : Mo}, (∃ d, ρ[i]? = some (some d) ∧ MR m d p) → ∃ d, (frz al ρ)[i]? = some (some d) ∧ MR .R d p ∧ (i ∉ al → MR m d p)
  | [], ρ, m, ⟨d, h1, h2⟩ => ⟨d, h1, h2.r, fun _ => h2⟩
  | j :: al, ρ, m, h => by
    obtain ⟨d, h1, h2, h3⟩ := frz1_at (j := j) h
    by_cases hj : i = j
    · obtain ⟨d', h4, h5, h6⟩ := frz_at (al := al) (m := .R) ⟨d, h1, h2⟩
      exact ⟨d', h4, h5, fun z => absurd (hj ▸ List.mem_cons_self) z⟩
    · obtain ⟨d', h4, h5, h6⟩ := frz_at (al := al) ⟨d, h1, h3 hj⟩
      exact ⟨d', h4, h5, fun z => h6 fun w => z (List.mem_cons_of_mem _ w)⟩
theorem frz1_len {ρ : Env} : (frz1 j ρ).length = ρ.length := by unfold frz1; split <;> simp
theorem frz_len : ∀ {al : Al} {ρ : Env}, (frz al ρ).length = ρ.length
  | [], _ => rfl
  | j :: al, ρ => by show (frz al (frz1 j ρ)).length = _; rw [frz_len, frz1_len]
theorem frG1_len : (frG1 j Γ).length = Γ.length := by unfold frG1; split <;> simp [sG_len]
theorem frG_len : ∀ {A : List Nat} {Γ : List Sl}, (frG A Γ).length = Γ.length
  | [], _ => rfl
  | j :: al, ρ => by show (frG al (frG1 j ρ)).length = _; rw [frG_len, frG1_len]
theorem frG1_at (h : gG (frG1 j Γ) i = .S m p) : ∃ m', gG Γ i = .S m' p ∧ ((m = .R ∧ i = j) ∨ (m' = m ∧ i ≠ j)) := by
  unfold frG1 at h
  by_cases hj : j = i
  · subst hj
    split at h
    · rename_i m' p' e
      rw [gG_self (gG_lt e)] at h
      cases h
      exact ⟨m', e, .inl ⟨rfl, rfl⟩⟩
    · rename_i e; rw [e] at h; cases h
  · split at h
    · rw [gG_ne hj] at h; exact ⟨m, h, .inr ⟨rfl, Ne.symm hj⟩⟩
    · exact ⟨m, h, .inr ⟨rfl, Ne.symm hj⟩⟩
theorem frG_at : ∀ {A : List Nat} {Γ : List Sl}, gG (frG A Γ) i = .S m p → ∃ m', gG Γ i = .S m' p ∧ (m = .R ∨ (m' = m ∧ i ∉ A))
  | [], Γ, h => ⟨m, h, .inr ⟨rfl, by simp⟩⟩
  | j :: A, Γ, h => by
    obtain ⟨m1, h1, h2⟩ := frG_at (A := A) (Γ := frG1 j Γ) h
    obtain ⟨m2, h3, h4⟩ := frG1_at h1
    refine ⟨m2, h3, ?_⟩
    rcases h2 with h2 | ⟨h2, h5⟩
    · exact .inl h2
    · rcases h4 with ⟨h4, h6⟩ | ⟨h4, h6⟩
      · exact .inl (h2 ▸ h4)
      · exact .inr ⟨h4.trans h2, by simp [h5, h6]⟩
theorem St.frz {A : List Nat} {al : Al} (s : St Γ ρ) (h : ∀ i ∈ al, i ∈ A) : St (frG A Γ) (Hv.frz al ρ) where
  len := by rw [frG_len, frz_len]; exact s.len
  at_ := fun i m p e => by
    obtain ⟨m', h1, h2⟩ := frG_at e
    obtain ⟨d, h3, h4, h5⟩ := frz_at (al := al) (s.at_ i m' p h1)
    rcases h2 with rfl | ⟨rfl, h2⟩
    · exact ⟨d, h3, h4⟩
    · exact ⟨d, h3, h5 fun z => h2 (h i z)⟩
end
/-- says no more than -/
def Le (Γ Γ' : List Sl) : Prop := ∀ ρ, St Γ ρ → St Γ' ρ
/-- slot by slot -/
def leS : Sl → Sl → Prop
  | _, .U => True
  | .S m p, .S m' p' => p = p' ∧ (m = m' ∨ m' = .R)
  | .U, .S _ _ => False
def leG : List Sl → List Sl → Prop
  | [], [] => True
  | s :: Γ, t :: Γ' => leS s t ∧ leG Γ Γ'
  | _, _ => False
theorem leG_len : ∀ {Γ Γ' : List Sl}, leG Γ Γ' → Γ.length = Γ'.length
  | [], [], _ => rfl
  | _ :: _, _ :: _, h => by simp only [List.length_cons, leG_len h.2]
  | [], _ :: _, h => h.elim
  | _ :: _, [], h => h.elim
theorem leG_at : ∀ {Γ Γ' : List Sl} {i : Nat}, leG Γ Γ' → leS (gG Γ i) (gG Γ' i)
  | [], [], _, _ => trivial
  | _ :: _, _ :: _, 0, h => h.1
  | _ :: _, _ :: _, i + 1, h => leG_at (i := i) h.2
  | [], _ :: _, _, h => h.elim
  | _ :: _, [], _, h => h.elim
theorem Le.of {Γ Γ' : List Sl} (h : leG Γ Γ') : Le Γ Γ' := fun ρ s => ⟨(leG_len h).symm.trans s.len, fun i m p e => by
  have h1 := leG_at (i := i) h
  rw [e] at h1
  cases e2 : gG Γ i with
  | U => rw [e2] at h1; exact h1.elim
  | S m' p' =>
    rw [e2] at h1
    obtain ⟨rfl, h2⟩ := h1
    obtain ⟨d, h3, h4⟩ := s.at_ i m' p' e2
    rcases h2 with rfl | rfl
    · exact ⟨d, h3, h4⟩
    · exact ⟨d, h3, h4.r⟩⟩
theorem Le.refl {Γ : List Sl} : Le Γ Γ := fun _ h => h
theorem leU {s : Sl} : leS s .U := by cases s <;> exact trivial
theorem leE {m : Mo} {p : PyData} : leS (.S m p) (.S m p) := ⟨rfl, .inl rfl⟩
theorem leR {m : Mo} {p : PyData} : leS (.S m p) (.S .R p) := ⟨rfl, .inr rfl⟩
theorem leC {s t : Sl} {Γ Γ' : List Sl} (h : leS s t) (h2 : leG Γ Γ') : leG (s :: Γ) (t :: Γ') := ⟨h, h2⟩
theorem leN : leG [] [] := trivial
end Hv

/-! Ty, part 2: expressions with kinds. -/
namespace Hv
open PySem
open En (enc)

/-- a value: how it is held, its data, the slots it may share with -/
structure Vt where
  m : Mo
  p : PyData
  A : List Nat
def VR (v : Vt) (d : D) (al : Al) : Prop := MR v.m d v.p ∧ (∀ i ∈ al, i ∈ v.A) ∧ (mutD v.p = false → al = [])
section
variable {α β γ δ ε : Type}
abbrev vM [En α] (μ : Mo) (A : List Nat) : α → Vt := fun a => ⟨μ, enc a, A⟩
abbrev vA [En α] (A : List Nat) : α → Vt := fun a => ⟨.R, enc a, A⟩
abbrev vS [En α] : α → Vt := fun a => ⟨.R, enc a, []⟩
def RM (r : R) (m : M α) (ι : α → Vt) : Prop := match m with
  | .ok a => ∃ d al, r = .ok d al ∧ VR (ι a) d al
  | .exc c => r = .exc c
  | .stuck => True
def TM (t : TR) (m : M Bool) : Prop := match m with
  | .ok b => t = .ok b
  | .exc c => t = .exc c
  | .stuck => True
theorem RM.bind {r : R} {m : M α} {ι : α → Vt} {f : D → Al → R} {k : α → M β} {κ : β → Vt} (h : RM r m ι) (hk : ∀ a d al, VR (ι a) d al → RM (f d al) (k a) κ) : RM (r.bind f) (m.bind k) κ := by
  cases m with
  | ok a => obtain ⟨d, al, rfl, v⟩ := h; exact hk a d al v
  | exc c => cases h; rfl
  | stuck => trivial
theorem RM.bindT {r : R} {m : M α} {ι : α → Vt} {f : D → Al → TR} {k : α → M Bool} (h : RM r m ι) (hk : ∀ a d al, VR (ι a) d al → TM (f d al) (k a)) : TM (r.bindT f) (m.bind k) := by
  cases m with
  | ok a => obtain ⟨d, al, rfl, v⟩ := h; exact hk a d al v
  | exc c => cases h; rfl
  | stuck => trivial
theorem TM.bind {t : TR} {m : M Bool} {f : Bool → R} {k : Bool → M β} {κ : β → Vt} (h : TM t m) (hk : ∀ b, RM (f b) (k b) κ) : RM (t.bind f) (m.bind k) κ := by
  cases m with
  | ok a => cases h; exact hk a
  | exc c => cases h; rfl
  | stuck => trivial
theorem TM.bindT {t : TR} {m : M Bool} {f : Bool → TR} {k : Bool → M Bool} (h : TM t m) (hk : ∀ b, TM (f b) (k b)) : TM (t.bindT f) (m.bind k) := by
  cases m with
  | ok a => cases h; exact hk a
  | exc c => cases h; rfl
  | stuck => trivial
theorem VR.data {v : Vt} {d : D} {al : Al} (h : VR v d al) : data d = some v.p := h.1.data
theorem VR.v {p : PyData} {A : List Nat} : VR ⟨.R, p, A⟩ (.v p) [] := ⟨MR.v p, by simp, fun _ => rfl⟩
theorem RM.v {p : PyData} {A : List Nat} {a : α} {ι : α → Vt} (h : ι a = ⟨.R, p, A⟩) : RM (.ok (.v p) []) (.ok a) ι := ⟨_, _, rfl, h ▸ VR.v⟩
/-- a list made of items that are read -/
theorem RM.mkL [En α] {b : Bool} {al : Al} {xs : List α} {ps : List PyData} {A : List Nat} (hp : ps = xs.map enc) (h : ∀ i ∈ al, i ∈ A) : RM (Hv.mkL b ps al) (.ok xs) (vM (.O .R) A) := by
  subst hp
  unfold Hv.mkL
  cases e : mutDs (xs.map enc) with
  | true => exact ⟨_, _, rfl, ⟨_, _, rfl, rfl, All2.fz b _⟩, h, fun z => nomatch z⟩
  | false => exact ⟨_, _, rfl, ⟨_, _, rfl, rfl, All2.v _⟩, by simp, fun z => nomatch z⟩
theorem RM.mkT {b : Bool} {al : Al} {a : α} {ps : List PyData} {A : List Nat} {ι : α → Vt} (hp : ι a = ⟨.R, .tuple ps, A⟩) (h : ∀ i ∈ al, i ∈ A) : RM (Hv.mkT b ps al) (.ok a) ι := by
  unfold Hv.mkT
  cases e : mutDs ps with
  | true => exact ⟨_, _, rfl, by rw [hp]; exact ⟨MR.fz _ _, h, fun z => by rw [show mutD (.tuple ps) = mutDs ps from rfl, e] at z; cases z⟩⟩
  | false => exact RM.v hp
theorem RM.itR {b : Bool} {al : Al} {a : α} {p : PyData} {A : List Nat} {ι : α → Vt} (hp : ι a = ⟨.R, p, A⟩) (h : ∀ i ∈ al, i ∈ A) : RM (Hv.itR b p al) (.ok a) ι := by
  unfold Hv.itR
  cases e : mutD p with
  | true => exact ⟨_, _, rfl, by rw [hp]; exact ⟨MR.fz _ _, h, fun z => by rw [e] at z; cases z⟩⟩
  | false => exact RM.v hp
end
/-- what an expression gives -/
def Ex {α : Type} (C : Cal) (G : Glo) (Γ : List Sl) (e : E) (m : M α) (ι : α → Vt) : Prop := ∀ ρ, St Γ ρ → RM (ev C G e ρ).e m ι
/-- whether it holds -/
def Tr (C : Cal) (G : Glo) (Γ : List Sl) (e : E) (m : M Bool) : Prop := ∀ ρ, St Γ ρ → TM (ev C G e ρ).t m
def Tq (C : Cal) (G : Glo) (Γ : List Sl) (e : E) (m : M Bool) : Prop := ∀ ρ, St Γ ρ → TM (truR (ev C G e ρ).e) m
def isVt : E → Bool
  | .and _ => false
  | .or _ => false
  | .not _ => false
  | .ifx _ _ _ => false
  | _ => true
section
variable {α β γ δ ε ζ : Type} {C : Cal} {G : Glo} {Γ Γ' : List Sl} {e a b c : E} {es fs : List E} {A B A' A1 A2 A3 A4 A5 A6 : List Nat}
theorem tVt {ρ : Env} (h : isVt e = true) : (ev C G e ρ).t = truR (ev C G e ρ).e := by
  cases e <;> first | rfl | (cases h)
theorem Tr.q {m : M Bool} (h : Tq C G Γ e m) (hv : isVt e = true) : Tr C G Γ e m := fun ρ s => by rw [tVt hv]; exact h ρ s
theorem Tq.bb {m : M Bool} {A : List Nat} (h : Ex C G Γ e m (vA A)) : Tq C G Γ e m := fun ρ s => by
  have := h ρ s
  cases m with
  | ok b => obtain ⟨d, al, e1, v⟩ := this; rw [e1, v.1.im rfl]; rfl
  | exc c => show truR _ = _; rw [show (ev C G e ρ).e = .exc c from this]; rfl
  | stuck => trivial
theorem Tq.g {m : M α} {ι : α → Vt} (f : α → Bool) (h : Ex C G Γ e m ι) (hf : ∀ a, truP (ι a).p = .ok (f a)) : Tq C G Γ e (m.bind fun a => .ok (f a)) := fun ρ s => by
  unfold truR
  refine (h ρ s).bindT fun a d al v => ?_
  show TM (datT d _) (.ok (f a))
  unfold datT
  rw [v.data]
  simp only [hf]
  rfl
theorem Tr.bb {m : M Bool} {A : List Nat} (h : Ex C G Γ e m (vA A)) (hv : isVt e = true) : Tr C G Γ e m := Tr.q (Tq.bb h) hv
theorem Tr.i {m : M Int} {A : List Nat} (h : Ex C G Γ e m (vA A)) (hv : isVt e = true) : Tr C G Γ e (m.bind fun x => .ok (x != 0)) := Tr.q (Tq.g (fun x => x != 0) h fun _ => rfl) hv
theorem Tr.iP {x : Int} {A : List Nat} (h : Ex C G Γ e (.ok x) (vA A)) (hv : isVt e = true) : Tr C G Γ e (.ok (x != 0)) := Tr.i h hv
theorem Tr.l [En α] {m : M (List α)} {A : List Nat} (h : Ex C G Γ e m (vA A)) (hv : isVt e = true) : Tr C G Γ e (m.bind fun x => .ok (!x.isEmpty)) := Tr.q (Tq.g (fun x => !x.isEmpty) h fun x => by
  show BR.ok (!(x.map enc).isEmpty) = _
  rw [List.isEmpty_map]) hv
theorem Tr.lP [En α] {x : List α} {A : List Nat} (h : Ex C G Γ e (.ok x) (vA A)) (hv : isVt e = true) : Tr C G Γ e (.ok (!x.isEmpty)) := Tr.l h hv
/-- says less -/
theorem Ex.im [En α] [Im α] {m : M α} {A : List Nat} (h : Ex C G Γ e m (vA A)) : Ex C G Γ e m vS := fun ρ s => by
  have := h ρ s
  cases m with
  | ok a =>
    obtain ⟨d, al, e1, v⟩ := this
    refine ⟨d, al, e1, v.1, ?_, v.2.2⟩
    rw [v.2.2 (Im.im a)]; simp
  | exc c => exact this
  | stuck => trivial
theorem Ex.r [En α] {m : M α} {μ : Mo} {A : List Nat} (h : Ex C G Γ e m (vM μ A)) : Ex C G Γ e m (vA A) := fun ρ s => by
  have := h ρ s
  cases m with
  | ok a =>
    obtain ⟨d, al, e1, v⟩ := this
    exact ⟨d, al, e1, v.1.r, v.2.1, v.2.2⟩
  | exc c => exact this
  | stuck => trivial
theorem Ex.sub [En α] {m : M α} {μ : Mo} {A B : List Nat} (h : Ex C G Γ e m (vM μ A)) (hs : ∀ i ∈ A, i ∈ B) : Ex C G Γ e m (vM μ B) := fun ρ s => by
  have := h ρ s
  cases m with
  | ok a =>
    obtain ⟨d, al, e1, v⟩ := this
    exact ⟨d, al, e1, v.1, fun i hi => hs i (v.2.1 i hi), v.2.2⟩
  | exc c => exact this
  | stuck => trivial
/-! ### constants and names -/
theorem xNon : Ex C G Γ .non (.ok ()) vS := fun ρ s => RM.v rfl
theorem xBl {b : Bool} : Ex C G Γ (.bl b) (.ok b) vS := fun ρ s => RM.v rfl
theorem xInt {i : Int} : Ex C G Γ (.int i) (.ok i) vS := fun ρ s => RM.v rfl
theorem xStr {x : Str} {l : Tx} (h : x = SX.S l) : Ex C G Γ (.str x) (.ok l) vS := fun ρ s => h ▸ RM.v rfl
theorem varR_at {ρ : Env} {i : Nat} {m : Mo} {p : PyData} (h : ∃ d, ρ[i]? = some (some d) ∧ MR m d p) : ∃ d al, varR i ρ = .ok d al ∧ VR ⟨.R, p, [i]⟩ d al := by
  obtain ⟨d, h1, h2⟩ := h
  rw [v1, h1]
  by_cases hm : mutD p = false
  · rw [h2.im hm]; exact ⟨_, _, rfl, VR.v⟩
  · have hd : ∃ w al, varD i (some (some d)) = .ok w al ∧ MR .R w p ∧ ∀ j ∈ al, j ∈ [i] := by
      have hv := h2.view
      cases d <;> first
        | exact ⟨_, _, rfl, h2.r, by simp⟩
        | (simp only [varD, hv]; exact ⟨_, _, rfl, MR.fz _ _, fun j h => h⟩)
    obtain ⟨w, al, e1, e2, e3⟩ := hd
    exact ⟨w, al, e1, e2, e3, fun z => absurd z hm⟩
theorem xVar [En α] {i : Nat} {m : Mo} {x : α} (h : gG Γ i = .S m (enc x)) : Ex C G Γ (.var i) (.ok x) (vA [i]) := fun ρ s => by
  obtain ⟨d, al, h1, h2⟩ := varR_at (s.at_ i m _ h)
  exact ⟨d, al, h1, h2⟩
theorem xVarS [En α] [Im α] {i : Nat} {m : Mo} {x : α} (h : gG Γ i = .S m (enc x)) : Ex C G Γ (.var i) (.ok x) vS := (xVar h).im
theorem xGlob [En α] {g : Str} {x : α} (h : G g = some (enc x)) : Ex C G Γ (.glob g) (.ok x) vS := fun ρ s => by
  rw [e27, h]; exact RM.v rfl
/-! ### operators -/
def O2 [En α] [En β] (o : BOp) (A B : List Nat) (f : α → β → M γ) (τ : γ → Vt) : Prop := ∀ w al x y, (∀ i ∈ al, i ∈ A ++ B) → RM (binP o w al (enc x) (enc y)) (f x y) τ
theorem xBin [En α] [En β] {o : BOp} {f : α → β → M γ} {τ : γ → Vt} {ma : M α} {mb : M β} (h : O2 o A B f τ) (ha : Ex C G Γ a ma (vA A)) (hb : Ex C G Γ b mb (vA B)) : Ex C G Γ (.bin o a b) (ma.bind fun x => mb.bind fun y => f x y) τ := fun ρ s => by
  rw [e6, s11]
  refine (ha ρ s).bind fun x d al v => (hb ρ s).bind fun y d' al' v' => ?_
  unfold dat2
  rw [v.data]
  simp only
  rw [v'.data]
  refine h _ _ x y fun i hi => ?_
  rcases List.mem_append.mp hi with hi | hi
  · exact List.mem_append_left _ (v.2.1 i hi)
  · exact List.mem_append_right _ (v'.2.1 i hi)
def mulM (x y : Int) : M Int := M.when (mulOk x y) (x * y)
def divM (x y : Int) : M Int := M.when (divOk y) (x / y)
def modM (x y : Int) : M Int := M.when (decide (0 < y)) (x % y)
def powM (x y : Int) : M Int := M.when (powOk x y) (x ^ y.toNat)
def catM (x y : Tx) : M Tx := M.when (decide (x.length + y.length ≤ 16777216)) (x ++ y)
def catL (x y : List α) : M (List α) := M.when (decide (x.length + y.length ≤ 16777216)) (x ++ y)
def repM (x : Tx) (y : Int) : M Tx := M.when (decide (0 ≤ y) && decide (y ≤ 16777216) && decide (x.length * y.toNat ≤ 16777216) && x.all fun c => decide (c < 1114112)) (List.replicate y.toNat x).flatten
theorem oAdd : O2 .add A B (fun x y : Int => .ok (x + y)) vS := fun w al x y h => RM.v rfl
theorem oSub : O2 .sub A B (fun x y : Int => .ok (x - y)) vS := fun w al x y h => RM.v rfl
theorem oMul : O2 .mul A B mulM vS := fun w al x y h => by
  show RM (if mulOk x y then .ok (.v (.int (x * y))) [] else .stuck) _ _
  unfold mulM M.when
  split
  · exact RM.v rfl
  · trivial
theorem oDiv : O2 .div A B divM vS := fun w al x y h => by
  show RM (if divOk y then .ok (.v (.int (x / y))) [] else .stuck) _ _
  unfold divM M.when
  split
  · exact RM.v rfl
  · trivial
theorem oMod : O2 .mod A B modM vS := fun w al x y h => by
  show RM (if decide (0 < y) = true then .ok (.v (.int (x % y))) [] else .stuck) _ _
  unfold modM M.when
  split
  · exact RM.v rfl
  · trivial
theorem oPow : O2 .pow A B powM vS := fun w al x y h => by
  show RM (if powOk x y then .ok (.v (.int (x ^ y.toNat))) [] else .stuck) _ _
  unfold powM M.when
  split
  · exact RM.v rfl
  · trivial
theorem oCat : O2 .add A B catM vS := fun w al x y h => by
  unfold catM M.when
  split
  · rename_i hl
    have := cat_tx (al := al) (w := w) (of_decide_eq_true hl)
    rw [show enc x = tx x from rfl, show enc y = tx y from rfl, this]
    exact RM.v rfl
  · trivial
theorem oCatL [En α] : O2 (α := List α) .add A B catL (vM (.O .R) (A ++ B)) := fun w al x y h => by
  unfold catL M.when
  split
  · rename_i hl
    show RM (if (x.map enc).length + (y.map enc).length ≤ SZ then mkL w (x.map enc ++ y.map enc) al else .stuck) _ _
    rw [List.length_map, List.length_map, if_pos (show _ ≤ SZ from of_decide_eq_true hl)]
    exact RM.mkL (by rw [List.map_append]) h
  · trivial
theorem oRep : O2 .mul A B repM vS := fun w al x y h => by
  unfold repM M.when
  split
  · rename_i hl
    simp only [Bool.and_eq_true, decide_eq_true_eq] at hl
    obtain ⟨⟨⟨h0, h1⟩, h2⟩, h3⟩ := hl
    show RM (if repOk (SX.S x).length y then okS (repS (SX.S x) y.toNat) else .stuck) _ _
    have e : repS (SX.S x) y.toNat = SX.S (List.replicate y.toNat x).flatten := by
      unfold repS SX.S
      simp
    rw [if_pos, e]
    · unfold okS
      rw [if_pos (strOk_S fun c hc => ?_)]
      · exact RM.v rfl
      · obtain ⟨l, hl, hc⟩ := List.mem_flatten.mp hc
        rw [(List.mem_replicate.mp hl).2] at hc
        exact of_decide_eq_true (List.all_eq_true.mp h3 c hc)
    · unfold repOk
      simp [SX.S_len, h0, h1, h2]
  · trivial
theorem xNeg {m : M Int} (h : Ex C G Γ a m (vA A)) : Ex C G Γ (.neg a) (m.bind fun x => .ok (-x)) vS := fun ρ s => by
  rw [e25, s11]
  refine (h ρ s).bind fun x d al v => ?_
  unfold dat
  rw [v.data]
  exact RM.v rfl
theorem xNegP {x : Int} (h : Ex C G Γ a (.ok x) (vA A)) : Ex C G Γ (.neg a) (.ok (-x)) vS := xNeg h
/-! ### comparisons -/
theorem xCmp [En α] [En β] {o : COp} {f : α → β → Bool} {ma : M α} {mb : M β} (h : ∀ x y, cmpP o (enc x) (enc y) = .ok (f x y)) (ha : Ex C G Γ a ma (vA A)) (hb : Ex C G Γ b mb (vA B)) : Ex C G Γ (.cmp o a b) (ma.bind fun x => mb.bind fun y => .ok (f x y)) vS := fun ρ s => by
  rw [e7, s11]
  refine (ha ρ s).bind fun x d al v => (hb ρ s).bind fun y d' al' v' => ?_
  unfold dat2
  rw [v.data]
  simp only
  rw [v'.data]
  simp only [h]
  exact RM.v rfl
theorem cEq [En α] [DecidableEq α] [Eq_ α] (hd : Eq_.n α ≤ 64) (x y : α) : cmpP .eq (enc x) (enc y) = .ok (decide (x = y)) := by
  rw [x10 ((Eq_.sm x).mono hd).cmp ((Eq_.sm y).mono hd).cmp, Eq_.eqv]
theorem cNe [En α] [DecidableEq α] [Eq_ α] (hd : Eq_.n α ≤ 64) (x y : α) : cmpP .ne (enc x) (enc y) = .ok (!decide (x = y)) := by
  rw [x11 ((Eq_.sm x).mono hd).cmp ((Eq_.sm y).mono hd).cmp, Eq_.eqv]
theorem cmpOk_l [En α] [DecidableEq α] [Eq_ α] (hd : Eq_.n α ≤ 63) (l : List α) : cmpOk (.list (l.map enc)) = true := (Sm.mono (m := 64) (Sm.list (n := Eq_.n α) fun p hp => by
  obtain ⟨x, _, rfl⟩ := List.mem_map.mp hp; exact Eq_.sm x) (by omega)).cmp
theorem any_enc [En α] [DecidableEq α] [Eq_ α] (x : α) : ∀ l : List α, ((l.map enc).any fun z => PyData.eqv z (enc x)) = decide (x ∈ l)
  | [] => by simp
  | y :: l => by
    rw [List.map_cons, List.any_cons, any_enc x l, Eq_.eqv]
    by_cases h : y = x
    · subst h; simp
    · have h' : ¬ x = y := fun z => h z.symm
      simp [h, h']
theorem cIn [En α] [DecidableEq α] [Eq_ α] (hd : Eq_.n α ≤ 63) (x : α) (y : List α) : cmpP .in_ (enc x) (enc y) = .ok (decide (x ∈ y)) := by
  show inP (enc x) (.list (y.map enc)) = _
  unfold inP
  simp only
  rw [cmpOk_l hd, ((Eq_.sm x).mono (show Eq_.n α ≤ 64 by omega)).cmp, any_enc]
  rfl
theorem cNin [En α] [DecidableEq α] [Eq_ α] (hd : Eq_.n α ≤ 63) (x : α) (y : List α) : cmpP .nin (enc x) (enc y) = .ok (!decide (x ∈ y)) := by
  have := cIn hd x y
  show (match inP (enc x) (enc y) with
    | .ok b => BR.ok (!b)
    | .stuck => .stuck) = _
  rw [show inP (enc x) (enc y) = .ok (decide (x ∈ y)) from this]
/-- a text in a text -/
def subT (x y : Tx) : Bool := strIn (SX.S x) (SX.S y)
theorem subT1 {c : Nat} {l : Tx} : subT [c] l = decide (c ∈ l) := by unfold subT strIn; rw [SX.in_one]
theorem cInT (x y : Tx) : cmpP .in_ (enc x) (enc y) = .ok (subT x y) := rfl
theorem cNinT (x y : Tx) : cmpP .nin (enc x) (enc y) = .ok (!subT x y) := rfl
/-- two numbers compared -/
def cI (o : COp) (x y : Int) : Bool := match o with
  | .lt => decide (x < y)
  | .le => decide (x ≤ y)
  | .gt => decide (y < x)
  | .ge => decide (y ≤ x)
  | .ne => !decide (x = y)
  | _ => decide (x = y)
def ord6 : COp → Bool
  | .lt => true
  | .le => true
  | .gt => true
  | .ge => true
  | .eq => true
  | .ne => true
  | _ => false
theorem cmp_cI {o : COp} (h : ord6 o = true) (x y : Int) : cmpP o (enc x) (enc y) = .ok (cI o x y) := by
  cases o <;> first
    | rfl
    | exact cmp_eqi
    | exact cmp_nei
    | cases h
theorem cLt (x y : Int) : cmpP .lt (enc x) (enc y) = .ok (decide (x < y)) := rfl
theorem cLe (x y : Int) : cmpP .le (enc x) (enc y) = .ok (decide (x ≤ y)) := rfl
theorem cGt (x y : Int) : cmpP .gt (enc x) (enc y) = .ok (decide (y < x)) := rfl
theorem cGe (x y : Int) : cmpP .ge (enc x) (enc y) = .ok (decide (y ≤ x)) := rfl
def ltT (x y : Tx) : Bool := decide (x < y)
theorem cLtT (x y : Tx) : cmpP .lt (enc x) (enc y) = .ok (ltT x y) := rfl
theorem cLeT (x y : Tx) : cmpP .le (enc x) (enc y) = .ok (!ltT y x) := rfl
theorem cGtT (x y : Tx) : cmpP .gt (enc x) (enc y) = .ok (ltT y x) := rfl
theorem cGeT (x y : Tx) : cmpP .ge (enc x) (enc y) = .ok (!ltT x y) := rfl
/-- is it None: of a value that may be -/
class NN (α : Type) [En α] : Prop where
  nn : ∀ a : α, (match enc a with | .none => true | _ => false) = false
theorem xIsN [En α] [NN α] {ma : M (Option α)} (ha : Ex C G Γ a ma (vA A)) : Ex C G Γ (.cmp .isn a .non) (ma.bind fun x => .ok x.isNone) vS := fun ρ s => by
  rw [e7, s11]
  refine (ha ρ s).bind fun x d al v => ?_
  rw [e1, s11, s1]
  unfold dat2
  rw [v.data]
  show RM (BR.ok (match enc x with | .none => true | _ => false)).r _ _
  cases x with
  | none => exact RM.v rfl
  | some x =>
    have := NN.nn x
    rw [show (match enc (some x) with | .none => true | _ => false) = false from this]
    exact RM.v rfl
theorem xIsNP [En α] [NN α] {x : Option α} (ha : Ex C G Γ a (.ok x) (vA A)) : Ex C G Γ (.cmp .isn a .non) (.ok x.isNone) vS := xIsN ha
theorem xNotN [En α] [NN α] {ma : M (Option α)} (ha : Ex C G Γ a ma (vA A)) : Ex C G Γ (.cmp .notn a .non) (ma.bind fun x => .ok x.isSome) vS := fun ρ s => by
  rw [e7, s11]
  refine (ha ρ s).bind fun x d al v => ?_
  rw [e1, s11, s1]
  unfold dat2
  rw [v.data]
  show RM (BR.ok (match enc x with | .none => false | _ => true)).r _ _
  cases x with
  | none => exact RM.v rfl
  | some x =>
    have := NN.nn x
    have h2 : (match enc (some x) with | .none => false | _ => true) = true := by
      show (match enc x with | .none => false | _ => true) = true
      split at this
      · cases this
      · rfl
    rw [h2]
    exact RM.v rfl
theorem xNotNP [En α] [NN α] {x : Option α} (ha : Ex C G Γ a (.ok x) (vA A)) : Ex C G Γ (.cmp .notn a .non) (.ok x.isSome) vS := xNotN ha
instance : NN Int := ⟨fun _ => rfl⟩
instance : NN Bool := ⟨fun _ => rfl⟩
instance : NN (List Nat) := ⟨fun _ => rfl⟩
instance [En α] : NN (List α) := ⟨fun _ => rfl⟩
instance [En α] [En β] : NN (T2 α β) := ⟨fun _ => rfl⟩
instance [En α] [En β] [En γ] : NN (T3 α β γ) := ⟨fun _ => rfl⟩
instance [En α] [En β] [En γ] [En δ] : NN (T4 α β γ δ) := ⟨fun _ => rfl⟩
instance [En α] : NN (Tu α) := ⟨fun _ => rfl⟩
/-- a value that may be None, where it is not -/
theorem Ex.get [En α] {m : M (Option α)} {A : List Nat} (h : Ex C G Γ e m (vA A)) : Ex C G Γ e (m.bind M.ofO) (vA A) := fun ρ s => by
  have := h ρ s
  cases m with
  | ok a =>
    cases a with
    | none => trivial
    | some a => exact this
  | exc c => exact this
  | stuck => trivial
theorem Ex.sm [En α] {m : M α} {A : List Nat} (h : Ex C G Γ e m (vA A)) : Ex C G Γ e (m.bind fun x => .ok (some x)) (vA A) := fun ρ s => by
  have := h ρ s
  cases m with
  | ok a => exact this
  | exc c => exact this
  | stuck => trivial
theorem Ex.smP [En α] {x : α} {A : List Nat} (h : Ex C G Γ e (.ok x) (vA A)) : Ex C G Γ e (.ok (some x)) (vA A) := Ex.sm h
theorem Ex.non [En α] {A : List Nat} (h : Ex C G Γ e (.ok ()) (vA A)) : Ex C G Γ e (.ok (none : Option α)) (vA A) := h
theorem xChn {o o' : COp} {ma mb mc : M Int} (ho : ord6 o = true) (ho' : ord6 o' = true) (ha : Ex C G Γ a ma (vA A)) (hb : Ex C G Γ b mb (vA B)) (hc : Ex C G Γ c mc (vA A')) : Ex C G Γ (.chn o o' a b c) (ma.bind fun x => mb.bind fun y => if cI o x y then mc.bind fun z => .ok (cI o' y z) else .ok false) vS := fun ρ s => by
  rw [e26, s11]
  refine (ha ρ s).bind fun x d al v => (hb ρ s).bind fun y d' al' v' => ?_
  unfold dat2
  rw [v.data]
  simp only
  rw [v'.data]
  simp only [cmp_cI ho]
  cases h : cI o x y with
  | true =>
    simp only [if_true]
    refine (hc ρ s).bind fun z d' al' v' => ?_
    unfold dat
    rw [v'.data]
    simp only [cmp_cI ho']
    exact RM.v rfl
  | false => simp only [Bool.false_eq_true, if_false]; exact RM.v rfl
theorem xChnP {o o' : COp} {x y z : Int} {ma mb mc : M Int} (ho : ord6 o = true) (ho' : ord6 o' = true) (ha : Ex C G Γ a ma (vA A)) (hx : ma = .ok x) (hb : Ex C G Γ b mb (vA B)) (hy : mb = .ok y) (hc : Ex C G Γ c mc (vA A')) (hz : mc = .ok z) : Ex C G Γ (.chn o o' a b c) (.ok (cI o x y && cI o' y z)) vS := by
  subst hx hy hz
  have := xChn ho ho' ha hb hc
  simp only [M.ok_bind] at this
  cases h : cI o x y with
  | true => simpa only [h, if_true, Bool.true_and] using this
  | false => simpa only [h, Bool.false_eq_true, if_false, Bool.false_and] using this
/-! ### and, or, not -/
def Ta (C : Cal) (G : Glo) (Γ : List Sl) (es : List E) (m : M Bool) : Prop := ∀ ρ, St Γ ρ → TM (andT (evs C G es ρ)) m
def To (C : Cal) (G : Glo) (Γ : List Sl) (es : List E) (m : M Bool) : Prop := ∀ ρ, St Γ ρ → TM (orT (evs C G es ρ)) m
def Ea (C : Cal) (G : Glo) (Γ : List Sl) (es : List E) (m : M Bool) : Prop := ∀ ρ, St Γ ρ → RM (andR (evs C G es ρ)) m vS
def Eo (C : Cal) (G : Glo) (Γ : List Sl) (es : List E) (m : M Bool) : Prop := ∀ ρ, St Γ ρ → RM (orR (evs C G es ρ)) m vS
variable {m k : M Bool} {u v : Bool} {f : E}
theorem ta1 (h : Tr C G Γ e m) : Ta C G Γ [e] m := fun ρ s => h ρ s
theorem taC (h : Tr C G Γ e m) (t : Ta C G Γ (f :: fs) k) : Ta C G Γ (e :: f :: fs) (m.bind fun b => if b then k else .ok false) := fun ρ s => by
  rw [e22, e22, s23]
  refine (h ρ s).bindT fun b => ?_
  cases b with
  | true => exact t ρ s
  | false => rfl
theorem taP (h : Tr C G Γ e m) (hm : m = .ok u) (t : Ta C G Γ (f :: fs) k) (hk : k = .ok v) : Ta C G Γ (e :: f :: fs) (.ok (u && v)) := by
  subst hm hk
  have := taC h t
  cases u <;> exact this
theorem to1 (h : Tr C G Γ e m) : To C G Γ [e] m := fun ρ s => h ρ s
theorem toC (h : Tr C G Γ e m) (t : To C G Γ (f :: fs) k) : To C G Γ (e :: f :: fs) (m.bind fun b => if b then .ok true else k) := fun ρ s => by
  rw [e22, e22, s25]
  refine (h ρ s).bindT fun b => ?_
  cases b with
  | false => exact t ρ s
  | true => rfl
theorem toP (h : Tr C G Γ e m) (hm : m = .ok u) (t : To C G Γ (f :: fs) k) (hk : k = .ok v) : To C G Γ (e :: f :: fs) (.ok (u || v)) := by
  subst hm hk
  have := toC h t
  cases u <;> exact this
theorem tAnd (h : Ta C G Γ es m) : Tr C G Γ (.and es) m := fun ρ s => by rw [e8]; exact h ρ s
theorem tOr (h : To C G Γ es m) : Tr C G Γ (.or es) m := fun ρ s => by rw [e9]; exact h ρ s
theorem ea1 (h : Ex C G Γ e m (vA A)) : Ea C G Γ [e] m := fun ρ s => h.im ρ s
theorem eaC (h : Ex C G Γ e m (vA A)) (t : Ea C G Γ (f :: fs) k) : Ea C G Γ (e :: f :: fs) (m.bind fun b => if b then k else .ok false) := fun ρ s => by
  rw [e22, e22, s19]
  refine (h.im ρ s).bind fun b d al v => ?_
  rw [v.1.im rfl, v.2.2 rfl]
  cases b with
  | true => exact t ρ s
  | false => exact RM.v rfl
theorem eaP (h : Ex C G Γ e m (vA A)) (hm : m = .ok u) (t : Ea C G Γ (f :: fs) k) (hk : k = .ok v) : Ea C G Γ (e :: f :: fs) (.ok (u && v)) := by
  subst hm hk
  have := eaC h t
  cases u <;> exact this
theorem eo1 (h : Ex C G Γ e m (vA A)) : Eo C G Γ [e] m := fun ρ s => h.im ρ s
theorem eoC (h : Ex C G Γ e m (vA A)) (t : Eo C G Γ (f :: fs) k) : Eo C G Γ (e :: f :: fs) (m.bind fun b => if b then .ok true else k) := fun ρ s => by
  rw [e22, e22, s21]
  refine (h.im ρ s).bind fun b d al v => ?_
  rw [v.1.im rfl, v.2.2 rfl]
  cases b with
  | false => exact t ρ s
  | true => exact RM.v rfl
theorem eoP (h : Ex C G Γ e m (vA A)) (hm : m = .ok u) (t : Eo C G Γ (f :: fs) k) (hk : k = .ok v) : Eo C G Γ (e :: f :: fs) (.ok (u || v)) := by
  subst hm hk
  have := eoC h t
  cases u <;> exact this
theorem xAnd (h : Ea C G Γ es m) : Ex C G Γ (.and es) m vS := fun ρ s => by rw [e8]; exact h ρ s
theorem xOr (h : Eo C G Γ es m) : Ex C G Γ (.or es) m vS := fun ρ s => by rw [e9]; exact h ρ s
theorem tNot (h : Tr C G Γ a m) : Tr C G Γ (.not a) (m.bind fun b => .ok (!b)) := fun ρ s => by
  rw [e10]
  exact (h ρ s).bindT fun b => rfl
theorem tNotP (h : Tr C G Γ a (.ok u)) : Tr C G Γ (.not a) (.ok (!u)) := tNot h
theorem xNot (h : Tq C G Γ a m) : Ex C G Γ (.not a) (m.bind fun b => .ok (!b)) vS := fun ρ s => by
  rw [e10]
  exact (h ρ s).bind fun b => RM.v rfl
theorem xNotP (h : Tq C G Γ a (.ok u)) : Ex C G Γ (.not a) (.ok (!u)) vS := xNot h
theorem Tq.r (h : Tr C G Γ a m) (hv : isVt a = true) : Tq C G Γ a m := fun ρ s => by rw [← tVt hv]; exact h ρ s
theorem xIfx {ma mb : M α} {ι : α → Vt} (hc : Tr C G Γ c m) (ha : Ex C G Γ a ma ι) (hb : Ex C G Γ b mb ι) : Ex C G Γ (.ifx c a b) (m.bind fun k => if k then ma else mb) ι := fun ρ s => by
  rw [e11]
  refine (hc ρ s).bind fun k => ?_
  cases k with
  | true => exact ha ρ s
  | false => exact hb ρ s
theorem xIfxP {x y : α} {ι : α → Vt} {ma mb : M α} (hc : Tr C G Γ c m) (hm : m = .ok u) (ha : Ex C G Γ a ma ι) (hx : ma = .ok x) (hb : Ex C G Γ b mb ι) (hy : mb = .ok y) : Ex C G Γ (.ifx c a b) (.ok (if u then x else y)) ι := by
  subst hm hx hy
  have := xIfx hc ha hb
  cases u <;> exact this
theorem tIfx {ma mb : M Bool} (hc : Tr C G Γ c m) (ha : Tr C G Γ a ma) (hb : Tr C G Γ b mb) : Tr C G Γ (.ifx c a b) (m.bind fun k => if k then ma else mb) := fun ρ s => by
  rw [e11]
  refine (hc ρ s).bindT fun k => ?_
  cases k with
  | true => exact ha ρ s
  | false => exact hb ρ s
end
end Hv

/-! Ty, part 3: built-in functions, items, displays, comprehensions, calls. -/
namespace Hv
open PySem
open En (enc)
section
variable {α β γ δ ε ζ η : Type} {C : Cal} {G : Glo} {Γ Γ' : List Sl} {e a b c : E} {es fs : List E} {A B A' A1 A2 A3 A4 A5 A6 : List Nat}
/-! ### built-in functions of one value -/
theorem xB1 [En α] {f : Bi} {g : α → M β} {τ : β → Vt} {m : M α} (hf : ∀ x d al, VR (vA A x) d al → RM (bi1 f d al) (g x) τ) (ha : Ex C G Γ a m (vA A)) : Ex C G Γ (.bi f [a]) (m.bind g) τ := fun ρ s => by
  rw [e13, s11, e22, e21, s17]
  have := ha ρ s
  cases m with
  | ok x =>
    obtain ⟨d, al, h1, v⟩ := this
    rw [h1, s3, s16, s6, s5]
    refine hf x d (al ++ []) ⟨v.1, fun i hi => v.2.1 i (by simpa using hi), fun z => by rw [v.2.2 z]; rfl⟩
  | exc c => rw [show (ev C G a ρ).e = .exc c from this]; rfl
  | stuck => trivial
def lenM (l : Tx) : M Int := M.when (decide (l.length ≤ 16777216)) l.length
theorem bLenL [En α] (x : List α) (d : D) (al : Al) (v : VR (vA A x) d al) : RM (bi1 .len d al) (.ok (x.length : Int)) vS := by
  rw [x19 (v.data)]
  rw [List.length_map]
  exact RM.v rfl
theorem bLenU [En α] (x : Tu α) (d : D) (al : Al) (v : VR (vA A x) d al) : RM (bi1 .len d al) (.ok (x.l.length : Int)) vS := by
  rw [x20 (v.data)]
  rw [List.length_map]
  exact RM.v rfl
theorem bLenT (x : Tx) (d : D) (al : Al) (v : VR (vA A x) d al) : RM (bi1 .len d al) (lenM x) vS := by
  unfold lenM M.when
  split
  · rename_i h
    rw [v.1.im rfl]
    have := len_tx (al := al) (of_decide_eq_true h)
    have this : bi1 .len (.v (enc x)) al = _ := this
    show RM (bi1 .len (.v (enc x)) al) _ _
    rw [this]
    exact RM.v rfl
  · trivial
theorem bInt (x : Int) (d : D) (al : Al) (v : VR (vA A x) d al) : RM (bi1 .int d al) (.ok x) vS := by rw [v.1.im rfl]; exact RM.v rfl
theorem bIntB (x : Bool) (d : D) (al : Al) (v : VR (vA A x) d al) : RM (bi1 .int d al) (.ok (if x then 1 else 0 : Int)) vS := by rw [v.1.im rfl]; exact RM.v rfl
def absI (x : Int) : Int := if x < 0 then -x else x
theorem bAbs (x : Int) (d : D) (al : Al) (v : VR (vA A x) d al) : RM (bi1 .abs d al) (.ok (absI x)) vS := by rw [v.1.im rfl]; exact RM.v rfl
theorem bSum (x : List Int) (d : D) (al : Al) (v : VR (vA A x) d al) : RM (bi1 .sum d al) (.ok x.sum) vS := by
  have h : data d = some (.list (x.map .int)) := v.data
  simp only [bi1, h, intsOf_int]
  exact RM.v rfl
def maxM (x : List Int) : M Int := M.ofO (maxI x)
def minM (x : List Int) : M Int := M.ofO (minI x)
theorem bMax (x : List Int) (d : D) (al : Al) (v : VR (vA A x) d al) : RM (bi1 .maxL d al) (maxM x) vS := by
  have h : data d = some (.list (x.map .int)) := v.data
  simp only [bi1, h, intsOf_int, Option.bind_some]
  unfold maxM
  cases maxI x with
  | none => trivial
  | some i => exact RM.v rfl
theorem bMin (x : List Int) (d : D) (al : Al) (v : VR (vA A x) d al) : RM (bi1 .minL d al) (minM x) vS := by
  have h : data d = some (.list (x.map .int)) := v.data
  simp only [bi1, h, intsOf_int, Option.bind_some]
  unfold minM
  cases minI x with
  | none => trivial
  | some i => exact RM.v rfl
theorem bSorted (x : List Int) (d : D) (al : Al) (v : VR (vA A x) d al) : RM (bi1 .sorted d al) (.ok (isort x)) (vM (.O .R) []) := by
  have h : data d = some (.list (x.map .int)) := v.data
  simp only [bi1, h, intsOf_int]
  exact ⟨_, _, rfl, ⟨_, _, rfl, rfl, All2.v _⟩, by simp, fun z => nomatch z⟩
def ordM (x : Tx) : M Int := match x with
  | [c] => .ok (c : Int)
  | _ => .stuck
theorem bOrd (x : Tx) (d : D) (al : Al) (v : VR (vA A x) d al) : RM (bi1 .ord d al) (ordM x) vS := by
  unfold ordM
  split
  · rw [v.1.im rfl]; exact RM.v rfl
  · trivial
theorem boolsOf_enc : ∀ x : List Bool, boolsOf (x.map enc) = some x
  | [] => rfl
  | b :: x => by show (boolsOf (x.map enc)).map (b :: ·) = _; rw [boolsOf_enc x]; rfl
theorem bAny (x : List Bool) (d : D) (al : Al) (v : VR (vA A x) d al) : RM (bi1 .any d al) (.ok (x.any id)) vS := by
  have h : data d = some (.list (x.map enc)) := v.data
  simp only [bi1, h, boolsOf_enc]
  exact RM.v rfl
theorem bAll (x : List Bool) (d : D) (al : Al) (v : VR (vA A x) d al) : RM (bi1 .all d al) (.ok (x.all id)) vS := by
  have h : data d = some (.list (x.map enc)) := v.data
  simp only [bi1, h, boolsOf_enc]
  exact RM.v rfl
theorem bList [En α] (x : List α) (d : D) (al : Al) (v : VR (vA A x) d al) : RM (bi1 .list d al) (.ok x) (vM (.O .R) A) := by
  have h : data d = some (.list (x.map enc)) := v.data
  simp only [bi1, h]
  exact RM.mkL rfl v.2.1
theorem bListU [En α] (x : Tu α) (d : D) (al : Al) (v : VR (vA A x) d al) : RM (bi1 .list d al) (.ok x.l) (vM (.O .R) A) := by
  have h : data d = some (.tuple (x.l.map enc)) := v.data
  simp only [bi1, h]
  exact RM.mkL rfl v.2.1
theorem bTup [En α] (x : List α) (d : D) (al : Al) (v : VR (vA A x) d al) : RM (bi1 .tuple d al) (.ok (Tu.mk x)) (vA A) := by
  have h : data d = some (.list (x.map enc)) := v.data
  simp only [bi1, h]
  exact RM.mkT rfl v.2.1
theorem M.bind_ok {α : Type} {m : M α} : (m.bind fun x => .ok x) = m := by cases m <;> rfl
theorem xIntI {m : M Int} (h : Ex C G Γ a m (vA A)) : Ex C G Γ (.bi .int [a]) m vS := by
  have := xB1 bInt h
  rwa [M.bind_ok] at this
theorem xList [En α] {m : M (List α)} (h : Ex C G Γ a m (vA A)) : Ex C G Γ (.bi .list [a]) m (vM (.O .R) A) := by
  have := xB1 bList h
  rwa [M.bind_ok] at this
theorem bListi0 [En α] [Im α] (x : List α) (d : D) (al : Al) (v : VR (vA A x) d al) : RM (bi1 .list d al) (.ok x) (vM (.O .R) []) := by
  have h : data d = some (.list (x.map enc)) := v.data
  simp only [bi1, h]
  unfold Hv.mkL
  rw [mutDs_im]
  exact ⟨_, _, rfl, ⟨_, _, rfl, rfl, All2.v _⟩, by simp, fun z => nomatch z⟩
theorem xListi [En α] [Im α] {m : M (List α)} (h : Ex C G Γ a m (vA A)) : Ex C G Γ (.bi .list [a]) m (vM (.O .R) []) := by
  have := xB1 bListi0 h
  rwa [M.bind_ok] at this
/-! ### of two -/
def As (C : Cal) (G : Glo) (Γ : List Sl) (es : List E) {τ : Type} (m : M τ) (ps : τ → List PyData) (A : List Nat) : Prop := ∀ ρ, St Γ ρ → match m with
  | .ok a => ∃ ds al, seqR (evs C G es ρ) = .ok ds al ∧ All2 (MR .R) ds (ps a) ∧ (∀ i ∈ al, i ∈ A) ∧ (mutDs (ps a) = false → al = [])
  | .exc c => seqR (evs C G es ρ) = .exc c
  | .stuck => True
theorem asN : As C G Γ [] (.ok ()) (fun _ => []) [] := fun ρ s => ⟨[], [], rfl, .nil, by simp, fun _ => rfl⟩
theorem asC [En α] {m : M α} {τ : Type} {k : M τ} {ps : τ → List PyData} (h : Ex C G Γ e m (vA A)) (t : As C G Γ es k ps B) : As C G Γ (e :: es) (m.bind fun x => k.bind fun y => .ok (x, y)) (fun z => enc z.1 :: ps z.2) (A ++ B) := fun ρ s => by
  have h := h ρ s
  have t := t ρ s
  cases m with
  | ok x =>
    obtain ⟨d, al, h1, v⟩ := h
    cases k with
    | ok y =>
      obtain ⟨ds, bl, t1, t2, t3, t4⟩ := t
      refine ⟨d :: ds, al ++ bl, by rw [e22, s17, h1, s3, t1, s6], .cons v.1 t2, fun i hi => ?_, fun z => ?_⟩
      · rcases List.mem_append.mp hi with hi | hi
        · exact List.mem_append_left _ (v.2.1 i hi)
        · exact List.mem_append_right _ (t3 i hi)
      · rw [md5, Bool.or_eq_false_iff] at z
        rw [v.2.2 z.1, t4 z.2]; rfl
    | exc c => show seqR _ = _; rw [e22, s17, h1, s3, show seqR (evs C G es ρ) = .exc c from t]; rfl
    | stuck => trivial
  | exc c => show seqR _ = _; rw [e22, s17, show (ev C G e ρ).e = .exc c from h]; rfl
  | stuck => trivial
theorem M.assoc {m : M α} {f : α → M β} {g : β → M γ} : (m.bind f).bind g = m.bind fun x => (f x).bind g := by cases m <;> rfl
theorem as1 [En α] {m : M α} (h : Ex C G Γ e m (vA A)) : As C G Γ [e] m (fun x => [enc x]) A := fun ρ s => by
  have := asC h (asN (C := C) (G := G) (Γ := Γ)) ρ s
  cases m with
  | ok x =>
    obtain ⟨ds, al, h1, h2, h3, h4⟩ := this
    exact ⟨ds, al, h1, h2, fun i hi => by simpa using h3 i hi, h4⟩
  | exc c => exact this
  | stuck => trivial
theorem asM {τ τ' : Type} {m : M τ} {ps : τ → List PyData} {ps' : τ' → List PyData} {g : τ → M τ'} (h : As C G Γ es m ps A) (hg : ∀ z, ∃ y, g z = .ok y ∧ ps' y = ps z) : As C G Γ es (m.bind g) ps' A := fun ρ s => by
  have := h ρ s
  cases m with
  | ok z =>
    obtain ⟨y, h1, h2⟩ := hg z
    obtain ⟨ds, al, q1, q2, q3, q4⟩ := this
    show (match g z with | .ok a => _ | .exc c => _ | .stuck => _)
    rw [h1]
    exact ⟨ds, al, q1, h2 ▸ q2, q3, h2 ▸ q4⟩
  | exc c => exact this
  | stuck => trivial
theorem xMax2 {ma mb : M Int} (ha : Ex C G Γ a ma (vA A)) (hb : Ex C G Γ b mb (vA B)) : Ex C G Γ (.bi .max2 [a, b]) (ma.bind fun x => mb.bind fun y => .ok (max x y)) vS := fun ρ s => by
  have := asC ha (as1 hb) ρ s
  rw [e13, s11]
  cases ma with
  | ok x =>
    cases mb with
    | ok y =>
      obtain ⟨ds, al, h1, h2, h3, h4⟩ := this
      rw [h1, s5]
      rw [hasVs_im h2 rfl]
      show RM (.ok (.v (.int (if y > x then y else x))) []) (.ok (max x y)) _
      have : max x y = if y > x then y else x := by omega
      rw [this]
      exact RM.v rfl
    | exc c => show _ = _; rw [show seqR (evs C G [a, b] ρ) = .exc c from this]; rfl
    | stuck => trivial
  | exc c => show _ = _; rw [show seqR (evs C G [a, b] ρ) = .exc c from this]; rfl
  | stuck => trivial
theorem xMin2 {ma mb : M Int} (ha : Ex C G Γ a ma (vA A)) (hb : Ex C G Γ b mb (vA B)) : Ex C G Γ (.bi .min2 [a, b]) (ma.bind fun x => mb.bind fun y => .ok (min x y)) vS := fun ρ s => by
  have := asC ha (as1 hb) ρ s
  rw [e13, s11]
  cases ma with
  | ok x =>
    cases mb with
    | ok y =>
      obtain ⟨ds, al, h1, h2, h3, h4⟩ := this
      rw [h1, s5]
      rw [hasVs_im h2 rfl]
      show RM (.ok (.v (.int (if y < x then y else x))) []) (.ok (min x y)) _
      have : min x y = if y < x then y else x := by omega
      rw [this]
      exact RM.v rfl
    | exc c => show _ = _; rw [show seqR (evs C G [a, b] ρ) = .exc c from this]; rfl
    | stuck => trivial
  | exc c => show _ = _; rw [show seqR (evs C G [a, b] ρ) = .exc c from this]; rfl
  | stuck => trivial
theorem xIsi {m : M α} {ι : α → Vt} {t : Ty} (f : α → Bool) (h : Ex C G Γ a m ι) (hf : ∀ x, tyP (ι x).p t = f x) : Ex C G Γ (.isi a t) (m.bind fun x => .ok (f x)) vS := fun ρ s => by
  rw [e14, s11]
  refine (h ρ s).bind fun x d al v => ?_
  unfold dat
  rw [v.data]
  simp only [hf]
  exact RM.v rfl
/-! ### items -/
def getM (xs : List α) (i : Int) : M α := M.ofO (L2.atI xs i)
theorem ix_go {w : Bool} {al : Al} {xs : List α} [En α] {i : Int} (h : ∀ i ∈ al, i ∈ A) : RM (match L2.atI (xs.map enc) i with
    | some p => itR w p al
    | none => .stuck) (getM xs i) (vA A) := by
  unfold getM
  rw [atI_map]
  cases L2.atI xs i with
  | none => trivial
  | some x => exact RM.itR rfl h
theorem xIx [En α] {ma : M (List α)} {mb : M Int} (hv : varOf a = none) (ha : Ex C G Γ a ma (vA A)) (hb : Ex C G Γ b mb (vA B)) : Ex C G Γ (.ix a b) (ma.bind fun x => mb.bind fun i => getM x i) (vA A) := fun ρ s => by
  rw [e15 hv, s11]
  refine (ha ρ s).bind fun x d al v => (hb ρ s).bind fun i d' al' v' => ?_
  unfold dat2
  rw [v.data]
  simp only
  rw [v'.data]
  exact ix_go v.2.1
/-- at a name: the item's data, whatever holds it -/
theorem ixV_at {i : Nat} {ρ : Env} {m : Mo} {p : PyData} {mb : M Int} {g : Int → M α} {ι : α → Vt} (h : ∃ d, ρ[i]? = some (some d) ∧ MR m d p) (hb : Ex C G Γ b mb (vA B)) (s : St Γ ρ)
    (hf : ∀ j w al, (∀ k ∈ al, k ∈ [i]) → RM (ixP w al p (.int j)) (g j) ι) (hA : ∀ x, (ι x).m = .R ∧ (ι x).A = [i]) (hg : ∀ ps j, p = .list ps → match g j with
      | .ok x => L2.atI ps j = some (ι x).p
      | .exc _ => False
      | .stuck => True) : RM (ixV i ρ (ev C G b ρ).e) (mb.bind g) ι := by
  obtain ⟨d, h1, h2⟩ := h
  show RM (ixvD i ρ[i]? (ev C G b ρ).e) _ _
  rw [h1]
  by_cases hd : ∃ ds, d = .ol ds
  · obtain ⟨ds, rfl⟩ := hd
    refine (hb ρ s).bind fun j d' al' v' => ?_
    unfold dat
    rw [v'.data]
    show RM (match L2.atI ds j with
      | some e => match view e with
        | some w => .ok w (if isFz e then [] else [i])
        | none => .stuck
      | none => .stuck) (g j) ι
    obtain ⟨ps, hp, hq⟩ : ∃ ps, p = .list ps ∧ datas ds = some ps := by
      have h3 := h2.data
      cases hq : datas ds with
      | none => simp [data, hq] at h3
      | some ps => simp only [data, hq, Option.map_some, Option.some.injEq] at h3; exact ⟨ps, h3.symm, rfl⟩
    have hat : ∀ {ds : List D} {ps : List PyData} {n : Nat} {q : PyData}, datas ds = some ps → ps[n]? = some q → ∃ e, ds[n]? = some e ∧ data e = some q := by
      intro ds
      induction ds with
      | nil => intro ps n q z1 z2; cases z1; simp at z2
      | cons e ds ih =>
        intro ps n q z1 z2
        simp only [datas] at z1
        cases w1 : data e with
        | none => rw [w1] at z1; cases z1
        | some r =>
          cases w2 : datas ds with
          | none => rw [w1, w2] at z1; cases z1
          | some rs =>
            rw [w1, w2] at z1
            injection z1 with z1
            subst z1
            cases n with
            | zero => simp at z2; exact ⟨e, rfl, z2 ▸ w1⟩
            | succ n => simpa using ih w2 (by simpa using z2)
    have hlen : ds.length = ps.length := by
      clear hat h1 h2 hg hf
      clear hp
      induction ds generalizing ps with
      | nil => cases hq; rfl
      | cons e ds ih =>
        simp only [datas] at hq
        cases w1 : data e with
        | none => rw [w1] at hq; cases hq
        | some r =>
          cases w2 : datas ds with
          | none => rw [w1, w2] at hq; cases hq
          | some rs =>
            rw [w1, w2] at hq
            injection hq with hq
            subst hq
            simp only [List.length_cons]
            rw [ih rs w2]
    have hg := hg ps j hp
    cases e : g j with
    | stuck => trivial
    | exc c => rw [e] at hg; exact hg.elim
    | ok x =>
      rw [e] at hg
      simp only at hg
      obtain ⟨hA1, hA2⟩ := hA x
      have : ∃ n, L2.ixN ps.length j = some n ∧ ps[n]? = some (ι x).p := by
        unfold L2.atI at hg
        cases w : L2.ixN ps.length j with
        | none => rw [w] at hg; cases hg
        | some n => rw [w] at hg; exact ⟨n, rfl, hg⟩
      obtain ⟨n, w1, w2⟩ := this
      obtain ⟨e', w3, w4⟩ := hat hq w2
      have : L2.atI ds j = some e' := by unfold L2.atI; rw [hlen, w1]; exact w3
      rw [this]
      simp only
      have hvw : view e' = some (fz (isNew e') (ι x).p) := by unfold view; rw [w4]; rfl
      rw [hvw]
      simp only
      by_cases hm : mutD (ι x).p = false
      · have hfz : isFz e' = true ∨ isFz e' = false := by cases isFz e' <;> simp
        rw [v12 hm]
        have hNf : e' = .v (ι x).p := by
          have h3 : nfs ds = true := h2.r.2
          have h4 : ∀ {ds : List D} {n : Nat} {e : D}, nfs ds = true → ds[n]? = some e → nf e = true := by
            intro ds
            induction ds with
            | nil => intro n e _ z; simp at z
            | cons d ds ih =>
              intro n e z1 z2
              simp only [nfs, Bool.and_eq_true] at z1
              cases n with
              | zero => simp at z2; exact z2 ▸ z1.1
              | succ n => exact ih z1.2 (by simpa using z2)
          exact nf_v (h4 h3 w3) w4 hm
        rw [hNf]
        exact ⟨_, _, rfl, by rw [hA1]; exact MR.v _, by simp [isFz], fun _ => by simp [isFz]⟩
      · refine ⟨_, _, rfl, by rw [hA1]; exact MR.fz _ _, fun k hk => ?_, fun z => absurd z hm⟩
        rw [hA2]
        split at hk
        · simp at hk
        · exact hk
  · have hn : ∀ rb, ixvD i (some (some d)) rb = (varD i (some (some d))).bind fun x al => rb.bind fun y _ => dat2 x y fun p q => ixP (isNew x) al p q := fun rb => by
      cases d <;> first | rfl | exact absurd ⟨_, rfl⟩ hd
    rw [hn]
    obtain ⟨w, al, e1, v⟩ := varR_at ⟨d, h1, h2⟩
    rw [v1, h1] at e1
    rw [e1, s1]
    refine (hb ρ s).bind fun j d' al' v' => ?_
    unfold dat2
    rw [v.data]
    simp only
    rw [v'.data]
    exact hf j _ _ v.2.1
theorem xIxV [En α] {i : Nat} {m : Mo} {xs : List α} {mb : M Int} (h : gG Γ i = .S m (enc xs)) (hb : Ex C G Γ b mb (vA B)) : Ex C G Γ (.ix (.var i) b) (mb.bind fun j => getM xs j) (vA [i]) := fun ρ s => by
  show RM (ixV i ρ (ev C G b ρ).e) _ _
  refine ixV_at (s.at_ i m _ h) hb s (fun j w al hal => ix_go hal) (fun x => ⟨rfl, rfl⟩) fun ps j hp => ?_
  have hp : PyData.list (xs.map enc) = .list ps := hp
  injection hp with hp
  subst hp
  unfold getM
  rw [atI_map]
  cases L2.atI xs j with
  | none => trivial
  | some x => rfl
/-- x[n] of a tuple, by a number that is written -/
theorem xIxVT [En α] {i n : Nat} {m : Mo} {p : PyData} {ps : List PyData} {x : α} (h : gG Γ i = .S m p) (hp : p = .tuple ps) (hx : ps[n]? = some (enc x)) : Ex C G Γ (.ix (.var i) (.int n)) (.ok x) (vA [i]) := fun ρ s => by
  obtain ⟨d, h1, h2⟩ := s.at_ i m _ h
  show RM (ixvD i ρ[i]? (ev C G (.int n) ρ).e) _ _
  rw [h1]
  have hn : ∀ rb, ixvD i (some (some d)) rb = (varD i (some (some d))).bind fun x al => rb.bind fun y _ => dat2 x y fun p q => ixP (isNew x) al p q := fun rb => by
    have h3 := h2.data
    cases d <;> first | rfl | skip
    rename_i ds
    rw [hp] at h3
    cases e : datas ds with
    | none => simp [data, e] at h3
    | some qs => simp [data, e] at h3
  rw [hn]
  obtain ⟨w, al, e1, v⟩ := varR_at ⟨d, h1, h2⟩
  rw [v1, h1] at e1
  rw [e1, s1, e3, s11, s1]
  unfold dat2
  rw [v.data]
  simp only [data, hp, x30, hx]
  exact RM.itR rfl v.2.1
theorem xIxT [En α] [En β] {n : Nat} {ma : M α} (f : α → β) (hv : varOf a = none) (ha : Ex C G Γ a ma (vA A)) (h : ∀ x, ∃ ps, enc x = .tuple ps ∧ ps[n]? = some (enc (f x))) : Ex C G Γ (.ix a (.int n)) (ma.bind fun x => .ok (f x)) (vA A) := fun ρ s => by
  rw [e15 hv, s11]
  refine (ha ρ s).bind fun x d al v => ?_
  rw [e3, s11, s1]
  unfold dat2
  rw [v.data]
  obtain ⟨ps, h1, h2⟩ := h x
  simp only [data]
  show RM (ixP (isNew d) al (enc x) (.int n)) _ _
  rw [h1, x30, h2]
  exact RM.itR rfl v.2.1
/-- a sign of a text -/
def chM (l : Tx) (i : Int) : M Tx := if l.length ≤ 16777216 then M.ofO ((L2.atI l i).map fun c => [c]) else .stuck
theorem ixT_go {w : Bool} {al : Al} {l : Tx} {i : Int} {A : List Nat} : RM (ixP w al (enc l) (.int i)) (chM l i) (vA A) := by
  unfold chM
  split
  · rename_i h
    show RM (if (SX.S l).length ≤ SZ then (match L2.atI (SX.S l).cps.toList i with
      | some c => R.ok (.v (.str ⟨#[c]⟩)) []
      | none => .stuck) else .stuck) _ _
    rw [SX.S_len, if_pos (show _ ≤ SZ from h)]
    show RM (match L2.atI l i with
      | some c => R.ok (.v (.str ⟨#[c]⟩)) []
      | none => .stuck) _ _
    cases L2.atI l i with
    | none => trivial
    | some c => exact RM.v rfl
  · trivial
theorem xIxS {ma : M Tx} {mb : M Int} (hv : varOf a = none) (ha : Ex C G Γ a ma (vA A)) (hb : Ex C G Γ b mb (vA B)) : Ex C G Γ (.ix a b) (ma.bind fun x => mb.bind fun i => chM x i) vS := fun ρ s => by
  rw [e15 hv, s11]
  refine (ha ρ s).bind fun x d al v => (hb ρ s).bind fun i d' al' v' => ?_
  unfold dat2
  rw [v.data]
  simp only
  rw [v'.data]
  exact ixT_go
theorem xIxVS {i : Nat} {m : Mo} {l : Tx} {mb : M Int} (h : gG Γ i = .S m (enc l)) (hb : Ex C G Γ b mb (vA B)) : Ex C G Γ (.ix (.var i) b) (mb.bind fun j => chM l j) vS := fun ρ s => by
  have : RM (ixV i ρ (ev C G b ρ).e) (mb.bind fun j => chM l j) (vA [i]) := ixV_at (s.at_ i m _ h) hb s (fun j w al hal => ixT_go) (fun x => ⟨rfl, rfl⟩) fun ps j hp => nomatch (show PyData.str (SX.S l) = .list ps from hp)
  exact Ex.im (fun ρ' s' => by
    by_cases hρ : ρ' = ρ
    · subst hρ; exact this
    · exact ixV_at (s'.at_ i m _ h) hb s' (fun j w al hal => ixT_go) (fun x => ⟨rfl, rfl⟩) fun ps j hp => nomatch (show PyData.str (SX.S l) = .list ps from hp)) ρ s
/-! ### slices -/
def Oe (C : Cal) (G : Glo) (Γ : List Sl) (o : Option E) (m : M (Option Int)) : Prop := ∀ ρ, St Γ ρ → match m with
  | .ok i => evO C G o ρ = .ok i
  | .exc c => evO C G o ρ = .exc c
  | .stuck => True
theorem oN : Oe C G Γ none (.ok none) := fun ρ s => rfl
theorem oS {m : M Int} (h : Ex C G Γ e m (vA A)) : Oe C G Γ (some e) (m.bind fun i => .ok (some i)) := fun ρ s => by
  have := h ρ s
  cases m with
  | ok x => obtain ⟨d, al, h1, v⟩ := this; show evO C G (some e) ρ = _; rw [e24, h1, v.1.im rfl]; rfl
  | exc c => show evO C G (some e) ρ = _; rw [e24, show (ev C G e ρ).e = .exc c from this]; rfl
  | stuck => trivial
theorem Oe.bind {o : Option E} {m : M (Option Int)} {f : Option Int → R} {k : Option Int → M β} {κ : β → Vt} {ρ : Env} (h : Oe C G Γ o m) (s : St Γ ρ) (hk : ∀ i, RM (f i) (k i) κ) : RM ((evO C G o ρ).bind f) (m.bind k) κ := by
  have := h ρ s
  cases m with
  | ok i => rw [show evO C G o ρ = .ok i from this]; exact hk i
  | exc c => rw [show evO C G o ρ = .exc c from this]; rfl
  | stuck => trivial
theorem cutP_mp {f : α → β} {xs : List α} {lo hi : Option Int} : cutP (xs.map f) lo hi = (cutP xs lo hi).map f := by
  unfold cutP
  rw [List.length_map, List.map_take, List.map_drop]
theorem xSl [En α] {lo hi : Option E} {ma : M (List α)} {ml mh : M (Option Int)} (ha : Ex C G Γ a ma (vA A)) (hl : Oe C G Γ lo ml) (hh : Oe C G Γ hi mh) : Ex C G Γ (.sl a lo hi) (ma.bind fun x => ml.bind fun l => mh.bind fun h => .ok (cutP x l h)) (vM (.O .R) A) := fun ρ s => by
  rw [e17, s11]
  refine (ha ρ s).bind fun x d al v => hl.bind s fun l => hh.bind s fun h => ?_
  unfold slR
  rw [show data d = some (.list (x.map enc)) from v.data]
  exact RM.mkL cutP_mp v.2.1
theorem xSlU [En α] {lo hi : Option E} {ma : M (Tu α)} {ml mh : M (Option Int)} (ha : Ex C G Γ a ma (vA A)) (hl : Oe C G Γ lo ml) (hh : Oe C G Γ hi mh) : Ex C G Γ (.sl a lo hi) (ma.bind fun x => ml.bind fun l => mh.bind fun h => .ok (Tu.mk (cutP x.l l h))) (vA A) := fun ρ s => by
  rw [e17, s11]
  refine (ha ρ s).bind fun x d al v => hl.bind s fun l => hh.bind s fun h => ?_
  unfold slR
  rw [show data d = some (.tuple (x.l.map enc)) from v.data]
  exact RM.mkT (by rw [cutP_mp]; rfl) v.2.1
def cutM (l : Tx) (lo hi : Option Int) : M Tx := M.when (decide (l.length ≤ 16777216)) (cutP l lo hi)
theorem xSlS {lo hi : Option E} {ma : M Tx} {ml mh : M (Option Int)} (ha : Ex C G Γ a ma (vA A)) (hl : Oe C G Γ lo ml) (hh : Oe C G Γ hi mh) : Ex C G Γ (.sl a lo hi) (ma.bind fun x => ml.bind fun l => mh.bind fun h => cutM x l h) vS := fun ρ s => by
  rw [e17, s11]
  refine (ha ρ s).bind fun x d al v => hl.bind s fun l => hh.bind s fun h => ?_
  unfold cutM M.when
  split
  · rename_i hx
    rw [v.1.im rfl]
    have := sl_tx (al := al) (lo := l) (hi := h) (of_decide_eq_true hx)
    rw [show slR (.v (enc x)) al l h = _ from this]
    exact RM.v rfl
  · trivial
theorem xRev [En α] {ma : M (List α)} (ha : Ex C G Γ a ma (vA A)) : Ex C G Γ (.rev a) (ma.bind fun x => .ok x.reverse) (vM (.O .R) A) := fun ρ s => by
  show RM ((ev C G a ρ).e.bind fun x al => revD x al) _ _
  refine (ha ρ s).bind fun x d al v => ?_
  unfold revD
  rw [show data d = some (.list (x.map enc)) from v.data]
  exact RM.mkL (by rw [List.map_reverse]) v.2.1
/-! ### displays -/
def Ls [En α] (C : Cal) (G : Glo) (Γ : List Sl) (es : List E) (m : M (List α)) (μ : Mo) (A : List Nat) : Prop := ∀ ρ, St Γ ρ → match m with
  | .ok xs => ∃ ds al, seqR (evs C G es ρ) = .ok ds al ∧ All2 (MR μ) ds (xs.map enc) ∧ (∀ i ∈ al, i ∈ A)
  | .exc c => seqR (evs C G es ρ) = .exc c
  | .stuck => True
theorem lsN [En α] {μ : Mo} : Ls C G Γ [] (.ok ([] : List α)) μ [] := fun ρ s => ⟨[], [], rfl, .nil, by simp⟩
theorem lsC [En α] {μ : Mo} {m : M α} {k : M (List α)} (h : Ex C G Γ e m (vM μ A)) (t : Ls C G Γ es k μ B) : Ls C G Γ (e :: es) (m.bind fun x => k.bind fun y => .ok (x :: y)) μ (A ++ B) := fun ρ s => by
  have h := h ρ s
  have t := t ρ s
  cases m with
  | ok x =>
    obtain ⟨d, al, h1, v⟩ := h
    cases k with
    | ok y =>
      obtain ⟨ds, bl, t1, t2, t3⟩ := t
      refine ⟨d :: ds, al ++ bl, by rw [e22, s17, h1, s3, t1, s6], .cons v.1 t2, fun i hi => ?_⟩
      rcases List.mem_append.mp hi with hi | hi
      · exact List.mem_append_left _ (v.2.1 i hi)
      · exact List.mem_append_right _ (t3 i hi)
    | exc c => show seqR _ = _; rw [e22, s17, h1, s3, show seqR (evs C G es ρ) = .exc c from t]; rfl
    | stuck => trivial
  | exc c => show seqR _ = _; rw [e22, s17, show (ev C G e ρ).e = .exc c from h]; rfl
  | stuck => trivial
theorem lsP [En α] {μ : Mo} {x : α} {y : List α} (h : Ex C G Γ e (.ok x) (vM μ A)) (t : Ls C G Γ es (.ok y) μ B) : Ls C G Γ (e :: es) (.ok (x :: y)) μ (A ++ B) := lsC h t
theorem xLst [En α] {μ : Mo} {m : M (List α)} (h : Ls C G Γ es m μ A) : Ex C G Γ (.lst es) m (vM (.O μ) A) := fun ρ s => by
  have := h ρ s
  rw [e18, s11]
  cases m with
  | ok xs => obtain ⟨ds, al, h1, h2, h3⟩ := this; rw [h1, s5]; exact ⟨_, _, rfl, ⟨_, _, rfl, rfl, h2⟩, h3, fun z => nomatch z⟩
  | exc c => show _ = _; rw [show seqR (evs C G es ρ) = .exc c from this]; rfl
  | stuck => trivial
theorem all2_nfs : ∀ {ds : List D} {ps : List PyData}, All2 (MR .R) ds ps → nfs ds = true
  | _, _, .nil => rfl
  | _, _, .cons a t => by simp only [nfs, a.2, all2_nfs t, Bool.and_self]
theorem all2_fz : ∀ {ds : List D} {ps : List PyData}, All2 (MR .R) ds ps → mutDs ps = false → ds.all isFz = true
  | _, _, .nil, _ => rfl
  | _, _, .cons a t, h => by
    rw [md5, Bool.or_eq_false_iff] at h
    rw [List.all_cons, all2_fz t h.2, a.im h.1]; rfl
theorem xTup [En α] {τ : Type} {m : M τ} {ps : τ → List PyData} (f : τ → α) (h : As C G Γ es m ps A) (hf : ∀ z, enc (f z) = .tuple (ps z)) : Ex C G Γ (.tup es) (m.bind fun z => .ok (f z)) (vA A) := fun ρ s => by
  have := h ρ s
  rw [e19, s11]
  cases m with
  | ok z =>
    obtain ⟨ds, al, h1, h2, h3, h4⟩ := this
    rw [h1, s5]
    have hd : datas ds = some (ps z) := h2.datas fun _ _ => MR.data
    unfold tupD
    by_cases hz : ds.all isFz = true
    · rw [if_pos hz, hd]
      exact RM.mkT (by show Vt.mk .R (enc (f z)) A = _; rw [hf z]) h3
    · rw [if_neg hz]
      have hm : mutDs (ps z) = true := by
        cases e : mutDs (ps z) with
        | true => rfl
        | false => exact absurd (all2_fz h2 e) hz
      refine ⟨_, _, rfl, ⟨?_, ?_⟩, h3, fun w => ?_⟩
      · show (datas ds).map PyData.tuple = some (enc (f z)); rw [hd, hf]; rfl
      · show (nfs ds && (match datas ds with | some ps => mutDs ps | none => false)) = true
        rw [all2_nfs h2, hd]; exact hm
      · have w : mutD (enc (f z)) = false := w
        rw [hf] at w
        rw [show mutD (.tuple (ps z)) = mutDs (ps z) from rfl, hm] at w; cases w
  | exc c => show _ = _; rw [show seqR (evs C G es ρ) = .exc c from this]; rfl
  | stuck => trivial
/-! ### what is gone over -/
def It [En α] (C : Cal) (G : Glo) (Γ : List Sl) (k : Sk) (es : List E) (m : M (List α)) (A : List Nat) : Prop := ∀ ρ, St Γ ρ → match m with
  | .ok xs => ∃ ds al w al2, seqR (evs C G es ρ) = .ok ds al ∧ itemsR k ds al = some (xs.map enc, w, al2) ∧ (∀ i ∈ al, i ∈ A) ∧ (∀ i ∈ al2, i ∈ A)
  | .exc c => seqR (evs C G es ρ) = .exc c
  | .stuck => True
theorem It.of1 [En α] [En β] {k : Sk} {m : M α} {g : α → M (List β)} {B : List Nat} (h : Ex C G Γ e m (vA A)) (hg : ∀ x d al, VR (vA A x) d al → match g x with
    | .ok ys => ∃ w al2, itemsR k [d] al = some (ys.map enc, w, al2) ∧ (∀ i ∈ al2, i ∈ A)
    | .exc _ => False
    | .stuck => True) : It C G Γ k [e] (m.bind g) A := fun ρ s => by
  have h := h ρ s
  cases m with
  | ok x =>
    obtain ⟨d, al, h1, v⟩ := h
    have hs : seqR (evs C G [e] ρ) = .ok [d] al := by rw [e22, e21, s17, h1, s3, s16, s6, List.append_nil]
    have hg := hg x d al v
    show (match g x with | .ok xs => _ | .exc c => _ | .stuck => _)
    cases q : g x with
    | ok ys => rw [q] at hg; obtain ⟨w, al2, g1, g2⟩ := hg; exact ⟨_, _, w, al2, hs, g1, v.2.1, g2⟩
    | exc c => rw [q] at hg; exact hg.elim
    | stuck => trivial
  | exc c => show seqR _ = _; rw [e22, s17, show (ev C G e ρ).e = .exc c from h]; rfl
  | stuck => trivial
theorem elems_l [En α] {x : List α} {d : D} {al : Al} (v : VR (vA A x) d al) : ∃ w al2, elems d al = some (x.map enc, w, al2) ∧ (∀ i ∈ al2, i ∈ A) := by
  unfold elems
  rw [show data d = some (.list (x.map enc)) from v.data]
  refine ⟨_, _, rfl, fun i hi => ?_⟩
  split at hi
  · exact v.2.1 i hi
  · simp at hi
theorem itL [En α] {m : M (List α)} (h : Ex C G Γ e m (vA A)) : It C G Γ .seq [e] m A := by
  have := It.of1 (k := .seq) (g := fun x => .ok x) (B := A) h fun x d al v => elems_l v
  rwa [M.bind_ok] at this
theorem itU [En α] {m : M (Tu α)} (h : Ex C G Γ e m (vA A)) : It C G Γ .seq [e] (m.bind fun x => .ok x.l) A := It.of1 (B := A) h fun x d al v => by
  show ∃ w al2, elems d al = _ ∧ _
  unfold elems
  rw [show data d = some (.tuple (x.l.map enc)) from v.data]
  refine ⟨_, _, rfl, fun i hi => ?_⟩
  split at hi
  · exact v.2.1 i hi
  · simp at hi
/-- the signs of a text -/
def chsM (l : Tx) : M (List Tx) := M.when (decide (l.length ≤ 16777216)) (l.map fun c => [c])
theorem itS {m : M Tx} (h : Ex C G Γ e m (vA A)) : It C G Γ .seq [e] (m.bind chsM) A := It.of1 (B := A) h fun x d al v => by
  unfold chsM M.when
  split
  · rename_i ys hl
    split at hl
    · rename_i hx
      injection hl with hl
      subst hl
      rw [v.1.im rfl]
      refine ⟨true, [], ?_, by simp⟩
      show elems (.v (tx x)) al = _
      rw [elems_tx (of_decide_eq_true hx), List.map_map]
      rfl
    · cases hl
  · rename_i hl
    split at hl <;> cases hl
  · trivial
def rg1 (n : Int) : M (List Int) := M.when (rgOk 0 n) (rgI 0 n)
def rg2 (a b : Int) : M (List Int) := M.when (rgOk a b) (rgI a b)
theorem itR1 {m : M Int} (h : Ex C G Γ e m (vA A)) : It C G Γ .range [e] (m.bind rg1) A := It.of1 (B := A) h fun x d al v => by
  unfold rg1 M.when
  split
  · rename_i ys hl
    split at hl
    · rename_i hx
      injection hl with hl
      subst hl
      rw [v.1.im rfl]
      exact ⟨true, [], itemsR_rg hx, by simp⟩
    · cases hl
  · rename_i hl
    split at hl <;> cases hl
  · trivial
theorem itR2 {ma mb : M Int} (ha : Ex C G Γ a ma (vA A)) (hb : Ex C G Γ b mb (vA B)) : It C G Γ .range [a, b] (ma.bind fun x => mb.bind fun y => rg2 x y) [] := fun ρ s => by
  have ha := ha ρ s
  have hb := hb ρ s
  cases ma with
  | ok x =>
    obtain ⟨d, al, h1, v⟩ := ha
    rw [v.1.im rfl, v.2.2 rfl] at h1
    cases mb with
    | ok y =>
      obtain ⟨d2, bl, h2, v2⟩ := hb
      rw [v2.1.im rfl, v2.2.2 rfl] at h2
      have hs : seqR (evs C G [a, b] ρ) = .ok [.v (.int x), .v (.int y)] [] := by rw [e22, e22, e21, s17, s17, h1, s3, h2, s3, s16, s6, s6]; rfl
      rw [M.ok_bind, M.ok_bind]
      unfold rg2 M.when
      by_cases hx : rgOk x y = true
      · rw [if_pos hx]
        refine ⟨_, _, true, [], hs, ?_, by simp, by simp⟩
        show (if rgOk x y then some ((rgI x y).map PyData.int, true, ([] : Al)) else none) = _
        rw [if_pos hx]; rfl
      · rw [if_neg hx]; trivial
    | exc c => show seqR _ = _; rw [e22, e22, s17, s17, h1, s3, show (ev C G b ρ).e = .exc c from hb]; rfl
    | stuck => trivial
  | exc c => show seqR _ = _; rw [e22, s17, show (ev C G a ρ).e = .exc c from ha]; rfl
  | stuck => trivial
def enumI (xs : List α) : List (T2 Int α) := xs.mapIdx fun k x => ⟨k, x⟩
theorem enumP_enc [En α] {xs : List α} : enumP (xs.map enc) = (enumI xs).map enc := by
  unfold enumP enumI
  refine List.ext_getElem? fun i => ?_
  rw [List.getElem?_mapIdx, List.getElem?_map, List.getElem?_map, List.getElem?_mapIdx]
  cases xs[i]? <;> rfl
theorem itE [En α] {m : M (List α)} (h : Ex C G Γ e m (vA A)) : It C G Γ .enum [e] (m.bind fun x => .ok (enumI x)) A := It.of1 (B := A) h fun x d al v => by
  obtain ⟨w, al2, h1, h2⟩ := elems_l v
  refine ⟨w, al2, ?_, h2⟩
  show (match data d with
      | some (.list _) => (elems d al).map fun (z : List PyData × Bool × Al) => (enumP z.1, z.2.1, z.2.2)
      | _ => none) = _
  rw [show data d = some (.list (x.map enc)) from v.data, h1]
  simp only [Option.map_some]
  rw [enumP_enc]
def zipT (xs : List α) (ys : List β) : List (T2 α β) := xs.zipWith T2.mk ys
theorem zipP_enc [En α] [En β] {xs : List α} {ys : List β} : zipP (xs.map enc) (ys.map enc) = (zipT xs ys).map enc := by
  unfold zipP zipT
  rw [List.zipWith_map, List.map_zipWith]
  rfl
theorem itZ [En α] [En β] [Im α] [Im β] {ma : M (List α)} {mb : M (List β)} (ha : Ex C G Γ a ma (vA A)) (hb : Ex C G Γ b mb (vA B)) : It C G Γ .zip [a, b] (ma.bind fun x => mb.bind fun y => .ok (zipT x y)) (A ++ B) := fun ρ s => by
  have ha := ha ρ s
  have hb := hb ρ s
  cases ma with
  | ok x =>
    obtain ⟨d, al, h1, v⟩ := ha
    cases mb with
    | ok y =>
      obtain ⟨d2, bl, h2, v2⟩ := hb
      have hs : seqR (evs C G [a, b] ρ) = .ok [d, d2] (al ++ bl) := by rw [e22, e22, e21, s17, s17, h1, s3, h2, s3, s16, s6, s6, List.append_nil]
      refine ⟨_, _, isNews [d, d2], [], hs, ?_, fun i hi => ?_, by simp⟩
      · show (match data d with
          | some (.list ps) => match data d2 with
            | some (.list qs) => if mutDs ps || mutDs qs then none else some (zipP ps qs, isNews [d, d2], [])
            | _ => none
          | _ => none) = _
        rw [show data d = some (.list (x.map enc)) from v.data]
        simp only
        rw [show data d2 = some (.list (y.map enc)) from v2.data]
        simp only [mutDs_im, Bool.or_self, Bool.false_eq_true, if_false, zipP_enc]
      · rcases List.mem_append.mp hi with hi | hi
        · exact List.mem_append_left _ (v.2.1 i hi)
        · exact List.mem_append_right _ (v2.2.1 i hi)
    | exc c => show seqR _ = _; rw [e22, e22, s17, s17, h1, s3, show (ev C G b ρ).e = .exc c from hb]; rfl
    | stuck => trivial
  | exc c => show seqR _ = _; rw [e22, s17, show (ev C G a ρ).e = .exc c from ha]; rfl
  | stuck => trivial
/-! ### targets -/
def Tgt [En α] (Γ : List Sl) (t : Tg) (x : α) (Γ' : List Sl) : Prop := ∀ ρ w, St Γ ρ → ∃ ρ', setT t w (enc x) ρ = some ρ' ∧ St Γ' ρ'
theorem tgN [En α] {i : Nat} {x : α} : Tgt Γ (.name i) x (sG Γ i (.S .R (enc x))) := fun ρ w s => ⟨_, rfl, s.set (MR.fz w _)⟩
theorem tg2 [En α] [En β] {i j : Nat} {t : T2 α β} : Tgt Γ (.tup [i, j]) t (sG (sG Γ i (.S .R (enc t.a))) j (.S .R (enc t.b))) := fun ρ w s => ⟨_, rfl, (s.set (MR.fz w _)).set (MR.fz w _)⟩
theorem tg3 [En α] [En β] [En γ] {i j k : Nat} {t : T3 α β γ} : Tgt Γ (.tup [i, j, k]) t (sG (sG (sG Γ i (.S .R (enc t.a))) j (.S .R (enc t.b))) k (.S .R (enc t.c))) := fun ρ w s => ⟨_, rfl, ((s.set (MR.fz w _)).set (MR.fz w _)).set (MR.fz w _)⟩
theorem tg4 [En α] [En β] [En γ] [En δ] {i j k l : Nat} {t : T4 α β γ δ} : Tgt Γ (.tup [i, j, k, l]) t (sG (sG (sG (sG Γ i (.S .R (enc t.a))) j (.S .R (enc t.b))) k (.S .R (enc t.c))) l (.S .R (enc t.d))) := fun ρ w s => ⟨_, rfl, (((s.set (MR.fz w _)).set (MR.fz w _)).set (MR.fz w _)).set (MR.fz w _)⟩
/-! ### comprehensions -/
def lcM (c : α → M Bool) (f : α → M β) : List α → M (List β)
  | [] => .ok []
  | x :: xs => match c x with
    | .ok true => match f x with
      | .ok y => match lcM c f xs with
        | .ok ys => .ok (y :: ys)
        | _ => .stuck
      | _ => .stuck
    | .ok false => lcM c f xs
    | _ => .stuck
def Cs (C : Cal) (G : Glo) (Γ : List Sl) (es : List E) (m : M Bool) : Prop := ∀ ρ, St Γ ρ → TM (allT (evs C G es ρ)) m
theorem csN : Cs C G Γ [] (.ok true) := fun ρ s => rfl
theorem csC {m k : M Bool} (h : Tr C G Γ e m) (t : Cs C G Γ es k) : Cs C G Γ (e :: es) (m.bind fun b => if b then k else .ok false) := fun ρ s => by
  show TM ((ev C G e ρ).t.bindT fun b => if b then allT (evs C G es ρ) else .ok false) _
  refine (h ρ s).bindT fun b => ?_
  cases b with
  | true => exact t ρ s
  | false => rfl
theorem cs1 {m : M Bool} (h : Tr C G Γ e m) : Cs C G Γ [e] m := fun ρ s => by
  have := csC h (csN (C := C) (G := G) (Γ := Γ)) ρ s
  cases m with
  | ok b => cases b <;> exact this
  | exc c => exact this
  | stuck => trivial
theorem csP {u v : Bool} {m k : M Bool} (h : Tr C G Γ e m) (hm : m = .ok u) (t : Cs C G Γ es k) (hk : k = .ok v) : Cs C G Γ (e :: es) (.ok (u && v)) := by
  subst hm hk
  have := csC h t
  cases u <;> exact this
theorem xLc [En α] [En β] {own : List Nat} {k : Sk} {tg : Tg} {μ : Mo} {m : M (List α)} {Γt : α → List Sl} {mc : α → M Bool} {me : α → M β} (hi : It C G Γ k es m A) (ht : ∀ x, Tgt (wG Γ own) tg x (Γt x)) (hc : ∀ x, Cs C G (Γt x) fs (mc x)) (he : ∀ x, Ex C G (Γt x) e (me x) (vM μ B)) :
    Ex C G Γ (.lc own k es tg fs e) (m.bind fun xs => lcM mc me xs) (vM (.O μ) (A ++ B)) := fun ρ s => by
  have hi := hi ρ s
  rw [e20, s11]
  cases m with
  | ok xs =>
    obtain ⟨ds, al, w, al2, h1, h2, h3, h4⟩ := hi
    rw [h1, s5]
    unfold lcI
    rw [h2]
    simp only
    have key : ∀ xs : List α, match lcM mc me xs with
        | .ok ys => ∃ ds bl, lcT C G own tg fs e ρ (xs.map enc) w = .ok ds bl ∧ All2 (MR μ) ds (ys.map enc) ∧ ∀ i ∈ bl, i ∈ B
        | .exc _ => False
        | .stuck => True := fun xs => by
      induction xs with
      | nil => exact ⟨[], [], rfl, .nil, by simp⟩
      | cons x xs ih =>
        obtain ⟨ρ', t1, t2⟩ := ht x _ w (s.wipe own)
        have hc := hc x ρ' t2
        have he := he x ρ' t2
        unfold lcT at ih ⊢
        rw [List.map_cons]
        unfold lcM lcR
        rw [t1]
        simp only
        cases q1 : mc x with
        | stuck => trivial
        | exc c => trivial
        | ok b =>
          rw [q1] at hc
          rw [show allT (evs C G fs ρ') = .ok b from hc]
          cases b with
          | false => exact ih
          | true =>
            simp only
            cases q2 : me x with
            | stuck => trivial
            | exc c => trivial
            | ok y =>
              rw [q2] at he
              obtain ⟨d, bl, g1, v⟩ := he
              rw [g1]
              simp only
              cases q3 : lcM mc me xs with
              | stuck => trivial
              | exc c => trivial
              | ok ys =>
                rw [q3] at ih
                obtain ⟨ds, cl, i1, i2, i3⟩ := ih
                rw [i1]
                refine ⟨_, _, rfl, .cons v.1 i2, fun i hi => ?_⟩
                rcases List.mem_append.mp hi with hi | hi
                · exact v.2.1 i hi
                · exact i3 i hi
    have key := key xs
    show RM _ (lcM mc me xs) _
    cases q : lcM mc me xs with
    | stuck => trivial
    | exc c => rw [q] at key; exact key.elim
    | ok ys =>
      rw [q] at key
      obtain ⟨es', bl, k1, k2, k3⟩ := key
      rw [k1]
      unfold lcO
      refine ⟨_, _, rfl, ⟨_, _, rfl, rfl, k2⟩, fun i hi => ?_, fun z => nomatch z⟩
      split at hi
      · simp at hi
      · rcases List.mem_append.mp hi with hi | hi
        · exact List.mem_append_left _ (h4 i hi)
        · exact List.mem_append_right _ (k3 i hi)
  | exc c => show _ = _; rw [show seqR (evs C G es ρ) = .exc c from hi]; rfl
  | stuck => trivial
theorem lcM_fil {c : α → Bool} {f : α → β} : ∀ xs : List α, lcM (fun x => .ok (c x)) (fun x => .ok (f x)) xs = .ok ((xs.filter c).map f)
  | [] => rfl
  | x :: xs => by
    unfold lcM
    rw [lcM_fil xs]
    cases h : c x with
    | true => simp [List.filter_cons, h]
    | false => simp [List.filter_cons, h]
theorem lcM_map {f : α → β} (xs : List α) : lcM (fun _ => .ok true) (fun x => .ok (f x)) xs = .ok (xs.map f) := by
  rw [lcM_fil, List.filter_eq_self.mpr fun _ _ => rfl]
/-- all go well -/
theorem lcM_ok {c : α → M Bool} {f : α → M β} {b : α → Bool} {g : α → β} : ∀ {xs : List α}, (∀ x ∈ xs, c x = .ok (b x) ∧ (b x = true → f x = .ok (g x))) → lcM c f xs = .ok ((xs.filter b).map g)
  | [], _ => rfl
  | x :: xs, h => by
    obtain ⟨h1, h2⟩ := h x List.mem_cons_self
    unfold lcM
    rw [h1, lcM_ok fun y hy => h y (List.mem_cons_of_mem _ hy)]
    cases e : b x with
    | true => simp [h2 e, List.filter_cons, e]
    | false => simp [List.filter_cons, e]
theorem lcM_okm {f : α → M β} {g : α → β} {xs : List α} (h : ∀ x ∈ xs, f x = .ok (g x)) : lcM (fun _ => .ok true) f xs = .ok (xs.map g) := by
  rw [lcM_ok (b := fun _ => true) fun x hx => ⟨rfl, fun _ => h x hx⟩, List.filter_eq_self.mpr fun _ _ => rfl]
theorem xLcM [En α] [En β] {own : List Nat} {k : Sk} {tg : Tg} {μ : Mo} {m : M (List α)} {Γt : α → List Sl} {f : α → β} {me : α → M β} (hi : It C G Γ k es m A) (ht : ∀ x, Tgt (wG Γ own) tg x (Γt x)) (he : ∀ x, Ex C G (Γt x) e (me x) (vM μ B)) (hf : ∀ x, me x = .ok (f x)) :
    Ex C G Γ (.lc own k es tg [] e) (m.bind fun xs => .ok (xs.map f)) (vM (.O μ) (A ++ B)) := by
  have hf : me = fun x => .ok (f x) := funext hf
  subst hf
  have := xLc hi ht (fun x => csN) he
  simpa only [lcM_map] using this
theorem xLcF [En α] [En β] {own : List Nat} {k : Sk} {tg : Tg} {μ : Mo} {m : M (List α)} {Γt : α → List Sl} {c : α → Bool} {f : α → β} {mc : α → M Bool} {me : α → M β} (hi : It C G Γ k es m A) (ht : ∀ x, Tgt (wG Γ own) tg x (Γt x)) (hc : ∀ x, Cs C G (Γt x) fs (mc x)) (hg : ∀ x, mc x = .ok (c x)) (he : ∀ x, Ex C G (Γt x) e (me x) (vM μ B)) (hf : ∀ x, me x = .ok (f x)) :
    Ex C G Γ (.lc own k es tg fs e) (m.bind fun xs => .ok ((xs.filter c).map f)) (vM (.O μ) (A ++ B)) := by
  have hf : me = fun x => .ok (f x) := funext hf
  have hg : mc = fun x => .ok (c x) := funext hg
  subst hf hg
  have := xLc hi ht hc he
  simpa only [lcM_fil] using this
/-! ### calls -/
def Fx (C : Cal) (f : Nat) (ps : List PyData) (m : M β) (ι : β → Vt) : Prop := match m with
  | .ok b => ∃ d, C f ps = .ok d ∧ MR (ι b).m d (ι b).p
  | .exc c => C f ps = .exc c
  | .stuck => True
theorem xCall {τ : Type} {f : Nat} {m : M τ} {ps : τ → List PyData} [En β] {F : τ → M β} {μ : Mo} (h : As C G Γ es m ps A) (hF : ∀ z, Fx C f (ps z) (F z) (vM μ [])) : Ex C G Γ (.call f es) (m.bind F) (vM μ A) := fun ρ s => by
  have := h ρ s
  rw [e12, s11]
  cases m with
  | ok z =>
    obtain ⟨ds, al, h1, h2, h3, h4⟩ := this
    rw [h1, s5]
    unfold calD
    rw [h2.datas fun _ _ => MR.data]
    show RM (callR (C f (ps z)) al) (F z) _
    have hF := hF z
    unfold Fx at hF
    cases q : F z with
    | stuck => trivial
    | exc c => rw [q] at hF; rw [show C f (ps z) = .exc c from hF]; rfl
    | ok b =>
      rw [q] at hF
      obtain ⟨d, g1, g2⟩ := hF
      rw [g1]
      unfold callR
      simp only
      split
      · rename_i hv
        refine ⟨_, _, rfl, g2, h3, fun z => ?_⟩
        rw [g2.im z] at hv
        have : mutD (enc b) = true := hv
        rw [show mutD (enc b) = false from z] at this; cases this
      · exact ⟨_, _, rfl, g2.own, by simp, fun _ => rfl⟩
  | exc c => show _ = _; rw [show seqR (evs C G es ρ) = .exc c from this]; rfl
  | stuck => trivial
/-! ### lists of what is never changed -/
theorem Ex.li [En α] [Im α] {μ : Mo} {m : M (List α)} (h : ∀ ρ, St Γ ρ → match m with
    | .ok xs => ∃ ds, (ev C G e ρ).e = .ok (.ol ds) [] ∧ All2 (MR μ) ds (xs.map enc)
    | .exc c => (ev C G e ρ).e = .exc c
    | .stuck => True) : Ex C G Γ e m (vM (.O μ) []) := fun ρ s => by
  have := h ρ s
  cases m with
  | ok xs => obtain ⟨ds, h1, h2⟩ := this; exact ⟨_, _, h1, ⟨_, _, rfl, rfl, h2⟩, by simp, fun _ => rfl⟩
  | exc c => exact this
  | stuck => trivial
theorem RM.mkLi [En α] [Im α] {b : Bool} {al : Al} {xs : List α} {ps : List PyData} (hp : ps = xs.map enc) : RM (Hv.mkL b ps al) (.ok xs) (vM (.O .R) []) := by
  subst hp
  unfold Hv.mkL
  rw [mutDs_im]
  exact ⟨_, _, rfl, ⟨_, _, rfl, rfl, All2.v _⟩, by simp, fun z => nomatch z⟩
theorem oCatLi [En α] [Im α] : O2 (α := List α) .add A B catL (vM (.O .R) []) := fun w al x y h => by
  unfold catL M.when
  split
  · rename_i hl
    show RM (if (x.map enc).length + (y.map enc).length ≤ SZ then mkL w (x.map enc ++ y.map enc) al else .stuck) _ _
    rw [List.length_map, List.length_map, if_pos (show _ ≤ SZ from of_decide_eq_true hl)]
    exact RM.mkLi (by rw [List.map_append])
  · trivial
theorem bListi [En α] [Im α] (x : List α) (d : D) (al : Al) (v : VR (vA A x) d al) : RM (bi1 .list d al) (.ok x) (vM (.O .R) []) := by
  have h : data d = some (.list (x.map enc)) := v.data
  simp only [bi1, h]
  exact RM.mkLi rfl
theorem bListUi [En α] [Im α] (x : Tu α) (d : D) (al : Al) (v : VR (vA A x) d al) : RM (bi1 .list d al) (.ok x.l) (vM (.O .R) []) := by
  have h : data d = some (.tuple (x.l.map enc)) := v.data
  simp only [bi1, h]
  exact RM.mkLi rfl
theorem xSli [En α] [Im α] {lo hi : Option E} {ma : M (List α)} {ml mh : M (Option Int)} (ha : Ex C G Γ a ma (vA A)) (hl : Oe C G Γ lo ml) (hh : Oe C G Γ hi mh) : Ex C G Γ (.sl a lo hi) (ma.bind fun x => ml.bind fun l => mh.bind fun h => .ok (cutP x l h)) (vM (.O .R) []) := fun ρ s => by
  rw [e17, s11]
  refine (ha ρ s).bind fun x d al v => hl.bind s fun l => hh.bind s fun h => ?_
  unfold slR
  rw [show data d = some (.list (x.map enc)) from v.data]
  exact RM.mkLi cutP_mp
theorem xRevi [En α] [Im α] {ma : M (List α)} (ha : Ex C G Γ a ma (vA A)) : Ex C G Γ (.rev a) (ma.bind fun x => .ok x.reverse) (vM (.O .R) []) := fun ρ s => by
  show RM ((ev C G a ρ).e.bind fun x al => revD x al) _ _
  refine (ha ρ s).bind fun x d al v => ?_
  unfold revD
  rw [show data d = some (.list (x.map enc)) from v.data]
  exact RM.mkLi (by rw [List.map_reverse])
/-- what is never changed shares with nobody -/
theorem plain_im : ∀ {ds : List D} {ps : List PyData}, All2 (MR .R) ds ps → mutDs ps = false → ds.all plainD = true
  | _, _, .nil, _ => rfl
  | _, _, .cons a t, h => by
    rw [md5, Bool.or_eq_false_iff] at h
    rw [List.all_cons, plain_im t h.2, a.im h.1]
    simp [plainD, h.1]
theorem xLci [En α] [Im α] {own : List Nat} {k : Sk} {args : List E} {tg : Tg} {m : M (List α)} (h : Ex C G Γ (.lc own k args tg fs e) m (vM (.O .R) A)) : Ex C G Γ (.lc own k args tg fs e) m (vM (.O .R) []) := fun ρ s => by
  have := h ρ s
  cases m with
  | ok xs =>
    obtain ⟨d, al, h1, ⟨ds, ps, h2, h3, h4⟩, v2, v3⟩ := this
    have h3' : ps = xs.map enc := by injection (show PyData.list (xs.map enc) = .list ps from h3) with h; exact h.symm
    subst h3' h2
    refine ⟨_, _, h1, ⟨ds, _, rfl, rfl, h4⟩, ?_, fun z => nomatch z⟩
    have hp := plain_im h4 (mutDs_im xs)
    have hal : al = [] := by
      rw [e20, s11] at h1
      cases q : seqR (evs C G args ρ) with
      | ok ds' al' =>
        rw [q, s5] at h1
        unfold lcI at h1
        cases q2 : itemsR k ds' al' with
        | none => rw [q2] at h1; cases h1
        | some z =>
          rw [q2] at h1
          simp only at h1
          unfold lcO at h1
          split at h1
          · injection h1 with h1 h5
            injection h1 with h1
            subst h1
            rw [if_pos hp] at h5
            exact h5.symm
          · cases h1
      | exc c => rw [q] at h1; cases h1
      | stuck => rw [q] at h1; cases h1
    rw [hal]; simp
  | exc c => exact this
  | stuck => trivial
end
end Hv

/-! Ty, part 4: statements with kinds. -/
namespace Hv
open PySem
open En (enc)

/-- how a suite ends -/
inductive Rs (σ τ β : Type) where
  | next (s : σ)
  | brk (s : τ)
  | cnt (s : τ)
  | ret (b : β)
  | exc (c : Str)
  | stuck
section
variable {σ σ' τ β α : Type}
def M.bindS (m : M α) (f : α → Rs σ τ β) : Rs σ τ β := match m with
  | .ok a => f a
  | .exc c => .exc c
  | .stuck => .stuck
def Rs.seq (r : Rs σ τ β) (f : σ → Rs σ' τ β) : Rs σ' τ β := match r with
  | .next s => f s
  | .brk s => .brk s
  | .cnt s => .cnt s
  | .ret b => .ret b
  | .exc c => .exc c
  | .stuck => .stuck
def Rs.toM (r : Rs σ Empty β) : M β := match r with
  | .ret b => .ok b
  | .exc c => .exc c
  | _ => .stuck
def Rs.toN (z : β) (r : Rs σ Empty β) : M β := match r with
  | .ret b => .ok b
  | .next _ => .ok z
  | .exc c => .exc c
  | _ => .stuck
/-- a loop over items -/
def forL (body : α → σ → Rs σ σ β) : List α → σ → Rs σ τ β
  | [], s => .next s
  | x :: xs, s => match body x s with
    | .next s' => forL body xs s'
    | .cnt s' => forL body xs s'
    | .brk s' => .next s'
    | .ret b => .ret b
    | .exc c => .exc c
    | .stuck => .stuck
def whT (c : σ → M Bool) (body : σ → Rs σ σ β) : Nat → σ → Rs σ τ β
  | 0, _ => .stuck
  | n + 1, s => match c s with
    | .ok true => match body s with
      | .next s' => whT c body n s'
      | .cnt s' => whT c body n s'
      | .brk s' => .next s'
      | .ret b => .ret b
      | .exc c => .exc c
      | .stuck => .stuck
    | .ok false => .next s
    | .exc c => .exc c
    | .stuck => .stuck
open Classical in
noncomputable def whL (c : σ → M Bool) (body : σ → Rs σ σ β) (s : σ) : Rs σ τ β := if h : ∃ n, whT (τ := τ) c body n s ≠ .stuck then whT c body (choose h) s else .stuck
end
structure Pst (σ τ : Type) where
  n : σ → List Sl
  l : τ → List Sl
  r : Mo
  X : Env → Prop
def SR {σ τ β : Type} [En β] (r : RS) (m : Rs σ τ β) (P : Pst σ τ) : Prop := match m with
  | .next s => ∃ ρ', r = .next ρ' ∧ St (P.n s) ρ'
  | .brk s => ∃ ρ', r = .brk ρ' ∧ St (P.l s) ρ'
  | .cnt s => ∃ ρ', r = .cnt ρ' ∧ St (P.l s) ρ'
  | .ret b => ∃ d, r = .ret d ∧ MR P.r d (enc b)
  | .exc c => ∃ ρ', r = .exc c ρ' ∧ P.X ρ'
  | .stuck => True
def Sx {σ τ β : Type} [En β] (C : Cal) (G : Glo) (B : Sub) (Γ : List Sl) (ss : List S) (m : Rs σ τ β) (P : Pst σ τ) : Prop := ∀ ρ, St Γ ρ → SR (svs C G B ss ρ) m P
section
variable {α γ σ σ' τ β : Type} [En β] {C : Cal} {G : Glo} {B : Sub} {Γ Γ' : List Sl} {e x c : E} {ss a b : List S} {es : List E} {P : Pst σ τ} {A A' : List Nat} {i j : Nat} {μ : Mo}
theorem SR.bindM {r : R} {m : M α} {ι : α → Vt} {ρ : Env} {f : D → Al → RS} {k : α → Rs σ τ β} (h : RM r m ι) (hx : P.X ρ) (hk : ∀ a d al, VR (ι a) d al → SR (f d al) (k a) P) : SR (r.bindS ρ f) (m.bindS k) P := by
  cases m with
  | ok a => obtain ⟨d, al, rfl, v⟩ := h; exact hk a d al v
  | exc c => cases h; exact ⟨ρ, rfl, hx⟩
  | stuck => trivial
theorem SR.bindT {t : TR} {m : M Bool} {ρ : Env} {f : Bool → RS} {k : Bool → Rs σ τ β} (h : TM t m) (hx : P.X ρ) (hk : ∀ b, SR (f b) (k b) P) : SR (t.bindS ρ f) (m.bindS k) P := by
  cases m with
  | ok a => cases h; exact hk a
  | exc c => cases h; exact ⟨ρ, rfl, hx⟩
  | stuck => trivial
theorem SR.seq {r : RS} {m : Rs σ' τ β} {n : σ' → List Sl} {f : Env → RS} {k : σ' → Rs σ τ β} (h : SR r m ⟨n, P.l, P.r, P.X⟩) (hk : ∀ s ρ, St (n s) ρ → SR (f ρ) (k s) P) : SR (seqS r f) (m.seq k) P := by
  cases m with
  | next s => obtain ⟨ρ', rfl, h⟩ := h; exact hk s ρ' h
  | brk s => obtain ⟨ρ', rfl, h⟩ := h; exact ⟨ρ', rfl, h⟩
  | cnt s => obtain ⟨ρ', rfl, h⟩ := h; exact ⟨ρ', rfl, h⟩
  | ret b => obtain ⟨ρ', rfl, h⟩ := h; exact ⟨ρ', rfl, h⟩
  | exc c => obtain ⟨ρ', rfl, h⟩ := h; exact ⟨ρ', rfl, h⟩
  | stuck => trivial
theorem sNil {s : σ} (h : Le Γ (P.n s)) : Sx (β := β) C G B Γ [] (.next s) P := fun ρ q => ⟨ρ, by rw [show svs C G B [] ρ = .next ρ by simp only [svs]], h ρ q⟩
theorem svs_c {s : S} {ρ : Env} : svs C G B (s :: ss) ρ = seqS (sv C G B s ρ) (svs C G B ss) := by
  exact t0
theorem seq_n {ρ : Env} {f : Env → RS} : seqS (.next ρ) f = f ρ := rfl
theorem bindS_seq {r : R} {ρ : Env} {f : D → Al → RS} {g : Env → RS} : seqS (r.bindS ρ f) g = r.bindS ρ fun d al => seqS (f d al) g := by cases r <;> rfl
theorem bindT_seq {r : TR} {ρ : Env} {f : Bool → RS} {g : Env → RS} : seqS (r.bindS ρ f) g = r.bindS ρ fun d => seqS (f d) g := by cases r <;> rfl
theorem sAsg [En α] {m : M α} {k : α → Rs σ τ β} (hX : ∀ ρ, St Γ ρ → P.X ρ) {m' : M α} (he : Ex C G Γ e m' (vM μ A)) (hm : m = m') (hk : ∀ x, Sx C G B (sG (frG A Γ) i (.S μ (enc x))) ss (k x) P) : Sx C G B Γ (.asg i e :: ss) (m.bindS k) P := fun ρ s => by
  subst hm
  rw [svs_c]
  simp only [sv, bindS_seq]
  refine SR.bindM (he ρ s) (hX ρ s) fun x d al v => ?_
  exact hk x _ ((s.frz v.2.1).set v.1)
theorem sAsgT [En α] {is : List Nat} {m : M α} {Γt : α → List Sl} {k : α → Rs σ τ β} (hX : ∀ ρ, St Γ ρ → P.X ρ) {m' : M α} (he : Ex C G Γ e m' (vA A)) (hm : m = m') (ht : ∀ x, Tgt (frG A Γ) (.tup is) x (Γt x)) (hk : ∀ x, Sx C G B (Γt x) ss (k x) P) : Sx C G B Γ (.asgT is e :: ss) (m.bindS k) P := fun ρ s => by
  subst hm
  rw [svs_c]
  simp only [sv, bindS_seq]
  refine SR.bindM (he ρ s) (hX ρ s) fun x d al v => ?_
  rw [v.data]
  obtain ⟨ρ', h1, h2⟩ := ht x _ (isNew d) (s.frz v.2.1)
  simp only [h1]
  exact hk x _ h2
theorem sAug {y : Int} {m' : Mo} {m : M Int} {k : Int → Rs σ τ β} (hX : ∀ ρ, St Γ ρ → P.X ρ) (hg : gG Γ i = .S m' (enc y)) {m2 : M Int} (he : Ex C G Γ e m2 (vA A)) (hm : m = m2) (hk : ∀ x, Sx C G B (sG Γ i (.S .R (enc x))) ss (k x) P) : Sx C G B Γ (.aug i .add e :: ss) (m.bindS fun x => k (y + x)) P := fun ρ s => by
  subst hm
  obtain ⟨d0, h1, h2⟩ := s.at_ i m' _ hg
  rw [h2.im rfl] at h1
  rw [svs_c, t20, h1]
  have := he ρ s
  cases m with
  | ok x =>
    obtain ⟨d, al, e1, v⟩ := this
    rw [e1, v.1.im rfl]
    show SR (seqS (augD i .add ρ (.ok (.v (.int x)) al) (some (some (.v (.int y))))) _) _ _
    rw [t21]
    exact hk _ _ (s.set (MR.v _))
  | exc c => rw [show (ev C G e ρ).e = .exc c from this]; exact ⟨ρ, rfl, hX ρ s⟩
  | stuck => trivial
theorem sSub {y : Int} {m' : Mo} {m : M Int} {k : Int → Rs σ τ β} (hX : ∀ ρ, St Γ ρ → P.X ρ) (hg : gG Γ i = .S m' (enc y)) {m2 : M Int} (he : Ex C G Γ e m2 (vA A)) (hm : m = m2) (hk : ∀ x, Sx C G B (sG Γ i (.S .R (enc x))) ss (k x) P) : Sx C G B Γ (.aug i .sub e :: ss) (m.bindS fun x => k (y - x)) P := fun ρ s => by
  subst hm
  obtain ⟨d0, h1, h2⟩ := s.at_ i m' _ hg
  rw [h2.im rfl] at h1
  rw [svs_c, t20, h1]
  have := he ρ s
  cases m with
  | ok x =>
    obtain ⟨d, al, e1, v⟩ := this
    rw [e1, v.1.im rfl]
    show SR (seqS (augD i .sub ρ (.ok (.v (.int x)) al) (some (some (.v (.int y))))) _) _ _
    rw [t22]
    exact hk _ _ (s.set (MR.v _))
  | exc c => rw [show (ev C G e ρ).e = .exc c from this]; exact ⟨ρ, rfl, hX ρ s⟩
  | stuck => trivial
/-! ### lists of one's own -/
def pushM (xs : List α) (x : α) : M (List α) := M.when (decide (xs.length < 16777216)) (xs ++ [x])
def setM (xs : List α) (j : Int) (x : α) : M (List α) := match L2.ixN xs.length j with
  | some n => .ok (xs.set n x)
  | none => .stuck
def M.tot (m : M α) : M α := match m with
  | .ok a => .ok a
  | _ => .stuck
theorem app_MR [En α] {ds : List D} {xs : List α} {d : D} {y : α} (h : All2 (MR μ) ds (xs.map enc)) (hd : MR μ d (enc y)) : match pushM xs y with
    | .ok ys => ∃ es, appF d ds = some es ∧ All2 (MR μ) es (ys.map enc)
    | .exc _ => False
    | .stuck => True := by
  unfold pushM M.when
  by_cases hl : xs.length < 16777216
  · rw [if_pos (decide_eq_true hl)]
    refine ⟨ds ++ [d], ?_, ?_⟩
    · unfold appF
      rw [h.len, List.length_map, if_pos (show _ < SZ from hl)]
    · rw [List.map_append]
      exact h.app (.cons hd .nil)
  · rw [if_neg (by simpa using hl)]; trivial
theorem set_MR [En α] {ds : List D} {xs : List α} {d : D} {y : α} {j : Int} (h : All2 (MR μ) ds (xs.map enc)) (hd : MR μ d (enc y)) : match setM xs j y with
    | .ok ys => ∃ es, setF j d ds = some es ∧ All2 (MR μ) es (ys.map enc)
    | .exc _ => False
    | .stuck => True := by
  unfold setM setF
  rw [h.len, List.length_map]
  cases L2.ixN xs.length j with
  | none => trivial
  | some n => exact ⟨_, rfl, by rw [List.map_set]; exact h.set hd n⟩
theorem upd_ok {f : List D → Option (List D)} {al : Al} {ρ : Env} {js : List Int} {d0 d1 : D} (h0 : ρ[i]? = some (some d0)) (hu : updD d0 js f = some d1) (hi : i ∉ al) : updR i js f al ρ = .next ((frz al ρ).set i (some d1)) := by
  unfold updR
  rw [h0]
  simp only [hu]
  rw [if_neg (by simpa using hi)]
theorem sApp [En α] {xs : List α} {m : M α} {k : List α → Rs σ τ β} (hX : ∀ ρ, St Γ ρ → P.X ρ) (hg : gG Γ i = .S (.O μ) (enc xs)) {m' : M α} (he : Ex C G Γ e m' (vM μ A)) (hm : m = m') (hi : A.contains i = false) (hk : ∀ ys, Sx C G B (sG (frG A Γ) i (.S (.O μ) (enc ys))) ss (k ys) P) : Sx C G B Γ (.app i [] e :: ss) (m.bindS fun x => (pushM xs x).bindS k) P := fun ρ s => by
  subst hm
  obtain ⟨d0, h1, ds, ps, rfl, hp, h3⟩ := s.at_ i _ _ hg
  injection hp with hp
  subst hp
  rw [svs_c]
  simp only [sv]
  rw [show seqR (evs C G [] ρ) = .ok [] [] from rfl, t23]
  have := he ρ s
  cases m with
  | ok x =>
    obtain ⟨d, al, e1, v⟩ := this
    rw [e1, t25]
    have hp := app_MR h3 v.1
    show SR _ ((pushM xs x).bindS k) _
    cases q : pushM xs x with
    | stuck => trivial
    | exc c => rw [q] at hp; exact hp.elim
    | ok ys =>
      rw [q] at hp
      obtain ⟨es', q1, q2⟩ := hp
      have hn : i ∉ al := fun z => by
        have := v.2.1 i z
        simp at hi
        exact hi this
      rw [upd_ok h1 (d1 := .ol es') (by simp only [updD, q1]) hn]
      exact hk ys _ ((s.frz v.2.1).set ⟨es', _, rfl, rfl, q2⟩)
  | exc c =>
    rw [show (ev C G e ρ).e = .exc c from this]
    refine ⟨ρ, ?_, hX ρ s⟩
    simp only [appR, okP, h1, updD, Option.isSome_some, if_true]
    rfl
  | stuck => trivial
theorem sSet [En α] {xs : List α} {m : M α} {mj : M Int} {k : List α → Rs σ τ β} (hX : ∀ ρ, St Γ ρ → P.X ρ) (hg : gG Γ i = .S (.O μ) (enc xs)) {m' : M α} {mj' : M Int} (he : Ex C G Γ e m' (vM μ A)) (hm : m = m') (hj : Ex C G Γ x mj' (vA A')) (hmj : mj = mj') (hi : A.contains i = false) (hk : ∀ ys, Sx C G B (sG (frG A Γ) i (.S (.O μ) (enc ys))) ss (k ys) P) : Sx C G B Γ (.seti i [] x e :: ss) (m.bindS fun y => mj.bindS fun j => (setM xs j y).bindS k) P := fun ρ s => by
  subst hm hmj
  obtain ⟨d0, h1, ds, ps, rfl, hp, h3⟩ := s.at_ i _ _ hg
  injection hp with hp
  subst hp
  rw [svs_c, t_seti, bindS_seq]
  refine SR.bindM (he ρ s) (hX ρ s) fun y d al v => ?_
  rw [show seqR (evs C G [] ρ) = .ok [] [] from rfl, t23]
  have := hj ρ s
  cases mj with
  | ok j =>
    obtain ⟨d2, bl, e1, w⟩ := this
    rw [e1, w.1.im rfl]
    show SR (seqS (setR i (some []) (.ok (.v (.int j)) bl) d al ρ) _) _ _
    rw [setR_eq]
    have hp := set_MR (j := j) h3 v.1
    show SR _ ((setM xs j y).bindS k) _
    cases q : setM xs j y with
    | stuck => trivial
    | exc c => rw [q] at hp; exact hp.elim
    | ok ys =>
      rw [q] at hp
      obtain ⟨es', q1, q2⟩ := hp
      have hn : i ∉ al := fun z => by
        have := v.2.1 i z
        simp at hi
        exact hi this
      rw [upd_ok h1 (d1 := .ol es') (by simp only [updD, q1]) hn]
      exact hk ys _ ((s.frz v.2.1).set ⟨es', _, rfl, rfl, q2⟩)
  | exc c =>
    rw [show (ev C G x ρ).e = .exc c from this]
    refine ⟨ρ, ?_, hX ρ s⟩
    simp only [setR, okP, h1, updD, Option.isSome_some, if_true]
    rfl
  | stuck => trivial
/-- a row of a table of one's own, changed -/
def rowM (xss : List (List α)) (j : Int) (f : List α → M (List α)) : M (List (List α)) := match L2.ixN xss.length j with
  | some n => match xss[n]? with
    | some xs => match f xs with
      | .ok ys => .ok (xss.set n ys)
      | _ => .stuck
    | none => .stuck
  | none => .stuck
theorem row_upd [En α] {ds : List D} {xss : List (List α)} {j : Int} {f : List D → Option (List D)} {g : List α → M (List α)} (h : All2 (MR (.O μ)) ds (xss.map enc)) (hf : ∀ es xs, All2 (MR μ) es (xs.map enc) → match g xs with
    | .ok ys => ∃ es', f es = some es' ∧ All2 (MR μ) es' (ys.map enc)
    | .exc _ => False
    | .stuck => True) : match rowM xss j g with
    | .ok yss => ∃ es, updD (.ol ds) [j] f = some (.ol es) ∧ All2 (MR (.O μ)) es (yss.map enc)
    | .exc _ => False
    | .stuck => True := by
  unfold rowM
  have hl : ds.length = xss.length := by rw [h.len, List.length_map]
  cases q1 : L2.ixN xss.length j with
  | none => trivial
  | some n =>
    simp only
    cases q2 : xss[n]? with
    | none => trivial
    | some xs =>
      simp only
      obtain ⟨d, q3, es, ps, rfl, hp, q4⟩ := h.get (i := n) (b := enc xs) (by rw [List.getElem?_map, q2]; rfl)
      injection hp with hp
      subst hp
      have hf := hf es xs q4
      cases q5 : g xs with
      | stuck => trivial
      | exc c => trivial
      | ok ys =>
        rw [q5] at hf
        obtain ⟨es', w1, w2⟩ := hf
        refine ⟨ds.set n (.ol es'), ?_, ?_⟩
        · simp only [updD, hl, q1, q3, w1]
        · rw [List.map_set]
          exact h.set (⟨es', _, rfl, rfl, w2⟩ : MR (.O μ) (.ol es') (enc ys)) n
theorem row_some [En α] {ds : List D} {xss : List (List α)} {j : Int} (h : All2 (MR (.O μ)) ds (xss.map enc)) {n : Nat} (hn : L2.ixN xss.length j = some n) (hx : xss[n]? ≠ none) : (updD (.ol ds) [j] some).isSome = true := by
  have hl : ds.length = xss.length := by rw [h.len, List.length_map]
  cases q2 : xss[n]? with
  | none => exact absurd q2 hx
  | some xs =>
    obtain ⟨d, q3, es, ps, rfl, hp, q4⟩ := h.get (i := n) (b := enc xs) (by rw [List.getElem?_map, q2]; rfl)
    simp only [updD, hl, hn, q3, Option.isSome_some]
theorem path1 {p : E} {mj : M Int} {ρ : Env} {j : Int} (hj : Ex C G Γ p (.ok j) (vA A')) (s : St Γ ρ) : pathJ (seqR (evs C G [p] ρ)) = some [j] := by
  obtain ⟨d2, bl, e1, w⟩ := hj ρ s
  rw [e22, e21, s17, e1, w.1.im rfl, s3, s16, s6, List.append_nil]
  rfl
theorem sApp1 [En α] {p : E} {xss : List (List α)} {m : M α} {mj : M Int} {k : List (List α) → Rs σ τ β} (hg : gG Γ i = .S (.O (.O μ)) (enc xss)) {m' : M α} {mj' : M Int} (hj : Ex C G Γ p mj' (vA A')) (hmj : mj = mj') (he : Ex C G Γ e m' (vM μ A)) (hm : m = m') (hi : A.contains i = false) (hk : ∀ ys, Sx C G B (sG (frG A Γ) i (.S (.O (.O μ)) (enc ys))) ss (k ys) P) : Sx C G B Γ (.app i [p] e :: ss) (mj.tot.bindS fun j => m.tot.bindS fun x => (rowM xss j fun xs => pushM xs x).bindS k) P := fun ρ s => by
  subst hm hmj
  cases mj with
  | ok j =>
    obtain ⟨d0, h1, ds, ps, rfl, hp, h3⟩ := s.at_ i _ _ hg
    injection hp with hp
    subst hp
    rw [svs_c]
    simp only [sv]
    rw [path1 (mj := .ok j) hj s]
    have := he ρ s
    cases m with
    | ok x =>
      obtain ⟨d, al, e1, v⟩ := this
      rw [e1, t25]
      have hp := row_upd (j := j) (f := appF d) (g := fun xs => pushM xs x) h3 fun es xs h => app_MR h v.1
      show SR _ ((rowM xss j fun xs => pushM xs x).bindS k) _
      cases q : rowM xss j fun xs => pushM xs x with
      | stuck => trivial
      | exc c => rw [q] at hp; exact hp.elim
      | ok ys =>
        rw [q] at hp
        obtain ⟨es', q1, q2⟩ := hp
        have hn : i ∉ al := fun z => by
          have := v.2.1 i z
          simp at hi
          exact hi this
        rw [upd_ok h1 q1 hn]
        exact hk ys _ ((s.frz v.2.1).set ⟨es', _, rfl, rfl, q2⟩)
    | exc c => trivial
    | stuck => trivial
  | exc c => trivial
  | stuck => trivial
theorem sSet1 [En α] {p : E} {xss : List (List α)} {m : M α} {mp mj : M Int} {k : List (List α) → Rs σ τ β} (hX : ∀ ρ, St Γ ρ → P.X ρ) (hg : gG Γ i = .S (.O (.O μ)) (enc xss)) {m' : M α} {mp' mj' : M Int} {A2 : List Nat} (he : Ex C G Γ e m' (vM μ A)) (hm : m = m') (hp : Ex C G Γ p mp' (vA A2)) (hmp : mp = mp') (hj : Ex C G Γ x mj' (vA A')) (hmj : mj = mj') (hi : A.contains i = false) (hk : ∀ ys, Sx C G B (sG (frG A Γ) i (.S (.O (.O μ)) (enc ys))) ss (k ys) P) : Sx C G B Γ (.seti i [p] x e :: ss) (m.bindS fun y => mp.tot.bindS fun q => mj.tot.bindS fun j => (rowM xss q fun xs => setM xs j y).bindS k) P := fun ρ s => by
  subst hm hmp hmj
  obtain ⟨d0, h1, ds, ps, rfl, hps, h3⟩ := s.at_ i _ _ hg
  injection hps with hps
  subst hps
  rw [svs_c, t_seti, bindS_seq]
  refine SR.bindM (he ρ s) (hX ρ s) fun y d al v => ?_
  cases mp with
  | ok r =>
    rw [path1 (mj := .ok r) hp s]
    have := hj ρ s
    cases mj with
    | ok j =>
      obtain ⟨d2, bl, e1, w⟩ := this
      rw [e1, w.1.im rfl]
      show SR (seqS (setR i (some [r]) (.ok (.v (.int j)) bl) d al ρ) _) _ _
      rw [setR_eq]
      have hp := row_upd (j := r) (f := setF j d) (g := fun xs => setM xs j y) h3 fun es xs h => set_MR h v.1
      show SR _ ((rowM xss r fun xs => setM xs j y).bindS k) _
      cases q : rowM xss r fun xs => setM xs j y with
      | stuck => trivial
      | exc c => rw [q] at hp; exact hp.elim
      | ok ys =>
        rw [q] at hp
        obtain ⟨es', q1, q2⟩ := hp
        have hn : i ∉ al := fun z => by
          have := v.2.1 i z
          simp at hi
          exact hi this
        rw [upd_ok h1 q1 hn]
        exact hk ys _ ((s.frz v.2.1).set ⟨es', _, rfl, rfl, q2⟩)
    | exc c => trivial
    | stuck => trivial
  | exc c => trivial
  | stuck => trivial
/-! ### forks -/
theorem svs_app : ∀ {a b : List S} {ρ : Env}, svs C G B (a ++ b) ρ = seqS (svs C G B a ρ) (svs C G B b)
  | [], b, ρ => by rw [List.nil_append, show svs C G B [] ρ = .next ρ by simp only [svs]]; rfl
  | s :: a, b, ρ => by
    rw [List.cons_append, svs_c, svs_c]
    cases sv C G B s ρ with
    | next ρ' => exact svs_app (a := a)
    | _ => rfl
theorem sIf {m : M Bool} {ka kb : Rs σ τ β} (hX : ∀ ρ, St Γ ρ → P.X ρ) {m' : M Bool} (hc : Tr C G Γ c m') (hm : m = m') (ha : Sx C G B Γ (a ++ ss) ka P) (hb : Sx C G B Γ (b ++ ss) kb P) : Sx C G B Γ (.ife c a b :: ss) (m.bindS fun t => if t then ka else kb) P := fun ρ s => by
  subst hm
  rw [svs_c]
  simp only [sv, bindT_seq]
  refine SR.bindT (hc ρ s) (hX ρ s) fun t => ?_
  cases t with
  | true => have := ha ρ s; rw [svs_app] at this; exact this
  | false => have := hb ρ s; rw [svs_app] at this; exact this
theorem sIfJ {m : M Bool} {Γj : σ' → List Sl} {ka kb : Rs σ' τ β} {k : σ' → Rs σ τ β} (hX : ∀ ρ, St Γ ρ → P.X ρ) {m' : M Bool} (hc : Tr C G Γ c m') (hm : m = m') (ha : Sx C G B Γ a ka ⟨Γj, P.l, P.r, P.X⟩) (hb : Sx C G B Γ b kb ⟨Γj, P.l, P.r, P.X⟩) (hk : ∀ s, Sx C G B (Γj s) ss (k s) P) : Sx C G B Γ (.ife c a b :: ss) ((m.bindS fun t => if t then ka else kb).seq k) P := fun ρ s => by
  subst hm
  rw [svs_c]
  simp only [sv]
  refine SR.seq (n := Γj) ?_ fun s' ρ' h => hk s' ρ' h
  refine SR.bindT (P := ⟨Γj, P.l, P.r, P.X⟩) (hc ρ s) (hX ρ s) fun t => ?_
  cases t with
  | true => exact ha ρ s
  | false => exact hb ρ s
/-! ### loops -/
theorem SR.mapP {r : RS} {m : Rs σ τ β} {n : σ → List Sl} {l : τ → List Sl} {μ : Mo} {X : Env → Prop} (h : SR r m ⟨n, l, μ, X⟩) : SR r m ⟨n, l, μ, X⟩ := h
theorem forL_ok [En α] {tg : Tg} {w : Bool} {Γl : σ' → List Sl} {Γt : σ' → α → List Sl} {kb : α → σ' → Rs σ' σ' β} (ht : ∀ s x, Tgt (Γl s) tg x (Γt s x)) (hb : ∀ s x, Sx C G B (Γt s x) b (kb x s) ⟨Γl, Γl, P.r, P.X⟩) :
    ∀ (xs : List α) (s : σ') (ρ : Env), St (Γl s) ρ → SR (forR (fun p ρ => setT tg w p ρ) (svs C G B b) (xs.map enc) ρ) (forL (τ := τ) kb xs s) ⟨Γl, P.l, P.r, P.X⟩
  | [], s, ρ, h => ⟨ρ, rfl, h⟩
  | x :: xs, s, ρ, h => by
    obtain ⟨ρ1, h1, h2⟩ := ht s x ρ w h
    have h3 := hb s x ρ1 h2
    rw [List.map_cons]
    unfold forR forL
    simp only [h1]
    cases q : kb x s with
    | next s' => rw [q] at h3; obtain ⟨ρ2, e, h4⟩ := h3; rw [e]; exact forL_ok ht hb xs s' ρ2 h4
    | cnt s' => rw [q] at h3; obtain ⟨ρ2, e, h4⟩ := h3; rw [e]; exact forL_ok ht hb xs s' ρ2 h4
    | brk s' => rw [q] at h3; obtain ⟨ρ2, e, h4⟩ := h3; rw [e]; exact ⟨ρ2, rfl, h4⟩
    | ret b => rw [q] at h3; obtain ⟨d, e, h4⟩ := h3; rw [e]; exact ⟨d, rfl, h4⟩
    | exc c => rw [q] at h3; obtain ⟨ρ2, e, h4⟩ := h3; rw [e]; exact ⟨ρ2, rfl, h4⟩
    | stuck => trivial
theorem sFor [En α] {sk : Sk} {tg : Tg} {m : M (List α)} {Γl : σ' → List Sl} {Γt : σ' → α → List Sl} {s0 : σ'} {kb : α → σ' → Rs σ' σ' β} {k : σ' → Rs σ τ β} (hX : ∀ ρ, St Γ ρ → P.X ρ) {m' : M (List α)} (hi : It C G Γ sk es m' A) (hmm : m = m') (hm : (A.all fun i => !(mutSs b).contains i) = true) (h0 : Le (frG A Γ) (Γl s0))
    (ht : ∀ s x, Tgt (Γl s) tg x (Γt s x)) (hb : ∀ s x, Sx C G B (Γt s x) b (kb x s) ⟨Γl, Γl, P.r, P.X⟩) (hk : ∀ s, Sx C G B (Γl s) ss (k s) P) : Sx C G B Γ (.for_ sk es tg b :: ss) (m.bindS fun xs => (forL kb xs s0).seq k) P := fun ρ s => by
  subst hmm
  have hi := hi ρ s
  rw [svs_c]
  simp only [sv]
  cases m with
  | ok xs =>
    obtain ⟨ds, al, w, al2, h1, h2, h3, h4⟩ := hi
    rw [h1, s7, h2]
    simp only
    rw [if_pos (List.all_eq_true.mpr fun i hi => List.all_eq_true.mp hm i (h3 i hi))]
    exact SR.seq (n := Γl) (forL_ok ht hb xs s0 _ (h0 _ (s.frz h4))) fun s' ρ' h => hk s' ρ' h
  | exc c => rw [show seqR (evs C G es ρ) = .exc c from hi]; exact ⟨ρ, rfl, hX ρ s⟩
  | stuck => trivial
theorem whT_mono {c : σ' → M Bool} {body : σ' → Rs σ' σ' β} : ∀ {n m : Nat} {s : σ'}, whT (τ := τ) c body n s ≠ .stuck → n ≤ m → whT (τ := τ) c body m s = whT c body n s
  | 0, _, _, h, _ => absurd rfl h
  | n + 1, 0, _, _, h => absurd h (by omega)
  | n + 1, m + 1, s, h, hm => by
    unfold whT at h ⊢
    cases e : c s with
    | ok b =>
      cases b with
      | true =>
        simp only [e] at h ⊢
        cases e2 : body s <;> simp only [e2] at h ⊢
        · exact whT_mono h (by omega)
        · exact whT_mono h (by omega)
      | false => rfl
    | exc c => rfl
    | stuck => rfl
theorem whL_eq {c : σ' → M Bool} {body : σ' → Rs σ' σ' β} {s : σ'} {r : Rs σ' τ β} (n : Nat) (h : whT c body n s = r) (hr : r ≠ .stuck) : whL c body s = r := by
  unfold whL
  have hx : ∃ n, whT (τ := τ) c body n s ≠ .stuck := ⟨n, by rw [h]; exact hr⟩
  rw [dif_pos hx, ← h]
  have h1 := Classical.choose_spec hx
  have h2 : whT (τ := τ) c body n s ≠ .stuck := by rw [h]; exact hr
  rw [← whT_mono h1 (Nat.le_max_left _ n), ← whT_mono h2 (Nat.le_max_right (Classical.choose hx) n)]
theorem whL_stop {c : σ' → M Bool} {body : σ' → Rs σ' σ' β} {s : σ'} (h : c s = .ok false) : whL (τ := τ) c body s = .next s := whL_eq 1 (by simp only [whT, h]) nofun
theorem whL_step {c : σ' → M Bool} {body : σ' → Rs σ' σ' β} {s s' : σ'} (h : c s = .ok true) (hb : body s = .next s' ∨ body s = .cnt s') : whL (τ := τ) c body s = whL c body s' := by
  by_cases hx : ∃ n, whT (τ := τ) c body n s' ≠ .stuck
  · obtain ⟨n, hn⟩ := hx
    have e1 : whL (τ := τ) c body s' = whT c body n s' := whL_eq n rfl hn
    have e2 : whT (τ := τ) c body (n + 1) s = whT c body n s' := by rcases hb with hb | hb <;> simp only [whT, h, hb]
    rw [e1, whL_eq (n + 1) e2 hn]
  · have e1 : whL (τ := τ) c body s' = .stuck := by unfold whL; rw [dif_neg hx]
    have hy : ¬ ∃ n, whT (τ := τ) c body n s ≠ .stuck := fun ⟨n, hn⟩ => by
      cases n with
      | zero => exact hn rfl
      | succ n =>
        refine hx ⟨n, fun z => hn ?_⟩
        rcases hb with hb | hb <;> simp only [whT, h, hb, z]
    rw [e1]
    unfold whL
    rw [dif_neg hy]
theorem whT_ok {Γl : σ' → List Sl} {mc : σ' → M Bool} {kb : σ' → Rs σ' σ' β} (hc : ∀ s, Tr C G (Γl s) c (mc s)) (hb : ∀ s, Sx C G B (Γl s) b (kb s) ⟨Γl, Γl, P.r, P.X⟩) (hX : ∀ s ρ, St (Γl s) ρ → P.X ρ) :
    ∀ (n : Nat) (s : σ') (ρ : Env), St (Γl s) ρ → SR (whN (fun ρ => (ev C G c ρ).t) (svs C G B b) n ρ) (whT (τ := τ) mc kb n s) ⟨Γl, P.l, P.r, P.X⟩
  | 0, s, ρ, h => trivial
  | n + 1, s, ρ, h => by
    have h2 := hc s ρ h
    unfold whN whT
    cases q1 : mc s with
    | stuck => trivial
    | exc c' => rw [q1] at h2; rw [show (ev C G c ρ).t = .exc c' from h2]; exact ⟨ρ, rfl, hX s ρ h⟩
    | ok t =>
      rw [q1] at h2
      rw [show (ev C G c ρ).t = .ok t from h2]
      cases t with
      | false => exact ⟨ρ, rfl, h⟩
      | true =>
        have h3 := hb s ρ h
        simp only
        cases q : kb s with
        | next s' => rw [q] at h3; obtain ⟨ρ2, e, h4⟩ := h3; rw [e]; exact whT_ok hc hb hX n s' ρ2 h4
        | cnt s' => rw [q] at h3; obtain ⟨ρ2, e, h4⟩ := h3; rw [e]; exact whT_ok hc hb hX n s' ρ2 h4
        | brk s' => rw [q] at h3; obtain ⟨ρ2, e, h4⟩ := h3; rw [e]; exact ⟨ρ2, rfl, h4⟩
        | ret b => rw [q] at h3; obtain ⟨d, e, h4⟩ := h3; rw [e]; exact ⟨d, rfl, h4⟩
        | exc c => rw [q] at h3; obtain ⟨ρ2, e, h4⟩ := h3; rw [e]; exact ⟨ρ2, rfl, h4⟩
        | stuck => trivial
theorem SR.ns {r : RS} {m : Rs σ τ β} (h : SR r m P) (hm : m ≠ .stuck) : r ≠ .stuck := by
  cases m with
  | next s => obtain ⟨ρ', rfl, _⟩ := h; exact nofun
  | brk s => obtain ⟨ρ', rfl, _⟩ := h; exact nofun
  | cnt s => obtain ⟨ρ', rfl, _⟩ := h; exact nofun
  | ret b => obtain ⟨ρ', rfl, _⟩ := h; exact nofun
  | exc c => obtain ⟨ρ', rfl, _⟩ := h; exact nofun
  | stuck => exact absurd rfl hm
theorem sWh {Γl : σ' → List Sl} {s0 : σ'} {mc : σ' → M Bool} {kb : σ' → Rs σ' σ' β} {k : σ' → Rs σ τ β} (h0 : Le Γ (Γl s0)) (hX : ∀ s ρ, St (Γl s) ρ → P.X ρ)
    {mc' : σ' → M Bool} (hc : ∀ s, Tr C G (Γl s) c (mc' s)) (hm : ∀ s, mc s = mc' s) (hb : ∀ s, Sx C G B (Γl s) b (kb s) ⟨Γl, Γl, P.r, P.X⟩) (hk : ∀ s, Sx C G B (Γl s) ss (k s) P) : Sx C G B Γ (.while_ c b :: ss) ((whL mc kb s0).seq k) P := fun ρ s => by
  have hm : mc = mc' := funext hm
  subst hm
  rw [svs_c]
  simp only [sv]
  refine SR.seq (n := Γl) ?_ fun s' ρ' h => hk s' ρ' h
  by_cases hx : ∃ n, whT (τ := τ) mc kb n s0 ≠ .stuck
  · obtain ⟨n, hn⟩ := hx
    have h1 := whT_ok (P := P) hc hb hX n s0 ρ (h0 ρ s)
    rw [whL_eq n rfl hn, wh_eq n rfl (h1.ns hn)]
    exact h1
  · have e1 : whL (τ := τ) mc kb s0 = .stuck := by unfold whL; rw [dif_neg hx]
    rw [e1]; trivial
/-! ### ends -/
theorem sRet {m m' : M β} (hX : ∀ ρ, St Γ ρ → P.X ρ) (he : Ex C G Γ e m' (vM P.r A)) (hm : m = m') : Sx C G B Γ (.ret e :: ss) (m.bindS .ret) P := fun ρ s => by
  subst hm
  rw [svs_c]
  simp only [sv, bindS_seq]
  exact SR.bindM (he ρ s) (hX ρ s) fun x d al v => ⟨d, rfl, v.1⟩
theorem sRetP {x : β} {m' : M β} (he : Ex C G Γ e m' (vM P.r A)) (hm : .ok x = m') : Sx C G B Γ (.ret e :: ss) (.ret x) P := fun ρ s => by
  subst hm
  rw [svs_c]
  simp only [sv, bindS_seq]
  obtain ⟨d, al, h1, v⟩ := he ρ s
  rw [h1]
  exact ⟨d, rfl, v.1⟩
theorem sRetv {x : β} (h : gG Γ i = .S P.r (enc x)) : Sx C G B Γ (.retv i :: ss) (.ret x) P := fun ρ s => by
  obtain ⟨d, h1, h2⟩ := s.at_ i _ _ h
  rw [svs_c]
  simp only [sv, h1]
  exact ⟨d, rfl, h2⟩
theorem sRetvR {x : β} {m : Mo} (h : gG Γ i = .S m (enc x)) (hr : P.r = .R) : Sx C G B Γ (.retv i :: ss) (.ret x) P := fun ρ s => by
  obtain ⟨d, h1, h2⟩ := s.at_ i _ _ h
  rw [svs_c]
  simp only [sv, h1]
  exact ⟨d, rfl, hr ▸ h2.r⟩
theorem sRetn {x : β} (h : enc x = PyData.none) (hr : P.r = .R) : Sx C G B Γ (.retn :: ss) (.ret x) P := fun ρ s => by
  rw [svs_c]
  simp only [sv]
  exact ⟨.v .none, rfl, by rw [h, hr]; exact MR.v _⟩
theorem sBrk {s : τ} (h : Le Γ (P.l s)) : Sx (β := β) C G B Γ (.brk :: ss) (.brk s) P := fun ρ q => by
  rw [svs_c]
  simp only [sv]
  exact ⟨ρ, rfl, h ρ q⟩
theorem sCnt {s : τ} (h : Le Γ (P.l s)) : Sx (β := β) C G B Γ (.cnt :: ss) (.cnt s) P := fun ρ q => by
  rw [svs_c]
  simp only [sv]
  exact ⟨ρ, rfl, h ρ q⟩
theorem sPass {k : Rs σ τ β} (h : Sx C G B Γ ss k P) : Sx C G B Γ (.pass :: ss) k P := fun ρ q => by
  rw [svs_c]
  simp only [sv]
  exact h ρ q
theorem sRaise {c : Str} (hX : ∀ ρ, St Γ ρ → P.X ρ) : Sx (β := β) C G B Γ (.raise_ c :: ss) (.exc c) P := fun ρ q => by
  rw [svs_c]
  simp only [sv]
  exact ⟨ρ, rfl, hX ρ q⟩
theorem sDrop {m : M α} {ι : α → Vt} {k : Rs σ τ β} (hX : ∀ ρ, St Γ ρ → P.X ρ) {m' : M α} (he : Ex C G Γ e m' ι) (hm : m = m') (h : Sx C G B Γ ss k P) : Sx C G B Γ (.drop e :: ss) (m.bindS fun _ => k) P := fun ρ s => by
  subst hm
  rw [svs_c]
  simp only [sv, bindS_seq]
  exact SR.bindM (he ρ s) (hX ρ s) fun x d al v => h ρ s
end
theorem sC {σ τ β : Type} [En β] {C : Cal} {G : Glo} {B : Sub} {Γ Γ' : List Sl} {ss : List S} {m : Rs σ τ β} {P : Pst σ τ} (h : Γ = Γ') (p : Sx C G B Γ' ss m P) : Sx C G B Γ ss m P := h ▸ p
theorem tX {Γ : List Sl} {σ τ : Type} {n : σ → List Sl} {l : τ → List Sl} {μ : Mo} : ∀ ρ, St Γ ρ → (Pst.mk n l μ fun _ => True).X ρ := fun _ _ => trivial
theorem tX2 {σ' σ τ : Type} {Γl : σ' → List Sl} {n : σ → List Sl} {l : τ → List Sl} {μ : Mo} : ∀ s ρ, St (Γl s) ρ → (Pst.mk n l μ fun _ => True).X ρ := fun _ _ _ => trivial
/-! ### defs -/
theorem stN : St [] [] := ⟨rfl, fun i m p h => by cases h⟩
theorem stV {Γ : List Sl} {ρ : Env} {p : PyData} (h : St Γ ρ) : St (.S .R p :: Γ) (some (.v p) :: ρ) where
  len := by simp [h.len]
  at_ := fun i m q e => by
    cases i with
    | zero => cases e; exact ⟨_, rfl, MR.v _⟩
    | succ i => simpa using h.at_ i m q e
theorem stU {Γ : List Sl} {ρ : Env} {o : Option D} (h : St Γ ρ) : St (.U :: Γ) (o :: ρ) where
  len := by simp [h.len]
  at_ := fun i m q e => by
    cases i with
    | zero => cases e
    | succ i => simpa using h.at_ i m q e
abbrev Pf (μ : Mo) : Pst Unit Empty := ⟨fun _ => [], fun e => e.elim, μ, fun _ => True⟩
theorem fxM {β : Type} [En β] {C C' : Cal} {G : Glo} {B : Sub} {Γ : List Sl} {ss : List S} {m : Rs Unit Empty β} {μ : Mo} {f : Nat} {ps : List PyData} {ρ : Env} (hC : C' f ps = retC (svs C G B ss ρ)) (hs : St Γ ρ) (h : Sx C G B Γ ss m (Pf μ)) : Fx C' f ps m.toM (vM μ []) := by
  have := h ρ hs
  cases m with
  | next s => trivial
  | brk s => trivial
  | cnt s => trivial
  | ret b => obtain ⟨d, h1, h2⟩ := this; exact ⟨d, by rw [hC, h1]; rfl, h2⟩
  | exc c => obtain ⟨d, h1, h2⟩ := this; show C' f ps = _; rw [hC, h1]; rfl
  | stuck => trivial
/-- the end of a def without a return -/
def Pn (Γn : List Sl) : Pst Unit Empty := ⟨fun _ => Γn, fun e => e.elim, .R, fun _ => True⟩
theorem fxN {β : Type} [En β] {C C' : Cal} {G : Glo} {B : Sub} {Γ Γn : List Sl} {ss : List S} {m : Rs Unit Empty β} {f : Nat} {ps : List PyData} {ρ : Env} {z : β} (hz : enc z = PyData.none) (hC : C' f ps = retC (svs C G B ss ρ)) (hs : St Γ ρ) (h : Sx C G B Γ ss m (Pn Γn)) : Fx C' f ps (m.toN z) (vM .R []) := by
  have := h ρ hs
  cases m with
  | next s => obtain ⟨d, h1, h2⟩ := this; exact ⟨.v .none, by rw [hC, h1]; rfl, by show MR .R _ (enc z); rw [hz]; exact MR.v _⟩
  | brk s => trivial
  | cnt s => trivial
  | ret b => obtain ⟨d, h1, h2⟩ := this; exact ⟨d, by rw [hC, h1]; rfl, h2⟩
  | exc c => obtain ⟨d, h1, h2⟩ := this; show C' f ps = _; rw [hC, h1]; rfl
  | stuck => trivial
theorem fx_true {C : Cal} {f : Nat} {ps : List PyData} {m : M Bool} {b : Bool} (h : Fx C f ps m (vM .R [])) (hm : m = .ok b) : C f ps = .ok (.v (.bool b)) := by
  subst hm
  obtain ⟨d, h1, h2⟩ := h
  rw [h1, h2.im rfl]
  rfl
end Hv

/-! Ty, part 5: the same rules, by which of the operands are values at once. -/
namespace Hv
open PySem
open En (enc)
section
variable {α β γ δ ε ζ η : Type} {C : Cal} {G : Glo} {Γ Γ' : List Sl} {e a b c : E} {es fs : List E} {A B A' A1 A2 A3 A4 A5 A6 : List Nat}

theorem xAddPP  {x : Int} {y : Int}  (ha : Ex C G Γ a (.ok x) (vA A)) (hb : Ex C G Γ b (.ok y) (vA B)) : Ex C G Γ (.bin .add a b) (.ok (x + y)) vS := xBin oAdd ha hb
theorem xAddPM  {x : Int} {mb : M Int}  (ha : Ex C G Γ a (.ok x) (vA A)) (hb : Ex C G Γ b mb (vA B)) : Ex C G Γ (.bin .add a b) (mb.bind fun y => (.ok (x + y))) vS := xBin oAdd ha hb
theorem xAddMP  {ma : M Int} {y : Int}  (ha : Ex C G Γ a ma (vA A)) (hb : Ex C G Γ b (.ok y) (vA B)) : Ex C G Γ (.bin .add a b) (ma.bind fun x => (.ok (x + y))) vS := xBin oAdd ha hb
theorem xAddMM  {ma : M Int} {mb : M Int}  (ha : Ex C G Γ a ma (vA A)) (hb : Ex C G Γ b mb (vA B)) : Ex C G Γ (.bin .add a b) (ma.bind fun x => (mb.bind fun y => (.ok (x + y)))) vS := xBin oAdd ha hb
theorem xSubPP  {x : Int} {y : Int}  (ha : Ex C G Γ a (.ok x) (vA A)) (hb : Ex C G Γ b (.ok y) (vA B)) : Ex C G Γ (.bin .sub a b) (.ok (x - y)) vS := xBin oSub ha hb
theorem xSubPM  {x : Int} {mb : M Int}  (ha : Ex C G Γ a (.ok x) (vA A)) (hb : Ex C G Γ b mb (vA B)) : Ex C G Γ (.bin .sub a b) (mb.bind fun y => (.ok (x - y))) vS := xBin oSub ha hb
theorem xSubMP  {ma : M Int} {y : Int}  (ha : Ex C G Γ a ma (vA A)) (hb : Ex C G Γ b (.ok y) (vA B)) : Ex C G Γ (.bin .sub a b) (ma.bind fun x => (.ok (x - y))) vS := xBin oSub ha hb
theorem xSubMM  {ma : M Int} {mb : M Int}  (ha : Ex C G Γ a ma (vA A)) (hb : Ex C G Γ b mb (vA B)) : Ex C G Γ (.bin .sub a b) (ma.bind fun x => (mb.bind fun y => (.ok (x - y)))) vS := xBin oSub ha hb
theorem xMulPP  {x : Int} {y : Int}  (ha : Ex C G Γ a (.ok x) (vA A)) (hb : Ex C G Γ b (.ok y) (vA B)) : Ex C G Γ (.bin .mul a b) (mulM x y) vS := xBin oMul ha hb
theorem xMulPM  {x : Int} {mb : M Int}  (ha : Ex C G Γ a (.ok x) (vA A)) (hb : Ex C G Γ b mb (vA B)) : Ex C G Γ (.bin .mul a b) (mb.bind fun y => (mulM x y)) vS := xBin oMul ha hb
theorem xMulMP  {ma : M Int} {y : Int}  (ha : Ex C G Γ a ma (vA A)) (hb : Ex C G Γ b (.ok y) (vA B)) : Ex C G Γ (.bin .mul a b) (ma.bind fun x => (mulM x y)) vS := xBin oMul ha hb
theorem xMulMM  {ma : M Int} {mb : M Int}  (ha : Ex C G Γ a ma (vA A)) (hb : Ex C G Γ b mb (vA B)) : Ex C G Γ (.bin .mul a b) (ma.bind fun x => (mb.bind fun y => (mulM x y))) vS := xBin oMul ha hb
theorem xDivPP  {x : Int} {y : Int}  (ha : Ex C G Γ a (.ok x) (vA A)) (hb : Ex C G Γ b (.ok y) (vA B)) : Ex C G Γ (.bin .div a b) (divM x y) vS := xBin oDiv ha hb
theorem xDivPM  {x : Int} {mb : M Int}  (ha : Ex C G Γ a (.ok x) (vA A)) (hb : Ex C G Γ b mb (vA B)) : Ex C G Γ (.bin .div a b) (mb.bind fun y => (divM x y)) vS := xBin oDiv ha hb
theorem xDivMP  {ma : M Int} {y : Int}  (ha : Ex C G Γ a ma (vA A)) (hb : Ex C G Γ b (.ok y) (vA B)) : Ex C G Γ (.bin .div a b) (ma.bind fun x => (divM x y)) vS := xBin oDiv ha hb
theorem xDivMM  {ma : M Int} {mb : M Int}  (ha : Ex C G Γ a ma (vA A)) (hb : Ex C G Γ b mb (vA B)) : Ex C G Γ (.bin .div a b) (ma.bind fun x => (mb.bind fun y => (divM x y))) vS := xBin oDiv ha hb
theorem xModPP  {x : Int} {y : Int}  (ha : Ex C G Γ a (.ok x) (vA A)) (hb : Ex C G Γ b (.ok y) (vA B)) : Ex C G Γ (.bin .mod a b) (modM x y) vS := xBin oMod ha hb
theorem xModPM  {x : Int} {mb : M Int}  (ha : Ex C G Γ a (.ok x) (vA A)) (hb : Ex C G Γ b mb (vA B)) : Ex C G Γ (.bin .mod a b) (mb.bind fun y => (modM x y)) vS := xBin oMod ha hb
theorem xModMP  {ma : M Int} {y : Int}  (ha : Ex C G Γ a ma (vA A)) (hb : Ex C G Γ b (.ok y) (vA B)) : Ex C G Γ (.bin .mod a b) (ma.bind fun x => (modM x y)) vS := xBin oMod ha hb
theorem xModMM  {ma : M Int} {mb : M Int}  (ha : Ex C G Γ a ma (vA A)) (hb : Ex C G Γ b mb (vA B)) : Ex C G Γ (.bin .mod a b) (ma.bind fun x => (mb.bind fun y => (modM x y))) vS := xBin oMod ha hb
theorem xPowPP  {x : Int} {y : Int}  (ha : Ex C G Γ a (.ok x) (vA A)) (hb : Ex C G Γ b (.ok y) (vA B)) : Ex C G Γ (.bin .pow a b) (powM x y) vS := xBin oPow ha hb
theorem xPowPM  {x : Int} {mb : M Int}  (ha : Ex C G Γ a (.ok x) (vA A)) (hb : Ex C G Γ b mb (vA B)) : Ex C G Γ (.bin .pow a b) (mb.bind fun y => (powM x y)) vS := xBin oPow ha hb
theorem xPowMP  {ma : M Int} {y : Int}  (ha : Ex C G Γ a ma (vA A)) (hb : Ex C G Γ b (.ok y) (vA B)) : Ex C G Γ (.bin .pow a b) (ma.bind fun x => (powM x y)) vS := xBin oPow ha hb
theorem xPowMM  {ma : M Int} {mb : M Int}  (ha : Ex C G Γ a ma (vA A)) (hb : Ex C G Γ b mb (vA B)) : Ex C G Γ (.bin .pow a b) (ma.bind fun x => (mb.bind fun y => (powM x y))) vS := xBin oPow ha hb
theorem xCatPP  {x : Tx} {y : Tx}  (ha : Ex C G Γ a (.ok x) (vA A)) (hb : Ex C G Γ b (.ok y) (vA B)) : Ex C G Γ (.bin .add a b) (catM x y) vS := xBin oCat ha hb
theorem xCatPM  {x : Tx} {mb : M Tx}  (ha : Ex C G Γ a (.ok x) (vA A)) (hb : Ex C G Γ b mb (vA B)) : Ex C G Γ (.bin .add a b) (mb.bind fun y => (catM x y)) vS := xBin oCat ha hb
theorem xCatMP  {ma : M Tx} {y : Tx}  (ha : Ex C G Γ a ma (vA A)) (hb : Ex C G Γ b (.ok y) (vA B)) : Ex C G Γ (.bin .add a b) (ma.bind fun x => (catM x y)) vS := xBin oCat ha hb
theorem xCatMM  {ma : M Tx} {mb : M Tx}  (ha : Ex C G Γ a ma (vA A)) (hb : Ex C G Γ b mb (vA B)) : Ex C G Γ (.bin .add a b) (ma.bind fun x => (mb.bind fun y => (catM x y))) vS := xBin oCat ha hb
theorem xRepPP  {x : Tx} {y : Int}  (ha : Ex C G Γ a (.ok x) (vA A)) (hb : Ex C G Γ b (.ok y) (vA B)) : Ex C G Γ (.bin .mul a b) (repM x y) vS := xBin oRep ha hb
theorem xRepPM  {x : Tx} {mb : M Int}  (ha : Ex C G Γ a (.ok x) (vA A)) (hb : Ex C G Γ b mb (vA B)) : Ex C G Γ (.bin .mul a b) (mb.bind fun y => (repM x y)) vS := xBin oRep ha hb
theorem xRepMP  {ma : M Tx} {y : Int}  (ha : Ex C G Γ a ma (vA A)) (hb : Ex C G Γ b (.ok y) (vA B)) : Ex C G Γ (.bin .mul a b) (ma.bind fun x => (repM x y)) vS := xBin oRep ha hb
theorem xRepMM  {ma : M Tx} {mb : M Int}  (ha : Ex C G Γ a ma (vA A)) (hb : Ex C G Γ b mb (vA B)) : Ex C G Γ (.bin .mul a b) (ma.bind fun x => (mb.bind fun y => (repM x y))) vS := xBin oRep ha hb
theorem xCatLPP [En α] {x : (List α)} {y : (List α)}  (ha : Ex C G Γ a (.ok x) (vA A)) (hb : Ex C G Γ b (.ok y) (vA B)) : Ex C G Γ (.bin .add a b) (catL x y) (vM (.O .R) (A ++ B)) := xBin oCatL ha hb
theorem xCatLPM [En α] {x : (List α)} {mb : M (List α)}  (ha : Ex C G Γ a (.ok x) (vA A)) (hb : Ex C G Γ b mb (vA B)) : Ex C G Γ (.bin .add a b) (mb.bind fun y => (catL x y)) (vM (.O .R) (A ++ B)) := xBin oCatL ha hb
theorem xCatLMP [En α] {ma : M (List α)} {y : (List α)}  (ha : Ex C G Γ a ma (vA A)) (hb : Ex C G Γ b (.ok y) (vA B)) : Ex C G Γ (.bin .add a b) (ma.bind fun x => (catL x y)) (vM (.O .R) (A ++ B)) := xBin oCatL ha hb
theorem xCatLMM [En α] {ma : M (List α)} {mb : M (List α)}  (ha : Ex C G Γ a ma (vA A)) (hb : Ex C G Γ b mb (vA B)) : Ex C G Γ (.bin .add a b) (ma.bind fun x => (mb.bind fun y => (catL x y))) (vM (.O .R) (A ++ B)) := xBin oCatL ha hb
theorem xCatLiPP [En α] [Im α] {x : (List α)} {y : (List α)}  (ha : Ex C G Γ a (.ok x) (vA A)) (hb : Ex C G Γ b (.ok y) (vA B)) : Ex C G Γ (.bin .add a b) (catL x y) (vM (.O .R) []) := xBin oCatLi ha hb
theorem xCatLiPM [En α] [Im α] {x : (List α)} {mb : M (List α)}  (ha : Ex C G Γ a (.ok x) (vA A)) (hb : Ex C G Γ b mb (vA B)) : Ex C G Γ (.bin .add a b) (mb.bind fun y => (catL x y)) (vM (.O .R) []) := xBin oCatLi ha hb
theorem xCatLiMP [En α] [Im α] {ma : M (List α)} {y : (List α)}  (ha : Ex C G Γ a ma (vA A)) (hb : Ex C G Γ b (.ok y) (vA B)) : Ex C G Γ (.bin .add a b) (ma.bind fun x => (catL x y)) (vM (.O .R) []) := xBin oCatLi ha hb
theorem xCatLiMM [En α] [Im α] {ma : M (List α)} {mb : M (List α)}  (ha : Ex C G Γ a ma (vA A)) (hb : Ex C G Γ b mb (vA B)) : Ex C G Γ (.bin .add a b) (ma.bind fun x => (mb.bind fun y => (catL x y))) (vM (.O .R) []) := xBin oCatLi ha hb
theorem xEqPP [En α] [DecidableEq α] [Eq_ α] {x : α} {y : α} (hd : Eq_.n α ≤ 64) (ha : Ex C G Γ a (.ok x) (vA A)) (hb : Ex C G Γ b (.ok y) (vA B)) : Ex C G Γ (.cmp .eq a b) (.ok (decide (x = y))) vS := xCmp (cEq hd) ha hb
theorem xEqPM [En α] [DecidableEq α] [Eq_ α] {x : α} {mb : M α} (hd : Eq_.n α ≤ 64) (ha : Ex C G Γ a (.ok x) (vA A)) (hb : Ex C G Γ b mb (vA B)) : Ex C G Γ (.cmp .eq a b) (mb.bind fun y => (.ok (decide (x = y)))) vS := xCmp (cEq hd) ha hb
theorem xEqMP [En α] [DecidableEq α] [Eq_ α] {ma : M α} {y : α} (hd : Eq_.n α ≤ 64) (ha : Ex C G Γ a ma (vA A)) (hb : Ex C G Γ b (.ok y) (vA B)) : Ex C G Γ (.cmp .eq a b) (ma.bind fun x => (.ok (decide (x = y)))) vS := xCmp (cEq hd) ha hb
theorem xEqMM [En α] [DecidableEq α] [Eq_ α] {ma : M α} {mb : M α} (hd : Eq_.n α ≤ 64) (ha : Ex C G Γ a ma (vA A)) (hb : Ex C G Γ b mb (vA B)) : Ex C G Γ (.cmp .eq a b) (ma.bind fun x => (mb.bind fun y => (.ok (decide (x = y))))) vS := xCmp (cEq hd) ha hb
theorem xNePP [En α] [DecidableEq α] [Eq_ α] {x : α} {y : α} (hd : Eq_.n α ≤ 64) (ha : Ex C G Γ a (.ok x) (vA A)) (hb : Ex C G Γ b (.ok y) (vA B)) : Ex C G Γ (.cmp .ne a b) (.ok (!decide (x = y))) vS := xCmp (cNe hd) ha hb
theorem xNePM [En α] [DecidableEq α] [Eq_ α] {x : α} {mb : M α} (hd : Eq_.n α ≤ 64) (ha : Ex C G Γ a (.ok x) (vA A)) (hb : Ex C G Γ b mb (vA B)) : Ex C G Γ (.cmp .ne a b) (mb.bind fun y => (.ok (!decide (x = y)))) vS := xCmp (cNe hd) ha hb
theorem xNeMP [En α] [DecidableEq α] [Eq_ α] {ma : M α} {y : α} (hd : Eq_.n α ≤ 64) (ha : Ex C G Γ a ma (vA A)) (hb : Ex C G Γ b (.ok y) (vA B)) : Ex C G Γ (.cmp .ne a b) (ma.bind fun x => (.ok (!decide (x = y)))) vS := xCmp (cNe hd) ha hb
theorem xNeMM [En α] [DecidableEq α] [Eq_ α] {ma : M α} {mb : M α} (hd : Eq_.n α ≤ 64) (ha : Ex C G Γ a ma (vA A)) (hb : Ex C G Γ b mb (vA B)) : Ex C G Γ (.cmp .ne a b) (ma.bind fun x => (mb.bind fun y => (.ok (!decide (x = y))))) vS := xCmp (cNe hd) ha hb
theorem xInPP [En α] [DecidableEq α] [Eq_ α] {x : α} {y : (List α)} (hd : Eq_.n α ≤ 63) (ha : Ex C G Γ a (.ok x) (vA A)) (hb : Ex C G Γ b (.ok y) (vA B)) : Ex C G Γ (.cmp .in_ a b) (.ok (decide (x ∈ y))) vS := xCmp (cIn hd) ha hb
theorem xInPM [En α] [DecidableEq α] [Eq_ α] {x : α} {mb : M (List α)} (hd : Eq_.n α ≤ 63) (ha : Ex C G Γ a (.ok x) (vA A)) (hb : Ex C G Γ b mb (vA B)) : Ex C G Γ (.cmp .in_ a b) (mb.bind fun y => (.ok (decide (x ∈ y)))) vS := xCmp (cIn hd) ha hb
theorem xInMP [En α] [DecidableEq α] [Eq_ α] {ma : M α} {y : (List α)} (hd : Eq_.n α ≤ 63) (ha : Ex C G Γ a ma (vA A)) (hb : Ex C G Γ b (.ok y) (vA B)) : Ex C G Γ (.cmp .in_ a b) (ma.bind fun x => (.ok (decide (x ∈ y)))) vS := xCmp (cIn hd) ha hb
theorem xInMM [En α] [DecidableEq α] [Eq_ α] {ma : M α} {mb : M (List α)} (hd : Eq_.n α ≤ 63) (ha : Ex C G Γ a ma (vA A)) (hb : Ex C G Γ b mb (vA B)) : Ex C G Γ (.cmp .in_ a b) (ma.bind fun x => (mb.bind fun y => (.ok (decide (x ∈ y))))) vS := xCmp (cIn hd) ha hb
theorem xNinPP [En α] [DecidableEq α] [Eq_ α] {x : α} {y : (List α)} (hd : Eq_.n α ≤ 63) (ha : Ex C G Γ a (.ok x) (vA A)) (hb : Ex C G Γ b (.ok y) (vA B)) : Ex C G Γ (.cmp .nin a b) (.ok (!decide (x ∈ y))) vS := xCmp (cNin hd) ha hb
theorem xNinPM [En α] [DecidableEq α] [Eq_ α] {x : α} {mb : M (List α)} (hd : Eq_.n α ≤ 63) (ha : Ex C G Γ a (.ok x) (vA A)) (hb : Ex C G Γ b mb (vA B)) : Ex C G Γ (.cmp .nin a b) (mb.bind fun y => (.ok (!decide (x ∈ y)))) vS := xCmp (cNin hd) ha hb
theorem xNinMP [En α] [DecidableEq α] [Eq_ α] {ma : M α} {y : (List α)} (hd : Eq_.n α ≤ 63) (ha : Ex C G Γ a ma (vA A)) (hb : Ex C G Γ b (.ok y) (vA B)) : Ex C G Γ (.cmp .nin a b) (ma.bind fun x => (.ok (!decide (x ∈ y)))) vS := xCmp (cNin hd) ha hb
theorem xNinMM [En α] [DecidableEq α] [Eq_ α] {ma : M α} {mb : M (List α)} (hd : Eq_.n α ≤ 63) (ha : Ex C G Γ a ma (vA A)) (hb : Ex C G Γ b mb (vA B)) : Ex C G Γ (.cmp .nin a b) (ma.bind fun x => (mb.bind fun y => (.ok (!decide (x ∈ y))))) vS := xCmp (cNin hd) ha hb
theorem xInTPP  {x : Tx} {y : Tx}  (ha : Ex C G Γ a (.ok x) (vA A)) (hb : Ex C G Γ b (.ok y) (vA B)) : Ex C G Γ (.cmp .in_ a b) (.ok (subT x y)) vS := xCmp cInT ha hb
theorem xInTPM  {x : Tx} {mb : M Tx}  (ha : Ex C G Γ a (.ok x) (vA A)) (hb : Ex C G Γ b mb (vA B)) : Ex C G Γ (.cmp .in_ a b) (mb.bind fun y => (.ok (subT x y))) vS := xCmp cInT ha hb
theorem xInTMP  {ma : M Tx} {y : Tx}  (ha : Ex C G Γ a ma (vA A)) (hb : Ex C G Γ b (.ok y) (vA B)) : Ex C G Γ (.cmp .in_ a b) (ma.bind fun x => (.ok (subT x y))) vS := xCmp cInT ha hb
theorem xInTMM  {ma : M Tx} {mb : M Tx}  (ha : Ex C G Γ a ma (vA A)) (hb : Ex C G Γ b mb (vA B)) : Ex C G Γ (.cmp .in_ a b) (ma.bind fun x => (mb.bind fun y => (.ok (subT x y)))) vS := xCmp cInT ha hb
theorem xNinTPP  {x : Tx} {y : Tx}  (ha : Ex C G Γ a (.ok x) (vA A)) (hb : Ex C G Γ b (.ok y) (vA B)) : Ex C G Γ (.cmp .nin a b) (.ok (!subT x y)) vS := xCmp cNinT ha hb
theorem xNinTPM  {x : Tx} {mb : M Tx}  (ha : Ex C G Γ a (.ok x) (vA A)) (hb : Ex C G Γ b mb (vA B)) : Ex C G Γ (.cmp .nin a b) (mb.bind fun y => (.ok (!subT x y))) vS := xCmp cNinT ha hb
theorem xNinTMP  {ma : M Tx} {y : Tx}  (ha : Ex C G Γ a ma (vA A)) (hb : Ex C G Γ b (.ok y) (vA B)) : Ex C G Γ (.cmp .nin a b) (ma.bind fun x => (.ok (!subT x y))) vS := xCmp cNinT ha hb
theorem xNinTMM  {ma : M Tx} {mb : M Tx}  (ha : Ex C G Γ a ma (vA A)) (hb : Ex C G Γ b mb (vA B)) : Ex C G Γ (.cmp .nin a b) (ma.bind fun x => (mb.bind fun y => (.ok (!subT x y)))) vS := xCmp cNinT ha hb
theorem xLtPP  {x : Int} {y : Int}  (ha : Ex C G Γ a (.ok x) (vA A)) (hb : Ex C G Γ b (.ok y) (vA B)) : Ex C G Γ (.cmp .lt a b) (.ok (decide (x < y))) vS := xCmp cLt ha hb
theorem xLtPM  {x : Int} {mb : M Int}  (ha : Ex C G Γ a (.ok x) (vA A)) (hb : Ex C G Γ b mb (vA B)) : Ex C G Γ (.cmp .lt a b) (mb.bind fun y => (.ok (decide (x < y)))) vS := xCmp cLt ha hb
theorem xLtMP  {ma : M Int} {y : Int}  (ha : Ex C G Γ a ma (vA A)) (hb : Ex C G Γ b (.ok y) (vA B)) : Ex C G Γ (.cmp .lt a b) (ma.bind fun x => (.ok (decide (x < y)))) vS := xCmp cLt ha hb
theorem xLtMM  {ma : M Int} {mb : M Int}  (ha : Ex C G Γ a ma (vA A)) (hb : Ex C G Γ b mb (vA B)) : Ex C G Γ (.cmp .lt a b) (ma.bind fun x => (mb.bind fun y => (.ok (decide (x < y))))) vS := xCmp cLt ha hb
theorem xLePP  {x : Int} {y : Int}  (ha : Ex C G Γ a (.ok x) (vA A)) (hb : Ex C G Γ b (.ok y) (vA B)) : Ex C G Γ (.cmp .le a b) (.ok (decide (x ≤ y))) vS := xCmp cLe ha hb
theorem xLePM  {x : Int} {mb : M Int}  (ha : Ex C G Γ a (.ok x) (vA A)) (hb : Ex C G Γ b mb (vA B)) : Ex C G Γ (.cmp .le a b) (mb.bind fun y => (.ok (decide (x ≤ y)))) vS := xCmp cLe ha hb
theorem xLeMP  {ma : M Int} {y : Int}  (ha : Ex C G Γ a ma (vA A)) (hb : Ex C G Γ b (.ok y) (vA B)) : Ex C G Γ (.cmp .le a b) (ma.bind fun x => (.ok (decide (x ≤ y)))) vS := xCmp cLe ha hb
theorem xLeMM  {ma : M Int} {mb : M Int}  (ha : Ex C G Γ a ma (vA A)) (hb : Ex C G Γ b mb (vA B)) : Ex C G Γ (.cmp .le a b) (ma.bind fun x => (mb.bind fun y => (.ok (decide (x ≤ y))))) vS := xCmp cLe ha hb
theorem xGtPP  {x : Int} {y : Int}  (ha : Ex C G Γ a (.ok x) (vA A)) (hb : Ex C G Γ b (.ok y) (vA B)) : Ex C G Γ (.cmp .gt a b) (.ok (decide (y < x))) vS := xCmp cGt ha hb
theorem xGtPM  {x : Int} {mb : M Int}  (ha : Ex C G Γ a (.ok x) (vA A)) (hb : Ex C G Γ b mb (vA B)) : Ex C G Γ (.cmp .gt a b) (mb.bind fun y => (.ok (decide (y < x)))) vS := xCmp cGt ha hb
theorem xGtMP  {ma : M Int} {y : Int}  (ha : Ex C G Γ a ma (vA A)) (hb : Ex C G Γ b (.ok y) (vA B)) : Ex C G Γ (.cmp .gt a b) (ma.bind fun x => (.ok (decide (y < x)))) vS := xCmp cGt ha hb
theorem xGtMM  {ma : M Int} {mb : M Int}  (ha : Ex C G Γ a ma (vA A)) (hb : Ex C G Γ b mb (vA B)) : Ex C G Γ (.cmp .gt a b) (ma.bind fun x => (mb.bind fun y => (.ok (decide (y < x))))) vS := xCmp cGt ha hb
theorem xGePP  {x : Int} {y : Int}  (ha : Ex C G Γ a (.ok x) (vA A)) (hb : Ex C G Γ b (.ok y) (vA B)) : Ex C G Γ (.cmp .ge a b) (.ok (decide (y ≤ x))) vS := xCmp cGe ha hb
theorem xGePM  {x : Int} {mb : M Int}  (ha : Ex C G Γ a (.ok x) (vA A)) (hb : Ex C G Γ b mb (vA B)) : Ex C G Γ (.cmp .ge a b) (mb.bind fun y => (.ok (decide (y ≤ x)))) vS := xCmp cGe ha hb
theorem xGeMP  {ma : M Int} {y : Int}  (ha : Ex C G Γ a ma (vA A)) (hb : Ex C G Γ b (.ok y) (vA B)) : Ex C G Γ (.cmp .ge a b) (ma.bind fun x => (.ok (decide (y ≤ x)))) vS := xCmp cGe ha hb
theorem xGeMM  {ma : M Int} {mb : M Int}  (ha : Ex C G Γ a ma (vA A)) (hb : Ex C G Γ b mb (vA B)) : Ex C G Γ (.cmp .ge a b) (ma.bind fun x => (mb.bind fun y => (.ok (decide (y ≤ x))))) vS := xCmp cGe ha hb
theorem xLtTPP  {x : Tx} {y : Tx}  (ha : Ex C G Γ a (.ok x) (vA A)) (hb : Ex C G Γ b (.ok y) (vA B)) : Ex C G Γ (.cmp .lt a b) (.ok (ltT x y)) vS := xCmp cLtT ha hb
theorem xLtTPM  {x : Tx} {mb : M Tx}  (ha : Ex C G Γ a (.ok x) (vA A)) (hb : Ex C G Γ b mb (vA B)) : Ex C G Γ (.cmp .lt a b) (mb.bind fun y => (.ok (ltT x y))) vS := xCmp cLtT ha hb
theorem xLtTMP  {ma : M Tx} {y : Tx}  (ha : Ex C G Γ a ma (vA A)) (hb : Ex C G Γ b (.ok y) (vA B)) : Ex C G Γ (.cmp .lt a b) (ma.bind fun x => (.ok (ltT x y))) vS := xCmp cLtT ha hb
theorem xLtTMM  {ma : M Tx} {mb : M Tx}  (ha : Ex C G Γ a ma (vA A)) (hb : Ex C G Γ b mb (vA B)) : Ex C G Γ (.cmp .lt a b) (ma.bind fun x => (mb.bind fun y => (.ok (ltT x y)))) vS := xCmp cLtT ha hb
theorem xLeTPP  {x : Tx} {y : Tx}  (ha : Ex C G Γ a (.ok x) (vA A)) (hb : Ex C G Γ b (.ok y) (vA B)) : Ex C G Γ (.cmp .le a b) (.ok (!ltT y x)) vS := xCmp cLeT ha hb
theorem xLeTPM  {x : Tx} {mb : M Tx}  (ha : Ex C G Γ a (.ok x) (vA A)) (hb : Ex C G Γ b mb (vA B)) : Ex C G Γ (.cmp .le a b) (mb.bind fun y => (.ok (!ltT y x))) vS := xCmp cLeT ha hb
theorem xLeTMP  {ma : M Tx} {y : Tx}  (ha : Ex C G Γ a ma (vA A)) (hb : Ex C G Γ b (.ok y) (vA B)) : Ex C G Γ (.cmp .le a b) (ma.bind fun x => (.ok (!ltT y x))) vS := xCmp cLeT ha hb
theorem xLeTMM  {ma : M Tx} {mb : M Tx}  (ha : Ex C G Γ a ma (vA A)) (hb : Ex C G Γ b mb (vA B)) : Ex C G Γ (.cmp .le a b) (ma.bind fun x => (mb.bind fun y => (.ok (!ltT y x)))) vS := xCmp cLeT ha hb
theorem xGtTPP  {x : Tx} {y : Tx}  (ha : Ex C G Γ a (.ok x) (vA A)) (hb : Ex C G Γ b (.ok y) (vA B)) : Ex C G Γ (.cmp .gt a b) (.ok (ltT y x)) vS := xCmp cGtT ha hb
theorem xGtTPM  {x : Tx} {mb : M Tx}  (ha : Ex C G Γ a (.ok x) (vA A)) (hb : Ex C G Γ b mb (vA B)) : Ex C G Γ (.cmp .gt a b) (mb.bind fun y => (.ok (ltT y x))) vS := xCmp cGtT ha hb
theorem xGtTMP  {ma : M Tx} {y : Tx}  (ha : Ex C G Γ a ma (vA A)) (hb : Ex C G Γ b (.ok y) (vA B)) : Ex C G Γ (.cmp .gt a b) (ma.bind fun x => (.ok (ltT y x))) vS := xCmp cGtT ha hb
theorem xGtTMM  {ma : M Tx} {mb : M Tx}  (ha : Ex C G Γ a ma (vA A)) (hb : Ex C G Γ b mb (vA B)) : Ex C G Γ (.cmp .gt a b) (ma.bind fun x => (mb.bind fun y => (.ok (ltT y x)))) vS := xCmp cGtT ha hb
theorem xGeTPP  {x : Tx} {y : Tx}  (ha : Ex C G Γ a (.ok x) (vA A)) (hb : Ex C G Γ b (.ok y) (vA B)) : Ex C G Γ (.cmp .ge a b) (.ok (!ltT x y)) vS := xCmp cGeT ha hb
theorem xGeTPM  {x : Tx} {mb : M Tx}  (ha : Ex C G Γ a (.ok x) (vA A)) (hb : Ex C G Γ b mb (vA B)) : Ex C G Γ (.cmp .ge a b) (mb.bind fun y => (.ok (!ltT x y))) vS := xCmp cGeT ha hb
theorem xGeTMP  {ma : M Tx} {y : Tx}  (ha : Ex C G Γ a ma (vA A)) (hb : Ex C G Γ b (.ok y) (vA B)) : Ex C G Γ (.cmp .ge a b) (ma.bind fun x => (.ok (!ltT x y))) vS := xCmp cGeT ha hb
theorem xGeTMM  {ma : M Tx} {mb : M Tx}  (ha : Ex C G Γ a ma (vA A)) (hb : Ex C G Γ b mb (vA B)) : Ex C G Γ (.cmp .ge a b) (ma.bind fun x => (mb.bind fun y => (.ok (!ltT x y)))) vS := xCmp cGeT ha hb
theorem xMaxPP  {x : Int} {y : Int}  (ha : Ex C G Γ a (.ok x) (vA A)) (hb : Ex C G Γ b (.ok y) (vA B)) : Ex C G Γ (.bi .max2 [a, b]) (.ok (max x y)) vS := xMax2 ha hb
theorem xMaxPM  {x : Int} {mb : M Int}  (ha : Ex C G Γ a (.ok x) (vA A)) (hb : Ex C G Γ b mb (vA B)) : Ex C G Γ (.bi .max2 [a, b]) (mb.bind fun y => (.ok (max x y))) vS := xMax2 ha hb
theorem xMaxMP  {ma : M Int} {y : Int}  (ha : Ex C G Γ a ma (vA A)) (hb : Ex C G Γ b (.ok y) (vA B)) : Ex C G Γ (.bi .max2 [a, b]) (ma.bind fun x => (.ok (max x y))) vS := xMax2 ha hb
theorem xMaxMM  {ma : M Int} {mb : M Int}  (ha : Ex C G Γ a ma (vA A)) (hb : Ex C G Γ b mb (vA B)) : Ex C G Γ (.bi .max2 [a, b]) (ma.bind fun x => (mb.bind fun y => (.ok (max x y)))) vS := xMax2 ha hb
theorem xMinPP  {x : Int} {y : Int}  (ha : Ex C G Γ a (.ok x) (vA A)) (hb : Ex C G Γ b (.ok y) (vA B)) : Ex C G Γ (.bi .min2 [a, b]) (.ok (min x y)) vS := xMin2 ha hb
theorem xMinPM  {x : Int} {mb : M Int}  (ha : Ex C G Γ a (.ok x) (vA A)) (hb : Ex C G Γ b mb (vA B)) : Ex C G Γ (.bi .min2 [a, b]) (mb.bind fun y => (.ok (min x y))) vS := xMin2 ha hb
theorem xMinMP  {ma : M Int} {y : Int}  (ha : Ex C G Γ a ma (vA A)) (hb : Ex C G Γ b (.ok y) (vA B)) : Ex C G Γ (.bi .min2 [a, b]) (ma.bind fun x => (.ok (min x y))) vS := xMin2 ha hb
theorem xMinMM  {ma : M Int} {mb : M Int}  (ha : Ex C G Γ a ma (vA A)) (hb : Ex C G Γ b mb (vA B)) : Ex C G Γ (.bi .min2 [a, b]) (ma.bind fun x => (mb.bind fun y => (.ok (min x y)))) vS := xMin2 ha hb
theorem xIxLPP [En α] {x : (List α)} {y : Int} (hv : varOf a = none) (ha : Ex C G Γ a (.ok x) (vA A)) (hb : Ex C G Γ b (.ok y) (vA B)) : Ex C G Γ (.ix a b) (getM x y) (vA A) := xIx hv ha hb
theorem xIxLPM [En α] {x : (List α)} {mb : M Int} (hv : varOf a = none) (ha : Ex C G Γ a (.ok x) (vA A)) (hb : Ex C G Γ b mb (vA B)) : Ex C G Γ (.ix a b) (mb.bind fun y => (getM x y)) (vA A) := xIx hv ha hb
theorem xIxLMP [En α] {ma : M (List α)} {y : Int} (hv : varOf a = none) (ha : Ex C G Γ a ma (vA A)) (hb : Ex C G Γ b (.ok y) (vA B)) : Ex C G Γ (.ix a b) (ma.bind fun x => (getM x y)) (vA A) := xIx hv ha hb
theorem xIxLMM [En α] {ma : M (List α)} {mb : M Int} (hv : varOf a = none) (ha : Ex C G Γ a ma (vA A)) (hb : Ex C G Γ b mb (vA B)) : Ex C G Γ (.ix a b) (ma.bind fun x => (mb.bind fun y => (getM x y))) (vA A) := xIx hv ha hb
theorem xIxT_PP  {x : Tx} {y : Int} (hv : varOf a = none) (ha : Ex C G Γ a (.ok x) (vA A)) (hb : Ex C G Γ b (.ok y) (vA B)) : Ex C G Γ (.ix a b) (chM x y) vS := xIxS hv ha hb
theorem xIxT_PM  {x : Tx} {mb : M Int} (hv : varOf a = none) (ha : Ex C G Γ a (.ok x) (vA A)) (hb : Ex C G Γ b mb (vA B)) : Ex C G Γ (.ix a b) (mb.bind fun y => (chM x y)) vS := xIxS hv ha hb
theorem xIxT_MP  {ma : M Tx} {y : Int} (hv : varOf a = none) (ha : Ex C G Γ a ma (vA A)) (hb : Ex C G Γ b (.ok y) (vA B)) : Ex C G Γ (.ix a b) (ma.bind fun x => (chM x y)) vS := xIxS hv ha hb
theorem xIxT_MM  {ma : M Tx} {mb : M Int} (hv : varOf a = none) (ha : Ex C G Γ a ma (vA A)) (hb : Ex C G Γ b mb (vA B)) : Ex C G Γ (.ix a b) (ma.bind fun x => (mb.bind fun y => (chM x y))) vS := xIxS hv ha hb
theorem xIxVLP [En α] {i : Nat} {m : Mo} {xs : List α} {y : Int} (h : gG Γ i = .S m (enc xs)) (hb : Ex C G Γ b (.ok y) (vA B)) : Ex C G Γ (.ix (.var i) b) (getM xs y) (vA [i]) := xIxV h hb
theorem xIxVT_P {i : Nat} {m : Mo} {xs : Tx} {y : Int} (h : gG Γ i = .S m (enc xs)) (hb : Ex C G Γ b (.ok y) (vA B)) : Ex C G Γ (.ix (.var i) b) (chM xs y) vS := xIxVS h hb
theorem xIxVLM [En α] {i : Nat} {m : Mo} {xs : List α} {mb : M Int} (h : gG Γ i = .S m (enc xs)) (hb : Ex C G Γ b mb (vA B)) : Ex C G Γ (.ix (.var i) b) (mb.bind fun y => (getM xs y)) (vA [i]) := xIxV h hb
theorem xIxVT_M {i : Nat} {m : Mo} {xs : Tx} {mb : M Int} (h : gG Γ i = .S m (enc xs)) (hb : Ex C G Γ b mb (vA B)) : Ex C G Γ (.ix (.var i) b) (mb.bind fun y => (chM xs y)) vS := xIxVS h hb
theorem xNeg_P  {x : Int}  (ha : Ex C G Γ a (.ok x) (vA A)) : Ex C G Γ (.neg a) (.ok (-x)) vS := xNeg ha
theorem xNeg_M  {ma : M Int}  (ha : Ex C G Γ a ma (vA A)) : Ex C G Γ (.neg a) (ma.bind fun x => (.ok (-x))) vS := xNeg ha
theorem xLenLP [En α] {x : (List α)}  (ha : Ex C G Γ a (.ok x) (vA A)) : Ex C G Γ (.bi .len [a]) (.ok (x.length : Int)) vS := xB1 bLenL ha
theorem xLenLM [En α] {ma : M (List α)}  (ha : Ex C G Γ a ma (vA A)) : Ex C G Γ (.bi .len [a]) (ma.bind fun x => (.ok (x.length : Int))) vS := xB1 bLenL ha
theorem xLenUP [En α] {x : (Tu α)}  (ha : Ex C G Γ a (.ok x) (vA A)) : Ex C G Γ (.bi .len [a]) (.ok (x.l.length : Int)) vS := xB1 bLenU ha
theorem xLenUM [En α] {ma : M (Tu α)}  (ha : Ex C G Γ a ma (vA A)) : Ex C G Γ (.bi .len [a]) (ma.bind fun x => (.ok (x.l.length : Int))) vS := xB1 bLenU ha
theorem xLenTP  {x : Tx}  (ha : Ex C G Γ a (.ok x) (vA A)) : Ex C G Γ (.bi .len [a]) (lenM x) vS := xB1 bLenT ha
theorem xLenTM  {ma : M Tx}  (ha : Ex C G Γ a ma (vA A)) : Ex C G Γ (.bi .len [a]) (ma.bind fun x => (lenM x)) vS := xB1 bLenT ha
theorem xIntBP  {x : Bool}  (ha : Ex C G Γ a (.ok x) (vA A)) : Ex C G Γ (.bi .int [a]) (.ok (if x then 1 else 0 : Int)) vS := xB1 bIntB ha
theorem xIntBM  {ma : M Bool}  (ha : Ex C G Γ a ma (vA A)) : Ex C G Γ (.bi .int [a]) (ma.bind fun x => (.ok (if x then 1 else 0 : Int))) vS := xB1 bIntB ha
theorem xAbsP  {x : Int}  (ha : Ex C G Γ a (.ok x) (vA A)) : Ex C G Γ (.bi .abs [a]) (.ok (absI x)) vS := xB1 bAbs ha
theorem xAbsM  {ma : M Int}  (ha : Ex C G Γ a ma (vA A)) : Ex C G Γ (.bi .abs [a]) (ma.bind fun x => (.ok (absI x))) vS := xB1 bAbs ha
theorem xSumP  {x : (List Int)}  (ha : Ex C G Γ a (.ok x) (vA A)) : Ex C G Γ (.bi .sum [a]) (.ok x.sum) vS := xB1 bSum ha
theorem xSumM  {ma : M (List Int)}  (ha : Ex C G Γ a ma (vA A)) : Ex C G Γ (.bi .sum [a]) (ma.bind fun x => (.ok x.sum)) vS := xB1 bSum ha
theorem xMaxLP  {x : (List Int)}  (ha : Ex C G Γ a (.ok x) (vA A)) : Ex C G Γ (.bi .maxL [a]) (maxM x) vS := xB1 bMax ha
theorem xMaxLM  {ma : M (List Int)}  (ha : Ex C G Γ a ma (vA A)) : Ex C G Γ (.bi .maxL [a]) (ma.bind fun x => (maxM x)) vS := xB1 bMax ha
theorem xMinLP  {x : (List Int)}  (ha : Ex C G Γ a (.ok x) (vA A)) : Ex C G Γ (.bi .minL [a]) (minM x) vS := xB1 bMin ha
theorem xMinLM  {ma : M (List Int)}  (ha : Ex C G Γ a ma (vA A)) : Ex C G Γ (.bi .minL [a]) (ma.bind fun x => (minM x)) vS := xB1 bMin ha
theorem xSortedP  {x : (List Int)}  (ha : Ex C G Γ a (.ok x) (vA A)) : Ex C G Γ (.bi .sorted [a]) (.ok (isort x)) (vM (.O .R) []) := xB1 bSorted ha
theorem xSortedM  {ma : M (List Int)}  (ha : Ex C G Γ a ma (vA A)) : Ex C G Γ (.bi .sorted [a]) (ma.bind fun x => (.ok (isort x))) (vM (.O .R) []) := xB1 bSorted ha
theorem xOrdP  {x : Tx}  (ha : Ex C G Γ a (.ok x) (vA A)) : Ex C G Γ (.bi .ord [a]) (ordM x) vS := xB1 bOrd ha
theorem xOrdM  {ma : M Tx}  (ha : Ex C G Γ a ma (vA A)) : Ex C G Γ (.bi .ord [a]) (ma.bind fun x => (ordM x)) vS := xB1 bOrd ha
theorem xAnyP  {x : (List Bool)}  (ha : Ex C G Γ a (.ok x) (vA A)) : Ex C G Γ (.bi .any [a]) (.ok (x.any id)) vS := xB1 bAny ha
theorem xAnyM  {ma : M (List Bool)}  (ha : Ex C G Γ a ma (vA A)) : Ex C G Γ (.bi .any [a]) (ma.bind fun x => (.ok (x.any id))) vS := xB1 bAny ha
theorem xAllP  {x : (List Bool)}  (ha : Ex C G Γ a (.ok x) (vA A)) : Ex C G Γ (.bi .all [a]) (.ok (x.all id)) vS := xB1 bAll ha
theorem xAllM  {ma : M (List Bool)}  (ha : Ex C G Γ a ma (vA A)) : Ex C G Γ (.bi .all [a]) (ma.bind fun x => (.ok (x.all id))) vS := xB1 bAll ha
theorem xListUP [En α] {x : (Tu α)}  (ha : Ex C G Γ a (.ok x) (vA A)) : Ex C G Γ (.bi .list [a]) (.ok x.l) (vM (.O .R) A) := xB1 bListU ha
theorem xListUM [En α] {ma : M (Tu α)}  (ha : Ex C G Γ a ma (vA A)) : Ex C G Γ (.bi .list [a]) (ma.bind fun x => (.ok x.l)) (vM (.O .R) A) := xB1 bListU ha
theorem xListUiP [En α] [Im α] {x : (Tu α)}  (ha : Ex C G Γ a (.ok x) (vA A)) : Ex C G Γ (.bi .list [a]) (.ok x.l) (vM (.O .R) []) := xB1 bListUi ha
theorem xListUiM [En α] [Im α] {ma : M (Tu α)}  (ha : Ex C G Γ a ma (vA A)) : Ex C G Γ (.bi .list [a]) (ma.bind fun x => (.ok x.l)) (vM (.O .R) []) := xB1 bListUi ha
theorem xTupLP [En α] {x : (List α)}  (ha : Ex C G Γ a (.ok x) (vA A)) : Ex C G Γ (.bi .tuple [a]) (.ok (Tu.mk x)) (vA A) := xB1 bTup ha
theorem xTupLM [En α] {ma : M (List α)}  (ha : Ex C G Γ a ma (vA A)) : Ex C G Γ (.bi .tuple [a]) (ma.bind fun x => (.ok (Tu.mk x))) (vA A) := xB1 bTup ha
theorem xRev_P [En α] {x : (List α)}  (ha : Ex C G Γ a (.ok x) (vA A)) : Ex C G Γ (.rev a) (.ok x.reverse) (vM (.O .R) A) := xRev ha
theorem xRev_M [En α] {ma : M (List α)}  (ha : Ex C G Γ a ma (vA A)) : Ex C G Γ (.rev a) (ma.bind fun x => (.ok x.reverse)) (vM (.O .R) A) := xRev ha
theorem xRevi_P [En α] [Im α] {x : (List α)}  (ha : Ex C G Γ a (.ok x) (vA A)) : Ex C G Γ (.rev a) (.ok x.reverse) (vM (.O .R) []) := xRevi ha
theorem xRevi_M [En α] [Im α] {ma : M (List α)}  (ha : Ex C G Γ a ma (vA A)) : Ex C G Γ (.rev a) (ma.bind fun x => (.ok x.reverse)) (vM (.O .R) []) := xRevi ha
theorem xIsN_P [En α] [NN α] {x : (Option α)}  (ha : Ex C G Γ a (.ok x) (vA A)) : Ex C G Γ (.cmp .isn a .non) (.ok x.isNone) vS := xIsN ha
theorem xIsN_M [En α] [NN α] {ma : M (Option α)}  (ha : Ex C G Γ a ma (vA A)) : Ex C G Γ (.cmp .isn a .non) (ma.bind fun x => (.ok x.isNone)) vS := xIsN ha
theorem xNotN_P [En α] [NN α] {x : (Option α)}  (ha : Ex C G Γ a (.ok x) (vA A)) : Ex C G Γ (.cmp .notn a .non) (.ok x.isSome) vS := xNotN ha
theorem xNotN_M [En α] [NN α] {ma : M (Option α)}  (ha : Ex C G Γ a ma (vA A)) : Ex C G Γ (.cmp .notn a .non) (ma.bind fun x => (.ok x.isSome)) vS := xNotN ha
theorem xIsiKP [En α] {x : α} {t : Ty} (v : Bool) (hv : ∀ x : α, tyP (enc x) t = v) (ha : Ex C G Γ a (.ok x) (vA A)) : Ex C G Γ (.isi a t) (.ok v) vS := xIsi (fun _ => v) ha hv
theorem xIsiKM [En α] {ma : M α} {t : Ty} (v : Bool) (hv : ∀ x : α, tyP (enc x) t = v) (ha : Ex C G Γ a ma (vA A)) : Ex C G Γ (.isi a t) (ma.bind fun x => (.ok v)) vS := xIsi (fun _ => v) ha hv
theorem xIxT_P [En α] [En β] {x : α} {n : Nat} (f : α → β) (hv : varOf a = none) (h : ∀ x, ∃ ps, enc x = .tuple ps ∧ ps[n]? = some (enc (f x))) (ha : Ex C G Γ a (.ok x) (vA A)) : Ex C G Γ (.ix a (.int n)) (.ok (f x)) (vA A) := xIxT f hv ha h
theorem xIxT_M [En α] [En β] {ma : M α} {n : Nat} (f : α → β) (hv : varOf a = none) (h : ∀ x, ∃ ps, enc x = .tuple ps ∧ ps[n]? = some (enc (f x))) (ha : Ex C G Γ a ma (vA A)) : Ex C G Γ (.ix a (.int n)) (ma.bind fun x => (.ok (f x))) (vA A) := xIxT f hv ha h
theorem exGetP [En α] {x : Option α} (h : Ex C G Γ e (.ok x) (vA A)) : Ex C G Γ e (M.ofO x) (vA A) := Ex.get h
theorem exSmP [En α] {x : α} (h : Ex C G Γ e (.ok x) (vA A)) : Ex C G Γ e (.ok (some x)) (vA A) := Ex.sm h
theorem tNot_P {u : Bool} (h : Tr C G Γ a (.ok u)) : Tr C G Γ (.not a) (.ok (!u)) := tNot h
theorem xNot_P {u : Bool} (h : Tq C G Γ a (.ok u)) : Ex C G Γ (.not a) (.ok (!u)) vS := xNot h
theorem trI_P {x : Int} (h : Ex C G Γ e (.ok x) (vA A)) (hv : isVt e = true) : Tr C G Γ e (.ok (x != 0)) := Tr.i h hv
theorem trL_P [En α] {x : List α} (h : Ex C G Γ e (.ok x) (vA A)) (hv : isVt e = true) : Tr C G Γ e (.ok (!x.isEmpty)) := Tr.l h hv
theorem itEP [En α] {x : List α} (h : Ex C G Γ e (.ok x) (vA A)) : It C G Γ .enum [e] (.ok (enumI x)) A := itE h
theorem itUP [En α] {x : Tu α} (h : Ex C G Γ e (.ok x) (vA A)) : It C G Γ .seq [e] (.ok x.l) A := itU h
theorem itSP {x : Tx} (h : Ex C G Γ e (.ok x) (vA A)) : It C G Γ .seq [e] (chsM x) A := itS h
theorem itR1P {x : Int} (h : Ex C G Γ e (.ok x) (vA A)) : It C G Γ .range [e] (rg1 x) A := itR1 h
theorem oSP {x : Int} (h : Ex C G Γ e (.ok x) (vA A)) : Oe C G Γ (some e) (.ok (some x)) := oS h
theorem taCP {u : Bool} {k : M Bool} {f : E} (h : Tr C G Γ e (.ok u)) (t : Ta C G Γ (f :: fs) k) : Ta C G Γ (e :: f :: fs) (if u then k else .ok false) := taC h t
theorem toCP {u : Bool} {k : M Bool} {f : E} (h : Tr C G Γ e (.ok u)) (t : To C G Γ (f :: fs) k) : To C G Γ (e :: f :: fs) (if u then .ok true else k) := toC h t
theorem eaCP {u : Bool} {k : M Bool} {f : E} (h : Ex C G Γ e (.ok u) (vA A)) (t : Ea C G Γ (f :: fs) k) : Ea C G Γ (e :: f :: fs) (if u then k else .ok false) := eaC h t
theorem eoCP {u : Bool} {k : M Bool} {f : E} (h : Ex C G Γ e (.ok u) (vA A)) (t : Eo C G Γ (f :: fs) k) : Eo C G Γ (e :: f :: fs) (if u then .ok true else k) := eoC h t
theorem csCP {u : Bool} {k : M Bool} (h : Tr C G Γ e (.ok u)) (t : Cs C G Γ es k) : Cs C G Γ (e :: es) (if u then k else .ok false) := csC h t
theorem xIfxC {u : Bool} {ma mb : M α} {ι : α → Vt} (hc : Tr C G Γ c (.ok u)) (ha : Ex C G Γ a ma ι) (hb : Ex C G Γ b mb ι) : Ex C G Γ (.ifx c a b) (if u then ma else mb) ι := xIfx hc ha hb
theorem tIfxC {u : Bool} {ma mb : M Bool} (hc : Tr C G Γ c (.ok u)) (ha : Tr C G Γ a ma) (hb : Tr C G Γ b mb) : Tr C G Γ (.ifx c a b) (if u then ma else mb) := tIfx hc ha hb
theorem exGetM [En α] {ma : M (Option α)} (h : Ex C G Γ e ma (vA A)) : Ex C G Γ e (ma.bind fun x => M.ofO x) (vA A) := Ex.get h
theorem exSmM [En α] {ma : M α} (h : Ex C G Γ e ma (vA A)) : Ex C G Γ e (ma.bind fun x => .ok (some x)) (vA A) := Ex.sm h
theorem tNot_M {m : M Bool} (h : Tr C G Γ a m) : Tr C G Γ (.not a) (m.bind fun b => .ok (!b)) := tNot h
theorem xNot_M {m : M Bool} (h : Tq C G Γ a m) : Ex C G Γ (.not a) (m.bind fun b => .ok (!b)) vS := xNot h
theorem trI_M {ma : M Int} (h : Ex C G Γ e ma (vA A)) (hv : isVt e = true) : Tr C G Γ e (ma.bind fun x => .ok (x != 0)) := Tr.i h hv
theorem trL_M [En α] {ma : M (List α)} (h : Ex C G Γ e ma (vA A)) (hv : isVt e = true) : Tr C G Γ e (ma.bind fun x => .ok (!x.isEmpty)) := Tr.l h hv
theorem itEM [En α] {ma : M (List α)} (h : Ex C G Γ e ma (vA A)) : It C G Γ .enum [e] (ma.bind fun x => .ok (enumI x)) A := itE h
theorem itUM [En α] {ma : M (Tu α)} (h : Ex C G Γ e ma (vA A)) : It C G Γ .seq [e] (ma.bind fun x => .ok x.l) A := itU h
theorem itSM {ma : M Tx} (h : Ex C G Γ e ma (vA A)) : It C G Γ .seq [e] (ma.bind fun x => chsM x) A := itS h
theorem itR1M {ma : M Int} (h : Ex C G Γ e ma (vA A)) : It C G Γ .range [e] (ma.bind fun x => rg1 x) A := itR1 h
theorem oSM {ma : M Int} (h : Ex C G Γ e ma (vA A)) : Oe C G Γ (some e) (ma.bind fun x => .ok (some x)) := oS h
theorem taPP {u v : Bool} {f : E} (h : Tr C G Γ e (.ok u)) (t : Ta C G Γ (f :: fs) (.ok v)) : Ta C G Γ (e :: f :: fs) (.ok (u && v)) := taP h rfl t rfl
theorem toPP {u v : Bool} {f : E} (h : Tr C G Γ e (.ok u)) (t : To C G Γ (f :: fs) (.ok v)) : To C G Γ (e :: f :: fs) (.ok (u || v)) := toP h rfl t rfl
theorem eaPP {u v : Bool} {f : E} (h : Ex C G Γ e (.ok u) (vA A)) (t : Ea C G Γ (f :: fs) (.ok v)) : Ea C G Γ (e :: f :: fs) (.ok (u && v)) := eaP h rfl t rfl
theorem eoPP {u v : Bool} {f : E} (h : Ex C G Γ e (.ok u) (vA A)) (t : Eo C G Γ (f :: fs) (.ok v)) : Eo C G Γ (e :: f :: fs) (.ok (u || v)) := eoP h rfl t rfl
theorem csPP {u v : Bool} (h : Tr C G Γ e (.ok u)) (t : Cs C G Γ es (.ok v)) : Cs C G Γ (e :: es) (.ok (u && v)) := csP h rfl t rfl
theorem xIfxPP {u : Bool} {x y : α} {ι : α → Vt} (hc : Tr C G Γ c (.ok u)) (ha : Ex C G Γ a (.ok x) ι) (hb : Ex C G Γ b (.ok y) ι) : Ex C G Γ (.ifx c a b) (.ok (if u then x else y)) ι := xIfxP hc rfl ha rfl hb rfl
theorem xChnPP {o o' : COp} {x y z : Int} (ho : ord6 o = true) (ho' : ord6 o' = true) (ha : Ex C G Γ a (.ok x) (vA A)) (hb : Ex C G Γ b (.ok y) (vA B)) (hc : Ex C G Γ c (.ok z) (vA A')) : Ex C G Γ (.chn o o' a b c) (.ok (cI o x y && cI o' y z)) vS := xChnP ho ho' ha rfl hb rfl hc rfl
theorem xChnPPM {o o' : COp} {x : Int} {y : Int} {mc : M Int} (ho : ord6 o = true) (ho' : ord6 o' = true) (ha : Ex C G Γ a (.ok x) (vA A)) (hb : Ex C G Γ b (.ok y) (vA B)) (hc : Ex C G Γ c mc (vA A')) : Ex C G Γ (.chn o o' a b c) (if cI o x y then (mc.bind fun z => (.ok (cI o' y z))) else .ok false) vS := xChn ho ho' ha hb hc
theorem xChnPMP {o o' : COp} {x : Int} {mb : M Int} {z : Int} (ho : ord6 o = true) (ho' : ord6 o' = true) (ha : Ex C G Γ a (.ok x) (vA A)) (hb : Ex C G Γ b mb (vA B)) (hc : Ex C G Γ c (.ok z) (vA A')) : Ex C G Γ (.chn o o' a b c) (mb.bind fun y => (if cI o x y then (.ok (cI o' y z)) else .ok false)) vS := xChn ho ho' ha hb hc
theorem xChnPMM {o o' : COp} {x : Int} {mb : M Int} {mc : M Int} (ho : ord6 o = true) (ho' : ord6 o' = true) (ha : Ex C G Γ a (.ok x) (vA A)) (hb : Ex C G Γ b mb (vA B)) (hc : Ex C G Γ c mc (vA A')) : Ex C G Γ (.chn o o' a b c) (mb.bind fun y => (if cI o x y then (mc.bind fun z => (.ok (cI o' y z))) else .ok false)) vS := xChn ho ho' ha hb hc
theorem xChnMPP {o o' : COp} {ma : M Int} {y : Int} {z : Int} (ho : ord6 o = true) (ho' : ord6 o' = true) (ha : Ex C G Γ a ma (vA A)) (hb : Ex C G Γ b (.ok y) (vA B)) (hc : Ex C G Γ c (.ok z) (vA A')) : Ex C G Γ (.chn o o' a b c) (ma.bind fun x => (if cI o x y then (.ok (cI o' y z)) else .ok false)) vS := xChn ho ho' ha hb hc
theorem xChnMPM {o o' : COp} {ma : M Int} {y : Int} {mc : M Int} (ho : ord6 o = true) (ho' : ord6 o' = true) (ha : Ex C G Γ a ma (vA A)) (hb : Ex C G Γ b (.ok y) (vA B)) (hc : Ex C G Γ c mc (vA A')) : Ex C G Γ (.chn o o' a b c) (ma.bind fun x => (if cI o x y then (mc.bind fun z => (.ok (cI o' y z))) else .ok false)) vS := xChn ho ho' ha hb hc
theorem xChnMMP {o o' : COp} {ma : M Int} {mb : M Int} {z : Int} (ho : ord6 o = true) (ho' : ord6 o' = true) (ha : Ex C G Γ a ma (vA A)) (hb : Ex C G Γ b mb (vA B)) (hc : Ex C G Γ c (.ok z) (vA A')) : Ex C G Γ (.chn o o' a b c) (ma.bind fun x => (mb.bind fun y => (if cI o x y then (.ok (cI o' y z)) else .ok false))) vS := xChn ho ho' ha hb hc
theorem xChnMMM {o o' : COp} {ma : M Int} {mb : M Int} {mc : M Int} (ho : ord6 o = true) (ho' : ord6 o' = true) (ha : Ex C G Γ a ma (vA A)) (hb : Ex C G Γ b mb (vA B)) (hc : Ex C G Γ c mc (vA A')) : Ex C G Γ (.chn o o' a b c) (ma.bind fun x => (mb.bind fun y => (if cI o x y then (mc.bind fun z => (.ok (cI o' y z))) else .ok false))) vS := xChn ho ho' ha hb hc
theorem itR2PP {x : Int} {y : Int} (ha : Ex C G Γ a (.ok x) (vA A)) (hb : Ex C G Γ b (.ok y) (vA B)) : It C G Γ .range [a, b] (rg2 x y) [] := itR2 ha hb
theorem itZPP [En α] [En β] [Im α] [Im β] {x : List α} {y : List β} (ha : Ex C G Γ a (.ok x) (vA A)) (hb : Ex C G Γ b (.ok y) (vA B)) : It C G Γ .zip [a, b] (.ok (zipT x y)) (A ++ B) := itZ ha hb
theorem asCPP [En α] {τ : Type} {x : α} {y : τ} {ps : τ → List PyData} (h : Ex C G Γ e (.ok x) (vA A)) (t : As C G Γ es (.ok y) ps B) : As C G Γ (e :: es) (.ok (x, y)) (fun z => enc z.1 :: ps z.2) (A ++ B) := asC h t
theorem lsCPP [En α] {μ : Mo} {x : α} {y : List α} (h : Ex C G Γ e (.ok x) (vM μ A)) (t : Ls C G Γ es (.ok y) μ B) : Ls C G Γ (e :: es) (.ok (x :: y)) μ (A ++ B) := lsC h t
theorem itR2PM {x : Int} {mb : M Int} (ha : Ex C G Γ a (.ok x) (vA A)) (hb : Ex C G Γ b mb (vA B)) : It C G Γ .range [a, b] (mb.bind fun y => (rg2 x y)) [] := itR2 ha hb
theorem itZPM [En α] [En β] [Im α] [Im β] {x : List α} {mb : M (List β)} (ha : Ex C G Γ a (.ok x) (vA A)) (hb : Ex C G Γ b mb (vA B)) : It C G Γ .zip [a, b] (mb.bind fun y => (.ok (zipT x y))) (A ++ B) := itZ ha hb
theorem asCPM [En α] {τ : Type} {x : α} {k : M τ} {ps : τ → List PyData} (h : Ex C G Γ e (.ok x) (vA A)) (t : As C G Γ es k ps B) : As C G Γ (e :: es) (k.bind fun y => (.ok (x, y))) (fun z => enc z.1 :: ps z.2) (A ++ B) := asC h t
theorem lsCPM [En α] {μ : Mo} {x : α} {k : M (List α)} (h : Ex C G Γ e (.ok x) (vM μ A)) (t : Ls C G Γ es k μ B) : Ls C G Γ (e :: es) (k.bind fun y => (.ok (x :: y))) μ (A ++ B) := lsC h t
theorem itR2MP {ma : M Int} {y : Int} (ha : Ex C G Γ a ma (vA A)) (hb : Ex C G Γ b (.ok y) (vA B)) : It C G Γ .range [a, b] (ma.bind fun x => (rg2 x y)) [] := itR2 ha hb
theorem itZMP [En α] [En β] [Im α] [Im β] {ma : M (List α)} {y : List β} (ha : Ex C G Γ a ma (vA A)) (hb : Ex C G Γ b (.ok y) (vA B)) : It C G Γ .zip [a, b] (ma.bind fun x => (.ok (zipT x y))) (A ++ B) := itZ ha hb
theorem asCMP [En α] {τ : Type} {m : M α} {y : τ} {ps : τ → List PyData} (h : Ex C G Γ e m (vA A)) (t : As C G Γ es (.ok y) ps B) : As C G Γ (e :: es) (m.bind fun x => (.ok (x, y))) (fun z => enc z.1 :: ps z.2) (A ++ B) := asC h t
theorem lsCMP [En α] {μ : Mo} {m : M α} {y : List α} (h : Ex C G Γ e m (vM μ A)) (t : Ls C G Γ es (.ok y) μ B) : Ls C G Γ (e :: es) (m.bind fun x => (.ok (x :: y))) μ (A ++ B) := lsC h t
theorem itR2MM {ma : M Int} {mb : M Int} (ha : Ex C G Γ a ma (vA A)) (hb : Ex C G Γ b mb (vA B)) : It C G Γ .range [a, b] (ma.bind fun x => (mb.bind fun y => (rg2 x y))) [] := itR2 ha hb
theorem itZMM [En α] [En β] [Im α] [Im β] {ma : M (List α)} {mb : M (List β)} (ha : Ex C G Γ a ma (vA A)) (hb : Ex C G Γ b mb (vA B)) : It C G Γ .zip [a, b] (ma.bind fun x => (mb.bind fun y => (.ok (zipT x y)))) (A ++ B) := itZ ha hb
theorem asCMM [En α] {τ : Type} {m : M α} {k : M τ} {ps : τ → List PyData} (h : Ex C G Γ e m (vA A)) (t : As C G Γ es k ps B) : As C G Γ (e :: es) (m.bind fun x => (k.bind fun y => (.ok (x, y)))) (fun z => enc z.1 :: ps z.2) (A ++ B) := asC h t
theorem lsCMM [En α] {μ : Mo} {m : M α} {k : M (List α)} (h : Ex C G Γ e m (vM μ A)) (t : Ls C G Γ es k μ B) : Ls C G Γ (e :: es) (m.bind fun x => (k.bind fun y => (.ok (x :: y)))) μ (A ++ B) := lsC h t
theorem xSlPPP [En α] {lo hi : Option E} {x : List α} {l : Option Int} {h : Option Int} (ha : Ex C G Γ a (.ok x) (vA A)) (hl : Oe C G Γ lo (.ok l)) (hh : Oe C G Γ hi (.ok h)) : Ex C G Γ (.sl a lo hi) (.ok (cutP x l h)) (vM (.O .R) A) := xSl ha hl hh
theorem xSliPPP [En α] [Im α] {lo hi : Option E} {x : List α} {l : Option Int} {h : Option Int} (ha : Ex C G Γ a (.ok x) (vA A)) (hl : Oe C G Γ lo (.ok l)) (hh : Oe C G Γ hi (.ok h)) : Ex C G Γ (.sl a lo hi) (.ok (cutP x l h)) (vM (.O .R) []) := xSli ha hl hh
theorem xSlUPPP [En α] {lo hi : Option E} {x : Tu α} {l : Option Int} {h : Option Int} (ha : Ex C G Γ a (.ok x) (vA A)) (hl : Oe C G Γ lo (.ok l)) (hh : Oe C G Γ hi (.ok h)) : Ex C G Γ (.sl a lo hi) (.ok (Tu.mk (cutP x.l l h))) (vA A) := xSlU ha hl hh
theorem xSlSPPP  {lo hi : Option E} {x : Tx} {l : Option Int} {h : Option Int} (ha : Ex C G Γ a (.ok x) (vA A)) (hl : Oe C G Γ lo (.ok l)) (hh : Oe C G Γ hi (.ok h)) : Ex C G Γ (.sl a lo hi) (cutM x l h) vS := xSlS ha hl hh
theorem xSlPPM [En α] {lo hi : Option E} {x : List α} {l : Option Int} {mh : M (Option Int)} (ha : Ex C G Γ a (.ok x) (vA A)) (hl : Oe C G Γ lo (.ok l)) (hh : Oe C G Γ hi mh) : Ex C G Γ (.sl a lo hi) (mh.bind fun h => (.ok (cutP x l h))) (vM (.O .R) A) := xSl ha hl hh
theorem xSliPPM [En α] [Im α] {lo hi : Option E} {x : List α} {l : Option Int} {mh : M (Option Int)} (ha : Ex C G Γ a (.ok x) (vA A)) (hl : Oe C G Γ lo (.ok l)) (hh : Oe C G Γ hi mh) : Ex C G Γ (.sl a lo hi) (mh.bind fun h => (.ok (cutP x l h))) (vM (.O .R) []) := xSli ha hl hh
theorem xSlUPPM [En α] {lo hi : Option E} {x : Tu α} {l : Option Int} {mh : M (Option Int)} (ha : Ex C G Γ a (.ok x) (vA A)) (hl : Oe C G Γ lo (.ok l)) (hh : Oe C G Γ hi mh) : Ex C G Γ (.sl a lo hi) (mh.bind fun h => (.ok (Tu.mk (cutP x.l l h)))) (vA A) := xSlU ha hl hh
theorem xSlSPPM  {lo hi : Option E} {x : Tx} {l : Option Int} {mh : M (Option Int)} (ha : Ex C G Γ a (.ok x) (vA A)) (hl : Oe C G Γ lo (.ok l)) (hh : Oe C G Γ hi mh) : Ex C G Γ (.sl a lo hi) (mh.bind fun h => (cutM x l h)) vS := xSlS ha hl hh
theorem xSlPMP [En α] {lo hi : Option E} {x : List α} {ml : M (Option Int)} {h : Option Int} (ha : Ex C G Γ a (.ok x) (vA A)) (hl : Oe C G Γ lo ml) (hh : Oe C G Γ hi (.ok h)) : Ex C G Γ (.sl a lo hi) (ml.bind fun l => (.ok (cutP x l h))) (vM (.O .R) A) := xSl ha hl hh
theorem xSliPMP [En α] [Im α] {lo hi : Option E} {x : List α} {ml : M (Option Int)} {h : Option Int} (ha : Ex C G Γ a (.ok x) (vA A)) (hl : Oe C G Γ lo ml) (hh : Oe C G Γ hi (.ok h)) : Ex C G Γ (.sl a lo hi) (ml.bind fun l => (.ok (cutP x l h))) (vM (.O .R) []) := xSli ha hl hh
theorem xSlUPMP [En α] {lo hi : Option E} {x : Tu α} {ml : M (Option Int)} {h : Option Int} (ha : Ex C G Γ a (.ok x) (vA A)) (hl : Oe C G Γ lo ml) (hh : Oe C G Γ hi (.ok h)) : Ex C G Γ (.sl a lo hi) (ml.bind fun l => (.ok (Tu.mk (cutP x.l l h)))) (vA A) := xSlU ha hl hh
theorem xSlSPMP  {lo hi : Option E} {x : Tx} {ml : M (Option Int)} {h : Option Int} (ha : Ex C G Γ a (.ok x) (vA A)) (hl : Oe C G Γ lo ml) (hh : Oe C G Γ hi (.ok h)) : Ex C G Γ (.sl a lo hi) (ml.bind fun l => (cutM x l h)) vS := xSlS ha hl hh
theorem xSlPMM [En α] {lo hi : Option E} {x : List α} {ml : M (Option Int)} {mh : M (Option Int)} (ha : Ex C G Γ a (.ok x) (vA A)) (hl : Oe C G Γ lo ml) (hh : Oe C G Γ hi mh) : Ex C G Γ (.sl a lo hi) (ml.bind fun l => (mh.bind fun h => (.ok (cutP x l h)))) (vM (.O .R) A) := xSl ha hl hh
theorem xSliPMM [En α] [Im α] {lo hi : Option E} {x : List α} {ml : M (Option Int)} {mh : M (Option Int)} (ha : Ex C G Γ a (.ok x) (vA A)) (hl : Oe C G Γ lo ml) (hh : Oe C G Γ hi mh) : Ex C G Γ (.sl a lo hi) (ml.bind fun l => (mh.bind fun h => (.ok (cutP x l h)))) (vM (.O .R) []) := xSli ha hl hh
theorem xSlUPMM [En α] {lo hi : Option E} {x : Tu α} {ml : M (Option Int)} {mh : M (Option Int)} (ha : Ex C G Γ a (.ok x) (vA A)) (hl : Oe C G Γ lo ml) (hh : Oe C G Γ hi mh) : Ex C G Γ (.sl a lo hi) (ml.bind fun l => (mh.bind fun h => (.ok (Tu.mk (cutP x.l l h))))) (vA A) := xSlU ha hl hh
theorem xSlSPMM  {lo hi : Option E} {x : Tx} {ml : M (Option Int)} {mh : M (Option Int)} (ha : Ex C G Γ a (.ok x) (vA A)) (hl : Oe C G Γ lo ml) (hh : Oe C G Γ hi mh) : Ex C G Γ (.sl a lo hi) (ml.bind fun l => (mh.bind fun h => (cutM x l h))) vS := xSlS ha hl hh
theorem xSlMPP [En α] {lo hi : Option E} {ma : M (List α)} {l : Option Int} {h : Option Int} (ha : Ex C G Γ a ma (vA A)) (hl : Oe C G Γ lo (.ok l)) (hh : Oe C G Γ hi (.ok h)) : Ex C G Γ (.sl a lo hi) (ma.bind fun x => (.ok (cutP x l h))) (vM (.O .R) A) := xSl ha hl hh
theorem xSliMPP [En α] [Im α] {lo hi : Option E} {ma : M (List α)} {l : Option Int} {h : Option Int} (ha : Ex C G Γ a ma (vA A)) (hl : Oe C G Γ lo (.ok l)) (hh : Oe C G Γ hi (.ok h)) : Ex C G Γ (.sl a lo hi) (ma.bind fun x => (.ok (cutP x l h))) (vM (.O .R) []) := xSli ha hl hh
theorem xSlUMPP [En α] {lo hi : Option E} {ma : M (Tu α)} {l : Option Int} {h : Option Int} (ha : Ex C G Γ a ma (vA A)) (hl : Oe C G Γ lo (.ok l)) (hh : Oe C G Γ hi (.ok h)) : Ex C G Γ (.sl a lo hi) (ma.bind fun x => (.ok (Tu.mk (cutP x.l l h)))) (vA A) := xSlU ha hl hh
theorem xSlSMPP  {lo hi : Option E} {ma : M (Tx)} {l : Option Int} {h : Option Int} (ha : Ex C G Γ a ma (vA A)) (hl : Oe C G Γ lo (.ok l)) (hh : Oe C G Γ hi (.ok h)) : Ex C G Γ (.sl a lo hi) (ma.bind fun x => (cutM x l h)) vS := xSlS ha hl hh
theorem xSlMPM [En α] {lo hi : Option E} {ma : M (List α)} {l : Option Int} {mh : M (Option Int)} (ha : Ex C G Γ a ma (vA A)) (hl : Oe C G Γ lo (.ok l)) (hh : Oe C G Γ hi mh) : Ex C G Γ (.sl a lo hi) (ma.bind fun x => (mh.bind fun h => (.ok (cutP x l h)))) (vM (.O .R) A) := xSl ha hl hh
theorem xSliMPM [En α] [Im α] {lo hi : Option E} {ma : M (List α)} {l : Option Int} {mh : M (Option Int)} (ha : Ex C G Γ a ma (vA A)) (hl : Oe C G Γ lo (.ok l)) (hh : Oe C G Γ hi mh) : Ex C G Γ (.sl a lo hi) (ma.bind fun x => (mh.bind fun h => (.ok (cutP x l h)))) (vM (.O .R) []) := xSli ha hl hh
theorem xSlUMPM [En α] {lo hi : Option E} {ma : M (Tu α)} {l : Option Int} {mh : M (Option Int)} (ha : Ex C G Γ a ma (vA A)) (hl : Oe C G Γ lo (.ok l)) (hh : Oe C G Γ hi mh) : Ex C G Γ (.sl a lo hi) (ma.bind fun x => (mh.bind fun h => (.ok (Tu.mk (cutP x.l l h))))) (vA A) := xSlU ha hl hh
theorem xSlSMPM  {lo hi : Option E} {ma : M (Tx)} {l : Option Int} {mh : M (Option Int)} (ha : Ex C G Γ a ma (vA A)) (hl : Oe C G Γ lo (.ok l)) (hh : Oe C G Γ hi mh) : Ex C G Γ (.sl a lo hi) (ma.bind fun x => (mh.bind fun h => (cutM x l h))) vS := xSlS ha hl hh
theorem xSlMMP [En α] {lo hi : Option E} {ma : M (List α)} {ml : M (Option Int)} {h : Option Int} (ha : Ex C G Γ a ma (vA A)) (hl : Oe C G Γ lo ml) (hh : Oe C G Γ hi (.ok h)) : Ex C G Γ (.sl a lo hi) (ma.bind fun x => (ml.bind fun l => (.ok (cutP x l h)))) (vM (.O .R) A) := xSl ha hl hh
theorem xSliMMP [En α] [Im α] {lo hi : Option E} {ma : M (List α)} {ml : M (Option Int)} {h : Option Int} (ha : Ex C G Γ a ma (vA A)) (hl : Oe C G Γ lo ml) (hh : Oe C G Γ hi (.ok h)) : Ex C G Γ (.sl a lo hi) (ma.bind fun x => (ml.bind fun l => (.ok (cutP x l h)))) (vM (.O .R) []) := xSli ha hl hh
theorem xSlUMMP [En α] {lo hi : Option E} {ma : M (Tu α)} {ml : M (Option Int)} {h : Option Int} (ha : Ex C G Γ a ma (vA A)) (hl : Oe C G Γ lo ml) (hh : Oe C G Γ hi (.ok h)) : Ex C G Γ (.sl a lo hi) (ma.bind fun x => (ml.bind fun l => (.ok (Tu.mk (cutP x.l l h))))) (vA A) := xSlU ha hl hh
theorem xSlSMMP  {lo hi : Option E} {ma : M (Tx)} {ml : M (Option Int)} {h : Option Int} (ha : Ex C G Γ a ma (vA A)) (hl : Oe C G Γ lo ml) (hh : Oe C G Γ hi (.ok h)) : Ex C G Γ (.sl a lo hi) (ma.bind fun x => (ml.bind fun l => (cutM x l h))) vS := xSlS ha hl hh
theorem xSlMMM [En α] {lo hi : Option E} {ma : M (List α)} {ml : M (Option Int)} {mh : M (Option Int)} (ha : Ex C G Γ a ma (vA A)) (hl : Oe C G Γ lo ml) (hh : Oe C G Γ hi mh) : Ex C G Γ (.sl a lo hi) (ma.bind fun x => (ml.bind fun l => (mh.bind fun h => (.ok (cutP x l h))))) (vM (.O .R) A) := xSl ha hl hh
theorem xSliMMM [En α] [Im α] {lo hi : Option E} {ma : M (List α)} {ml : M (Option Int)} {mh : M (Option Int)} (ha : Ex C G Γ a ma (vA A)) (hl : Oe C G Γ lo ml) (hh : Oe C G Γ hi mh) : Ex C G Γ (.sl a lo hi) (ma.bind fun x => (ml.bind fun l => (mh.bind fun h => (.ok (cutP x l h))))) (vM (.O .R) []) := xSli ha hl hh
theorem xSlUMMM [En α] {lo hi : Option E} {ma : M (Tu α)} {ml : M (Option Int)} {mh : M (Option Int)} (ha : Ex C G Γ a ma (vA A)) (hl : Oe C G Γ lo ml) (hh : Oe C G Γ hi mh) : Ex C G Γ (.sl a lo hi) (ma.bind fun x => (ml.bind fun l => (mh.bind fun h => (.ok (Tu.mk (cutP x.l l h)))))) (vA A) := xSlU ha hl hh
theorem xSlSMMM  {lo hi : Option E} {ma : M (Tx)} {ml : M (Option Int)} {mh : M (Option Int)} (ha : Ex C G Γ a ma (vA A)) (hl : Oe C G Γ lo ml) (hh : Oe C G Γ hi mh) : Ex C G Γ (.sl a lo hi) (ma.bind fun x => (ml.bind fun l => (mh.bind fun h => (cutM x l h)))) vS := xSlS ha hl hh
theorem xLcMP [En α] [En β] {own : List Nat} {k : Sk} {tg : Tg} {μ : Mo} {Γt : α → List Sl} {xs : List α} (f : α → β) (hi : It C G Γ k es (.ok xs) A) (ht : ∀ x, Tgt (wG Γ own) tg x (Γt x)) (he : ∀ x, Ex C G (Γt x) e (.ok (f x)) (vM μ B)) : Ex C G Γ (.lc own k es tg [] e) (.ok (xs.map f)) (vM (.O μ) (A ++ B)) := xLcM hi ht he fun _ => rfl
theorem xLcFP [En α] [En β] {own : List Nat} {k : Sk} {tg : Tg} {μ : Mo} {Γt : α → List Sl} {xs : List α} (c : α → Bool) (f : α → β) (hi : It C G Γ k es (.ok xs) A) (ht : ∀ x, Tgt (wG Γ own) tg x (Γt x)) (hc : ∀ x, Cs C G (Γt x) fs (.ok (c x))) (he : ∀ x, Ex C G (Γt x) e (.ok (f x)) (vM μ B)) : Ex C G Γ (.lc own k es tg fs e) (.ok ((xs.filter c).map f)) (vM (.O μ) (A ++ B)) := xLcF hi ht hc (fun _ => rfl) he fun _ => rfl
theorem xLcXP [En α] [En β] {own : List Nat} {k : Sk} {tg : Tg} {μ : Mo} {Γt : α → List Sl} {xs : List α} (mc : α → M Bool) (me : α → M β) (hi : It C G Γ k es (.ok xs) A) (ht : ∀ x, Tgt (wG Γ own) tg x (Γt x)) (hc : ∀ x, Cs C G (Γt x) fs (mc x)) (he : ∀ x, Ex C G (Γt x) e (me x) (vM μ B)) : Ex C G Γ (.lc own k es tg fs e) (lcM mc me xs) (vM (.O μ) (A ++ B)) := xLc hi ht hc he
theorem xLcMM [En α] [En β] {own : List Nat} {k : Sk} {tg : Tg} {μ : Mo} {Γt : α → List Sl} {m : M (List α)} (f : α → β) (hi : It C G Γ k es m A) (ht : ∀ x, Tgt (wG Γ own) tg x (Γt x)) (he : ∀ x, Ex C G (Γt x) e (.ok (f x)) (vM μ B)) : Ex C G Γ (.lc own k es tg [] e) (m.bind fun xs => (.ok (xs.map f))) (vM (.O μ) (A ++ B)) := xLcM hi ht he fun _ => rfl
theorem xLcFM [En α] [En β] {own : List Nat} {k : Sk} {tg : Tg} {μ : Mo} {Γt : α → List Sl} {m : M (List α)} (c : α → Bool) (f : α → β) (hi : It C G Γ k es m A) (ht : ∀ x, Tgt (wG Γ own) tg x (Γt x)) (hc : ∀ x, Cs C G (Γt x) fs (.ok (c x))) (he : ∀ x, Ex C G (Γt x) e (.ok (f x)) (vM μ B)) : Ex C G Γ (.lc own k es tg fs e) (m.bind fun xs => (.ok ((xs.filter c).map f))) (vM (.O μ) (A ++ B)) := xLcF hi ht hc (fun _ => rfl) he fun _ => rfl
theorem xLcXM [En α] [En β] {own : List Nat} {k : Sk} {tg : Tg} {μ : Mo} {Γt : α → List Sl} {m : M (List α)} (mc : α → M Bool) (me : α → M β) (hi : It C G Γ k es m A) (ht : ∀ x, Tgt (wG Γ own) tg x (Γt x)) (hc : ∀ x, Cs C G (Γt x) fs (mc x)) (he : ∀ x, Ex C G (Γt x) e (me x) (vM μ B)) : Ex C G Γ (.lc own k es tg fs e) (m.bind fun xs => (lcM mc me xs)) (vM (.O μ) (A ++ B)) := xLc hi ht hc he
end
section
variable {C : Cal} {G : Glo} {Γ : List Sl}
theorem xTupK {τ α : Type} [En α] {es : List E} {z : τ} {ps : τ → List PyData} {A : List Nat} {w : α} (h : As C G Γ es (.ok z) ps A) (hf : enc w = .tuple (ps z)) : Ex C G Γ (.tup es) (.ok w) (vA A) :=
  xTup (τ := Unit) (m := .ok ()) (ps := fun _ => ps z) (fun _ => w) (fun ρ s => h ρ s) fun _ => hf
theorem xCallK {τ β : Type} {f : Nat} {es : List E} {z : τ} {ps : τ → List PyData} {A : List Nat} [En β] {m : M β} {μ : Mo} (h : As C G Γ es (.ok z) ps A) (hF : Fx C f (ps z) m (vM μ [])) : Ex C G Γ (.call f es) m (vM μ A) := fun ρ s => by
  obtain ⟨ds, al, h1, h2, h3, h4⟩ := h ρ s
  rw [e12, s11, h1, s5]
  unfold calD
  rw [h2.datas fun _ _ => MR.data]
  show RM (callR (C f (ps z)) al) m _
  unfold Fx at hF
  cases m with
  | stuck => trivial
  | exc c => rw [show C f (ps z) = .exc c from hF]; rfl
  | ok b =>
    obtain ⟨d, g1, g2⟩ := hF
    rw [g1]
    unfold callR
    simp only
    split
    · rename_i hv
      refine ⟨_, _, rfl, g2, h3, fun z => ?_⟩
      rw [g2.im z] at hv
      have : mutD (enc b) = true := hv
      rw [show mutD (enc b) = false from z] at this; cases this
    · exact ⟨_, _, rfl, g2.own, by simp, fun _ => rfl⟩
theorem xCall0P  {β : Type} [En β]    {f : Nat} {m : M β} {μ : Mo}  (hF : Fx C f [] m (vM μ [])) : Ex C G Γ (.call f []) m (vM μ []) := xCallK asN hF
theorem xCall1P {α1 : Type} [En α1] {β : Type} [En β] {x1 : α1} {a1 : E} {A1 : List Nat} {f : Nat} {m : M β} {μ : Mo} (h1 : Ex C G Γ a1 (.ok x1) (vA A1)) (hF : Fx C f [enc x1] m (vM μ [])) : Ex C G Γ (.call f [a1]) m (vM μ (A1 ++ [])) := xCallK (asC h1 asN) hF
theorem xTup2P {α1 : Type} [En α1] {α2 : Type} [En α2] {x1 : α1} {x2 : α2} {a1 : E} {a2 : E} {A1 : List Nat} {A2 : List Nat} (h1 : Ex C G Γ a1 (.ok x1) (vA A1)) (h2 : Ex C G Γ a2 (.ok x2) (vA A2)) : Ex C G Γ (.tup [a1, a2]) (.ok (T2.mk x1 x2)) (vA (A1 ++ (A2 ++ []))) := xTupK (asC h1 (asC h2 asN)) rfl
theorem xCall2P {α1 : Type} [En α1] {α2 : Type} [En α2] {β : Type} [En β] {x1 : α1} {x2 : α2} {a1 : E} {a2 : E} {A1 : List Nat} {A2 : List Nat} {f : Nat} {m : M β} {μ : Mo} (h1 : Ex C G Γ a1 (.ok x1) (vA A1)) (h2 : Ex C G Γ a2 (.ok x2) (vA A2)) (hF : Fx C f [enc x1, enc x2] m (vM μ [])) : Ex C G Γ (.call f [a1, a2]) m (vM μ (A1 ++ (A2 ++ []))) := xCallK (asC h1 (asC h2 asN)) hF
theorem xTup3P {α1 : Type} [En α1] {α2 : Type} [En α2] {α3 : Type} [En α3] {x1 : α1} {x2 : α2} {x3 : α3} {a1 : E} {a2 : E} {a3 : E} {A1 : List Nat} {A2 : List Nat} {A3 : List Nat} (h1 : Ex C G Γ a1 (.ok x1) (vA A1)) (h2 : Ex C G Γ a2 (.ok x2) (vA A2)) (h3 : Ex C G Γ a3 (.ok x3) (vA A3)) : Ex C G Γ (.tup [a1, a2, a3]) (.ok (T3.mk x1 x2 x3)) (vA (A1 ++ (A2 ++ (A3 ++ [])))) := xTupK (asC h1 (asC h2 (asC h3 asN))) rfl
theorem xCall3P {α1 : Type} [En α1] {α2 : Type} [En α2] {α3 : Type} [En α3] {β : Type} [En β] {x1 : α1} {x2 : α2} {x3 : α3} {a1 : E} {a2 : E} {a3 : E} {A1 : List Nat} {A2 : List Nat} {A3 : List Nat} {f : Nat} {m : M β} {μ : Mo} (h1 : Ex C G Γ a1 (.ok x1) (vA A1)) (h2 : Ex C G Γ a2 (.ok x2) (vA A2)) (h3 : Ex C G Γ a3 (.ok x3) (vA A3)) (hF : Fx C f [enc x1, enc x2, enc x3] m (vM μ [])) : Ex C G Γ (.call f [a1, a2, a3]) m (vM μ (A1 ++ (A2 ++ (A3 ++ [])))) := xCallK (asC h1 (asC h2 (asC h3 asN))) hF
theorem xTup4P {α1 : Type} [En α1] {α2 : Type} [En α2] {α3 : Type} [En α3] {α4 : Type} [En α4] {x1 : α1} {x2 : α2} {x3 : α3} {x4 : α4} {a1 : E} {a2 : E} {a3 : E} {a4 : E} {A1 : List Nat} {A2 : List Nat} {A3 : List Nat} {A4 : List Nat} (h1 : Ex C G Γ a1 (.ok x1) (vA A1)) (h2 : Ex C G Γ a2 (.ok x2) (vA A2)) (h3 : Ex C G Γ a3 (.ok x3) (vA A3)) (h4 : Ex C G Γ a4 (.ok x4) (vA A4)) : Ex C G Γ (.tup [a1, a2, a3, a4]) (.ok (T4.mk x1 x2 x3 x4)) (vA (A1 ++ (A2 ++ (A3 ++ (A4 ++ []))))) := xTupK (asC h1 (asC h2 (asC h3 (asC h4 asN)))) rfl
theorem xCall4P {α1 : Type} [En α1] {α2 : Type} [En α2] {α3 : Type} [En α3] {α4 : Type} [En α4] {β : Type} [En β] {x1 : α1} {x2 : α2} {x3 : α3} {x4 : α4} {a1 : E} {a2 : E} {a3 : E} {a4 : E} {A1 : List Nat} {A2 : List Nat} {A3 : List Nat} {A4 : List Nat} {f : Nat} {m : M β} {μ : Mo} (h1 : Ex C G Γ a1 (.ok x1) (vA A1)) (h2 : Ex C G Γ a2 (.ok x2) (vA A2)) (h3 : Ex C G Γ a3 (.ok x3) (vA A3)) (h4 : Ex C G Γ a4 (.ok x4) (vA A4)) (hF : Fx C f [enc x1, enc x2, enc x3, enc x4] m (vM μ [])) : Ex C G Γ (.call f [a1, a2, a3, a4]) m (vM μ (A1 ++ (A2 ++ (A3 ++ (A4 ++ []))))) := xCallK (asC h1 (asC h2 (asC h3 (asC h4 asN)))) hF
theorem xTup5P {α1 : Type} [En α1] {α2 : Type} [En α2] {α3 : Type} [En α3] {α4 : Type} [En α4] {α5 : Type} [En α5] {x1 : α1} {x2 : α2} {x3 : α3} {x4 : α4} {x5 : α5} {a1 : E} {a2 : E} {a3 : E} {a4 : E} {a5 : E} {A1 : List Nat} {A2 : List Nat} {A3 : List Nat} {A4 : List Nat} {A5 : List Nat} (h1 : Ex C G Γ a1 (.ok x1) (vA A1)) (h2 : Ex C G Γ a2 (.ok x2) (vA A2)) (h3 : Ex C G Γ a3 (.ok x3) (vA A3)) (h4 : Ex C G Γ a4 (.ok x4) (vA A4)) (h5 : Ex C G Γ a5 (.ok x5) (vA A5)) : Ex C G Γ (.tup [a1, a2, a3, a4, a5]) (.ok (T5.mk x1 x2 x3 x4 x5)) (vA (A1 ++ (A2 ++ (A3 ++ (A4 ++ (A5 ++ [])))))) := xTupK (asC h1 (asC h2 (asC h3 (asC h4 (asC h5 asN))))) rfl
theorem xCall5P {α1 : Type} [En α1] {α2 : Type} [En α2] {α3 : Type} [En α3] {α4 : Type} [En α4] {α5 : Type} [En α5] {β : Type} [En β] {x1 : α1} {x2 : α2} {x3 : α3} {x4 : α4} {x5 : α5} {a1 : E} {a2 : E} {a3 : E} {a4 : E} {a5 : E} {A1 : List Nat} {A2 : List Nat} {A3 : List Nat} {A4 : List Nat} {A5 : List Nat} {f : Nat} {m : M β} {μ : Mo} (h1 : Ex C G Γ a1 (.ok x1) (vA A1)) (h2 : Ex C G Γ a2 (.ok x2) (vA A2)) (h3 : Ex C G Γ a3 (.ok x3) (vA A3)) (h4 : Ex C G Γ a4 (.ok x4) (vA A4)) (h5 : Ex C G Γ a5 (.ok x5) (vA A5)) (hF : Fx C f [enc x1, enc x2, enc x3, enc x4, enc x5] m (vM μ [])) : Ex C G Γ (.call f [a1, a2, a3, a4, a5]) m (vM μ (A1 ++ (A2 ++ (A3 ++ (A4 ++ (A5 ++ [])))))) := xCallK (asC h1 (asC h2 (asC h3 (asC h4 (asC h5 asN))))) hF
theorem xCall6P {α1 : Type} [En α1] {α2 : Type} [En α2] {α3 : Type} [En α3] {α4 : Type} [En α4] {α5 : Type} [En α5] {α6 : Type} [En α6] {β : Type} [En β] {x1 : α1} {x2 : α2} {x3 : α3} {x4 : α4} {x5 : α5} {x6 : α6} {a1 : E} {a2 : E} {a3 : E} {a4 : E} {a5 : E} {a6 : E} {A1 : List Nat} {A2 : List Nat} {A3 : List Nat} {A4 : List Nat} {A5 : List Nat} {A6 : List Nat} {f : Nat} {m : M β} {μ : Mo} (h1 : Ex C G Γ a1 (.ok x1) (vA A1)) (h2 : Ex C G Γ a2 (.ok x2) (vA A2)) (h3 : Ex C G Γ a3 (.ok x3) (vA A3)) (h4 : Ex C G Γ a4 (.ok x4) (vA A4)) (h5 : Ex C G Γ a5 (.ok x5) (vA A5)) (h6 : Ex C G Γ a6 (.ok x6) (vA A6)) (hF : Fx C f [enc x1, enc x2, enc x3, enc x4, enc x5, enc x6] m (vM μ [])) : Ex C G Γ (.call f [a1, a2, a3, a4, a5, a6]) m (vM μ (A1 ++ (A2 ++ (A3 ++ (A4 ++ (A5 ++ (A6 ++ []))))))) := xCallK (asC h1 (asC h2 (asC h3 (asC h4 (asC h5 (asC h6 asN)))))) hF
theorem xCall7P {α1 : Type} [En α1] {α2 : Type} [En α2] {α3 : Type} [En α3] {α4 : Type} [En α4] {α5 : Type} [En α5] {α6 : Type} [En α6] {α7 : Type} [En α7] {β : Type} [En β] {x1 : α1} {x2 : α2} {x3 : α3} {x4 : α4} {x5 : α5} {x6 : α6} {x7 : α7} {a1 : E} {a2 : E} {a3 : E} {a4 : E} {a5 : E} {a6 : E} {a7 : E} {A1 : List Nat} {A2 : List Nat} {A3 : List Nat} {A4 : List Nat} {A5 : List Nat} {A6 : List Nat} {A7 : List Nat} {f : Nat} {m : M β} {μ : Mo} (h1 : Ex C G Γ a1 (.ok x1) (vA A1)) (h2 : Ex C G Γ a2 (.ok x2) (vA A2)) (h3 : Ex C G Γ a3 (.ok x3) (vA A3)) (h4 : Ex C G Γ a4 (.ok x4) (vA A4)) (h5 : Ex C G Γ a5 (.ok x5) (vA A5)) (h6 : Ex C G Γ a6 (.ok x6) (vA A6)) (h7 : Ex C G Γ a7 (.ok x7) (vA A7)) (hF : Fx C f [enc x1, enc x2, enc x3, enc x4, enc x5, enc x6, enc x7] m (vM μ [])) : Ex C G Γ (.call f [a1, a2, a3, a4, a5, a6, a7]) m (vM μ (A1 ++ (A2 ++ (A3 ++ (A4 ++ (A5 ++ (A6 ++ (A7 ++ [])))))))) := xCallK (asC h1 (asC h2 (asC h3 (asC h4 (asC h5 (asC h6 (asC h7 asN))))))) hF
theorem xCall8P {α1 : Type} [En α1] {α2 : Type} [En α2] {α3 : Type} [En α3] {α4 : Type} [En α4] {α5 : Type} [En α5] {α6 : Type} [En α6] {α7 : Type} [En α7] {α8 : Type} [En α8] {β : Type} [En β] {x1 : α1} {x2 : α2} {x3 : α3} {x4 : α4} {x5 : α5} {x6 : α6} {x7 : α7} {x8 : α8} {a1 : E} {a2 : E} {a3 : E} {a4 : E} {a5 : E} {a6 : E} {a7 : E} {a8 : E} {A1 : List Nat} {A2 : List Nat} {A3 : List Nat} {A4 : List Nat} {A5 : List Nat} {A6 : List Nat} {A7 : List Nat} {A8 : List Nat} {f : Nat} {m : M β} {μ : Mo} (h1 : Ex C G Γ a1 (.ok x1) (vA A1)) (h2 : Ex C G Γ a2 (.ok x2) (vA A2)) (h3 : Ex C G Γ a3 (.ok x3) (vA A3)) (h4 : Ex C G Γ a4 (.ok x4) (vA A4)) (h5 : Ex C G Γ a5 (.ok x5) (vA A5)) (h6 : Ex C G Γ a6 (.ok x6) (vA A6)) (h7 : Ex C G Γ a7 (.ok x7) (vA A7)) (h8 : Ex C G Γ a8 (.ok x8) (vA A8)) (hF : Fx C f [enc x1, enc x2, enc x3, enc x4, enc x5, enc x6, enc x7, enc x8] m (vM μ [])) : Ex C G Γ (.call f [a1, a2, a3, a4, a5, a6, a7, a8]) m (vM μ (A1 ++ (A2 ++ (A3 ++ (A4 ++ (A5 ++ (A6 ++ (A7 ++ (A8 ++ []))))))))) := xCallK (asC h1 (asC h2 (asC h3 (asC h4 (asC h5 (asC h6 (asC h7 (asC h8 asN)))))))) hF
end
end Hv

/-! Ty, part 6: tuples of any length, try, and what has no word; the laws' own comparison. -/
namespace Hv
open PySem
open En (enc)
section
variable {α β γ σ σ' τ : Type} {C : Cal} {G : Glo} {B : Sub} {Γ Γ' : List Sl} {e a b c : E} {ss : List S} {A A' : List Nat}
/-- an item of a tuple of any length -/
theorem xIxU [En α] {ma : M (Tu α)} {mb : M Int} (hv : varOf a = none) (ha : Ex C G Γ a ma (vA A)) (hb : Ex C G Γ b mb (vA A')) : Ex C G Γ (.ix a b) (ma.bind fun x => mb.bind fun i => getM x.l i) (vA A) := fun ρ s => by
  rw [e15 hv, s11]
  refine (ha ρ s).bind fun x d al v => (hb ρ s).bind fun i d' al' v' => ?_
  unfold dat2
  rw [v.data]
  simp only
  rw [v'.data]
  exact ix_go v.2.1
theorem xIxUPP [En α] {x : Tu α} {y : Int} (hv : varOf a = none) (ha : Ex C G Γ a (.ok x) (vA A)) (hb : Ex C G Γ b (.ok y) (vA A')) : Ex C G Γ (.ix a b) (getM x.l y) (vA A) := xIxU hv ha hb
theorem xIxUPM [En α] {x : Tu α} {mb : M Int} (hv : varOf a = none) (ha : Ex C G Γ a (.ok x) (vA A)) (hb : Ex C G Γ b mb (vA A')) : Ex C G Γ (.ix a b) (mb.bind fun y => getM x.l y) (vA A) := xIxU hv ha hb
theorem xIxUMP [En α] {ma : M (Tu α)} {y : Int} (hv : varOf a = none) (ha : Ex C G Γ a ma (vA A)) (hb : Ex C G Γ b (.ok y) (vA A')) : Ex C G Γ (.ix a b) (ma.bind fun x => getM x.l y) (vA A) := xIxU hv ha hb
theorem xIxUMM [En α] {ma : M (Tu α)} {mb : M Int} (hv : varOf a = none) (ha : Ex C G Γ a ma (vA A)) (hb : Ex C G Γ b mb (vA A')) : Ex C G Γ (.ix a b) (ma.bind fun x => mb.bind fun y => getM x.l y) (vA A) := xIxU hv ha hb
theorem xIxVU [En α] {i : Nat} {m : Mo} {xs : Tu α} {mb : M Int} (h : gG Γ i = .S m (enc xs)) (hb : Ex C G Γ b mb (vA A')) : Ex C G Γ (.ix (.var i) b) (mb.bind fun j => getM xs.l j) (vA [i]) := fun ρ s => by
  show RM (ixV i ρ (ev C G b ρ).e) _ _
  exact ixV_at (s.at_ i m _ h) hb s (fun j w al hal => ix_go hal) (fun x => ⟨rfl, rfl⟩) fun ps j hp => nomatch (show PyData.tuple (xs.l.map enc) = .list ps from hp)
theorem xIxVUP [En α] {i : Nat} {m : Mo} {xs : Tu α} {y : Int} (h : gG Γ i = .S m (enc xs)) (hb : Ex C G Γ b (.ok y) (vA A')) : Ex C G Γ (.ix (.var i) b) (getM xs.l y) (vA [i]) := xIxVU h hb
theorem xIxVUM [En α] {i : Nat} {m : Mo} {xs : Tu α} {mb : M Int} (h : gG Γ i = .S m (enc xs)) (hb : Ex C G Γ b mb (vA A')) : Ex C G Γ (.ix (.var i) b) (mb.bind fun y => getM xs.l y) (vA [i]) := xIxVU h hb
/-- None of what is nothing but None, or never -/
theorem xIsU {ma : M Unit} (ha : Ex C G Γ a ma (vA A)) : Ex C G Γ (.cmp .isn a .non) (ma.bind fun _ => .ok true) vS := fun ρ s => by
  rw [e7, s11]
  refine (ha ρ s).bind fun x d al v => ?_
  rw [e1, s11, s1]
  unfold dat2
  rw [v.data]
  exact RM.v rfl
theorem xNotU {ma : M Unit} (ha : Ex C G Γ a ma (vA A)) : Ex C G Γ (.cmp .notn a .non) (ma.bind fun _ => .ok false) vS := fun ρ s => by
  rw [e7, s11]
  refine (ha ρ s).bind fun x d al v => ?_
  rw [e1, s11, s1]
  unfold dat2
  rw [v.data]
  exact RM.v rfl
theorem xIsUP (ha : Ex C G Γ a (.ok ()) (vA A)) : Ex C G Γ (.cmp .isn a .non) (.ok true) vS := xIsU ha
theorem xIsUM {ma : M Unit} (ha : Ex C G Γ a ma (vA A)) : Ex C G Γ (.cmp .isn a .non) (ma.bind fun _ => .ok true) vS := xIsU ha
theorem xNotUP (ha : Ex C G Γ a (.ok ()) (vA A)) : Ex C G Γ (.cmp .notn a .non) (.ok false) vS := xNotU ha
theorem xNotUM {ma : M Unit} (ha : Ex C G Γ a ma (vA A)) : Ex C G Γ (.cmp .notn a .non) (ma.bind fun _ => .ok false) vS := xNotU ha
theorem xLenKM [En α] {ma : M α} (n : Nat) (h : ∀ x : α, ∃ ps, enc x = .tuple ps ∧ ps.length = n) (ha : Ex C G Γ a ma (vA A)) : Ex C G Γ (.bi .len [a]) (ma.bind fun _ => .ok (n : Int)) vS := xB1 (fun x d al v => by
  obtain ⟨ps, h1, h2⟩ := h x
  have hd : data d = some (.tuple ps) := by rw [← h1]; exact v.data
  rw [x20 hd, h2]
  exact RM.v rfl) ha
theorem xLenKP [En α] {x : α} (n : Nat) (h : ∀ x : α, ∃ ps, enc x = .tuple ps ∧ ps.length = n) (ha : Ex C G Γ a (.ok x) (vA A)) : Ex C G Γ (.bi .len [a]) (.ok (n : Int)) vS := xLenKM n h ha
variable [En β] {P : Pst σ τ}
theorem sBad : Sx (β := β) C G B Γ ss .stuck P := fun _ _ => trivial
/-- an exception that is caught ends the def with a value -/
def Rs.tryR (m : Rs σ τ β) (h : Str → Option β) : Rs σ τ β := match m with
  | .exc c => match h c with
    | some b => .ret b
    | none => .stuck
  | r => r
theorem tryR_ret {b : β} {h : Str → Option β} : (Rs.ret b : Rs σ τ β).tryR h = .ret b := rfl
theorem tryR_next {s : σ} {h : Str → Option β} : (Rs.next s : Rs σ τ β).tryR h = .next s := rfl
theorem tryR_exc {c : Str} {h : Str → Option β} : (Rs.exc c : Rs σ τ β).tryR h = match h c with
    | some b => .ret b
    | none => .stuck := rfl
theorem sTry {b : List S} {hs : List (List (Str × Bool) × Option Nat × List S)} {Γj : σ' → List Sl} {Γe : List Sl} {mb : Rs σ' τ β} {h : Str → Option β} {k : σ' → Rs σ τ β} (hb : Sx C G B Γ b mb ⟨Γj, P.l, P.r, fun ρ => St Γe ρ⟩)
    (hh : ∀ c v, h c = some v → ∀ ρ', St Γe ρ' → ∃ d, hnd C G B c hs ρ' = .ret d ∧ MR P.r d (enc v)) (hk : ∀ s, Sx C G B (Γj s) ss (k s) P) : Sx C G B Γ (.try_ b hs :: ss) ((mb.tryR h).seq k) P := fun ρ s => by
  rw [svs_c, t_try]
  have h1 := hb ρ s
  cases mb with
  | next s' =>
    obtain ⟨ρ', e, q⟩ := h1
    rw [e, try2]
    exact hk s' ρ' q
  | brk s' => obtain ⟨ρ', e, q⟩ := h1; rw [e]; exact ⟨ρ', rfl, q⟩
  | cnt s' => obtain ⟨ρ', e, q⟩ := h1; rw [e]; exact ⟨ρ', rfl, q⟩
  | ret b' => obtain ⟨d, e, q⟩ := h1; rw [e]; exact ⟨d, rfl, q⟩
  | exc c =>
    obtain ⟨ρ', e, q⟩ := h1
    rw [e, try3]
    show SR _ (Rs.seq (match h c with
      | some b => .ret b
      | none => .stuck) k) P
    cases hc : h c with
    | none => trivial
    | some v =>
      obtain ⟨d, h2, h3⟩ := hh c v hc ρ' q
      rw [h2]
      exact ⟨d, rfl, h3⟩
  | stuck => trivial
end
/-! ### the laws' own comparison of two values -/
def sameB (i : Nat) : List S := [
  (.ife (.isi (.var 1) .list) [(.ife (.or [(.not (.isi (.var 0) .list)), (.cmp .ne (.bi .len [(.var 0)]) (.bi .len [(.var 1)]))]) [(.ret (.bl false))] [])] [(.ife (.isi (.var 1) .tuple) [(.ife (.or [(.not (.isi (.var 0) .tuple)), (.cmp .ne (.bi .len [(.var 0)]) (.bi .len [(.var 1)]))]) [(.ret (.bl false))] [])] [(.ife (.cmp .isn (.var 1) .non) [(.ret (.cmp .isn (.var 0) .non))] [(.ife (.isi (.var 1) .bool) [(.ret (.and [(.isi (.var 0) .bool), (.cmp .eq (.var 0) (.var 1))]))] [(.ife (.isi (.var 1) .int) [(.ret (.and [(.isi (.var 0) .int), (.not (.isi (.var 0) .bool)), (.cmp .eq (.var 0) (.var 1))]))] [(.ret (.and [(.isi (.var 0) .str), (.cmp .eq (.var 0) (.var 1))]))])])])])]),
  (.for_ .range [(.bi .len [(.var 1)])] (.name 2) [(.ife (.not (.call i [(.ix (.var 0) (.var 2)), (.ix (.var 1) (.var 2))])) [(.ret (.bl false))] [])]),
  (.ret (.bl true))]
mutual
/-- none of its lists is longer than a range may be -/
def wid : PyData → Bool
  | .list ps => decide (ps.length ≤ 16777216) && wids ps
  | .tuple ps => decide (ps.length ≤ 16777216) && wids ps
  | _ => true
def wids : List PyData → Bool
  | [] => true
  | p :: ps => wid p && wids ps
end
theorem wids_mem : ∀ {ps : List PyData} {p : PyData}, wids ps = true → p ∈ ps → wid p = true
  | q :: ps, p, h, hp => by
    simp only [wids, Bool.and_eq_true] at h
    rcases List.mem_cons.mp hp with rfl | hp
    · exact h.1
    · exact wids_mem h.2 hp
theorem noDicts_mem : ∀ {ps : List PyData} {p : PyData}, noDicts ps = true → p ∈ ps → noDict p = true
  | q :: ps, p, h, hp => by
    simp only [noDicts, Bool.and_eq_true] at h
    rcases List.mem_cons.mp hp with rfl | hp
    · exact h.1
    · exact noDicts_mem h.2 hp
theorem depthAll_mem : ∀ {ps : List PyData} {p : PyData}, p ∈ ps → p.depth ≤ PyData.depthAll ps
  | q :: ps, p, hp => by
    simp only [PyData.depthAll]
    rcases List.mem_cons.mp hp with rfl | hp
    · omega
    · have := depthAll_mem hp; omega
theorem same_loop {C : Cal} {G : Glo} {B : Sub} {i : Nat} {p : PyData} {ps : List PyData} (hp : p = .list ps ∨ p = .tuple ps) (hl : ps.length ≤ 16777216) (hc : ∀ q ∈ ps, C i [q, q] = .ok (.v (.bool true))) :
    retC (svs C G B [(.for_ .range [(.bi .len [(.var 1)])] (.name 2) [(.ife (.not (.call i [(.ix (.var 0) (.var 2)), (.ix (.var 1) (.var 2))])) [(.ret (.bl false))] [])]), (.ret (.bl true))] [some (.v p), some (.v p), none]) = .ok (.v (.bool true)) := by
  rw [t0, t13]
  have e0 : seqR (evs C G [.bi .len [(.var 1)]] [some (.v p), some (.v p), none]) = .ok [.v (.int ps.length)] [] := by rcases hp with rfl | rfl <;> simp (config := { implicitDefEqProofs := false }) [Hv.s1, Hv.s2, Hv.s3, Hv.s4, Hv.s5, Hv.s6, Hv.s7, Hv.s8, Hv.s9, Hv.s10, Hv.s11, Hv.s12, Hv.s13, Hv.s14, Hv.s15, Hv.s16, Hv.s17, Hv.s18, Hv.s19, Hv.s20, Hv.s21, Hv.s22, Hv.s23, Hv.s24, Hv.s25, Hv.s26, Hv.s27, Hv.s28, Hv.s29, Hv.s30, Hv.s31, Hv.s32, Hv.s33, Hv.s34, Hv.s35, Hv.s36, Hv.s37, Hv.s38, Hv.v1, Hv.v2, Hv.v3, Hv.v4, Hv.v6, Hv.v7, Hv.v8, Hv.v9, Hv.v10, Hv.v11, Hv.e1, Hv.e2, Hv.e3, Hv.e4, Hv.e5, Hv.e6, Hv.e7, Hv.e8, Hv.e9, Hv.e10, Hv.e11, Hv.e12, Hv.e13, Hv.e14, Hv.e16, Hv.e17, Hv.e18, Hv.e19, Hv.e20, Hv.e21, Hv.e22, Hv.e23, Hv.e24, Hv.e25, Hv.e26, Hv.x1, Hv.x2, Hv.x6, Hv.x7, Hv.x8, Hv.x9, Hv.x12, Hv.x13, Hv.x14, Hv.x15, Hv.x16, Hv.x17, Hv.x21, Hv.x22, Hv.x23, Hv.x24, Hv.x25, Hv.x26, Hv.x27, Hv.x28, Hv.x29, Hv.x30, Hv.y0, Hv.y1, Hv.y2, Hv.y3, Hv.y4, Hv.y5, Hv.x31, Hv.x32, Hv.x33, Hv.x34, Hv.x35, Hv.x36, Hv.x39, Hv.a1, Hv.a2, Hv.k1, Hv.k4, Hv.k6, Hv.k7, Hv.k8, Hv.k9, Hv.k10, Hv.t0, Hv.t1, Hv.t2, Hv.t3, Hv.t4, Hv.t5, Hv.t6, Hv.t7, Hv.t8, Hv.t9, Hv.t10, Hv.t11, Hv.t12, Hv.t13, Hv.t14, Hv.t14', Hv.t15, Hv.t16, Hv.t17, Hv.t18, Hv.t19, Hv.t20, Hv.t21, Hv.t22, Hv.t23, Hv.t24, Hv.t25, Hv.t26, Hv.t28, Hv.r2, Hv.r3, Hv.r4, Hv.z1, Hv.z2, Hv.z3, Hv.mutDs_int, Hv.intsOf_int, Hv.startE, Hv.isNew, List.set]
  rw [e0, s7, f1 hl]
  obtain ⟨ρ', e, o, rfl⟩ := forR_inv (body := blk C G B [(.ife (.not (.call i [(.ix (.var 0) (.var 2)), (.ix (.var 1) (.var 2))])) [(.ret (.bl false))] [])]) (st := fun p ρ => setT (Tg.name 2) true p ρ) (ps := (rgI 0 (ps.length : Int)).map .int) (ρ := [some (.v p), some (.v p), none]) (fun _ ρ => ∃ o, ρ = [some (.v p), some (.v p), o])
    (fun j q ρ hq ⟨o, e⟩ => by
      obtain ⟨hj, rfl⟩ := rgI_get hq
      subst e
      refine ⟨_, rfl, [some (.v p), some (.v p), some (.v (.int j))], .inl ?_, _, rfl⟩
      have hx : ps[j]? = some ps[j] := List.getElem?_eq_getElem hj
      have hm := hc _ (List.getElem_mem hj)
      generalize ps[j] = q at hx hm
      have hd : ∀ b, datas [fz b q, fz b q] = some [q, q] := fun b => by rw [kf, kf]; rfl
      have hi : ∀ n, ixvD n (some (some (.v p))) (.ok (.v (.int (j : Int))) []) = .ok (fz (isNew (.v p)) q) [] := fun n => by
        show ixP (isNew (.v p)) [] p (.int (j : Int)) = _
        rcases hp with rfl | rfl
        · rw [x29, hx]; exact itR_nil _ _
        · rw [x30, hx]; exact itR_nil _ _
      simp (config := { implicitDefEqProofs := false }) [Hv.s1, Hv.s2, Hv.s3, Hv.s4, Hv.s5, Hv.s6, Hv.s7, Hv.s8, Hv.s9, Hv.s10, Hv.s11, Hv.s12, Hv.s13, Hv.s14, Hv.s15, Hv.s16, Hv.s17, Hv.s18, Hv.s19, Hv.s20, Hv.s21, Hv.s22, Hv.s23, Hv.s24, Hv.s25, Hv.s26, Hv.s27, Hv.s28, Hv.s29, Hv.s30, Hv.s31, Hv.s32, Hv.s33, Hv.s34, Hv.s35, Hv.s36, Hv.s37, Hv.s38, Hv.v1, Hv.v2, Hv.v3, Hv.v4, Hv.v6, Hv.v7, Hv.v8, Hv.v9, Hv.v10, Hv.v11, Hv.e1, Hv.e2, Hv.e3, Hv.e4, Hv.e5, Hv.e6, Hv.e7, Hv.e8, Hv.e9, Hv.e10, Hv.e11, Hv.e12, Hv.e13, Hv.e14, Hv.e16, Hv.e17, Hv.e18, Hv.e19, Hv.e20, Hv.e21, Hv.e22, Hv.e23, Hv.e24, Hv.e25, Hv.e26, Hv.x1, Hv.x2, Hv.x6, Hv.x7, Hv.x8, Hv.x9, Hv.x12, Hv.x13, Hv.x14, Hv.x15, Hv.x16, Hv.x17, Hv.x21, Hv.x22, Hv.x23, Hv.x24, Hv.x25, Hv.x26, Hv.x27, Hv.x28, Hv.x29, Hv.x30, Hv.y0, Hv.y1, Hv.y2, Hv.y3, Hv.y4, Hv.y5, Hv.x31, Hv.x32, Hv.x33, Hv.x34, Hv.x35, Hv.x36, Hv.x39, Hv.a1, Hv.a2, Hv.k1, Hv.k4, Hv.k6, Hv.k7, Hv.k8, Hv.k9, Hv.k10, Hv.t0, Hv.t1, Hv.t2, Hv.t3, Hv.t4, Hv.t5, Hv.t6, Hv.t7, Hv.t8, Hv.t9, Hv.t10, Hv.t11, Hv.t12, Hv.t13, Hv.t14, Hv.t14', Hv.t15, Hv.t16, Hv.t17, Hv.t18, Hv.t19, Hv.t20, Hv.t21, Hv.t22, Hv.t23, Hv.t24, Hv.t25, Hv.t26, Hv.t28, Hv.r2, Hv.r3, Hv.r4, Hv.z1, Hv.z2, Hv.z3, Hv.mutDs_int, Hv.intsOf_int, Hv.startE, Hv.isNew, List.set, hi, hd, hm, k2b]) ⟨none, rfl⟩
  rw [e]
  simp (config := { implicitDefEqProofs := false }) [Hv.s1, Hv.s2, Hv.s3, Hv.s4, Hv.s5, Hv.s6, Hv.s7, Hv.s8, Hv.s9, Hv.s10, Hv.s11, Hv.s12, Hv.s13, Hv.s14, Hv.s15, Hv.s16, Hv.s17, Hv.s18, Hv.s19, Hv.s20, Hv.s21, Hv.s22, Hv.s23, Hv.s24, Hv.s25, Hv.s26, Hv.s27, Hv.s28, Hv.s29, Hv.s30, Hv.s31, Hv.s32, Hv.s33, Hv.s34, Hv.s35, Hv.s36, Hv.s37, Hv.s38, Hv.v1, Hv.v2, Hv.v3, Hv.v4, Hv.v6, Hv.v7, Hv.v8, Hv.v9, Hv.v10, Hv.v11, Hv.e1, Hv.e2, Hv.e3, Hv.e4, Hv.e5, Hv.e6, Hv.e7, Hv.e8, Hv.e9, Hv.e10, Hv.e11, Hv.e12, Hv.e13, Hv.e14, Hv.e16, Hv.e17, Hv.e18, Hv.e19, Hv.e20, Hv.e21, Hv.e22, Hv.e23, Hv.e24, Hv.e25, Hv.e26, Hv.x1, Hv.x2, Hv.x6, Hv.x7, Hv.x8, Hv.x9, Hv.x12, Hv.x13, Hv.x14, Hv.x15, Hv.x16, Hv.x17, Hv.x21, Hv.x22, Hv.x23, Hv.x24, Hv.x25, Hv.x26, Hv.x27, Hv.x28, Hv.x29, Hv.x30, Hv.y0, Hv.y1, Hv.y2, Hv.y3, Hv.y4, Hv.y5, Hv.x31, Hv.x32, Hv.x33, Hv.x34, Hv.x35, Hv.x36, Hv.x39, Hv.a1, Hv.a2, Hv.k1, Hv.k4, Hv.k6, Hv.k7, Hv.k8, Hv.k9, Hv.k10, Hv.t0, Hv.t1, Hv.t2, Hv.t3, Hv.t4, Hv.t5, Hv.t6, Hv.t7, Hv.t8, Hv.t9, Hv.t10, Hv.t11, Hv.t12, Hv.t13, Hv.t14, Hv.t14', Hv.t15, Hv.t16, Hv.t17, Hv.t18, Hv.t19, Hv.t20, Hv.t21, Hv.t22, Hv.t23, Hv.t24, Hv.t25, Hv.t26, Hv.t28, Hv.r2, Hv.r3, Hv.r4, Hv.z1, Hv.z2, Hv.z3, Hv.mutDs_int, Hv.intsOf_int, Hv.startE, Hv.isNew, List.set]
theorem same_go {C : Nat → Cal} {G : Glo} {B : Sub} {i : Nat} (hC : ∀ k a b, C (k + 1) i [a, b] = retC (svs (C k) G B (sameB i) [some (.v a), some (.v b), none])) : ∀ (n : Nat) (p : PyData), noDict p = true → wid p = true → p.depth ≤ n → n ≤ 60 → ∀ k, n < k → C k i [p, p] = .ok (.v (.bool true)) := by
  intro n
  induction n with
  | zero =>
    intro p h1 h2 h3 _ k hk
    obtain ⟨k, rfl⟩ : ∃ j, k = j + 1 := ⟨k - 1, by omega⟩
    have hs : Sm 64 p := ⟨h1, by omega⟩
    rw [hC]
    unfold sameB
    cases p with
    | none => simp (config := { implicitDefEqProofs := false }) [Hv.s1, Hv.s2, Hv.s3, Hv.s4, Hv.s5, Hv.s6, Hv.s7, Hv.s8, Hv.s9, Hv.s10, Hv.s11, Hv.s12, Hv.s13, Hv.s14, Hv.s15, Hv.s16, Hv.s17, Hv.s18, Hv.s19, Hv.s20, Hv.s21, Hv.s22, Hv.s23, Hv.s24, Hv.s25, Hv.s26, Hv.s27, Hv.s28, Hv.s29, Hv.s30, Hv.s31, Hv.s32, Hv.s33, Hv.s34, Hv.s35, Hv.s36, Hv.s37, Hv.s38, Hv.v1, Hv.v2, Hv.v3, Hv.v4, Hv.v6, Hv.v7, Hv.v8, Hv.v9, Hv.v10, Hv.v11, Hv.e1, Hv.e2, Hv.e3, Hv.e4, Hv.e5, Hv.e6, Hv.e7, Hv.e8, Hv.e9, Hv.e10, Hv.e11, Hv.e12, Hv.e13, Hv.e14, Hv.e16, Hv.e17, Hv.e18, Hv.e19, Hv.e20, Hv.e21, Hv.e22, Hv.e23, Hv.e24, Hv.e25, Hv.e26, Hv.x1, Hv.x2, Hv.x6, Hv.x7, Hv.x8, Hv.x9, Hv.x12, Hv.x13, Hv.x14, Hv.x15, Hv.x16, Hv.x17, Hv.x21, Hv.x22, Hv.x23, Hv.x24, Hv.x25, Hv.x26, Hv.x27, Hv.x28, Hv.x29, Hv.x30, Hv.y0, Hv.y1, Hv.y2, Hv.y3, Hv.y4, Hv.y5, Hv.x31, Hv.x32, Hv.x33, Hv.x34, Hv.x35, Hv.x36, Hv.x39, Hv.a1, Hv.a2, Hv.k1, Hv.k4, Hv.k6, Hv.k7, Hv.k8, Hv.k9, Hv.k10, Hv.t0, Hv.t1, Hv.t2, Hv.t3, Hv.t4, Hv.t5, Hv.t6, Hv.t7, Hv.t8, Hv.t9, Hv.t10, Hv.t11, Hv.t12, Hv.t13, Hv.t14, Hv.t14', Hv.t15, Hv.t16, Hv.t17, Hv.t18, Hv.t19, Hv.t20, Hv.t21, Hv.t22, Hv.t23, Hv.t24, Hv.t25, Hv.t26, Hv.t28, Hv.r2, Hv.r3, Hv.r4, Hv.z1, Hv.z2, Hv.z3, Hv.mutDs_int, Hv.intsOf_int, Hv.startE, Hv.isNew, List.set, tyP]
    | bool b => simp (config := { implicitDefEqProofs := false }) [Hv.s1, Hv.s2, Hv.s3, Hv.s4, Hv.s5, Hv.s6, Hv.s7, Hv.s8, Hv.s9, Hv.s10, Hv.s11, Hv.s12, Hv.s13, Hv.s14, Hv.s15, Hv.s16, Hv.s17, Hv.s18, Hv.s19, Hv.s20, Hv.s21, Hv.s22, Hv.s23, Hv.s24, Hv.s25, Hv.s26, Hv.s27, Hv.s28, Hv.s29, Hv.s30, Hv.s31, Hv.s32, Hv.s33, Hv.s34, Hv.s35, Hv.s36, Hv.s37, Hv.s38, Hv.v1, Hv.v2, Hv.v3, Hv.v4, Hv.v6, Hv.v7, Hv.v8, Hv.v9, Hv.v10, Hv.v11, Hv.e1, Hv.e2, Hv.e3, Hv.e4, Hv.e5, Hv.e6, Hv.e7, Hv.e8, Hv.e9, Hv.e10, Hv.e11, Hv.e12, Hv.e13, Hv.e14, Hv.e16, Hv.e17, Hv.e18, Hv.e19, Hv.e20, Hv.e21, Hv.e22, Hv.e23, Hv.e24, Hv.e25, Hv.e26, Hv.x1, Hv.x2, Hv.x6, Hv.x7, Hv.x8, Hv.x9, Hv.x12, Hv.x13, Hv.x14, Hv.x15, Hv.x16, Hv.x17, Hv.x21, Hv.x22, Hv.x23, Hv.x24, Hv.x25, Hv.x26, Hv.x27, Hv.x28, Hv.x29, Hv.x30, Hv.y0, Hv.y1, Hv.y2, Hv.y3, Hv.y4, Hv.y5, Hv.x31, Hv.x32, Hv.x33, Hv.x34, Hv.x35, Hv.x36, Hv.x39, Hv.a1, Hv.a2, Hv.k1, Hv.k4, Hv.k6, Hv.k7, Hv.k8, Hv.k9, Hv.k10, Hv.t0, Hv.t1, Hv.t2, Hv.t3, Hv.t4, Hv.t5, Hv.t6, Hv.t7, Hv.t8, Hv.t9, Hv.t10, Hv.t11, Hv.t12, Hv.t13, Hv.t14, Hv.t14', Hv.t15, Hv.t16, Hv.t17, Hv.t18, Hv.t19, Hv.t20, Hv.t21, Hv.t22, Hv.t23, Hv.t24, Hv.t25, Hv.t26, Hv.t28, Hv.r2, Hv.r3, Hv.r4, Hv.z1, Hv.z2, Hv.z3, Hv.mutDs_int, Hv.intsOf_int, Hv.startE, Hv.isNew, List.set, tyP, eq_self hs]
    | int j => simp (config := { implicitDefEqProofs := false }) [Hv.s1, Hv.s2, Hv.s3, Hv.s4, Hv.s5, Hv.s6, Hv.s7, Hv.s8, Hv.s9, Hv.s10, Hv.s11, Hv.s12, Hv.s13, Hv.s14, Hv.s15, Hv.s16, Hv.s17, Hv.s18, Hv.s19, Hv.s20, Hv.s21, Hv.s22, Hv.s23, Hv.s24, Hv.s25, Hv.s26, Hv.s27, Hv.s28, Hv.s29, Hv.s30, Hv.s31, Hv.s32, Hv.s33, Hv.s34, Hv.s35, Hv.s36, Hv.s37, Hv.s38, Hv.v1, Hv.v2, Hv.v3, Hv.v4, Hv.v6, Hv.v7, Hv.v8, Hv.v9, Hv.v10, Hv.v11, Hv.e1, Hv.e2, Hv.e3, Hv.e4, Hv.e5, Hv.e6, Hv.e7, Hv.e8, Hv.e9, Hv.e10, Hv.e11, Hv.e12, Hv.e13, Hv.e14, Hv.e16, Hv.e17, Hv.e18, Hv.e19, Hv.e20, Hv.e21, Hv.e22, Hv.e23, Hv.e24, Hv.e25, Hv.e26, Hv.x1, Hv.x2, Hv.x6, Hv.x7, Hv.x8, Hv.x9, Hv.x12, Hv.x13, Hv.x14, Hv.x15, Hv.x16, Hv.x17, Hv.x21, Hv.x22, Hv.x23, Hv.x24, Hv.x25, Hv.x26, Hv.x27, Hv.x28, Hv.x29, Hv.x30, Hv.y0, Hv.y1, Hv.y2, Hv.y3, Hv.y4, Hv.y5, Hv.x31, Hv.x32, Hv.x33, Hv.x34, Hv.x35, Hv.x36, Hv.x39, Hv.a1, Hv.a2, Hv.k1, Hv.k4, Hv.k6, Hv.k7, Hv.k8, Hv.k9, Hv.k10, Hv.t0, Hv.t1, Hv.t2, Hv.t3, Hv.t4, Hv.t5, Hv.t6, Hv.t7, Hv.t8, Hv.t9, Hv.t10, Hv.t11, Hv.t12, Hv.t13, Hv.t14, Hv.t14', Hv.t15, Hv.t16, Hv.t17, Hv.t18, Hv.t19, Hv.t20, Hv.t21, Hv.t22, Hv.t23, Hv.t24, Hv.t25, Hv.t26, Hv.t28, Hv.r2, Hv.r3, Hv.r4, Hv.z1, Hv.z2, Hv.z3, Hv.mutDs_int, Hv.intsOf_int, Hv.startE, Hv.isNew, List.set, tyP, eq_self hs]
    | str x => simp (config := { implicitDefEqProofs := false }) [Hv.s1, Hv.s2, Hv.s3, Hv.s4, Hv.s5, Hv.s6, Hv.s7, Hv.s8, Hv.s9, Hv.s10, Hv.s11, Hv.s12, Hv.s13, Hv.s14, Hv.s15, Hv.s16, Hv.s17, Hv.s18, Hv.s19, Hv.s20, Hv.s21, Hv.s22, Hv.s23, Hv.s24, Hv.s25, Hv.s26, Hv.s27, Hv.s28, Hv.s29, Hv.s30, Hv.s31, Hv.s32, Hv.s33, Hv.s34, Hv.s35, Hv.s36, Hv.s37, Hv.s38, Hv.v1, Hv.v2, Hv.v3, Hv.v4, Hv.v6, Hv.v7, Hv.v8, Hv.v9, Hv.v10, Hv.v11, Hv.e1, Hv.e2, Hv.e3, Hv.e4, Hv.e5, Hv.e6, Hv.e7, Hv.e8, Hv.e9, Hv.e10, Hv.e11, Hv.e12, Hv.e13, Hv.e14, Hv.e16, Hv.e17, Hv.e18, Hv.e19, Hv.e20, Hv.e21, Hv.e22, Hv.e23, Hv.e24, Hv.e25, Hv.e26, Hv.x1, Hv.x2, Hv.x6, Hv.x7, Hv.x8, Hv.x9, Hv.x12, Hv.x13, Hv.x14, Hv.x15, Hv.x16, Hv.x17, Hv.x21, Hv.x22, Hv.x23, Hv.x24, Hv.x25, Hv.x26, Hv.x27, Hv.x28, Hv.x29, Hv.x30, Hv.y0, Hv.y1, Hv.y2, Hv.y3, Hv.y4, Hv.y5, Hv.x31, Hv.x32, Hv.x33, Hv.x34, Hv.x35, Hv.x36, Hv.x39, Hv.a1, Hv.a2, Hv.k1, Hv.k4, Hv.k6, Hv.k7, Hv.k8, Hv.k9, Hv.k10, Hv.t0, Hv.t1, Hv.t2, Hv.t3, Hv.t4, Hv.t5, Hv.t6, Hv.t7, Hv.t8, Hv.t9, Hv.t10, Hv.t11, Hv.t12, Hv.t13, Hv.t14, Hv.t14', Hv.t15, Hv.t16, Hv.t17, Hv.t18, Hv.t19, Hv.t20, Hv.t21, Hv.t22, Hv.t23, Hv.t24, Hv.t25, Hv.t26, Hv.t28, Hv.r2, Hv.r3, Hv.r4, Hv.z1, Hv.z2, Hv.z3, Hv.mutDs_int, Hv.intsOf_int, Hv.startE, Hv.isNew, List.set, tyP, eq_self hs]
    | list ps => simp [PyData.depth] at h3
    | tuple ps => simp [PyData.depth] at h3
    | dict kvs => cases h1
  | succ n ih =>
    intro p h1 h2 h3 h4 k hk
    obtain ⟨k, rfl⟩ : ∃ j, k = j + 1 := ⟨k - 1, by omega⟩
    have hs : Sm 64 p := ⟨h1, by omega⟩
    rw [hC]
    unfold sameB
    cases p with
    | none => simp (config := { implicitDefEqProofs := false }) [Hv.s1, Hv.s2, Hv.s3, Hv.s4, Hv.s5, Hv.s6, Hv.s7, Hv.s8, Hv.s9, Hv.s10, Hv.s11, Hv.s12, Hv.s13, Hv.s14, Hv.s15, Hv.s16, Hv.s17, Hv.s18, Hv.s19, Hv.s20, Hv.s21, Hv.s22, Hv.s23, Hv.s24, Hv.s25, Hv.s26, Hv.s27, Hv.s28, Hv.s29, Hv.s30, Hv.s31, Hv.s32, Hv.s33, Hv.s34, Hv.s35, Hv.s36, Hv.s37, Hv.s38, Hv.v1, Hv.v2, Hv.v3, Hv.v4, Hv.v6, Hv.v7, Hv.v8, Hv.v9, Hv.v10, Hv.v11, Hv.e1, Hv.e2, Hv.e3, Hv.e4, Hv.e5, Hv.e6, Hv.e7, Hv.e8, Hv.e9, Hv.e10, Hv.e11, Hv.e12, Hv.e13, Hv.e14, Hv.e16, Hv.e17, Hv.e18, Hv.e19, Hv.e20, Hv.e21, Hv.e22, Hv.e23, Hv.e24, Hv.e25, Hv.e26, Hv.x1, Hv.x2, Hv.x6, Hv.x7, Hv.x8, Hv.x9, Hv.x12, Hv.x13, Hv.x14, Hv.x15, Hv.x16, Hv.x17, Hv.x21, Hv.x22, Hv.x23, Hv.x24, Hv.x25, Hv.x26, Hv.x27, Hv.x28, Hv.x29, Hv.x30, Hv.y0, Hv.y1, Hv.y2, Hv.y3, Hv.y4, Hv.y5, Hv.x31, Hv.x32, Hv.x33, Hv.x34, Hv.x35, Hv.x36, Hv.x39, Hv.a1, Hv.a2, Hv.k1, Hv.k4, Hv.k6, Hv.k7, Hv.k8, Hv.k9, Hv.k10, Hv.t0, Hv.t1, Hv.t2, Hv.t3, Hv.t4, Hv.t5, Hv.t6, Hv.t7, Hv.t8, Hv.t9, Hv.t10, Hv.t11, Hv.t12, Hv.t13, Hv.t14, Hv.t14', Hv.t15, Hv.t16, Hv.t17, Hv.t18, Hv.t19, Hv.t20, Hv.t21, Hv.t22, Hv.t23, Hv.t24, Hv.t25, Hv.t26, Hv.t28, Hv.r2, Hv.r3, Hv.r4, Hv.z1, Hv.z2, Hv.z3, Hv.mutDs_int, Hv.intsOf_int, Hv.startE, Hv.isNew, List.set, tyP]
    | bool b => simp (config := { implicitDefEqProofs := false }) [Hv.s1, Hv.s2, Hv.s3, Hv.s4, Hv.s5, Hv.s6, Hv.s7, Hv.s8, Hv.s9, Hv.s10, Hv.s11, Hv.s12, Hv.s13, Hv.s14, Hv.s15, Hv.s16, Hv.s17, Hv.s18, Hv.s19, Hv.s20, Hv.s21, Hv.s22, Hv.s23, Hv.s24, Hv.s25, Hv.s26, Hv.s27, Hv.s28, Hv.s29, Hv.s30, Hv.s31, Hv.s32, Hv.s33, Hv.s34, Hv.s35, Hv.s36, Hv.s37, Hv.s38, Hv.v1, Hv.v2, Hv.v3, Hv.v4, Hv.v6, Hv.v7, Hv.v8, Hv.v9, Hv.v10, Hv.v11, Hv.e1, Hv.e2, Hv.e3, Hv.e4, Hv.e5, Hv.e6, Hv.e7, Hv.e8, Hv.e9, Hv.e10, Hv.e11, Hv.e12, Hv.e13, Hv.e14, Hv.e16, Hv.e17, Hv.e18, Hv.e19, Hv.e20, Hv.e21, Hv.e22, Hv.e23, Hv.e24, Hv.e25, Hv.e26, Hv.x1, Hv.x2, Hv.x6, Hv.x7, Hv.x8, Hv.x9, Hv.x12, Hv.x13, Hv.x14, Hv.x15, Hv.x16, Hv.x17, Hv.x21, Hv.x22, Hv.x23, Hv.x24, Hv.x25, Hv.x26, Hv.x27, Hv.x28, Hv.x29, Hv.x30, Hv.y0, Hv.y1, Hv.y2, Hv.y3, Hv.y4, Hv.y5, Hv.x31, Hv.x32, Hv.x33, Hv.x34, Hv.x35, Hv.x36, Hv.x39, Hv.a1, Hv.a2, Hv.k1, Hv.k4, Hv.k6, Hv.k7, Hv.k8, Hv.k9, Hv.k10, Hv.t0, Hv.t1, Hv.t2, Hv.t3, Hv.t4, Hv.t5, Hv.t6, Hv.t7, Hv.t8, Hv.t9, Hv.t10, Hv.t11, Hv.t12, Hv.t13, Hv.t14, Hv.t14', Hv.t15, Hv.t16, Hv.t17, Hv.t18, Hv.t19, Hv.t20, Hv.t21, Hv.t22, Hv.t23, Hv.t24, Hv.t25, Hv.t26, Hv.t28, Hv.r2, Hv.r3, Hv.r4, Hv.z1, Hv.z2, Hv.z3, Hv.mutDs_int, Hv.intsOf_int, Hv.startE, Hv.isNew, List.set, tyP, eq_self hs]
    | int j => simp (config := { implicitDefEqProofs := false }) [Hv.s1, Hv.s2, Hv.s3, Hv.s4, Hv.s5, Hv.s6, Hv.s7, Hv.s8, Hv.s9, Hv.s10, Hv.s11, Hv.s12, Hv.s13, Hv.s14, Hv.s15, Hv.s16, Hv.s17, Hv.s18, Hv.s19, Hv.s20, Hv.s21, Hv.s22, Hv.s23, Hv.s24, Hv.s25, Hv.s26, Hv.s27, Hv.s28, Hv.s29, Hv.s30, Hv.s31, Hv.s32, Hv.s33, Hv.s34, Hv.s35, Hv.s36, Hv.s37, Hv.s38, Hv.v1, Hv.v2, Hv.v3, Hv.v4, Hv.v6, Hv.v7, Hv.v8, Hv.v9, Hv.v10, Hv.v11, Hv.e1, Hv.e2, Hv.e3, Hv.e4, Hv.e5, Hv.e6, Hv.e7, Hv.e8, Hv.e9, Hv.e10, Hv.e11, Hv.e12, Hv.e13, Hv.e14, Hv.e16, Hv.e17, Hv.e18, Hv.e19, Hv.e20, Hv.e21, Hv.e22, Hv.e23, Hv.e24, Hv.e25, Hv.e26, Hv.x1, Hv.x2, Hv.x6, Hv.x7, Hv.x8, Hv.x9, Hv.x12, Hv.x13, Hv.x14, Hv.x15, Hv.x16, Hv.x17, Hv.x21, Hv.x22, Hv.x23, Hv.x24, Hv.x25, Hv.x26, Hv.x27, Hv.x28, Hv.x29, Hv.x30, Hv.y0, Hv.y1, Hv.y2, Hv.y3, Hv.y4, Hv.y5, Hv.x31, Hv.x32, Hv.x33, Hv.x34, Hv.x35, Hv.x36, Hv.x39, Hv.a1, Hv.a2, Hv.k1, Hv.k4, Hv.k6, Hv.k7, Hv.k8, Hv.k9, Hv.k10, Hv.t0, Hv.t1, Hv.t2, Hv.t3, Hv.t4, Hv.t5, Hv.t6, Hv.t7, Hv.t8, Hv.t9, Hv.t10, Hv.t11, Hv.t12, Hv.t13, Hv.t14, Hv.t14', Hv.t15, Hv.t16, Hv.t17, Hv.t18, Hv.t19, Hv.t20, Hv.t21, Hv.t22, Hv.t23, Hv.t24, Hv.t25, Hv.t26, Hv.t28, Hv.r2, Hv.r3, Hv.r4, Hv.z1, Hv.z2, Hv.z3, Hv.mutDs_int, Hv.intsOf_int, Hv.startE, Hv.isNew, List.set, tyP, eq_self hs]
    | str x => simp (config := { implicitDefEqProofs := false }) [Hv.s1, Hv.s2, Hv.s3, Hv.s4, Hv.s5, Hv.s6, Hv.s7, Hv.s8, Hv.s9, Hv.s10, Hv.s11, Hv.s12, Hv.s13, Hv.s14, Hv.s15, Hv.s16, Hv.s17, Hv.s18, Hv.s19, Hv.s20, Hv.s21, Hv.s22, Hv.s23, Hv.s24, Hv.s25, Hv.s26, Hv.s27, Hv.s28, Hv.s29, Hv.s30, Hv.s31, Hv.s32, Hv.s33, Hv.s34, Hv.s35, Hv.s36, Hv.s37, Hv.s38, Hv.v1, Hv.v2, Hv.v3, Hv.v4, Hv.v6, Hv.v7, Hv.v8, Hv.v9, Hv.v10, Hv.v11, Hv.e1, Hv.e2, Hv.e3, Hv.e4, Hv.e5, Hv.e6, Hv.e7, Hv.e8, Hv.e9, Hv.e10, Hv.e11, Hv.e12, Hv.e13, Hv.e14, Hv.e16, Hv.e17, Hv.e18, Hv.e19, Hv.e20, Hv.e21, Hv.e22, Hv.e23, Hv.e24, Hv.e25, Hv.e26, Hv.x1, Hv.x2, Hv.x6, Hv.x7, Hv.x8, Hv.x9, Hv.x12, Hv.x13, Hv.x14, Hv.x15, Hv.x16, Hv.x17, Hv.x21, Hv.x22, Hv.x23, Hv.x24, Hv.x25, Hv.x26, Hv.x27, Hv.x28, Hv.x29, Hv.x30, Hv.y0, Hv.y1, Hv.y2, Hv.y3, Hv.y4, Hv.y5, Hv.x31, Hv.x32, Hv.x33, Hv.x34, Hv.x35, Hv.x36, Hv.x39, Hv.a1, Hv.a2, Hv.k1, Hv.k4, Hv.k6, Hv.k7, Hv.k8, Hv.k9, Hv.k10, Hv.t0, Hv.t1, Hv.t2, Hv.t3, Hv.t4, Hv.t5, Hv.t6, Hv.t7, Hv.t8, Hv.t9, Hv.t10, Hv.t11, Hv.t12, Hv.t13, Hv.t14, Hv.t14', Hv.t15, Hv.t16, Hv.t17, Hv.t18, Hv.t19, Hv.t20, Hv.t21, Hv.t22, Hv.t23, Hv.t24, Hv.t25, Hv.t26, Hv.t28, Hv.r2, Hv.r3, Hv.r4, Hv.z1, Hv.z2, Hv.z3, Hv.mutDs_int, Hv.intsOf_int, Hv.startE, Hv.isNew, List.set, tyP, eq_self hs]
    | dict kvs => cases h1
    | list ps =>
      simp only [wid, Bool.and_eq_true, decide_eq_true_eq] at h2
      have hd : PyData.depthAll ps ≤ n := by simp only [PyData.depth] at h3; omega
      have hl := same_loop (C := C k) (G := G) (B := B) (i := i) (p := .list ps) (.inl rfl) h2.1 fun q hq => ih q (noDicts_mem (by simpa [noDict] using h1) hq) (wids_mem h2.2 hq) (Nat.le_trans (depthAll_mem hq) hd) (by omega) k (by omega)
      rw [t0]
      refine re_seq [some (.v (.list ps)), some (.v (.list ps)), none] ?_ hl
      simp (config := { implicitDefEqProofs := false }) [Hv.s1, Hv.s2, Hv.s3, Hv.s4, Hv.s5, Hv.s6, Hv.s7, Hv.s8, Hv.s9, Hv.s10, Hv.s11, Hv.s12, Hv.s13, Hv.s14, Hv.s15, Hv.s16, Hv.s17, Hv.s18, Hv.s19, Hv.s20, Hv.s21, Hv.s22, Hv.s23, Hv.s24, Hv.s25, Hv.s26, Hv.s27, Hv.s28, Hv.s29, Hv.s30, Hv.s31, Hv.s32, Hv.s33, Hv.s34, Hv.s35, Hv.s36, Hv.s37, Hv.s38, Hv.v1, Hv.v2, Hv.v3, Hv.v4, Hv.v6, Hv.v7, Hv.v8, Hv.v9, Hv.v10, Hv.v11, Hv.e1, Hv.e2, Hv.e3, Hv.e4, Hv.e5, Hv.e6, Hv.e7, Hv.e8, Hv.e9, Hv.e10, Hv.e11, Hv.e12, Hv.e13, Hv.e14, Hv.e16, Hv.e17, Hv.e18, Hv.e19, Hv.e20, Hv.e21, Hv.e22, Hv.e23, Hv.e24, Hv.e25, Hv.e26, Hv.x1, Hv.x2, Hv.x6, Hv.x7, Hv.x8, Hv.x9, Hv.x12, Hv.x13, Hv.x14, Hv.x15, Hv.x16, Hv.x17, Hv.x21, Hv.x22, Hv.x23, Hv.x24, Hv.x25, Hv.x26, Hv.x27, Hv.x28, Hv.x29, Hv.x30, Hv.y0, Hv.y1, Hv.y2, Hv.y3, Hv.y4, Hv.y5, Hv.x31, Hv.x32, Hv.x33, Hv.x34, Hv.x35, Hv.x36, Hv.x39, Hv.a1, Hv.a2, Hv.k1, Hv.k4, Hv.k6, Hv.k7, Hv.k8, Hv.k9, Hv.k10, Hv.t0, Hv.t1, Hv.t2, Hv.t3, Hv.t4, Hv.t5, Hv.t6, Hv.t7, Hv.t8, Hv.t9, Hv.t10, Hv.t11, Hv.t12, Hv.t13, Hv.t14, Hv.t14', Hv.t15, Hv.t16, Hv.t17, Hv.t18, Hv.t19, Hv.t20, Hv.t21, Hv.t22, Hv.t23, Hv.t24, Hv.t25, Hv.t26, Hv.t28, Hv.r2, Hv.r3, Hv.r4, Hv.z1, Hv.z2, Hv.z3, Hv.mutDs_int, Hv.intsOf_int, Hv.startE, Hv.isNew, List.set, tyP, cmp_nei]
    | tuple ps =>
      simp only [wid, Bool.and_eq_true, decide_eq_true_eq] at h2
      have hd : PyData.depthAll ps ≤ n := by simp only [PyData.depth] at h3; omega
      have hl := same_loop (C := C k) (G := G) (B := B) (i := i) (p := .tuple ps) (.inr rfl) h2.1 fun q hq => ih q (noDicts_mem (by simpa [noDict] using h1) hq) (wids_mem h2.2 hq) (Nat.le_trans (depthAll_mem hq) hd) (by omega) k (by omega)
      rw [t0]
      refine re_seq [some (.v (.tuple ps)), some (.v (.tuple ps)), none] ?_ hl
      simp (config := { implicitDefEqProofs := false }) [Hv.s1, Hv.s2, Hv.s3, Hv.s4, Hv.s5, Hv.s6, Hv.s7, Hv.s8, Hv.s9, Hv.s10, Hv.s11, Hv.s12, Hv.s13, Hv.s14, Hv.s15, Hv.s16, Hv.s17, Hv.s18, Hv.s19, Hv.s20, Hv.s21, Hv.s22, Hv.s23, Hv.s24, Hv.s25, Hv.s26, Hv.s27, Hv.s28, Hv.s29, Hv.s30, Hv.s31, Hv.s32, Hv.s33, Hv.s34, Hv.s35, Hv.s36, Hv.s37, Hv.s38, Hv.v1, Hv.v2, Hv.v3, Hv.v4, Hv.v6, Hv.v7, Hv.v8, Hv.v9, Hv.v10, Hv.v11, Hv.e1, Hv.e2, Hv.e3, Hv.e4, Hv.e5, Hv.e6, Hv.e7, Hv.e8, Hv.e9, Hv.e10, Hv.e11, Hv.e12, Hv.e13, Hv.e14, Hv.e16, Hv.e17, Hv.e18, Hv.e19, Hv.e20, Hv.e21, Hv.e22, Hv.e23, Hv.e24, Hv.e25, Hv.e26, Hv.x1, Hv.x2, Hv.x6, Hv.x7, Hv.x8, Hv.x9, Hv.x12, Hv.x13, Hv.x14, Hv.x15, Hv.x16, Hv.x17, Hv.x21, Hv.x22, Hv.x23, Hv.x24, Hv.x25, Hv.x26, Hv.x27, Hv.x28, Hv.x29, Hv.x30, Hv.y0, Hv.y1, Hv.y2, Hv.y3, Hv.y4, Hv.y5, Hv.x31, Hv.x32, Hv.x33, Hv.x34, Hv.x35, Hv.x36, Hv.x39, Hv.a1, Hv.a2, Hv.k1, Hv.k4, Hv.k6, Hv.k7, Hv.k8, Hv.k9, Hv.k10, Hv.t0, Hv.t1, Hv.t2, Hv.t3, Hv.t4, Hv.t5, Hv.t6, Hv.t7, Hv.t8, Hv.t9, Hv.t10, Hv.t11, Hv.t12, Hv.t13, Hv.t14, Hv.t14', Hv.t15, Hv.t16, Hv.t17, Hv.t18, Hv.t19, Hv.t20, Hv.t21, Hv.t22, Hv.t23, Hv.t24, Hv.t25, Hv.t26, Hv.t28, Hv.r2, Hv.r3, Hv.r4, Hv.z1, Hv.z2, Hv.z3, Hv.mutDs_int, Hv.intsOf_int, Hv.startE, Hv.isNew, List.set, tyP, cmp_nei]
/-- what is the same is found to be the same; nothing is said of the rest -/
def sameM {α : Type} [En α] [DecidableEq α] (a b : α) : M Bool := if a = b ∧ wid (enc a) = true then .ok true else .stuck
theorem same_ok {C : Nat → Cal} {G : Glo} {B : Sub} {i : Nat} (hC : ∀ k a b, C (k + 1) i [a, b] = retC (svs (C k) G B (sameB i) [some (.v a), some (.v b), none])) {α : Type} [En α] [DecidableEq α] [Eq_ α] {k : Nat} (hk : 30 ≤ k) (hn : Eq_.n α ≤ 20) (a b : α) : Fx (C k) i [enc a, enc b] (sameM a b) (vM .R []) := by
  unfold sameM
  by_cases h : a = b ∧ wid (enc a) = true
  · rw [if_pos h]
    obtain ⟨rfl, h⟩ := h
    have hs := Eq_.sm a
    exact ⟨.v (.bool true), same_go hC (Eq_.n α) (enc a) hs.1 h hs.2 (by omega) k (by omega), MR.v _⟩
  · rw [if_neg h]; trivial
end Hv

/-! Tz: typed code in plain Lean. -/
namespace Hv
open PySem
instance {α β : Type} [Inhabited α] [Inhabited β] : Inhabited (T2 α β) := ⟨⟨default, default⟩⟩
instance {α β γ : Type} [Inhabited α] [Inhabited β] [Inhabited γ] : Inhabited (T3 α β γ) := ⟨⟨default, default, default⟩⟩
instance {α β γ δ : Type} [Inhabited α] [Inhabited β] [Inhabited γ] [Inhabited δ] : Inhabited (T4 α β γ δ) := ⟨⟨default, default, default, default⟩⟩
instance {α : Type} : Inhabited (Tu α) := ⟨⟨[]⟩⟩
/-- an item, by a number -/
def gx {α : Type} [Inhabited α] (xs : List α) (i : Int) : α := xs.getD i.toNat default
section
variable {α β γ σ τ : Type} {x y i j n : Int} {xs ys : List α} {a b : α}
theorem gx_lt [Inhabited α] {k : Nat} (h : k < xs.length) : gx xs (k : Int) = xs[k] := by
  unfold gx
  rw [Int.toNat_natCast, List.getD_eq_getElem?_getD, List.getElem?_eq_getElem h]
  rfl
theorem gx_get [Inhabited α] (h0 : 0 ≤ i) (h1 : i < xs.length) : xs[i.toNat]? = some (gx xs i) := by
  have : i.toNat < xs.length := by omega
  unfold gx
  rw [List.getD_eq_getElem?_getD, List.getElem?_eq_getElem this]
  rfl
theorem gx_app [Inhabited α] (h0 : 0 ≤ i) (h1 : i < xs.length) : gx (xs ++ ys) i = gx xs i := by
  have h2 := gx_get h0 h1
  have h3 : (xs ++ ys)[i.toNat]? = some (gx xs i) := by rw [List.getElem?_append_left (by omega), h2]
  rw [gx_get h0 (by rw [List.length_append]; omega)] at h3
  exact Option.some.inj h3
theorem gx_rev [Inhabited α] (h0 : 0 ≤ i) (h1 : i < xs.length) : gx xs.reverse i = gx xs (xs.length - 1 - i) := by
  have h2 := gx_get (xs := xs.reverse) h0 (by rw [List.length_reverse]; exact h1)
  rw [List.getElem?_reverse (by omega)] at h2
  have h3 := gx_get (xs := xs) (i := xs.length - 1 - i) (by omega) (by omega)
  rw [show xs.length - 1 - i.toNat = ((xs.length : Int) - 1 - i).toNat by omega, h3] at h2
  exact (Option.some.inj h2).symm
theorem gx_mem [Inhabited α] (h0 : 0 ≤ i) (h1 : i < xs.length) : gx xs i ∈ xs := List.mem_of_getElem? (gx_get h0 h1)
theorem getM_ok [Inhabited α] (h0 : 0 ≤ i) (h1 : i < xs.length) : getM xs i = .ok (gx xs i) := by
  unfold getM
  rw [atI_in h0 h1, gx_get h0 h1]
  rfl
/-- from the end -/
theorem getM_neg [Inhabited α] (h0 : i < 0) (h1 : 0 ≤ i + xs.length) : getM xs i = .ok (gx xs (i + xs.length)) := by
  unfold getM L2.atI L2.ixN
  rw [if_neg (by omega), if_pos (by omega)]
  have h2 : (i + (xs.length : Int)) < xs.length := by omega
  show M.ofO xs[(i + (xs.length : Int)).toNat]? = _
  rw [gx_get h1 h2]
  rfl
theorem modM_ok (h : 0 < y) : modM x y = .ok (x % y) := M.when_t (decide_eq_true h)
theorem divM_ok (h : 0 < y) (h' : y ≤ 1000000000000) : divM x y = .ok (x / y) := M.when_t (divOk_of h h')
theorem mulM_r (h : y.natAbs < 18446744073709551616) : mulM x y = .ok (x * y) := M.when_t (mulOk_r h)
theorem mulM_l (h : x.natAbs < 18446744073709551616) : mulM x y = .ok (x * y) := M.when_t (by
  unfold mulOk
  simp only [Bool.or_eq_true, decide_eq_true_eq]
  exact .inl h)
theorem pow18 : powM 10 18 = .ok 1000000000000000000 := by
  unfold powM
  rw [M.when_t (by decide)]
  rfl
theorem rg1_ok (h0 : 0 ≤ n) (h1 : n ≤ 16777216) : rg1 n = .ok (rgI 0 n) := M.when_t (by
  unfold rgOk
  simp only [Bool.and_eq_true, decide_eq_true_eq]
  omega)
theorem rg2_ok (h0 : -1000000 ≤ x) (h0' : x ≤ 1000000) (h1 : y ≤ 1000000) (h1' : -1000000 ≤ y) : rg2 x y = .ok (rgI x y) := M.when_t (by
  unfold rgOk
  simp only [Bool.and_eq_true, decide_eq_true_eq]
  omega)
theorem pushM_ok (h : xs.length < 16777216) : pushM xs a = .ok (xs ++ [a]) := M.when_t (decide_eq_true h)
theorem catL_ok (h : xs.length + ys.length ≤ 16777216) : catL xs ys = .ok (xs ++ ys) := M.when_t (decide_eq_true h)
theorem catM_ok {u v : Tx} (h : u.length + v.length ≤ 16777216) : catM u v = .ok (u ++ v) := M.when_t (decide_eq_true h)
theorem lenM_ok {u : Tx} (h : u.length ≤ 16777216) : lenM u = .ok (u.length : Int) := M.when_t (decide_eq_true h)
theorem chsM_ok {u : Tx} (h : u.length ≤ 16777216) : chsM u = .ok (u.map fun c => [c]) := M.when_t (decide_eq_true h)
theorem cutM_ok {u : Tx} {lo hi : Option Int} (h : u.length ≤ 16777216) : cutM u lo hi = .ok (cutP u lo hi) := M.when_t (decide_eq_true h)
theorem chM_ok {u : Tx} (h : u.length ≤ 16777216) (h0 : 0 ≤ i) (h1 : i < u.length) : chM u i = .ok [gx u i] := by
  unfold chM
  rw [if_pos h, atI_in h0 h1, gx_get h0 h1]
  rfl
theorem setM_ok (h0 : 0 ≤ i) (h1 : i < xs.length) : setM xs i a = .ok (xs.set i.toNat a) := by
  obtain ⟨k, rfl⟩ := Int.eq_ofNat_of_zero_le h0
  unfold setM L2.ixN
  simp only [if_pos h0, if_pos h1, Int.toNat_natCast]
theorem rowM_ok {xss : List (List α)} {f : List α → M (List α)} {ys : List α} (h0 : 0 ≤ i) (h1 : i < xss.length) (hf : f (gx xss i) = .ok ys) : rowM xss i f = .ok (xss.set i.toNat ys) := by
  have h2 := gx_get h0 h1
  obtain ⟨k, rfl⟩ := Int.eq_ofNat_of_zero_le h0
  unfold rowM L2.ixN
  simp only [Int.toNat_natCast] at h2
  simp only [if_pos h0, if_pos h1, Int.toNat_natCast, h2, hf]
/-! ### ranges -/
theorem mem_rg {x a b : Int} : x ∈ rgI a b ↔ a ≤ x ∧ x < b := by
  unfold rgI
  simp only [List.mem_map, List.mem_range]
  constructor
  · rintro ⟨k, hk, rfl⟩; omega
  · intro h; exact ⟨(x - a).toNat, by omega, by omega⟩
theorem rgL {a b : Int} : (rgI a b).length = (b - a).toNat := by unfold rgI; simp
theorem rg_at {a b : Int} {k : Nat} (h : k < (rgI a b).length) : (rgI a b)[k] = a + k := by
  have : (rgI a b)[k]? = some (a + k) := by
    rw [rgL] at h
    unfold rgI
    simp [h]
  simpa [h] using this
theorem rg_nil {a b : Int} (h : b ≤ a) : rgI a b = [] := by
  unfold rgI
  rw [show (b - a).toNat = 0 by omega]; rfl
theorem rg_snoc {a b : Int} (h : a ≤ b) : rgI a (b + 1) = rgI a b ++ [b] := by
  unfold rgI
  rw [show (b + 1 - a).toNat = (b - a).toNat + 1 by omega, List.range_succ, List.map_append]
  congr 1
  simp
  omega
theorem rg_cons {a b : Int} (h : a < b) : rgI a b = a :: rgI (a + 1) b := by
  unfold rgI
  rw [show (b - a).toNat = (b - (a + 1)).toNat + 1 by omega, List.range_succ_eq_map, List.map_cons, List.map_map]
  congr 1
  · simp
  · refine List.map_congr_left fun k _ => ?_
    simp only [Function.comp]
    push_cast
    omega
theorem rg0 (n : Nat) : rgI 0 (n : Int) = (List.range n).map fun (k : Nat) => (k : Int) := rgI_nat n
/-! ### ends -/
theorem bindS_ok {f : α → Rs σ τ β} : (M.ok a).bindS f = f a := rfl
theorem bindS_exc {f : α → Rs σ τ β} {c : Str} : (M.exc c : M α).bindS f = .exc c := rfl
variable {σ' : Type}
theorem seq_next {s : σ} {f : σ → Rs σ' τ β} : (Rs.next s : Rs σ τ β).seq f = f s := rfl
theorem seq_ret {b : β} {f : σ → Rs σ' τ β} : (Rs.ret b : Rs σ τ β).seq f = .ret b := rfl
theorem seq_exc {c : Str} {f : σ → Rs σ' τ β} : (Rs.exc c : Rs σ τ β).seq f = .exc c := rfl
theorem seq_brk {s : τ} {f : σ → Rs σ' τ β} : (Rs.brk s : Rs σ τ β).seq f = .brk s := rfl
theorem seq_cnt {s : τ} {f : σ → Rs σ' τ β} : (Rs.cnt s : Rs σ τ β).seq f = .cnt s := rfl
theorem toM_ret {b : β} : (Rs.ret b : Rs σ Empty β).toM = .ok b := rfl
theorem toM_exc {c : Str} : (Rs.exc c : Rs σ Empty β).toM = .exc c := rfl
theorem toN_ret {b z : β} : (Rs.ret b : Rs σ Empty β).toN z = .ok b := rfl
theorem toN_next {z : β} {s : σ} : (Rs.next s : Rs σ Empty β).toN z = .ok z := rfl
theorem toN_exc {c : Str} {z : β} : (Rs.exc c : Rs σ Empty β).toN z = .exc c := rfl
/-! ### loops -/
variable {body : α → σ → Rs σ σ β}
theorem forL_nil {s : σ} : forL (τ := τ) body [] s = .next s := rfl
theorem forL_next {s s' : σ} {x : α} (h : body x s = .next s') : forL (τ := τ) body (x :: xs) s = forL body xs s' := by
  conv => lhs; unfold forL
  simp only [h]
theorem forL_cnt {s s' : σ} {x : α} (h : body x s = .cnt s') : forL (τ := τ) body (x :: xs) s = forL body xs s' := by
  conv => lhs; unfold forL
  simp only [h]
theorem forL_ret {s : σ} {x : α} {b : β} (h : body x s = .ret b) : forL (τ := τ) body (x :: xs) s = .ret b := by
  conv => lhs; unfold forL
  simp only [h]
theorem forL_exc {s : σ} {x : α} {c : Str} (h : body x s = .exc c) : forL (τ := τ) body (x :: xs) s = .exc c := by
  conv => lhs; unfold forL
  simp only [h]
theorem forL_brk {s s' : σ} {x : α} (h : body x s = .brk s') : forL (τ := τ) body (x :: xs) s = .next s' := by
  conv => lhs; unfold forL
  simp only [h]
/-- a loop as a fold, where the steps keep to I -/
theorem forL_fold {step : σ → α → σ} (I : σ → Prop) {s0 : σ} : ∀ {xs : List α} {s0 : σ}, I s0 → (∀ x ∈ xs, ∀ s, I s → body x s = .next (step s x) ∧ I (step s x)) → forL (τ := τ) body xs s0 = .next (xs.foldl step s0) ∧ I (xs.foldl step s0)
  | [], s0, h0, _ => ⟨rfl, h0⟩
  | x :: xs, s0, h0, h => by
    obtain ⟨h1, h2⟩ := h x List.mem_cons_self s0 h0
    rw [forL_next h1, List.foldl_cons]
    exact forL_fold I (s0 := step s0 x) h2 fun y hy => h y (List.mem_cons_of_mem _ hy)
/-- a loop that goes to its end: what holds behind each item -/
theorem forL_inv (I : Nat → σ → Prop) : ∀ {xs : List α} {s0 : σ} {k : Nat}, I k s0 → (∀ i (hi : i < xs.length) s, I (k + i) s → ∃ s', (body xs[i] s = .next s' ∨ body xs[i] s = .cnt s') ∧ I (k + i + 1) s') → ∃ s, forL (τ := τ) body xs s0 = .next s ∧ I (k + xs.length) s
  | [], s0, k, h0, _ => ⟨s0, rfl, h0⟩
  | x :: xs, s0, k, h0, h => by
    obtain ⟨s', h1, h2⟩ := h 0 (by simp) s0 h0
    have := forL_inv I (xs := xs) (s0 := s') (k := k + 1) h2 fun i hi s hs => by
      have := h (i + 1) (by simpa using hi) s (by rw [show k + (i + 1) = k + 1 + i by omega]; exact hs)
      rw [show k + 1 + i + 1 = k + (i + 1) + 1 by omega]
      simpa using this
    obtain ⟨s, e, hs⟩ := this
    refine ⟨s, ?_, by rw [List.length_cons, show k + (xs.length + 1) = k + 1 + xs.length by omega]; exact hs⟩
    rcases h1 with h1 | h1
    · rw [forL_next (x := x) h1, e]
    · rw [forL_cnt (x := x) h1, e]
theorem forL_inv0 (I : Nat → σ → Prop) {s0 : σ} (h0 : I 0 s0) (h : ∀ i (hi : i < xs.length) s, I i s → ∃ s', (body xs[i] s = .next s' ∨ body xs[i] s = .cnt s') ∧ I (i + 1) s') : ∃ s, forL (τ := τ) body xs s0 = .next s ∧ I xs.length s := by
  have := forL_inv (τ := τ) (body := body) I (xs := xs) (k := 0) h0 fun i hi s hs => by
    rw [Nat.zero_add] at hs ⊢; exact h i hi s hs
  rw [Nat.zero_add] at this
  exact this
/-- over 0 .. n-1 -/
theorem forL_rg {body : Int → σ → Rs σ σ β} (I : Int → σ → Prop) {m n : Int} (hmn : m ≤ n) {s0 : σ} (h0 : I m s0) (h : ∀ i s, m ≤ i → i < n → I i s → ∃ s', (body i s = .next s' ∨ body i s = .cnt s') ∧ I (i + 1) s') : ∃ s, forL (τ := τ) body (rgI m n) s0 = .next s ∧ I n s := by
  have := forL_inv0 (τ := τ) (body := body) (fun k s => I (m + k) s) (xs := rgI m n) (s0 := s0) (by simpa using h0) fun i hi s hs => by
    rw [rg_at hi]
    rw [rgL] at hi
    have := h (m + i) s (by omega) (by omega) hs
    rw [show m + (↑(i + 1) : Int) = m + i + 1 by push_cast; omega]
    exact this
  rw [rgL, show m + (((n - m).toNat : Nat) : Int) = n by omega] at this
  exact this
/-- a loop that only looks: it goes on, or gives r -/
theorem forL_all (b : α → Bool) {r : β} {s0 : σ} : ∀ {xs : List α}, (∀ x ∈ xs, body x s0 = if b x then .next s0 else .ret r) → forL (τ := τ) body xs s0 = if xs.all b then .next s0 else .ret r
  | [], _ => rfl
  | x :: xs, h => by
    have h1 := h x List.mem_cons_self
    cases hb : b x with
    | true =>
      rw [hb, if_pos rfl] at h1
      rw [forL_next h1, List.all_cons, hb, Bool.true_and]
      exact forL_all b fun y hy => h y (List.mem_cons_of_mem _ hy)
    | false =>
      rw [hb, if_neg (by simp)] at h1
      rw [forL_ret h1, List.all_cons, hb, Bool.false_and]
      rfl
/-- the same with a step for the state -/
theorem forL_chk (step : σ → α → σ) (b : σ → α → Bool) {r : β} : ∀ {xs : List α} {s0 : σ}, (∀ x ∈ xs, ∀ s, body x s = if b s x then .next (step s x) else .ret r) →
    (∃ s, forL (τ := τ) body xs s0 = .next s) ∨ forL (τ := τ) body xs s0 = .ret r
  | [], s0, _ => .inl ⟨s0, rfl⟩
  | x :: xs, s0, h => by
    have h1 := h x List.mem_cons_self s0
    cases hb : b s0 x with
    | true =>
      rw [hb, if_pos rfl] at h1
      rw [forL_next h1]
      exact forL_chk step b fun y hy => h y (List.mem_cons_of_mem _ hy)
    | false =>
      rw [hb, if_neg (by simp)] at h1
      rw [forL_ret h1]
      exact .inr rfl
/-- all true, one after another -/
theorem forL_true {r : β} {s0 : σ} : ∀ {xs : List α}, (∀ x ∈ xs, body x s0 = .next s0) → forL (τ := τ) body xs s0 = .next s0
  | [], _ => rfl
  | x :: xs, h => by rw [forL_next (h x List.mem_cons_self)]; exact forL_true (r := r) fun y hy => h y (List.mem_cons_of_mem _ hy)
/-! ### folds over Bool -/
theorem all_id {f : α → Bool} : (xs.map f).all id = xs.all f := by rw [List.all_map]; rfl
theorem any_id {f : α → Bool} : (xs.map f).any id = xs.any f := by rw [List.any_map]; rfl
end
theorem cI_lt {x y : Int} : cI .lt x y = decide (x < y) := rfl
theorem cI_le {x y : Int} : cI .le x y = decide (x ≤ y) := rfl
theorem cI_gt {x y : Int} : cI .gt x y = decide (y < x) := rfl
theorem cI_ge {x y : Int} : cI .ge x y = decide (y ≤ x) := rfl
theorem cI_eq {x y : Int} : cI .eq x y = decide (x = y) := rfl
theorem cI_ne {x y : Int} : cI .ne x y = !decide (x = y) := rfl
/-! ### cuts -/
theorem cut_take {α : Type} {xs : List α} {n : Int} (h : 0 ≤ n) : cutP xs none (some n) = xs.take n.toNat := by
  obtain ⟨m, rfl⟩ := Int.eq_ofNat_of_zero_le h
  exact cut_none
theorem cut_drop {α : Type} {xs : List α} {n : Int} (h : 0 ≤ n) : cutP xs (some n) none = xs.drop n.toNat := by
  obtain ⟨m, rfl⟩ := Int.eq_ofNat_of_zero_le h
  exact cut_from
theorem cut_m1 {α : Type} {xs : List α} : cutP xs none (some (-1)) = xs.dropLast := by
  unfold cutP
  rw [HT.sIx_none]
  have : HT.sIx xs.length xs.length (some (-1)) = xs.length - 1 := by
    unfold HT.sIx
    simp
    omega
  rw [this]
  simp [List.dropLast_eq_take]
theorem cut_le {α : Type} {xs : List α} {lo hi : Option Int} : (cutP xs lo hi).length ≤ xs.length := cutP_len
theorem cut_mem {α : Type} {xs : List α} {lo hi : Option Int} {x : α} (h : x ∈ cutP xs lo hi) : x ∈ xs := by
  unfold cutP at h
  exact List.mem_of_mem_drop (List.mem_of_mem_take h)
/-! ### what all laws draw -/
theorem mod_rg (x : Int) {n : Int} (h : 0 < n) : 0 ≤ x % n ∧ x % n < n := ⟨Int.emod_nonneg _ (by omega), Int.emod_lt_of_pos _ h⟩
/-! ### what holds behind typed code -/
section
variable {α β γ σ σ' τ : Type}
def Ok (m : M α) (Q : α → Prop) : Prop := ∃ a, m = .ok a ∧ Q a
/-- next, break, continue, return -/
def Wr (r : Rs σ τ β) (N : σ → Prop) (B C : τ → Prop) (R : β → Prop) : Prop := match r with
  | .next s => N s
  | .brk s => B s
  | .cnt s => C s
  | .ret b => R b
  | _ => False
variable {m : M α} {f : α → M β} {Q : α → Prop} {Q' : β → Prop} {a : α} {b : β} {r : Rs σ τ β} {N N' : σ → Prop} {B C : τ → Prop} {R : β → Prop}
theorem okI (h : Q a) : Ok (.ok a) Q := ⟨a, rfl, h⟩
theorem okI' (e : m = .ok a) (h : Q a) : Ok m Q := ⟨a, e, h⟩
theorem ok_ok : Ok (.ok a) Q = Q a := propext ⟨fun ⟨_, e, h⟩ => by injection e with e; exact e ▸ h, okI⟩
theorem okB (h : Ok m fun a => Ok (f a) Q') : Ok (m.bind f) Q' := by
  obtain ⟨a, rfl, h⟩ := h; exact h
theorem okB' {P : α → Prop} (h : Ok m P) (h2 : ∀ a, P a → Ok (f a) Q') : Ok (m.bind f) Q' := by
  obtain ⟨a, rfl, h⟩ := h; exact h2 a h
theorem Ok.mp {P : α → Prop} (h : Ok m P) (h2 : ∀ a, P a → Q a) : Ok m Q := let ⟨a, e, h⟩ := h; ⟨a, e, h2 a h⟩
theorem Ok.eq {a : α} (h : Ok m (· = a)) : m = .ok a := by obtain ⟨_, e, rfl⟩ := h; exact e
theorem wS {k : α → Rs σ τ β} (h : Ok m fun a => Wr (k a) N B C R) : Wr (m.bindS k) N B C R := by
  obtain ⟨a, rfl, h⟩ := h; exact h
theorem wS' {P : α → Prop} {k : α → Rs σ τ β} (h : Ok m P) (h2 : ∀ a, P a → Wr (k a) N B C R) : Wr (m.bindS k) N B C R := by
  obtain ⟨a, rfl, h⟩ := h; exact h2 a h
theorem wQ {r : Rs σ' τ β} {k : σ' → Rs σ τ β} (h : Wr r (fun s => Wr (k s) N B C R) B C R) : Wr (r.seq k) N B C R := by
  cases r <;> first | exact h | exact h.elim
theorem wQ' {r : Rs σ' τ β} {P : σ' → Prop} {k : σ' → Rs σ τ β} (h : Wr r P B C R) (h2 : ∀ s, P s → Wr (k s) N B C R) : Wr (r.seq k) N B C R := by
  cases r <;> first | exact h2 _ h | exact h | exact h.elim
theorem Wr.mp {r : Rs σ τ β} (h : Wr r N B C R) (h2 : ∀ s, N s → N' s) : Wr r N' B C R := by
  cases r <;> first | exact h2 _ h | exact h | exact h.elim
theorem wI {c : Bool} {r r' : Rs σ τ β} (h1 : c = true → Wr r N B C R) (h2 : c = false → Wr r' N B C R) : Wr (if c then r else r') N B C R := by
  cases c with
  | true => exact h1 rfl
  | false => exact h2 rfl
theorem wIp {c : Prop} [Decidable c] {r r' : Rs σ τ β} (h1 : c → Wr r N B C R) (h2 : ¬ c → Wr r' N B C R) : Wr (if c then r else r') N B C R := by
  by_cases h : c
  · rw [if_pos h]; exact h1 h
  · rw [if_neg h]; exact h2 h
theorem okIp {c : Prop} [Decidable c] {r r' : M α} (h1 : c → Ok r Q) (h2 : ¬ c → Ok r' Q) : Ok (if c then r else r') Q := by
  by_cases h : c
  · rw [if_pos h]; exact h1 h
  · rw [if_neg h]; exact h2 h
theorem wN {s : σ} : Wr (.next s : Rs σ τ β) N B C R = N s := rfl
theorem wB {s : τ} : Wr (.brk s : Rs σ τ β) N B C R = B s := rfl
theorem wC {s : τ} : Wr (.cnt s : Rs σ τ β) N B C R = C s := rfl
theorem wR {b : β} : Wr (.ret b : Rs σ τ β) N B C R = R b := rfl
theorem wM {r : Rs σ Empty β} (h : Wr r (fun _ => False) (fun _ => True) (fun _ => True) Q') : Ok r.toM Q' := by
  cases r <;> first | exact h.elim | exact ⟨_, rfl, h⟩ | (rename_i e; exact e.elim)
theorem wMn {r : Rs σ Empty β} {z : β} (h : Wr r (fun _ => Q' z) (fun _ => True) (fun _ => True) Q') : Ok (r.toN z) Q' := by
  cases r <;> first | exact h.elim | exact ⟨_, rfl, h⟩ | (rename_i e; exact e.elim)
variable {body : α → σ → Rs σ σ β}
/-- over a list, by the number of items done -/
theorem wL (I : Nat → σ → Prop) {xs : List α} {s0 : σ} (h0 : I 0 s0) (h : ∀ k (hk : k < xs.length) s, I k s → Wr (body xs[k] s) (I (k + 1)) N (I (k + 1)) R) (hN : ∀ s, I xs.length s → N s) : Wr (forL (τ := τ) body xs s0) N B C R := by
  have key : ∀ (ys : List α) (k : Nat) (s : σ), (∀ j (hj : j < ys.length) s, I (k + j) s → Wr (body ys[j] s) (I (k + j + 1)) N (I (k + j + 1)) R) → I k s → (∀ s, I (k + ys.length) s → N s) → Wr (forL (τ := τ) body ys s) N B C R := by
    intro ys
    induction ys with
    | nil => intro k s _ hi hn; exact hn s hi
    | cons y ys ih =>
      intro k s hb hi hn
      have h1 := hb 0 (by simp) s hi
      have go : ∀ s', I (k + 1) s' → Wr (forL (τ := τ) body ys s') N B C R := fun s' hs' => ih (k + 1) s' (fun j hj s hs => by
        have := hb (j + 1) (by simpa using hj) s (by rw [show k + (j + 1) = k + 1 + j by omega]; exact hs)
        rw [show k + 1 + j + 1 = k + (j + 1) + 1 by omega]
        simpa using this) hs' (fun s hs => hn s (by rw [List.length_cons, show k + (ys.length + 1) = k + 1 + ys.length by omega]; exact hs))
      have h1' : Wr (body y s) (I (k + 1)) N (I (k + 1)) R := h1
      cases e : body y s with
      | next s' => rw [e] at h1'; rw [forL_next e]; exact go s' h1'
      | cnt s' => rw [e] at h1'; rw [forL_cnt e]; exact go s' h1'
      | brk s' => rw [e] at h1'; rw [forL_brk e]; exact h1'
      | ret b => rw [e] at h1'; rw [forL_ret e]; exact h1'
      | exc c => rw [e] at h1'; exact h1'.elim
      | stuck => rw [e] at h1'; exact h1'.elim
  exact key xs 0 s0 (fun j hj s hs => by rw [Nat.zero_add] at hs ⊢; exact h j hj s hs) h0 (fun s hs => hN s (by rwa [Nat.zero_add] at hs))
/-- over a list, what always holds -/
theorem wE (I : σ → Prop) {xs : List α} {s0 : σ} (h0 : I s0) (h : ∀ x ∈ xs, ∀ s, I s → Wr (body x s) I N I R) (hN : ∀ s, I s → N s) : Wr (forL (τ := τ) body xs s0) N B C R :=
  wL (fun _ => I) h0 (fun k hk s hs => h _ (List.getElem_mem hk) s hs) hN
/-- over a list, by what has been done -/
theorem wD (I : List α → σ → Prop) {xs : List α} {s0 : σ} (h0 : I [] s0) (h : ∀ ys x zs, xs = ys ++ x :: zs → ∀ s, I ys s → Wr (body x s) (I (ys ++ [x])) N (I (ys ++ [x])) R) (hN : ∀ s, I xs s → N s) : Wr (forL (τ := τ) body xs s0) N B C R := by
  refine wL (fun k => I (xs.take k)) h0 (fun k hk s hs => ?_) fun s hs => hN s (by rwa [List.take_length] at hs)
  have := h (xs.take k) xs[k] (xs.drop (k + 1)) (by rw [← List.drop_eq_getElem_cons hk, List.take_append_drop]) s hs
  rw [List.take_succ, List.getElem?_eq_getElem hk]
  exact this
/-- over a range -/
theorem wRg {body : Int → σ → Rs σ σ β} (I : Int → σ → Prop) {m n : Int} {s0 : σ} (hmn : m ≤ n) (h0 : I m s0) (h : ∀ i s, m ≤ i → i < n → I i s → Wr (body i s) (I (i + 1)) N (I (i + 1)) R) (hN : ∀ s, I n s → N s) : Wr (forL (τ := τ) body (rgI m n) s0) N B C R := by
  refine wL (fun k => I (m + k)) (by simpa using h0) (fun k hk s hs => ?_) fun s hs => hN s (by rw [rgL] at hs; rwa [show m + (((n - m).toNat : Nat) : Int) = n by omega] at hs)
  rw [rg_at hk]
  rw [rgL] at hk
  have := h (m + k) s (by omega) (by omega) hs
  rw [show m + (↑(k + 1) : Int) = m + k + 1 by push_cast; omega]
  exact this
theorem okGet [Inhabited α] {xs : List α} {i : Int} (h0 : 0 ≤ i) (h1 : i < xs.length) (h : Q (gx xs i)) : Ok (getM xs i) Q := ⟨_, getM_ok h0 h1, h⟩
theorem okLc {c : α → M Bool} {f : α → M β} {xs : List α} {P : β → Prop} (h : ∀ x ∈ xs, Ok (c x) fun b => b = true → Ok (f x) P) : Ok (lcM c f xs) fun ys => ys.length ≤ xs.length ∧ ∀ y ∈ ys, P y := by
  induction xs with
  | nil => exact ⟨[], rfl, by simp, by simp⟩
  | cons x xs ih =>
    obtain ⟨b, e1, h1⟩ := h x List.mem_cons_self
    obtain ⟨ys, e2, h2, h3⟩ := ih fun y hy => h y (List.mem_cons_of_mem _ hy)
    cases b with
    | false => exact ⟨ys, by unfold lcM; simp only [e1, e2], by simp; omega, h3⟩
    | true =>
      obtain ⟨y, e3, h4⟩ := h1 rfl
      refine ⟨y :: ys, by unfold lcM; simp only [e1, e2, e3], by simp; omega, fun z hz => ?_⟩
      rcases List.mem_cons.mp hz with rfl | hz
      · exact h4
      · exact h3 z hz
theorem okLm {f : α → M β} {xs : List α} {P : β → Prop} (h : ∀ x ∈ xs, Ok (f x) P) : Ok (lcM (fun _ => .ok true) f xs) fun ys => ys.length = xs.length ∧ ∀ y ∈ ys, P y := by
  induction xs with
  | nil => exact ⟨[], rfl, by simp, by simp⟩
  | cons x xs ih =>
    obtain ⟨ys, e2, h2, h3⟩ := ih fun y hy => h y (List.mem_cons_of_mem _ hy)
    obtain ⟨y, e3, h4⟩ := h x List.mem_cons_self
    refine ⟨y :: ys, by unfold lcM; simp only [e2, e3], by simp; omega, fun z hz => ?_⟩
    rcases List.mem_cons.mp hz with rfl | hz
    · exact h4
    · exact h3 z hz
end
section
variable {α β σ τ : Type} {body : α → σ → Rs σ σ β}
/-- a loop that looks and goes on -/
def runB (step : σ → α → σ) (b : σ → α → Bool) : σ → List α → Bool
  | _, [] => true
  | s, x :: xs => b s x && runB step b (step s x) xs
theorem forL_run (step : σ → α → σ) (b : σ → α → Bool) (r : β) {xs : List α} {s0 : σ} (h : ∀ x ∈ xs, ∀ s, body x s = if b s x then .next (step s x) else .ret r) : forL (τ := τ) body xs s0 = if runB step b s0 xs then .next (xs.foldl step s0) else .ret r := by
  induction xs generalizing s0 with
  | nil => rfl
  | cons x xs ih =>
    have h1 := h x List.mem_cons_self s0
    unfold runB
    cases hb : b s0 x with
    | true =>
      rw [hb, if_pos rfl] at h1
      rw [forL_next h1, ih fun y hy => h y (List.mem_cons_of_mem _ hy), Bool.true_and, List.foldl_cons]
    | false =>
      rw [hb, if_neg (by simp)] at h1
      rw [forL_ret h1, Bool.false_and]
      rfl
theorem forL_runP (step : σ → α → σ) (b : σ → α → Bool) (P : β → Prop) {xs : List α} {s0 : σ} (h : ∀ x ∈ xs, ∀ s, (b s x = true → body x s = .next (step s x)) ∧ (b s x = false → ∃ r, body x s = .ret r ∧ P r)) : (runB step b s0 xs = true ∧ forL (τ := τ) body xs s0 = .next (xs.foldl step s0)) ∨ (runB step b s0 xs = false ∧ ∃ r, forL (τ := τ) body xs s0 = .ret r ∧ P r) := by
  induction xs generalizing s0 with
  | nil => exact .inl ⟨rfl, rfl⟩
  | cons x xs ih =>
    obtain ⟨h1, h2⟩ := h x List.mem_cons_self s0
    unfold runB
    cases hb : b s0 x with
    | true =>
      rw [forL_next (h1 hb), Bool.true_and, List.foldl_cons]
      exact ih fun y hy => h y (List.mem_cons_of_mem _ hy)
    | false =>
      obtain ⟨r, e, hp⟩ := h2 hb
      exact .inr ⟨rfl, r, forL_ret e, hp⟩
end
theorem enL {α : Type} {xs : List α} : (enumI xs).length = xs.length := by unfold enumI; simp
theorem enA {α : Type} [Inhabited α] {xs : List α} {k : Nat} (h : k < (enumI xs).length) : (enumI xs)[k] = ⟨k, gx xs k⟩ := by
  have h' : k < xs.length := by rwa [enL] at h
  rw [gx_lt h']
  simp [enumI]
theorem enAll {α : Type} [Inhabited α] {xs : List α} {p : T2 Int α → Bool} : (enumI xs).all p = true ↔ ∀ k : Int, 0 ≤ k → k < xs.length → p ⟨k, gx xs k⟩ = true := by
  rw [List.all_eq_true]
  constructor
  · intro h k h0 h1
    obtain ⟨n, rfl⟩ := Int.eq_ofNat_of_zero_le h0
    have hn : n < (enumI xs).length := by rw [enL]; omega
    have := h _ (List.getElem_mem hn)
    rwa [enA hn] at this
  · intro h x hx
    obtain ⟨n, hn, rfl⟩ := List.getElem_of_mem hx
    rw [enA hn]
    rw [enL] at hn
    exact h n (by omega) (by omega)
theorem enMem {α : Type} [Inhabited α] {xs : List α} {x : T2 Int α} (h : x ∈ enumI xs) : 0 ≤ x.a ∧ x.a < xs.length ∧ x.b = gx xs x.a ∧ x.b ∈ xs := by
  obtain ⟨n, hn, rfl⟩ := List.getElem_of_mem h
  rw [enA hn]
  rw [enL] at hn
  exact ⟨by simp, by simp; omega, rfl, gx_mem (by omega) (by omega)⟩
theorem rgAll {a b : Int} {p : Int → Bool} : (rgI a b).all p = true ↔ ∀ k, a ≤ k → k < b → p k = true := by
  rw [List.all_eq_true]
  exact ⟨fun h k h0 h1 => h k (mem_rg.mpr ⟨h0, h1⟩), fun h k hk => h k (mem_rg.mp hk).1 (mem_rg.mp hk).2⟩
def mn (ns : List Int) : Int := (minI ns).getD 0
theorem minM_ok {ns : List Int} (h : ns ≠ []) : minM ns = .ok (mn ns) := by
  cases ns with
  | nil => exact absurd rfl h
  | cons a as => rfl
theorem take_ne {ns : List Int} {m : Nat} (h : 0 < ns.length) (h2 : 0 < m) : ns.take m ≠ [] := by
  cases ns with
  | nil => simp at h
  | cons a as => cases m with
    | zero => omega
    | succ m => simp
theorem tot_ok {α : Type} {a : α} : (M.ok a).tot = .ok a := rfl
end Hv

namespace Law
open PySem PySem.Spec PyProof.Rows L2 Hv
abbrev pw : Program := PySem.Challenge.pw_screenspoken_k31_dates_and_their_numbers
def top (i : Nat) : Stmt := pw.main.body.getD i (.Pass ⟨0, 0, 0, 0⟩)
def dd (x : Str) (i : Nat) : He.DefD := ⟨(x, none), x, x, defArgs (top i), defBody (top i), defScope (top i), [], []⟩
def T : Tb := ⟨[
  ⟨dd "check_size" 12, ["number"]⟩,
  ⟨dd "below_hundred" 13, ["number", "tens"]⟩,
  ⟨dd "below_thousand" 14, ["number", "hundreds", "rest"]⟩,
  ⟨dd "group_words" 15, ["group", "place"]⟩,
  ⟨dd "positive_words" 16, ["number", "found", "place", "group"]⟩,
  ⟨dd "number_words" 17, ["number"]⟩,
  ⟨dd "check_ordinal" 21, ["number"]⟩,
  ⟨dd "last_start" 22, ["text"]⟩,
  ⟨dd "ordinal_word" 23, ["word"]⟩,
  ⟨dd "ordinal_words" 24, ["number", "text", "start"]⟩,
  ⟨dd "is_leap" 31, ["year"]⟩,
  ⟨dd "month_days" 32, ["year", "month"]⟩,
  ⟨dd "check_date" 33, ["date", "year", "month", "day"]⟩,
  ⟨dd "days_before_year" 34, ["year", "past"]⟩,
  ⟨dd "days_before_month" 35, ["year", "month", "earlier"]⟩,
  ⟨dd "date_number" 36, ["date", "year", "month", "day"]⟩,
  ⟨dd "year_of" 37, ["number", "year"]⟩,
  ⟨dd "date_of" 38, ["number", "year", "rest", "month"]⟩,
  ⟨dd "weekday" 39, ["date"]⟩,
  ⟨dd "date_words" 40, ["date", "week", "year", "month", "day"]⟩,
  ⟨dd "_law_cell" 42, ["script", "k"]⟩,
  ⟨dd "_law_numbers" 43, ["cell", "count", "limit", "found", "k", "mixed"]⟩,
  ⟨dd "_law_same" 44, ["told", "due", "k"]⟩,
  ⟨dd "_law_leap" 45, ["year"]⟩,
  ⟨dd "_law_month_days" 46, ["year", "month"]⟩,
  ⟨dd "_law_is_date" 47, ["date", "year", "month", "day"]⟩,
  ⟨dd "_law_date_number" 48, ["date", "rest", "total", "earlier", "year", "month", "day"]⟩,
  ⟨dd "_law_next" 49, ["date", "year", "month", "day"]⟩,
  ⟨dd "_law_date" 50, ["cell", "draws", "year", "month", "days"]⟩,
  ⟨dd "_law_refused" 51, ["date", "way", "e"]⟩,
  ⟨dd "_law_beyond" 52, ["number", "e"]⟩,
  ⟨dd "_law_wrong" 53, ["date", "draws", "found", "year", "month", "day", "wrong"]⟩,
  ⟨dd "law" 54, ["script", "draws", "k", "number", "date", "wrong", "after", "way"]⟩],
  [("LIMIT", .int (1000000000000000)), ("SMALL", .tuple [.str "zero", .str "one", .str "two", .str "three", .str "four", .str "five", .str "six", .str "seven", .str "eight", .str "nine", .str "ten", .str "eleven", .str "twelve", .str "thirteen", .str "fourteen", .str "fifteen", .str "sixteen", .str "seventeen", .str "eighteen", .str "nineteen"]), ("TENS", .tuple [.str "twenty", .str "thirty", .str "forty", .str "fifty", .str "sixty", .str "seventy", .str "eighty", .str "ninety"]), ("GROUPS", .tuple [.str "", .str "thousand", .str "million", .str "billion", .str "trillion"]), ("GROUP_SIZES", .tuple [.int (1), .int (1000), .int (1000000), .int (1000000000), .int (1000000000000)]), ("HUNDRED", .str "hundred"), ("MINUS", .str "minus "), ("PLAIN", .tuple [.str "one", .str "two", .str "three", .str "five", .str "eight", .str "nine", .str "twelve"]), ("CHANGED", .tuple [.str "first", .str "second", .str "third", .str "fifth", .str "eighth", .str "ninth", .str "twelfth"]), ("LAST_YEAR", .int (9999)), ("LAST_NUMBER", .int (3652058)), ("DAYS", .tuple [.int (31), .int (28), .int (31), .int (30), .int (31), .int (30), .int (31), .int (31), .int (30), .int (31), .int (30), .int (31)]), ("MONTHS", .tuple [.str "January", .str "February", .str "March", .str "April", .str "May", .str "June", .str "July", .str "August", .str "September", .str "October", .str "November", .str "December"]), ("WEEK", .tuple [.str "Monday", .str "Tuesday", .str "Wednesday", .str "Thursday", .str "Friday", .str "Saturday", .str "Sunday"])],
  ["ValueError", "abs", "bool", "divmod", "int", "isinstance", "len", "list", "max", "range", "reversed", "str", "sum", "tuple"],
  ["NoDate", "OutOfRange"],
  [("NoDate", none, [("NoDate", true), ("OutOfRange", false)]), ("OutOfRange", none, [("NoDate", false), ("OutOfRange", true)]), ("ScreenError", none, [("NoDate", true), ("OutOfRange", true)]), ("ValueError", some "ValueError", [("NoDate", true), ("OutOfRange", true)])]⟩
def loose : List Str := (["ScreenError", "OutOfRange", "NoDate", "LIMIT", "SMALL", "TENS", "GROUPS", "GROUP_SIZES", "HUNDRED", "MINUS", "check_size", "below_hundred", "below_thousand", "group_words", "positive_words", "number_words", "PLAIN", "CHANGED", "check_ordinal", "last_start"] : List Str) ++ (["ordinal_word", "ordinal_words", "LAST_YEAR", "LAST_NUMBER", "DAYS", "MONTHS", "WEEK", "is_leap", "month_days", "check_date", "days_before_year", "days_before_month", "date_number", "year_of", "date_of", "weekday", "date_words", "_law_cell", "_law_numbers", "_law_same"] : List Str) ++ (["_law_leap", "_law_month_days", "_law_is_date", "_law_date_number", "_law_next", "_law_date", "_law_refused", "_law_beyond", "_law_wrong"] : List Str)

end Law

namespace Law
open PySem Hv
/-- check_size [number] -/
def B0 : List S := [
  (.ife (.cmp .ge (.bi .abs [(.var 0)]) (.glob "LIMIT")) [(.raise_ "OutOfRange")] [])]
/-- below_hundred [number, tens] -/
def B1 : List S := [
  (.ife (.cmp .lt (.var 0) (.bi .len [(.glob "SMALL")])) [(.ret (.ix (.glob "SMALL") (.var 0)))] []),
  (.asg 1 (.ix (.glob "TENS") (.bin .sub (.bin .div (.var 0) (.int (10))) (.int (2))))),
  (.ife (.cmp .eq (.bin .mod (.var 0) (.int (10))) (.int (0))) [(.retv 1)] []),
  (.ret (.bin .add (.bin .add (.var 1) (.str "-")) (.ix (.glob "SMALL") (.bin .mod (.var 0) (.int (10))))))]
/-- below_thousand [number, hundreds, rest] -/
def B2 : List S := [
  (.asgT [] (.int (0))),
  (.ife (.cmp .eq (.var 1) (.int (0))) [(.ret (.call 1 [(.var 2)]))] []),
  (.ife (.cmp .eq (.var 2) (.int (0))) [(.ret (.bin .add (.bin .add (.ix (.glob "SMALL") (.var 1)) (.str " ")) (.glob "HUNDRED")))] []),
  (.ret (.bin .add (.bin .add (.bin .add (.bin .add (.ix (.glob "SMALL") (.var 1)) (.str " ")) (.glob "HUNDRED")) (.str " ")) (.call 1 [(.var 2)])))]
/-- group_words [group, place] -/
def B3 : List S := [
  (.ife (.cmp .eq (.var 1) (.int (0))) [(.ret (.call 2 [(.var 0)]))] []),
  (.ret (.bin .add (.bin .add (.call 2 [(.var 0)]) (.str " ")) (.ix (.glob "GROUPS") (.var 1))))]
/-- positive_words [number, found, place, group] -/
def B4 : List S := [
  (.asg 1 (.lst [])),
  (.asgT [] (.int (0))),
  (.ret (.mth .join (.str " ") [(.var 1)]))]
/-- number_words [number] -/
def B5 : List S := [
  (.drop (.call 0 [(.var 0)])),
  (.ife (.cmp .eq (.var 0) (.int (0))) [(.ret (.ix (.glob "SMALL") (.int (0))))] []),
  (.ife (.cmp .lt (.var 0) (.int (0))) [(.ret (.bin .add (.glob "MINUS") (.call 4 [(.neg (.var 0))])))] []),
  (.ret (.call 4 [(.var 0)]))]
/-- check_ordinal [number] -/
def B6 : List S := [
  (.ife (.not (.chn .le .lt (.int (1)) (.var 0) (.glob "LIMIT"))) [(.raise_ "OutOfRange")] [])]
/-- last_start [text] -/
def B7 : List S := [
  (.asgT [] (.int (0)))]
/-- ordinal_word [word] -/
def B8 : List S := [
  (.ife (.cmp .in_ (.var 0) (.glob "PLAIN")) [(.asgT [] (.int (0)))] []),
  (.ife (.mth .endswith (.var 0) [(.str "y")]) [(.ret (.bin .add (.sl (.var 0) none (some (.neg (.int (1))))) (.str "ieth")))] []),
  (.ret (.bin .add (.var 0) (.str "th")))]
/-- ordinal_words [number, text, start] -/
def B9 : List S := [
  (.drop (.call 6 [(.var 0)])),
  (.asg 1 (.call 5 [(.var 0)])),
  (.asg 2 (.call 7 [(.var 1)])),
  (.ret (.bin .add (.sl (.var 1) none (some (.var 2))) (.call 8 [(.sl (.var 1) (some (.var 2)) none)])))]
/-- is_leap [year] -/
def B10 : List S := [
  (.ret (.and [(.cmp .eq (.bin .mod (.var 0) (.int (4))) (.int (0))), (.or [(.cmp .ne (.bin .mod (.var 0) (.int (100))) (.int (0))), (.cmp .eq (.bin .mod (.var 0) (.int (400))) (.int (0)))])]))]
/-- month_days [year, month] -/
def B11 : List S := [
  (.ife (.and [(.cmp .eq (.var 1) (.int (2))), (.call 10 [(.var 0)])]) [(.ret (.bin .add (.ix (.glob "DAYS") (.int (1))) (.int (1))))] []),
  (.ret (.ix (.glob "DAYS") (.bin .sub (.var 1) (.int (1)))))]
/-- check_date [date, year, month, day] -/
def B12 : List S := [
  (.asgT [1, 2, 3] (.var 0)),
  (.ife (.or [(.not (.chn .le .le (.int (1)) (.var 1) (.glob "LAST_YEAR"))), (.not (.chn .le .le (.int (1)) (.var 2) (.bi .len [(.glob "DAYS")])))]) [(.raise_ "NoDate")] []),
  (.ife (.not (.chn .le .le (.int (1)) (.var 3) (.call 11 [(.var 1), (.var 2)]))) [(.raise_ "NoDate")] [])]
/-- days_before_year [year, past] -/
def B13 : List S := [
  (.asg 1 (.bin .sub (.var 0) (.int (1)))),
  (.ret (.bin .add (.bin .sub (.bin .add (.bin .mul (.int (365)) (.var 1)) (.bin .div (.var 1) (.int (4)))) (.bin .div (.var 1) (.int (100)))) (.bin .div (.var 1) (.int (400)))))]
/-- days_before_month [year, month, earlier] -/
def B14 : List S := [
  (.ret (.bi .sum [(.lc [2] .range [(.int (1)), (.var 1)] (.name 2) [] (.call 11 [(.var 0), (.var 2)]))]))]
/-- date_number [date, year, month, day] -/
def B15 : List S := [
  (.drop (.call 12 [(.var 0)])),
  (.asgT [1, 2, 3] (.var 0)),
  (.ret (.bin .sub (.bin .add (.bin .add (.call 13 [(.var 1)]) (.call 14 [(.var 1), (.var 2)])) (.var 3)) (.int (1))))]
/-- year_of [number, year] -/
def B16 : List S := [
  (.asg 1 (.bin .add (.bin .div (.var 0) (.int (366))) (.int (1)))),
  (.while_ (.cmp .le (.call 13 [(.bin .add (.var 1) (.int (1)))]) (.var 0)) [(.aug 1 .add (.int (1)))]),
  (.retv 1)]
/-- date_of [number, year, rest, month] -/
def B17 : List S := [
  (.ife (.not (.chn .le .le (.int (0)) (.var 0) (.glob "LAST_NUMBER"))) [(.raise_ "OutOfRange")] []),
  (.asg 1 (.call 16 [(.var 0)])),
  (.asg 2 (.bin .sub (.var 0) (.call 13 [(.var 1)]))),
  (.asg 3 (.int (1))),
  (.while_ (.cmp .ge (.var 2) (.call 11 [(.var 1), (.var 3)])) [(.aug 2 .sub (.call 11 [(.var 1), (.var 3)])), (.aug 3 .add (.int (1)))]),
  (.ret (.tup [(.var 1), (.var 3), (.bin .add (.var 2) (.int (1)))]))]
/-- weekday [date] -/
def B18 : List S := [
  (.ret (.bin .mod (.call 15 [(.var 0)]) (.bi .len [(.glob "WEEK")])))]
/-- date_words [date, week, year, month, day] -/
def B19 : List S := [
  (.asg 1 (.ix (.glob "WEEK") (.call 18 [(.var 0)]))),
  (.asgT [2, 3, 4] (.var 0)),
  (.asgT [] (.int (0)))]
/-- _law_cell [script, k] -/
def B20 : List S := [
  (.ife (.cmp .lt (.var 1) (.bi .len [(.var 0)])) [(.ret (.bi .int [(.ix (.var 0) (.var 1))]))] []),
  (.ret (.int (0)))]
/-- _law_numbers [cell, count, limit, found, k, mixed] -/
def B21 : List S := [
  (.asg 3 (.lst [])),
  (.ife (.cmp .ge (.var 0) (.bin .pow (.int (10)) (.int (18)))) [(.for_ .range [(.var 1)] (.name 4) [(.app 3 [] (.bin .mod (.bi .int [(.var 0)]) (.var 2))), (.asg 0 (.bin .div (.bi .int [(.var 0)]) (.var 2)))]), (.retv 3)] []),
  (.for_ .range [(.var 1)] (.name 4) [(.asg 5 (.bin .mod (.bi .int [(.bin .add (.bin .add (.bin .mul (.var 0) (.int (48271))) (.bin .mul (.var 4) (.int (69621)))) (.int (7)))]) (.int (2147483647)))), (.asg 5 (.bin .mod (.bi .int [(.bin .add (.bin .add (.bin .add (.bin .mul (.var 5) (.var 5)) (.bin .mul (.var 5) (.int (40692)))) (.bin .mul (.var 4) (.int (16807)))) (.int (11)))]) (.int (2147483399)))), (.app 3 [] (.bin .mod (.bi .int [(.bin .div (.var 5) (.int (32)))]) (.var 2)))]),
  (.retv 3)]
/-- _law_same [told, due, k] -/
def B22 : List S := [
  (.ife (.isi (.var 1) .list) [(.ife (.or [(.not (.isi (.var 0) .list)), (.cmp .ne (.bi .len [(.var 0)]) (.bi .len [(.var 1)]))]) [(.ret (.bl false))] [])] [(.ife (.isi (.var 1) .tuple) [(.ife (.or [(.not (.isi (.var 0) .tuple)), (.cmp .ne (.bi .len [(.var 0)]) (.bi .len [(.var 1)]))]) [(.ret (.bl false))] [])] [(.ife (.cmp .isn (.var 1) .non) [(.ret (.cmp .isn (.var 0) .non))] [(.ife (.isi (.var 1) .bool) [(.ret (.and [(.isi (.var 0) .bool), (.cmp .eq (.var 0) (.var 1))]))] [(.ife (.isi (.var 1) .int) [(.ret (.and [(.isi (.var 0) .int), (.not (.isi (.var 0) .bool)), (.cmp .eq (.var 0) (.var 1))]))] [(.ret (.and [(.isi (.var 0) .str), (.cmp .eq (.var 0) (.var 1))]))])])])])]),
  (.for_ .range [(.bi .len [(.var 1)])] (.name 2) [(.ife (.not (.call 22 [(.ix (.var 0) (.var 2)), (.ix (.var 1) (.var 2))])) [(.ret (.bl false))] [])]),
  (.ret (.bl true))]
/-- _law_leap [year] -/
def B23 : List S := [
  (.ife (.cmp .eq (.bin .mod (.var 0) (.int (400))) (.int (0))) [(.ret (.bl true))] []),
  (.ret (.and [(.cmp .eq (.bin .mod (.var 0) (.int (4))) (.int (0))), (.cmp .gt (.bin .mod (.var 0) (.int (100))) (.int (0)))]))]
/-- _law_month_days [year, month] -/
def B24 : List S := [
  (.ife (.cmp .eq (.var 1) (.int (2))) [(.ret (.bin .add (.int (28)) (.bi .int [(.call 23 [(.var 0)])])))] []),
  (.ret (.bin .sub (.int (31)) (.bi .int [(.cmp .in_ (.var 1) (.lst [(.int (4)), (.int (6)), (.int (9)), (.int (11))]))])))]
/-- _law_is_date [date, year, month, day] -/
def B25 : List S := [
  (.asgT [1, 2, 3] (.var 0)),
  (.ife (.or [(.cmp .lt (.var 1) (.int (1))), (.cmp .gt (.var 1) (.int (9999))), (.cmp .lt (.var 2) (.int (1))), (.cmp .gt (.var 2) (.int (12)))]) [(.ret (.bl false))] []),
  (.ret (.and [(.cmp .le (.int (1)) (.var 3)), (.cmp .le (.var 3) (.call 24 [(.var 1), (.var 2)]))]))]
/-- _law_date_number [date, rest, total, earlier, year, month, day] -/
def B26 : List S := [
  (.asgT [4, 5, 6] (.var 0)),
  (.asg 1 (.bin .sub (.var 4) (.int (1)))),
  (.asg 2 (.bin .mul (.bin .div (.var 1) (.int (400))) (.int (146097)))),
  (.asg 1 (.bin .mod (.var 1) (.int (400)))),
  (.asg 2 (.bin .add (.var 2) (.bin .mul (.bin .div (.var 1) (.int (100))) (.int (36524))))),
  (.asg 1 (.bin .mod (.var 1) (.int (100)))),
  (.asg 2 (.bin .add (.bin .add (.var 2) (.bin .mul (.bin .div (.var 1) (.int (4))) (.int (1461)))) (.bin .mul (.bin .mod (.var 1) (.int (4))) (.int (365))))),
  (.for_ .range [(.int (1)), (.var 5)] (.name 3) [(.asg 2 (.bin .add (.var 2) (.call 24 [(.var 4), (.var 3)])))]),
  (.ret (.bin .sub (.bin .add (.var 2) (.var 6)) (.int (1))))]
/-- _law_next [date, year, month, day] -/
def B27 : List S := [
  (.asgT [1, 2, 3] (.var 0)),
  (.ife (.cmp .lt (.var 3) (.call 24 [(.var 1), (.var 2)])) [(.ret (.tup [(.var 1), (.var 2), (.bin .add (.var 3) (.int (1)))]))] []),
  (.ife (.cmp .lt (.var 2) (.int (12))) [(.ret (.tup [(.var 1), (.bin .add (.var 2) (.int (1))), (.int (1))]))] []),
  (.ret (.tup [(.bin .add (.var 1) (.int (1))), (.int (1)), (.int (1))]))]
/-- _law_date [cell, draws, year, month, days] -/
def B28 : List S := [
  (.asg 1 (.call 21 [(.var 0), (.int (4)), (.int (55440))])),
  (.asg 2 (.ix (.lst [(.bin .add (.int (1)) (.bin .mod (.ix (.var 1) (.int (0))) (.int (9999)))), (.bin .mul (.int (100)) (.bin .add (.int (1)) (.bin .mod (.ix (.var 1) (.int (0))) (.int (99))))), (.bin .mul (.int (4)) (.bin .add (.int (1)) (.bin .mod (.ix (.var 1) (.int (0))) (.int (2499))))), (.bin .add (.int (1900)) (.bin .mod (.ix (.var 1) (.int (0))) (.int (200)))), (.int (1)), (.int (9999))]) (.bin .mod (.ix (.var 1) (.int (3))) (.int (6))))),
  (.asg 3 (.bin .add (.int (1)) (.bin .mod (.ix (.var 1) (.int (1))) (.int (12))))),
  (.ife (.cmp .eq (.bin .mod (.bin .div (.ix (.var 1) (.int (3))) (.int (6))) (.int (4))) (.int (0))) [(.asg 3 (.int (2)))] []),
  (.asg 4 (.call 24 [(.var 2), (.var 3)])),
  (.ret (.tup [(.var 2), (.var 3), (.ix (.lst [(.bin .add (.int (1)) (.bin .mod (.ix (.var 1) (.int (2))) (.var 4))), (.var 4), (.int (1)), (.bi .max2 [(.int (1)), (.bin .sub (.var 4) (.int (1)))])]) (.bin .mod (.bin .div (.ix (.var 1) (.int (3))) (.int (24))) (.int (4))))]))]
/-- _law_refused [date, way, e] -/
def B29 : List S := [
  (.try_ [(.ife (.cmp .eq (.var 1) (.int (0))) [(.drop (.call 12 [(.var 0)]))] [(.ife (.cmp .eq (.var 1) (.int (1))) [(.drop (.call 15 [(.var 0)]))] [(.ife (.cmp .eq (.var 1) (.int (2))) [(.drop (.call 18 [(.var 0)]))] [(.drop (.call 19 [(.var 0)]))])])])] [([("NoDate", true), ("OutOfRange", false)], some 2, [(.ret (.and [(.ise 2 [("NoDate", true), ("OutOfRange", true)]), (.ise 2 [("NoDate", true), ("OutOfRange", true)]), (.not (.ise 2 [("NoDate", false), ("OutOfRange", true)]))]))])]),
  (.ret (.bl false))]
/-- _law_beyond [number, e] -/
def B30 : List S := [
  (.try_ [(.drop (.call 17 [(.var 0)]))] [([("NoDate", false), ("OutOfRange", true)], some 1, [(.ret (.and [(.ise 1 [("NoDate", true), ("OutOfRange", true)]), (.ise 1 [("NoDate", true), ("OutOfRange", true)]), (.not (.ise 1 [("NoDate", true), ("OutOfRange", false)]))]))])]),
  (.ret (.bl false))]
/-- _law_wrong [date, draws, found, year, month, day, wrong] -/
def B31 : List S := [
  (.asgT [3, 4, 5] (.var 0)),
  (.asg 2 (.lst [(.tup [(.var 3), (.int (0)), (.var 5)]), (.tup [(.var 3), (.int (13)), (.var 5)]), (.tup [(.var 3), (.var 4), (.int (0))]), (.tup [(.var 3), (.var 4), (.neg (.int (1)))]), (.tup [(.int (0)), (.var 4), (.var 5)]), (.tup [(.int (10000)), (.var 4), (.var 5)])])),
  (.asg 2 (.bin .add (.var 2) (.lst [(.tup [(.var 3), (.var 4), (.bin .add (.call 24 [(.var 3), (.var 4)]) (.int (1)))]), (.tup [(.var 3), (.int (2)), (.int (30))]), (.tup [(.var 3), (.int (4)), (.int (31))]), (.tup [(.neg (.var 3)), (.var 4), (.var 5)])]))),
  (.asg 2 (.bin .add (.var 2) (.lst [(.tup [(.var 3), (.int (2)), (.int (29))]), (.tup [(.int (1900)), (.int (2)), (.int (29))]), (.tup [(.int (2023)), (.int (2)), (.int (29))]), (.tup [(.var 3), (.var 4), (.bin .add (.int (32)) (.ix (.var 1) (.int (0))))]), (.tup [(.var 3), (.bin .add (.int (13)) (.ix (.var 1) (.int (1)))), (.int (1))])]))),
  (.ret (.lc [6] .seq [(.bin .add (.var 2) (.lst [(.tup [(.bin .add (.int (10000)) (.ix (.var 1) (.int (2)))), (.int (1)), (.int (1))]), (.tup [(.var 3), (.neg (.var 4)), (.var 5)])]))] (.name 6) [(.not (.call 25 [(.var 6)]))] (.var 6)))]
/-- law [script, draws, k, number, date, wrong, after, way] -/
def B32 : List S := [
  (.asg 1 (.call 21 [(.call 20 [(.var 0), (.int (4))]), (.int (6)), (.int (55440))])),
  (.for_ .range [(.int (4))] (.name 2) [(.asg 4 (.call 28 [(.bin .add (.call 20 [(.var 0), (.var 2)]) (.bin .mul (.var 2) (.bi .int [(.cmp .lt (.call 20 [(.var 0), (.var 2)]) (.bin .pow (.int (10)) (.int (18))))])))])), (.asg 3 (.call 26 [(.var 4)])), (.ife (.or [(.cmp .notn (.call 12 [(.var 4)]) .non), (.not (.call 22 [(.call 15 [(.var 4)]), (.var 3)]))]) [(.ret (.bl false))] []), (.ife (.or [(.not (.call 22 [(.call 17 [(.var 3)]), (.var 4)])), (.not (.call 22 [(.call 18 [(.var 4)]), (.bin .mod (.var 3) (.int (7)))]))]) [(.ret (.bl false))] []), (.ife (.cmp .ne (.var 4) (.tup [(.int (9999)), (.int (12)), (.int (31))])) [(.asg 6 (.call 27 [(.var 4)])), (.ife (.or [(.not (.call 22 [(.call 17 [(.bin .add (.var 3) (.int (1)))]), (.var 6)])), (.not (.call 22 [(.call 15 [(.var 6)]), (.bin .add (.var 3) (.int (1)))]))]) [(.ret (.bl false))] [])] []), (.for_ .seq [(.call 31 [(.var 4), (.var 1)])] (.name 5) [(.for_ .range [(.int (4))] (.name 7) [(.ife (.not (.call 29 [(.var 5), (.var 7)])) [(.ret (.bl false))] [])])])]),
  (.for_ .seq [(.lst [(.bin .mod (.bin .mul (.ix (.var 1) (.int (3))) (.int (60))) (.int (3652059))), (.bin .mod (.bin .mul (.ix (.var 1) (.int (4))) (.int (3607))) (.int (3652059))), (.int (0)), (.int (3652058))])] (.name 3) [(.asg 4 (.call 17 [(.var 3)])), (.ife (.or [(.not (.isi (.var 4) .tuple)), (.cmp .ne (.bi .len [(.var 4)]) (.int (3))), (.not (.call 25 [(.var 4)]))]) [(.ret (.bl false))] []), (.ife (.or [(.not (.call 22 [(.var 4), (.tup [(.bi .int [(.ix (.var 4) (.int (0)))]), (.bi .int [(.ix (.var 4) (.int (1)))]), (.bi .int [(.ix (.var 4) (.int (2)))])])])), (.cmp .ne (.call 26 [(.var 4)]) (.var 3))]) [(.ret (.bl false))] [])]),
  (.for_ .seq [(.lst [(.neg (.int (1))), (.int (3652059)), (.bin .sub (.neg (.int (2))) (.ix (.var 1) (.int (5)))), (.bin .add (.int (3652060)) (.ix (.var 1) (.int (5)))), (.bin .pow (.int (10)) (.int (20)))])] (.name 3) [(.ife (.not (.call 30 [(.var 3)])) [(.ret (.bl false))] [])]),
  (.ret (.bl true))]
end Law

namespace Law
open PySem Hv
abbrev Bz : Sub := fun _ _ => none
noncomputable abbrev C (k : Nat) : Cal := callN T Bz k
theorem c0 (k : Nat) (a : PyData) : C (k + 1) 0 [a] = retC (svs (C k) T.G Bz B0 [some (.v a)]) := (call_eq 1 1 (by kernel_rfl)).trans (r1 rfl)
theorem c1 (k : Nat) (a : PyData) : C (k + 1) 1 [a] = retC (svs (C k) T.G Bz B1 [some (.v a), none]) := (call_eq 1 2 (by kernel_rfl)).trans (r1 rfl)
theorem c2 (k : Nat) (a : PyData) : C (k + 1) 2 [a] = retC (svs (C k) T.G Bz B2 [some (.v a), none, none]) := (call_eq 1 3 (by kernel_rfl)).trans (r1 rfl)
theorem c3 (k : Nat) (a b : PyData) : C (k + 1) 3 [a, b] = retC (svs (C k) T.G Bz B3 [some (.v a), some (.v b)]) := (call_eq 2 2 (by kernel_rfl)).trans (r1 rfl)
theorem c4 (k : Nat) (a : PyData) : C (k + 1) 4 [a] = retC (svs (C k) T.G Bz B4 [some (.v a), none, none, none]) := (call_eq 1 4 (by kernel_rfl)).trans (r1 rfl)
theorem c5 (k : Nat) (a : PyData) : C (k + 1) 5 [a] = retC (svs (C k) T.G Bz B5 [some (.v a)]) := (call_eq 1 1 (by kernel_rfl)).trans (r1 rfl)
theorem c6 (k : Nat) (a : PyData) : C (k + 1) 6 [a] = retC (svs (C k) T.G Bz B6 [some (.v a)]) := (call_eq 1 1 (by kernel_rfl)).trans (r1 rfl)
theorem c7 (k : Nat) (a : PyData) : C (k + 1) 7 [a] = retC (svs (C k) T.G Bz B7 [some (.v a)]) := (call_eq 1 1 (by kernel_rfl)).trans (r1 rfl)
theorem c8 (k : Nat) (a : PyData) : C (k + 1) 8 [a] = retC (svs (C k) T.G Bz B8 [some (.v a)]) := (call_eq 1 1 (by kernel_rfl)).trans (r1 rfl)
theorem c9 (k : Nat) (a : PyData) : C (k + 1) 9 [a] = retC (svs (C k) T.G Bz B9 [some (.v a), none, none]) := (call_eq 1 3 (by kernel_rfl)).trans (r1 rfl)
theorem c10 (k : Nat) (a : PyData) : C (k + 1) 10 [a] = retC (svs (C k) T.G Bz B10 [some (.v a)]) := (call_eq 1 1 (by kernel_rfl)).trans (r1 rfl)
theorem c11 (k : Nat) (a b : PyData) : C (k + 1) 11 [a, b] = retC (svs (C k) T.G Bz B11 [some (.v a), some (.v b)]) := (call_eq 2 2 (by kernel_rfl)).trans (r1 rfl)
theorem c12 (k : Nat) (a : PyData) : C (k + 1) 12 [a] = retC (svs (C k) T.G Bz B12 [some (.v a), none, none, none]) := (call_eq 1 4 (by kernel_rfl)).trans (r1 rfl)
theorem c13 (k : Nat) (a : PyData) : C (k + 1) 13 [a] = retC (svs (C k) T.G Bz B13 [some (.v a), none]) := (call_eq 1 2 (by kernel_rfl)).trans (r1 rfl)
theorem c14 (k : Nat) (a b : PyData) : C (k + 1) 14 [a, b] = retC (svs (C k) T.G Bz B14 [some (.v a), some (.v b), none]) := (call_eq 2 3 (by kernel_rfl)).trans (r1 rfl)
theorem c15 (k : Nat) (a : PyData) : C (k + 1) 15 [a] = retC (svs (C k) T.G Bz B15 [some (.v a), none, none, none]) := (call_eq 1 4 (by kernel_rfl)).trans (r1 rfl)
theorem c16 (k : Nat) (a : PyData) : C (k + 1) 16 [a] = retC (svs (C k) T.G Bz B16 [some (.v a), none]) := (call_eq 1 2 (by kernel_rfl)).trans (r1 rfl)
theorem c17 (k : Nat) (a : PyData) : C (k + 1) 17 [a] = retC (svs (C k) T.G Bz B17 [some (.v a), none, none, none]) := (call_eq 1 4 (by kernel_rfl)).trans (r1 rfl)
theorem c18 (k : Nat) (a : PyData) : C (k + 1) 18 [a] = retC (svs (C k) T.G Bz B18 [some (.v a)]) := (call_eq 1 1 (by kernel_rfl)).trans (r1 rfl)
theorem c19 (k : Nat) (a : PyData) : C (k + 1) 19 [a] = retC (svs (C k) T.G Bz B19 [some (.v a), none, none, none, none]) := (call_eq 1 5 (by kernel_rfl)).trans (r1 rfl)
theorem c20 (k : Nat) (a b : PyData) : C (k + 1) 20 [a, b] = retC (svs (C k) T.G Bz B20 [some (.v a), some (.v b)]) := (call_eq 2 2 (by kernel_rfl)).trans (r1 rfl)
theorem c21 (k : Nat) (a b c : PyData) : C (k + 1) 21 [a, b, c] = retC (svs (C k) T.G Bz B21 [some (.v a), some (.v b), some (.v c), none, none, none]) := (call_eq 3 6 (by kernel_rfl)).trans (r1 rfl)
theorem c22 (k : Nat) (a b : PyData) : C (k + 1) 22 [a, b] = retC (svs (C k) T.G Bz B22 [some (.v a), some (.v b), none]) := (call_eq 2 3 (by kernel_rfl)).trans (r1 rfl)
theorem c23 (k : Nat) (a : PyData) : C (k + 1) 23 [a] = retC (svs (C k) T.G Bz B23 [some (.v a)]) := (call_eq 1 1 (by kernel_rfl)).trans (r1 rfl)
theorem c24 (k : Nat) (a b : PyData) : C (k + 1) 24 [a, b] = retC (svs (C k) T.G Bz B24 [some (.v a), some (.v b)]) := (call_eq 2 2 (by kernel_rfl)).trans (r1 rfl)
theorem c25 (k : Nat) (a : PyData) : C (k + 1) 25 [a] = retC (svs (C k) T.G Bz B25 [some (.v a), none, none, none]) := (call_eq 1 4 (by kernel_rfl)).trans (r1 rfl)
theorem c26 (k : Nat) (a : PyData) : C (k + 1) 26 [a] = retC (svs (C k) T.G Bz B26 [some (.v a), none, none, none, none, none, none]) := (call_eq 1 7 (by kernel_rfl)).trans (r1 rfl)
theorem c27 (k : Nat) (a : PyData) : C (k + 1) 27 [a] = retC (svs (C k) T.G Bz B27 [some (.v a), none, none, none]) := (call_eq 1 4 (by kernel_rfl)).trans (r1 rfl)
theorem c28 (k : Nat) (a : PyData) : C (k + 1) 28 [a] = retC (svs (C k) T.G Bz B28 [some (.v a), none, none, none, none]) := (call_eq 1 5 (by kernel_rfl)).trans (r1 rfl)
theorem c29 (k : Nat) (a b : PyData) : C (k + 1) 29 [a, b] = retC (svs (C k) T.G Bz B29 [some (.v a), some (.v b), none]) := (call_eq 2 3 (by kernel_rfl)).trans (r1 rfl)
theorem c30 (k : Nat) (a : PyData) : C (k + 1) 30 [a] = retC (svs (C k) T.G Bz B30 [some (.v a), none]) := (call_eq 1 2 (by kernel_rfl)).trans (r1 rfl)
theorem c31 (k : Nat) (a b : PyData) : C (k + 1) 31 [a, b] = retC (svs (C k) T.G Bz B31 [some (.v a), some (.v b), none, none, none, none, none]) := (call_eq 2 7 (by kernel_rfl)).trans (r1 rfl)
theorem c32 (k : Nat) (a : PyData) : C (k + 1) 32 [a] = retC (svs (C k) T.G Bz B32 [some (.v a), none, none, none, none, none, none, none]) := (call_eq 1 8 (by kernel_rfl)).trans (r1 rfl)
end Law

namespace Law
open PySem Hv
open En (enc)
theorem gl_LAST_YEAR : T.G "LAST_YEAR" = some (enc ((9999 : Int) : Int)) := by kernel_rfl
def gv_DAYS : (Tu Int) := ⟨[(31 : Int), (28 : Int), (31 : Int), (30 : Int), (31 : Int), (30 : Int), (31 : Int), (31 : Int), (30 : Int), (31 : Int), (30 : Int), (31 : Int)]⟩
theorem gl_DAYS : T.G "DAYS" = some (enc gv_DAYS) := by kernel_rfl
theorem gl_LAST_NUMBER : T.G "LAST_NUMBER" = some (enc ((3652058 : Int) : Int)) := by kernel_rfl
def gv_WEEK : (Tu Tx) := ⟨[([77, 111, 110, 100, 97, 121] : Tx), ([84, 117, 101, 115, 100, 97, 121] : Tx), ([87, 101, 100, 110, 101, 115, 100, 97, 121] : Tx), ([84, 104, 117, 114, 115, 100, 97, 121] : Tx), ([70, 114, 105, 100, 97, 121] : Tx), ([83, 97, 116, 117, 114, 100, 97, 121] : Tx), ([83, 117, 110, 100, 97, 121] : Tx)]⟩
theorem gl_WEEK : T.G "WEEK" = some (enc gv_WEEK) := by kernel_rfl
theorem same22 {k : Nat} (h : 30 ≤ k) {α : Type} [En α] [DecidableEq α] [Eq_ α] (hn : Eq_.n α ≤ 20) (a b : α) : Fx (C k) 22 [enc a, enc b] (sameM a b) (vM .R []) := same_ok (fun k a b => c22 k a b) h hn a b
/-- _law_cell -/
@[irreducible] noncomputable def F20 (script_ : (List Int)) (k_ : Int) : M Int := Rs.toM (σ := Unit)
  (M.bindS (M.ok (decide (k_ < (List.length script_ : Int)))) fun c2 => if c2 then (M.bindS (getM script_ k_) Rs.ret) else (Rs.ret (0 : Int)))
theorem ok20 {k : Nat} (h : 1 ≤ k) (script_ : (List Int)) (k_ : Int) : Fx (C k) 20 [enc script_, enc k_] (F20 script_ k_) (vM .R []) := by
  obtain ⟨k, rfl⟩ : ∃ j, k = j + 1 := ⟨k - 1, by omega⟩
  delta F20
  exact fxM (c20 k _ _) (stV (stV stN)) (sIf (fun _ _ => trivial) (Tr.bb (xLtPP (xVarS (i := 1) (x := k_) rfl) (xLenLP (xVar (i := 0) (x := script_) rfl))) rfl) rfl (sRet (fun _ _ => trivial) (xIntI (Ex.im (xIxVLP (xs := script_) rfl (xVarS (i := 1) (x := k_) rfl)))) rfl) (sRetP (x := (0 : Int)) xInt rfl))

/-- _law_numbers -/
@[irreducible] noncomputable def F21 (cell_ : Int) (count_ : Int) (limit_ : Int) : M (List Int) := Rs.toM (σ := Unit)
  (M.bindS (M.ok ([] : List Int)) fun found_49 => (M.bindS (M.bind (powM (10 : Int) (18 : Int)) fun t50 => (M.ok (decide (t50 ≤ cell_)))) fun c51 => if c51 then (M.bindS (rg1 count_) fun xs60 => Rs.seq (forL (fun (x53 : Int) (s52 : (Int × (List Int))) => (M.bindS (modM s52.1 limit_) fun y59 => M.bindS (pushM s52.2 y59) fun found_57 => (M.bindS (divM s52.1 limit_) fun cell_58 => (Rs.next (cell_58, found_57))))) xs60 (cell_, found_49)) fun s52 : (Int × (List Int)) => (Rs.ret s52.2)) else (M.bindS (rg1 count_) fun xs93 => Rs.seq (forL (fun (x62 : Int) (s61 : (List Int)) => (M.bindS (M.bind (M.bind (M.bind (mulM cell_ (48271 : Int)) fun t78 => (M.bind (mulM x62 (69621 : Int)) fun t79 => (M.ok (t78 + t79)))) fun t80 => (M.ok (t80 + (7 : Int)))) fun t81 => (modM t81 (2147483647 : Int))) fun mixed_82 => (M.bindS (M.bind (M.bind (M.bind (M.bind (mulM mixed_82 mixed_82) fun t83 => (M.bind (mulM mixed_82 (40692 : Int)) fun t84 => (M.ok (t83 + t84)))) fun t85 => (M.bind (mulM x62 (16807 : Int)) fun t86 => (M.ok (t85 + t86)))) fun t87 => (M.ok (t87 + (11 : Int)))) fun t88 => (modM t88 (2147483399 : Int))) fun mixed_89 => (M.bindS (M.bind (divM mixed_89 (32 : Int)) fun t90 => (modM t90 limit_)) fun y92 => M.bindS (pushM s61 y92) fun found_91 => (Rs.next found_91))))) xs93 found_49) fun s61 : (List Int) => (Rs.ret s61))))
theorem ok21 {k : Nat} (h : 1 ≤ k) (cell_ : Int) (count_ : Int) (limit_ : Int) : Fx (C k) 21 [enc cell_, enc count_, enc limit_] (F21 cell_ count_ limit_) (vM (.O .R) []) := by
  obtain ⟨k, rfl⟩ : ∃ j, k = j + 1 := ⟨k - 1, by omega⟩
  delta F21
  exact fxM (c21 k _ _ _) (stV (stV (stV (stU (stU (stU stN)))))) (sAsg (fun _ _ => trivial) (xLst (lsN (α := Int) (μ := .R))) rfl fun found_49 => (sC (Γ' := [.S .R (enc cell_), .S .R (enc count_), .S .R (enc limit_), .S (.O .R) (enc found_49), .U, .U]) rfl (sIf (fun _ _ => trivial) (Tr.bb (xGePM (xVarS (i := 0) (x := cell_) rfl) (xPowPP xInt xInt)) rfl) rfl (sFor (Γl := fun s52 : (Int × (List Int)) => [.S .R (enc s52.1), .S .R (enc count_), .S .R (enc limit_), .S (.O .R) (enc s52.2), .U, .U]) (fun _ _ => trivial) (itR1P (xVarS (i := 1) (x := count_) rfl)) rfl rfl (Le.of (leC leE (leC leE (leC leE (leC leE (leC leU (leC leU leN))))))) (fun _ _ => tgN) (fun s52 x53 => (sC (Γ' := [.S .R (enc s52.1), .S .R (enc count_), .S .R (enc limit_), .S (.O .R) (enc s52.2), .S .R (enc x53), .U]) rfl (sApp (xs := s52.2) (fun _ _ => trivial) rfl (xModPP (xIntI (xVarS (i := 0) (x := s52.1) rfl)) (xVarS (i := 2) (x := limit_) rfl)) rfl rfl fun found_57 => (sC (Γ' := [.S .R (enc s52.1), .S .R (enc count_), .S .R (enc limit_), .S (.O .R) (enc found_57), .S .R (enc x53), .U]) rfl (sAsg (fun _ _ => trivial) (xDivPP (xIntI (xVarS (i := 0) (x := s52.1) rfl)) (xVarS (i := 2) (x := limit_) rfl)) rfl fun cell_58 => (sC (Γ' := [.S .R (enc cell_58), .S .R (enc count_), .S .R (enc limit_), .S (.O .R) (enc found_57), .S .R (enc x53), .U]) rfl (sNil (Le.of (leC leE (leC leE (leC leE (leC leE (leC leU (leC leU leN)))))))))))))) fun s52 => (sRetv rfl)) (sFor (Γl := fun s61 : (List Int) => [.S .R (enc cell_), .S .R (enc count_), .S .R (enc limit_), .S (.O .R) (enc s61), .U, .U]) (fun _ _ => trivial) (itR1P (xVarS (i := 1) (x := count_) rfl)) rfl rfl (Le.of (leC leE (leC leE (leC leE (leC leE (leC leU (leC leU leN))))))) (fun _ _ => tgN) (fun s61 x62 => (sC (Γ' := [.S .R (enc cell_), .S .R (enc count_), .S .R (enc limit_), .S (.O .R) (enc s61), .S .R (enc x62), .U]) rfl (sAsg (fun _ _ => trivial) (xModMP (xIntI (xAddMP (xAddMM (xMulPP (xVarS (i := 0) (x := cell_) rfl) xInt) (xMulPP (xVarS (i := 4) (x := x62) rfl) xInt)) xInt)) xInt) rfl fun mixed_82 => (sC (Γ' := [.S .R (enc cell_), .S .R (enc count_), .S .R (enc limit_), .S (.O .R) (enc s61), .S .R (enc x62), .S .R (enc mixed_82)]) rfl (sAsg (fun _ _ => trivial) (xModMP (xIntI (xAddMP (xAddMM (xAddMM (xMulPP (xVarS (i := 5) (x := mixed_82) rfl) (xVarS (i := 5) (x := mixed_82) rfl)) (xMulPP (xVarS (i := 5) (x := mixed_82) rfl) xInt)) (xMulPP (xVarS (i := 4) (x := x62) rfl) xInt)) xInt)) xInt) rfl fun mixed_89 => (sC (Γ' := [.S .R (enc cell_), .S .R (enc count_), .S .R (enc limit_), .S (.O .R) (enc s61), .S .R (enc x62), .S .R (enc mixed_89)]) rfl (sApp (xs := s61) (fun _ _ => trivial) rfl (xModMP (xIntI (xDivPP (xVarS (i := 5) (x := mixed_89) rfl) xInt)) (xVarS (i := 2) (x := limit_) rfl)) rfl rfl fun found_91 => (sC (Γ' := [.S .R (enc cell_), .S .R (enc count_), .S .R (enc limit_), .S (.O .R) (enc found_91), .S .R (enc x62), .S .R (enc mixed_89)]) rfl (sNil (Le.of (leC leE (leC leE (leC leE (leC leE (leC leU (leC leU leN)))))))))))))))) fun s61 => (sRetv rfl)))))

/-- _law_leap -/
@[irreducible] noncomputable def F23 (year_ : Int) : M Bool := Rs.toM (σ := Unit)
  (M.bindS (M.bind (modM year_ (400 : Int)) fun t146 => (M.ok (decide (t146 = (0 : Int))))) fun c147 => if c147 then (Rs.ret true) else (M.bindS (M.bind (M.bind (modM year_ (4 : Int)) fun t148 => (M.ok (decide (t148 = (0 : Int))))) fun t150 => (if t150 then (M.bind (modM year_ (100 : Int)) fun t149 => (M.ok (decide ((0 : Int) < t149)))) else M.ok false)) Rs.ret))
theorem ok23 {k : Nat} (h : 1 ≤ k) (year_ : Int) : Fx (C k) 23 [enc year_] (F23 year_) (vM .R []) := by
  obtain ⟨k, rfl⟩ : ∃ j, k = j + 1 := ⟨k - 1, by omega⟩
  delta F23
  exact fxM (c23 k _) (stV stN) (sIf (fun _ _ => trivial) (Tr.bb (xEqMP (by decide) (xModPP (xVarS (i := 0) (x := year_) rfl) xInt) xInt) rfl) rfl (sRetP (x := true) xBl rfl) (sRet (fun _ _ => trivial) (xAnd (eaC (xEqMP (by decide) (xModPP (xVarS (i := 0) (x := year_) rfl) xInt) xInt) (ea1 (xGtMP (xModPP (xVarS (i := 0) (x := year_) rfl) xInt) xInt)))) rfl))

/-- _law_month_days -/
@[irreducible] noncomputable def F24 (year_ : Int) (month_ : Int) : M Int := Rs.toM (σ := Unit)
  (M.bindS (M.ok (decide (month_ = (2 : Int)))) fun c154 => if c154 then (M.bindS (M.bind (M.bind (F23 year_) fun t156 => (M.ok (if t156 then 1 else 0 : Int))) fun t157 => (M.ok ((28 : Int) + t157))) Rs.ret) else (Rs.ret ((31 : Int) - (if (decide (month_ ∈ [(4 : Int), (6 : Int), (9 : Int), (11 : Int)])) then 1 else 0 : Int))))
theorem ok24 {k : Nat} (h : 2 ≤ k) (year_ : Int) (month_ : Int) : Fx (C k) 24 [enc year_, enc month_] (F24 year_ month_) (vM .R []) := by
  obtain ⟨k, rfl⟩ : ∃ j, k = j + 1 := ⟨k - 1, by omega⟩
  delta F24
  exact fxM (c24 k _ _) (stV (stV stN)) (sIf (fun _ _ => trivial) (Tr.bb (xEqPP (by decide) (xVarS (i := 1) (x := month_) rfl) xInt) rfl) rfl (sRet (fun _ _ => trivial) (xAddPM xInt (xIntBM (Ex.im (xCall1P (xVarS (i := 0) (x := year_) rfl) (ok23 (by omega) _))))) rfl) (sRetP (x := ((31 : Int) - (if (decide (month_ ∈ [(4 : Int), (6 : Int), (9 : Int), (11 : Int)])) then 1 else 0 : Int))) (xSubPP xInt (xIntBP (xInPP (by decide) (xVarS (i := 1) (x := month_) rfl) (Ex.r (xLst (lsCPP xInt (lsCPP xInt (lsCPP xInt (lsCPP xInt lsN))))))))) rfl))

/-- _law_date -/
@[irreducible] noncomputable def F28 (cell_ : Int) : M (T3 Int Int Int) := Rs.toM (σ := Unit)
  (M.bindS (F21 cell_ (4 : Int) (55440 : Int)) fun draws_172 => (M.bindS (M.bind (M.bind (M.bind (M.bind (getM draws_172 (0 : Int)) fun t173 => (modM t173 (9999 : Int))) fun t174 => (M.ok ((1 : Int) + t174))) fun t188 => (M.bind (M.bind (M.bind (M.bind (M.bind (getM draws_172 (0 : Int)) fun t175 => (modM t175 (99 : Int))) fun t176 => (M.ok ((1 : Int) + t176))) fun t177 => (mulM (100 : Int) t177)) fun t186 => (M.bind (M.bind (M.bind (M.bind (M.bind (getM draws_172 (0 : Int)) fun t178 => (modM t178 (2499 : Int))) fun t179 => (M.ok ((1 : Int) + t179))) fun t180 => (mulM (4 : Int) t180)) fun t184 => (M.bind (M.bind (M.bind (M.bind (getM draws_172 (0 : Int)) fun t181 => (modM t181 (200 : Int))) fun t182 => (M.ok ((1900 : Int) + t182))) fun t183 => (M.ok (t183 :: ((1 : Int) :: ((9999 : Int) :: []))))) fun t185 => (M.ok (t184 :: t185)))) fun t187 => (M.ok (t186 :: t187)))) fun t189 => (M.ok (t188 :: t189)))) fun t191 => (M.bind (M.bind (getM draws_172 (3 : Int)) fun t190 => (modM t190 (6 : Int))) fun t192 => (getM t191 t192))) fun year_193 => (M.bindS (M.bind (M.bind (getM draws_172 (1 : Int)) fun t194 => (modM t194 (12 : Int))) fun t195 => (M.ok ((1 : Int) + t195))) fun month_196 => (Rs.seq (M.bindS (M.bind (M.bind (M.bind (getM draws_172 (3 : Int)) fun t197 => (divM t197 (6 : Int))) fun t198 => (modM t198 (4 : Int))) fun t199 => (M.ok (decide (t199 = (0 : Int))))) fun c200 => if c200 then (M.bindS (M.ok (2 : Int)) fun month_203 => (Rs.next month_203)) else (Rs.next month_196)) fun s202 : Int => (M.bindS (F24 year_193 s202) fun days_205 => (M.bindS (M.bind (M.bind (M.bind (M.bind (M.bind (M.bind (M.bind (M.bind (getM draws_172 (2 : Int)) fun t206 => (modM t206 days_205)) fun t207 => (M.ok ((1 : Int) + t207))) fun t208 => (M.ok (t208 :: (days_205 :: ((1 : Int) :: ((max (1 : Int) (days_205 - (1 : Int))) :: [])))))) fun t211 => (M.bind (M.bind (M.bind (getM draws_172 (3 : Int)) fun t209 => (divM t209 (24 : Int))) fun t210 => (modM t210 (4 : Int))) fun t212 => (getM t211 t212))) fun t213 => (M.ok (t213, ()))) fun t214 => (M.ok (s202, t214))) fun t215 => (M.ok (year_193, t215))) fun z216 => M.ok (T3.mk z216.1 z216.2.1 z216.2.2.1)) Rs.ret))))))
theorem ok28 {k : Nat} (h : 3 ≤ k) (cell_ : Int) : Fx (C k) 28 [enc cell_] (F28 cell_) (vM .R []) := by
  obtain ⟨k, rfl⟩ : ∃ j, k = j + 1 := ⟨k - 1, by omega⟩
  delta F28
  exact fxM (c28 k _) (stV (stU (stU (stU (stU stN))))) (sAsg (fun _ _ => trivial) (xCall3P (xVarS (i := 0) (x := cell_) rfl) xInt xInt (ok21 (by omega) _ _ _)) rfl fun draws_172 => (sC (Γ' := [.S .R (enc cell_), .S (.O .R) (enc draws_172), .U, .U, .U]) rfl (sAsg (fun _ _ => trivial) (Ex.im (xIxLMM rfl (Ex.r (xLst (lsCMM (xAddPM xInt (xModMP (Ex.im (xIxVLP (xs := draws_172) rfl xInt)) xInt)) (lsCMM (xMulPM xInt (xAddPM xInt (xModMP (Ex.im (xIxVLP (xs := draws_172) rfl xInt)) xInt))) (lsCMM (xMulPM xInt (xAddPM xInt (xModMP (Ex.im (xIxVLP (xs := draws_172) rfl xInt)) xInt))) (lsCMP (xAddPM xInt (xModMP (Ex.im (xIxVLP (xs := draws_172) rfl xInt)) xInt)) (lsCPP xInt (lsCPP xInt lsN)))))))) (xModMP (Ex.im (xIxVLP (xs := draws_172) rfl xInt)) xInt))) rfl fun year_193 => (sC (Γ' := [.S .R (enc cell_), .S (.O .R) (enc draws_172), .S .R (enc year_193), .U, .U]) rfl (sAsg (fun _ _ => trivial) (xAddPM xInt (xModMP (Ex.im (xIxVLP (xs := draws_172) rfl xInt)) xInt)) rfl fun month_196 => (sC (Γ' := [.S .R (enc cell_), .S (.O .R) (enc draws_172), .S .R (enc year_193), .S .R (enc month_196), .U]) rfl (sIfJ (Γj := fun s202 : Int => [.S .R (enc cell_), .S (.O .R) (enc draws_172), .S .R (enc year_193), .S .R (enc s202), .U]) (fun _ _ => trivial) (Tr.bb (xEqMP (by decide) (xModMP (xDivMP (Ex.im (xIxVLP (xs := draws_172) rfl xInt)) xInt) xInt) xInt) rfl) rfl (sAsg (fun _ _ => trivial) xInt rfl fun month_203 => (sC (Γ' := [.S .R (enc cell_), .S (.O .R) (enc draws_172), .S .R (enc year_193), .S .R (enc month_203), .U]) rfl (sNil (Le.of (leC leE (leC leE (leC leE (leC leE (leC leU leN))))))))) (sNil (Le.of (leC leE (leC leE (leC leE (leC leE (leC leU leN))))))) fun s202 => (sAsg (fun _ _ => trivial) (Ex.im (xCall2P (xVarS (i := 2) (x := year_193) rfl) (xVarS (i := 3) (x := s202) rfl) (ok24 (by omega) _ _))) rfl fun days_205 => (sC (Γ' := [.S .R (enc cell_), .S (.O .R) (enc draws_172), .S .R (enc year_193), .S .R (enc s202), .S .R (enc days_205)]) rfl (sRet (fun _ _ => trivial) (Ex.im (xTup (fun z => T3.mk z.1 z.2.1 z.2.2.1) (asCPM (xVarS (i := 2) (x := year_193) rfl) (asCPM (xVarS (i := 3) (x := s202) rfl) (asCMP (Ex.im (xIxLMM rfl (Ex.r (xLst (lsCMP (xAddPM xInt (xModMP (Ex.im (xIxVLP (xs := draws_172) rfl xInt)) (xVarS (i := 4) (x := days_205) rfl))) (lsCPP (xVarS (i := 4) (x := days_205) rfl) (lsCPP xInt (lsCPP (xMaxPP xInt (xSubPP (xVarS (i := 4) (x := days_205) rfl) xInt)) lsN)))))) (xModMP (xDivMP (Ex.im (xIxVLP (xs := draws_172) rfl xInt)) xInt) xInt))) asN))) fun _ => rfl)) rfl))))))))))

/-- _law_date_number -/
@[irreducible] noncomputable def F26 (date_ : (T3 Int Int Int)) : M Int := Rs.toM (σ := Unit)
  (M.bindS (M.ok date_) fun p244 => (M.bindS (M.ok (p244.a - (1 : Int))) fun rest_245 => (M.bindS (M.bind (divM rest_245 (400 : Int)) fun t246 => (mulM t246 (146097 : Int))) fun total_247 => (M.bindS (modM rest_245 (400 : Int)) fun rest_248 => (M.bindS (M.bind (M.bind (divM rest_248 (100 : Int)) fun t249 => (mulM t249 (36524 : Int))) fun t250 => (M.ok (total_247 + t250))) fun total_251 => (M.bindS (modM rest_248 (100 : Int)) fun rest_252 => (M.bindS (M.bind (M.bind (M.bind (divM rest_252 (4 : Int)) fun t253 => (mulM t253 (1461 : Int))) fun t254 => (M.ok (total_251 + t254))) fun t256 => (M.bind (M.bind (modM rest_252 (4 : Int)) fun t255 => (mulM t255 (365 : Int))) fun t257 => (M.ok (t256 + t257)))) fun total_258 => (M.bindS (rg2 (1 : Int) p244.b) fun xs267 => Rs.seq (forL (fun (x260 : Int) (s259 : Int) => (M.bindS (M.bind (F24 p244.a x260) fun t265 => (M.ok (s259 + t265))) fun total_266 => (Rs.next total_266))) xs267 total_258) fun s259 : Int => (Rs.ret ((s259 + p244.c) - (1 : Int)))))))))))
theorem ok26 {k : Nat} (h : 3 ≤ k) (date_ : (T3 Int Int Int)) : Fx (C k) 26 [enc date_] (F26 date_) (vM .R []) := by
  obtain ⟨k, rfl⟩ : ∃ j, k = j + 1 := ⟨k - 1, by omega⟩
  delta F26
  exact fxM (c26 k _) (stV (stU (stU (stU (stU (stU (stU stN))))))) (sAsgT (fun _ _ => trivial) (xVarS (i := 0) (x := date_) rfl) rfl (fun _ => tg3) fun p244 => (sC (Γ' := [.S .R (enc date_), .U, .U, .U, .S .R (enc p244.a), .S .R (enc p244.b), .S .R (enc p244.c)]) rfl (sAsg (fun _ _ => trivial) (xSubPP (xVarS (i := 4) (x := p244.a) rfl) xInt) rfl fun rest_245 => (sC (Γ' := [.S .R (enc date_), .S .R (enc rest_245), .U, .U, .S .R (enc p244.a), .S .R (enc p244.b), .S .R (enc p244.c)]) rfl (sAsg (fun _ _ => trivial) (xMulMP (xDivPP (xVarS (i := 1) (x := rest_245) rfl) xInt) xInt) rfl fun total_247 => (sC (Γ' := [.S .R (enc date_), .S .R (enc rest_245), .S .R (enc total_247), .U, .S .R (enc p244.a), .S .R (enc p244.b), .S .R (enc p244.c)]) rfl (sAsg (fun _ _ => trivial) (xModPP (xVarS (i := 1) (x := rest_245) rfl) xInt) rfl fun rest_248 => (sC (Γ' := [.S .R (enc date_), .S .R (enc rest_248), .S .R (enc total_247), .U, .S .R (enc p244.a), .S .R (enc p244.b), .S .R (enc p244.c)]) rfl (sAsg (fun _ _ => trivial) (xAddPM (xVarS (i := 2) (x := total_247) rfl) (xMulMP (xDivPP (xVarS (i := 1) (x := rest_248) rfl) xInt) xInt)) rfl fun total_251 => (sC (Γ' := [.S .R (enc date_), .S .R (enc rest_248), .S .R (enc total_251), .U, .S .R (enc p244.a), .S .R (enc p244.b), .S .R (enc p244.c)]) rfl (sAsg (fun _ _ => trivial) (xModPP (xVarS (i := 1) (x := rest_248) rfl) xInt) rfl fun rest_252 => (sC (Γ' := [.S .R (enc date_), .S .R (enc rest_252), .S .R (enc total_251), .U, .S .R (enc p244.a), .S .R (enc p244.b), .S .R (enc p244.c)]) rfl (sAsg (fun _ _ => trivial) (xAddMM (xAddPM (xVarS (i := 2) (x := total_251) rfl) (xMulMP (xDivPP (xVarS (i := 1) (x := rest_252) rfl) xInt) xInt)) (xMulMP (xModPP (xVarS (i := 1) (x := rest_252) rfl) xInt) xInt)) rfl fun total_258 => (sC (Γ' := [.S .R (enc date_), .S .R (enc rest_252), .S .R (enc total_258), .U, .S .R (enc p244.a), .S .R (enc p244.b), .S .R (enc p244.c)]) rfl (sFor (Γl := fun s259 : Int => [.S .R (enc date_), .S .R (enc rest_252), .S .R (enc s259), .U, .S .R (enc p244.a), .S .R (enc p244.b), .S .R (enc p244.c)]) (fun _ _ => trivial) (itR2PP xInt (xVarS (i := 5) (x := p244.b) rfl)) rfl rfl (Le.of (leC leE (leC leE (leC leE (leC leU (leC leE (leC leE (leC leE leN)))))))) (fun _ _ => tgN) (fun s259 x260 => (sC (Γ' := [.S .R (enc date_), .S .R (enc rest_252), .S .R (enc s259), .S .R (enc x260), .S .R (enc p244.a), .S .R (enc p244.b), .S .R (enc p244.c)]) rfl (sAsg (fun _ _ => trivial) (xAddPM (xVarS (i := 2) (x := s259) rfl) (Ex.im (xCall2P (xVarS (i := 4) (x := p244.a) rfl) (xVarS (i := 3) (x := x260) rfl) (ok24 (by omega) _ _)))) rfl fun total_266 => (sC (Γ' := [.S .R (enc date_), .S .R (enc rest_252), .S .R (enc total_266), .S .R (enc x260), .S .R (enc p244.a), .S .R (enc p244.b), .S .R (enc p244.c)]) rfl (sNil (Le.of (leC leE (leC leE (leC leE (leC leU (leC leE (leC leE (leC leE leN))))))))))))) fun s259 => (sRetP (x := ((s259 + p244.c) - (1 : Int))) (xSubPP (xAddPP (xVarS (i := 2) (x := s259) rfl) (xVarS (i := 6) (x := p244.c) rfl)) xInt) rfl))))))))))))))))

/-- is_leap -/
@[irreducible] noncomputable def F10 (year_ : Int) : M Bool := Rs.toM (σ := Unit)
  (M.bindS (M.bind (M.bind (modM year_ (4 : Int)) fun t277 => (M.ok (decide (t277 = (0 : Int))))) fun t281 => (if t281 then (M.bind (M.bind (modM year_ (100 : Int)) fun t278 => (M.ok (!decide (t278 = (0 : Int))))) fun t280 => (if t280 then M.ok true else (M.bind (modM year_ (400 : Int)) fun t279 => (M.ok (decide (t279 = (0 : Int))))))) else M.ok false)) Rs.ret)
theorem ok10 {k : Nat} (h : 1 ≤ k) (year_ : Int) : Fx (C k) 10 [enc year_] (F10 year_) (vM .R []) := by
  obtain ⟨k, rfl⟩ : ∃ j, k = j + 1 := ⟨k - 1, by omega⟩
  delta F10
  exact fxM (c10 k _) (stV stN) (sRet (fun _ _ => trivial) (xAnd (eaC (xEqMP (by decide) (xModPP (xVarS (i := 0) (x := year_) rfl) xInt) xInt) (ea1 (xOr (eoC (xNeMP (by decide) (xModPP (xVarS (i := 0) (x := year_) rfl) xInt) xInt) (eo1 (xEqMP (by decide) (xModPP (xVarS (i := 0) (x := year_) rfl) xInt) xInt))))))) rfl)

/-- month_days -/
@[irreducible] noncomputable def F11 (year_ : Int) (month_ : Int) : M Int := Rs.toM (σ := Unit)
  (M.bindS (if (decide (month_ = (2 : Int))) then (F10 year_) else M.ok false) fun c286 => if c286 then (M.bindS (M.bind (getM (Tu.l gv_DAYS) (1 : Int)) fun t287 => (M.ok (t287 + (1 : Int)))) Rs.ret) else (M.bindS (getM (Tu.l gv_DAYS) (month_ - (1 : Int))) Rs.ret))
theorem ok11 {k : Nat} (h : 2 ≤ k) (year_ : Int) (month_ : Int) : Fx (C k) 11 [enc year_, enc month_] (F11 year_ month_) (vM .R []) := by
  obtain ⟨k, rfl⟩ : ∃ j, k = j + 1 := ⟨k - 1, by omega⟩
  delta F11
  exact fxM (c11 k _ _) (stV (stV stN)) (sIf (fun _ _ => trivial) (tAnd (taCP (Tr.bb (xEqPP (by decide) (xVarS (i := 1) (x := month_) rfl) xInt) rfl) (ta1 (Tr.bb (Ex.im (xCall1P (xVarS (i := 0) (x := year_) rfl) (ok10 (by omega) _))) rfl)))) rfl (sRet (fun _ _ => trivial) (xAddMP (Ex.im (xIxUPP rfl (xGlob gl_DAYS) xInt)) xInt) rfl) (sRet (fun _ _ => trivial) (Ex.im (xIxUPP rfl (xGlob gl_DAYS) (xSubPP (xVarS (i := 1) (x := month_) rfl) xInt))) rfl))

/-- check_date -/
@[irreducible] noncomputable def F12 (date_ : (T3 Int Int Int)) : M Unit := Rs.toN (() : Unit) (σ := Unit)
  (M.bindS (M.ok date_) fun p292 => (M.bindS (M.ok ((!(cI .le (1 : Int) p292.a && cI .le p292.a (9999 : Int))) || (!(cI .le (1 : Int) p292.b && cI .le p292.b (List.length (Tu.l gv_DAYS) : Int))))) fun c293 => if c293 then (Rs.exc "NoDate") else (M.bindS (M.bind (if cI .le (1 : Int) p292.c then (M.bind (F11 p292.a p292.b) fun t295 => (M.ok (cI .le p292.c t295))) else M.ok false) fun t296 => (M.ok (!t296))) fun c297 => if c297 then (Rs.exc "NoDate") else (Rs.next ()))))
theorem ok12 {k : Nat} (h : 3 ≤ k) (date_ : (T3 Int Int Int)) : Fx (C k) 12 [enc date_] (F12 date_) (vM .R []) := by
  obtain ⟨k, rfl⟩ : ∃ j, k = j + 1 := ⟨k - 1, by omega⟩
  delta F12
  exact fxN (Γn := [.U, .U, .U, .U]) rfl (c12 k _) (stV (stU (stU (stU stN)))) (sAsgT (fun _ _ => trivial) (xVarS (i := 0) (x := date_) rfl) rfl (fun _ => tg3) fun p292 => (sC (Γ' := [.S .R (enc date_), .S .R (enc p292.a), .S .R (enc p292.b), .S .R (enc p292.c)]) rfl (sIf (fun _ _ => trivial) (tOr (toPP (tNot_P (Tr.bb (xChnPP rfl rfl xInt (xVarS (i := 1) (x := p292.a) rfl) (xGlob gl_LAST_YEAR)) rfl)) (to1 (tNot_P (Tr.bb (xChnPP rfl rfl xInt (xVarS (i := 2) (x := p292.b) rfl) (xLenUP (xGlob gl_DAYS))) rfl))))) rfl (sRaise (fun _ _ => trivial)) (sIf (fun _ _ => trivial) (tNot_M (Tr.bb (xChnPPM rfl rfl xInt (xVarS (i := 3) (x := p292.c) rfl) (Ex.im (xCall2P (xVarS (i := 1) (x := p292.a) rfl) (xVarS (i := 2) (x := p292.b) rfl) (ok11 (by omega) _ _)))) rfl)) rfl (sRaise (fun _ _ => trivial)) (sNil (Le.of (leC leU (leC leU (leC leU (leC leU leN))))))))))

/-- days_before_year -/
@[irreducible] noncomputable def F13 (year_ : Int) : M Int := Rs.toM (σ := Unit)
  (M.bindS (M.ok (year_ - (1 : Int))) fun past_309 => (M.bindS (M.bind (M.bind (M.bind (mulM (365 : Int) past_309) fun t310 => (M.bind (divM past_309 (4 : Int)) fun t311 => (M.ok (t310 + t311)))) fun t312 => (M.bind (divM past_309 (100 : Int)) fun t313 => (M.ok (t312 - t313)))) fun t314 => (M.bind (divM past_309 (400 : Int)) fun t315 => (M.ok (t314 + t315)))) Rs.ret))
theorem ok13 {k : Nat} (h : 1 ≤ k) (year_ : Int) : Fx (C k) 13 [enc year_] (F13 year_) (vM .R []) := by
  obtain ⟨k, rfl⟩ : ∃ j, k = j + 1 := ⟨k - 1, by omega⟩
  delta F13
  exact fxM (c13 k _) (stV (stU stN)) (sAsg (fun _ _ => trivial) (xSubPP (xVarS (i := 0) (x := year_) rfl) xInt) rfl fun past_309 => (sC (Γ' := [.S .R (enc year_), .S .R (enc past_309)]) rfl (sRet (fun _ _ => trivial) (xAddMM (xSubMM (xAddMM (xMulPP xInt (xVarS (i := 1) (x := past_309) rfl)) (xDivPP (xVarS (i := 1) (x := past_309) rfl) xInt)) (xDivPP (xVarS (i := 1) (x := past_309) rfl) xInt)) (xDivPP (xVarS (i := 1) (x := past_309) rfl) xInt)) rfl)))

/-- days_before_month -/
@[irreducible] noncomputable def F14 (year_ : Int) (month_ : Int) : M Int := Rs.toM (σ := Unit)
  (M.bindS (M.bind (M.bind (rg2 (1 : Int) month_) fun t323 => (lcM (fun x321 : Int => (M.ok true)) (fun x321 : Int => (F11 year_ x321)) t323)) fun t324 => (M.ok (List.sum t324))) Rs.ret)
theorem ok14 {k : Nat} (h : 3 ≤ k) (year_ : Int) (month_ : Int) : Fx (C k) 14 [enc year_, enc month_] (F14 year_ month_) (vM .R []) := by
  obtain ⟨k, rfl⟩ : ∃ j, k = j + 1 := ⟨k - 1, by omega⟩
  delta F14
  exact fxM (c14 k _ _) (stV (stV (stU stN))) (sRet (fun _ _ => trivial) (xSumM (Ex.r (xLci (xLcXM (fun x321 : Int => (M.ok true)) (fun x321 : Int => (F11 year_ x321)) (itR2PP xInt (xVarS (i := 1) (x := month_) rfl)) (fun _ => tgN) (fun x321 => csN) (fun x321 => (Ex.im (xCall2P (xVarS (i := 0) (x := year_) rfl) (xVarS (i := 2) (x := x321) rfl) (ok11 (by omega) _ _)))))))) rfl)

/-- date_number -/
@[irreducible] noncomputable def F15 (date_ : (T3 Int Int Int)) : M Int := Rs.toM (σ := Unit)
  (M.bindS (F12 date_) fun _ => (M.bindS (M.ok date_) fun p331 => (M.bindS (M.bind (M.bind (M.bind (F13 p331.a) fun t334 => (M.bind (F14 p331.a p331.b) fun t335 => (M.ok (t334 + t335)))) fun t336 => (M.ok (t336 + p331.c))) fun t337 => (M.ok (t337 - (1 : Int)))) Rs.ret)))
theorem ok15 {k : Nat} (h : 4 ≤ k) (date_ : (T3 Int Int Int)) : Fx (C k) 15 [enc date_] (F15 date_) (vM .R []) := by
  obtain ⟨k, rfl⟩ : ∃ j, k = j + 1 := ⟨k - 1, by omega⟩
  delta F15
  exact fxM (c15 k _) (stV (stU (stU (stU stN)))) (sDrop (fun _ _ => trivial) (Ex.im (xCall1P (xVarS (i := 0) (x := date_) rfl) (ok12 (by omega) _))) rfl (sAsgT (fun _ _ => trivial) (xVarS (i := 0) (x := date_) rfl) rfl (fun _ => tg3) fun p331 => (sC (Γ' := [.S .R (enc date_), .S .R (enc p331.a), .S .R (enc p331.b), .S .R (enc p331.c)]) rfl (sRet (fun _ _ => trivial) (xSubMP (xAddMP (xAddMM (Ex.im (xCall1P (xVarS (i := 1) (x := p331.a) rfl) (ok13 (by omega) _))) (Ex.im (xCall2P (xVarS (i := 1) (x := p331.a) rfl) (xVarS (i := 2) (x := p331.b) rfl) (ok14 (by omega) _ _)))) (xVarS (i := 3) (x := p331.c) rfl)) xInt) rfl))))

/-- year_of -/
@[irreducible] noncomputable def F16 (number_ : Int) : M Int := Rs.toM (σ := Unit)
  (M.bindS (M.bind (divM number_ (366 : Int)) fun t358 => (M.ok (t358 + (1 : Int)))) fun year_359 => (Rs.seq (whL (fun s360 : Int => (M.bind (F13 (s360 + (1 : Int))) fun t367 => (M.ok (decide (t367 ≤ number_))))) (fun s360 : Int => (M.bindS (M.ok (1 : Int)) fun y369 => (fun year_368 : Int => (Rs.next year_368)) (s360 + y369))) year_359) fun s360 : Int => (Rs.ret s360)))
theorem ok16 {k : Nat} (h : 2 ≤ k) (number_ : Int) : Fx (C k) 16 [enc number_] (F16 number_) (vM .R []) := by
  obtain ⟨k, rfl⟩ : ∃ j, k = j + 1 := ⟨k - 1, by omega⟩
  delta F16
  exact fxM (c16 k _) (stV (stU stN)) (sAsg (fun _ _ => trivial) (xAddMP (xDivPP (xVarS (i := 0) (x := number_) rfl) xInt) xInt) rfl fun year_359 => (sC (Γ' := [.S .R (enc number_), .S .R (enc year_359)]) rfl (sWh (Γl := fun s360 : Int => [.S .R (enc number_), .S .R (enc s360)]) (Le.of (leC leE (leC leE leN))) (fun s360 => (fun _ _ => trivial)) (fun s360 => (Tr.bb (xLeMP (Ex.im (xCall1P (xAddPP (xVarS (i := 1) (x := s360) rfl) xInt) (ok13 (by omega) _))) (xVarS (i := 0) (x := number_) rfl)) rfl)) (fun _ => rfl) (fun s360 => (sAug (y := s360) (k := fun year_368 : Int => (Rs.next year_368)) (fun _ _ => trivial) rfl xInt rfl fun year_368 => (sC (Γ' := [.S .R (enc number_), .S .R (enc year_368)]) rfl (sNil (Le.of (leC leE (leC leE leN))))))) fun s360 => (sRetv rfl))))

/-- date_of -/
@[irreducible] noncomputable def F17 (number_ : Int) : M (T3 Int Int Int) := Rs.toM (σ := Unit)
  (M.bindS (M.ok (!(cI .le (0 : Int) number_ && cI .le number_ (3652058 : Int)))) fun c392 => if c392 then (Rs.exc "OutOfRange") else (M.bindS (F16 number_) fun year_394 => (M.bindS (M.bind (F13 year_394) fun t396 => (M.ok (number_ - t396))) fun rest_397 => (M.bindS (M.ok (1 : Int)) fun month_398 => (Rs.seq (whL (fun s399 : (Int × Int) => (M.bind (F11 year_394 s399.2) fun t409 => (M.ok (decide (t409 ≤ s399.1))))) (fun s399 : (Int × Int) => (M.bindS (F11 year_394 s399.2) fun y412 => (fun rest_411 : Int => (M.bindS (M.ok (1 : Int)) fun y414 => (fun month_413 : Int => (Rs.next (rest_411, month_413))) (s399.2 + y414))) (s399.1 - y412))) (rest_397, month_398)) fun s399 : (Int × Int) => (Rs.ret (T3.mk year_394 s399.2 (s399.1 + (1 : Int)))))))))
theorem ok17 {k : Nat} (h : 3 ≤ k) (number_ : Int) : Fx (C k) 17 [enc number_] (F17 number_) (vM .R []) := by
  obtain ⟨k, rfl⟩ : ∃ j, k = j + 1 := ⟨k - 1, by omega⟩
  delta F17
  exact fxM (c17 k _) (stV (stU (stU (stU stN)))) (sIf (fun _ _ => trivial) (tNot_P (Tr.bb (xChnPP rfl rfl xInt (xVarS (i := 0) (x := number_) rfl) (xGlob gl_LAST_NUMBER)) rfl)) rfl (sRaise (fun _ _ => trivial)) (sAsg (fun _ _ => trivial) (Ex.im (xCall1P (xVarS (i := 0) (x := number_) rfl) (ok16 (by omega) _))) rfl fun year_394 => (sC (Γ' := [.S .R (enc number_), .S .R (enc year_394), .U, .U]) rfl (sAsg (fun _ _ => trivial) (xSubPM (xVarS (i := 0) (x := number_) rfl) (Ex.im (xCall1P (xVarS (i := 1) (x := year_394) rfl) (ok13 (by omega) _)))) rfl fun rest_397 => (sC (Γ' := [.S .R (enc number_), .S .R (enc year_394), .S .R (enc rest_397), .U]) rfl (sAsg (fun _ _ => trivial) xInt rfl fun month_398 => (sC (Γ' := [.S .R (enc number_), .S .R (enc year_394), .S .R (enc rest_397), .S .R (enc month_398)]) rfl (sWh (Γl := fun s399 : (Int × Int) => [.S .R (enc number_), .S .R (enc year_394), .S .R (enc s399.1), .S .R (enc s399.2)]) (Le.of (leC leE (leC leE (leC leE (leC leE leN))))) (fun s399 => (fun _ _ => trivial)) (fun s399 => (Tr.bb (xGePM (xVarS (i := 2) (x := s399.1) rfl) (Ex.im (xCall2P (xVarS (i := 1) (x := year_394) rfl) (xVarS (i := 3) (x := s399.2) rfl) (ok11 (by omega) _ _)))) rfl)) (fun _ => rfl) (fun s399 => (sSub (y := s399.1) (k := fun rest_411 : Int => (M.bindS (M.ok (1 : Int)) fun y414 => (fun month_413 : Int => (Rs.next (rest_411, month_413))) (s399.2 + y414))) (fun _ _ => trivial) rfl (Ex.im (xCall2P (xVarS (i := 1) (x := year_394) rfl) (xVarS (i := 3) (x := s399.2) rfl) (ok11 (by omega) _ _))) rfl fun rest_411 => (sC (Γ' := [.S .R (enc number_), .S .R (enc year_394), .S .R (enc rest_411), .S .R (enc s399.2)]) rfl (sAug (y := s399.2) (k := fun month_413 : Int => (Rs.next (rest_411, month_413))) (fun _ _ => trivial) rfl xInt rfl fun month_413 => (sC (Γ' := [.S .R (enc number_), .S .R (enc year_394), .S .R (enc rest_411), .S .R (enc month_413)]) rfl (sNil (Le.of (leC leE (leC leE (leC leE (leC leE leN))))))))))) fun s399 => (sRetP (x := (T3.mk year_394 s399.2 (s399.1 + (1 : Int)))) (Ex.im (xTup3P (xVarS (i := 1) (x := year_394) rfl) (xVarS (i := 3) (x := s399.2) rfl) (xAddPP (xVarS (i := 2) (x := s399.1) rfl) xInt))) rfl)))))))))

/-- weekday -/
@[irreducible] noncomputable def F18 (date_ : (T3 Int Int Int)) : M Int := Rs.toM (σ := Unit)
  (M.bindS (M.bind (F15 date_) fun t423 => (modM t423 (List.length (Tu.l gv_WEEK) : Int))) Rs.ret)
theorem ok18 {k : Nat} (h : 5 ≤ k) (date_ : (T3 Int Int Int)) : Fx (C k) 18 [enc date_] (F18 date_) (vM .R []) := by
  obtain ⟨k, rfl⟩ : ∃ j, k = j + 1 := ⟨k - 1, by omega⟩
  delta F18
  exact fxM (c18 k _) (stV stN) (sRet (fun _ _ => trivial) (xModMP (Ex.im (xCall1P (xVarS (i := 0) (x := date_) rfl) (ok15 (by omega) _))) (xLenUP (xGlob gl_WEEK))) rfl)

/-- _law_next -/
@[irreducible] noncomputable def F27 (date_ : (T3 Int Int Int)) : M (T3 Int Int Int) := Rs.toM (σ := Unit)
  (M.bindS (M.ok date_) fun p440 => (M.bindS (M.bind (F24 p440.a p440.b) fun t442 => (M.ok (decide (p440.c < t442)))) fun c443 => if c443 then (Rs.ret (T3.mk p440.a p440.b (p440.c + (1 : Int)))) else (M.bindS (M.ok (decide (p440.b < (12 : Int)))) fun c444 => if c444 then (Rs.ret (T3.mk p440.a (p440.b + (1 : Int)) (1 : Int))) else (Rs.ret (T3.mk (p440.a + (1 : Int)) (1 : Int) (1 : Int))))))
theorem ok27 {k : Nat} (h : 3 ≤ k) (date_ : (T3 Int Int Int)) : Fx (C k) 27 [enc date_] (F27 date_) (vM .R []) := by
  obtain ⟨k, rfl⟩ : ∃ j, k = j + 1 := ⟨k - 1, by omega⟩
  delta F27
  exact fxM (c27 k _) (stV (stU (stU (stU stN)))) (sAsgT (fun _ _ => trivial) (xVarS (i := 0) (x := date_) rfl) rfl (fun _ => tg3) fun p440 => (sC (Γ' := [.S .R (enc date_), .S .R (enc p440.a), .S .R (enc p440.b), .S .R (enc p440.c)]) rfl (sIf (fun _ _ => trivial) (Tr.bb (xLtPM (xVarS (i := 3) (x := p440.c) rfl) (Ex.im (xCall2P (xVarS (i := 1) (x := p440.a) rfl) (xVarS (i := 2) (x := p440.b) rfl) (ok24 (by omega) _ _)))) rfl) rfl (sRetP (x := (T3.mk p440.a p440.b (p440.c + (1 : Int)))) (Ex.im (xTup3P (xVarS (i := 1) (x := p440.a) rfl) (xVarS (i := 2) (x := p440.b) rfl) (xAddPP (xVarS (i := 3) (x := p440.c) rfl) xInt))) rfl) (sIf (fun _ _ => trivial) (Tr.bb (xLtPP (xVarS (i := 2) (x := p440.b) rfl) xInt) rfl) rfl (sRetP (x := (T3.mk p440.a (p440.b + (1 : Int)) (1 : Int))) (Ex.im (xTup3P (xVarS (i := 1) (x := p440.a) rfl) (xAddPP (xVarS (i := 2) (x := p440.b) rfl) xInt) xInt)) rfl) (sRetP (x := (T3.mk (p440.a + (1 : Int)) (1 : Int) (1 : Int))) (Ex.im (xTup3P (xAddPP (xVarS (i := 1) (x := p440.a) rfl) xInt) xInt xInt)) rfl)))))

/-- _law_is_date -/
@[irreducible] noncomputable def F25 (date_ : (T3 Int Int Int)) : M Bool := Rs.toM (σ := Unit)
  (M.bindS (M.ok date_) fun p512 => (M.bindS (M.ok ((decide (p512.a < (1 : Int))) || ((decide ((9999 : Int) < p512.a)) || ((decide (p512.b < (1 : Int))) || (decide ((12 : Int) < p512.b)))))) fun c513 => if c513 then (Rs.ret false) else (M.bindS (if (decide ((1 : Int) ≤ p512.c)) then (M.bind (F24 p512.a p512.b) fun t515 => (M.ok (decide (p512.c ≤ t515)))) else M.ok false) Rs.ret)))
theorem ok25 {k : Nat} (h : 3 ≤ k) (date_ : (T3 Int Int Int)) : Fx (C k) 25 [enc date_] (F25 date_) (vM .R []) := by
  obtain ⟨k, rfl⟩ : ∃ j, k = j + 1 := ⟨k - 1, by omega⟩
  delta F25
  exact fxM (c25 k _) (stV (stU (stU (stU stN)))) (sAsgT (fun _ _ => trivial) (xVarS (i := 0) (x := date_) rfl) rfl (fun _ => tg3) fun p512 => (sC (Γ' := [.S .R (enc date_), .S .R (enc p512.a), .S .R (enc p512.b), .S .R (enc p512.c)]) rfl (sIf (fun _ _ => trivial) (tOr (toPP (Tr.bb (xLtPP (xVarS (i := 1) (x := p512.a) rfl) xInt) rfl) (toPP (Tr.bb (xGtPP (xVarS (i := 1) (x := p512.a) rfl) xInt) rfl) (toPP (Tr.bb (xLtPP (xVarS (i := 2) (x := p512.b) rfl) xInt) rfl) (to1 (Tr.bb (xGtPP (xVarS (i := 2) (x := p512.b) rfl) xInt) rfl)))))) rfl (sRetP (x := false) xBl rfl) (sRet (fun _ _ => trivial) (xAnd (eaCP (xLePP xInt (xVarS (i := 3) (x := p512.c) rfl)) (ea1 (xLePM (xVarS (i := 3) (x := p512.c) rfl) (Ex.im (xCall2P (xVarS (i := 1) (x := p512.a) rfl) (xVarS (i := 2) (x := p512.b) rfl) (ok24 (by omega) _ _))))))) rfl))))

/-- _law_wrong -/
@[irreducible] noncomputable def F31 (date_ : (T3 Int Int Int)) (draws_ : (List Int)) : M (List (T3 Int Int Int)) := Rs.toM (σ := Unit)
  (M.bindS (M.ok date_) fun p519 => (M.bindS (M.ok [(T3.mk p519.a (0 : Int) p519.c), (T3.mk p519.a (13 : Int) p519.c), (T3.mk p519.a p519.b (0 : Int)), (T3.mk p519.a p519.b (-(1 : Int))), (T3.mk (0 : Int) p519.b p519.c), (T3.mk (10000 : Int) p519.b p519.c)]) fun found_520 => (M.bindS (M.bind (M.bind (M.bind (M.bind (M.bind (M.bind (M.bind (F24 p519.a p519.b) fun t522 => (M.ok (t522 + (1 : Int)))) fun t523 => (M.ok (t523, ()))) fun t524 => (M.ok (p519.b, t524))) fun t525 => (M.ok (p519.a, t525))) fun z526 => M.ok (T3.mk z526.1 z526.2.1 z526.2.2.1)) fun t527 => (M.ok (t527 :: ((T3.mk p519.a (2 : Int) (30 : Int)) :: ((T3.mk p519.a (4 : Int) (31 : Int)) :: ((T3.mk (-p519.a) p519.b p519.c) :: [])))))) fun t528 => (catL found_520 t528)) fun found_529 => (M.bindS (M.bind (M.bind (M.bind (M.bind (M.bind (M.bind (M.bind (M.bind (M.bind (M.bind (getM draws_ (0 : Int)) fun t530 => (M.ok ((32 : Int) + t530))) fun t531 => (M.ok (t531, ()))) fun t532 => (M.ok (p519.b, t532))) fun t533 => (M.ok (p519.a, t533))) fun z534 => M.ok (T3.mk z534.1 z534.2.1 z534.2.2.1)) fun t540 => (M.bind (M.bind (M.bind (M.bind (M.bind (M.bind (getM draws_ (1 : Int)) fun t535 => (M.ok ((13 : Int) + t535))) fun t536 => (M.ok (t536, ((1 : Int), ())))) fun t537 => (M.ok (p519.a, t537))) fun z538 => M.ok (T3.mk z538.1 z538.2.1 z538.2.2.1)) fun t539 => (M.ok (t539 :: []))) fun t541 => (M.ok (t540 :: t541)))) fun t542 => (M.ok ((T3.mk (2023 : Int) (2 : Int) (29 : Int)) :: t542))) fun t543 => (M.ok ((T3.mk (1900 : Int) (2 : Int) (29 : Int)) :: t543))) fun t544 => (M.ok ((T3.mk p519.a (2 : Int) (29 : Int)) :: t544))) fun t545 => (catL found_529 t545)) fun found_546 => (M.bindS (M.bind (M.bind (M.bind (M.bind (M.bind (M.bind (getM draws_ (2 : Int)) fun t547 => (M.ok ((10000 : Int) + t547))) fun t548 => (M.ok (t548, ((1 : Int), ((1 : Int), ()))))) fun z549 => M.ok (T3.mk z549.1 z549.2.1 z549.2.2.1)) fun t550 => (M.ok (t550 :: ((T3.mk p519.a (-p519.b) p519.c) :: [])))) fun t551 => (catL found_546 t551)) fun t555 => (lcM (fun x552 : (T3 Int Int Int) => (M.bind (F25 x552) fun t554 => (M.ok (!t554)))) (fun x552 : (T3 Int Int Int) => (M.ok x552)) t555)) Rs.ret)))))
theorem ok31 {k : Nat} (h : 4 ≤ k) (date_ : (T3 Int Int Int)) (draws_ : (List Int)) : Fx (C k) 31 [enc date_, enc draws_] (F31 date_ draws_) (vM (.O .R) []) := by
  obtain ⟨k, rfl⟩ : ∃ j, k = j + 1 := ⟨k - 1, by omega⟩
  delta F31
  exact fxM (c31 k _ _) (stV (stV (stU (stU (stU (stU (stU stN))))))) (sAsgT (fun _ _ => trivial) (xVarS (i := 0) (x := date_) rfl) rfl (fun _ => tg3) fun p519 => (sC (Γ' := [.S .R (enc date_), .S .R (enc draws_), .U, .S .R (enc p519.a), .S .R (enc p519.b), .S .R (enc p519.c), .U]) rfl (sAsg (fun _ _ => trivial) (xLst (lsCPP (Ex.im (xTup3P (xVarS (i := 3) (x := p519.a) rfl) xInt (xVarS (i := 5) (x := p519.c) rfl))) (lsCPP (Ex.im (xTup3P (xVarS (i := 3) (x := p519.a) rfl) xInt (xVarS (i := 5) (x := p519.c) rfl))) (lsCPP (Ex.im (xTup3P (xVarS (i := 3) (x := p519.a) rfl) (xVarS (i := 4) (x := p519.b) rfl) xInt)) (lsCPP (Ex.im (xTup3P (xVarS (i := 3) (x := p519.a) rfl) (xVarS (i := 4) (x := p519.b) rfl) (xNeg_P xInt))) (lsCPP (Ex.im (xTup3P xInt (xVarS (i := 4) (x := p519.b) rfl) (xVarS (i := 5) (x := p519.c) rfl))) (lsCPP (Ex.im (xTup3P xInt (xVarS (i := 4) (x := p519.b) rfl) (xVarS (i := 5) (x := p519.c) rfl))) lsN))))))) rfl fun found_520 => (sC (Γ' := [.S .R (enc date_), .S .R (enc draws_), .S (.O .R) (enc found_520), .S .R (enc p519.a), .S .R (enc p519.b), .S .R (enc p519.c), .U]) rfl (sAsg (fun _ _ => trivial) (xCatLiPM (xVar (i := 2) (x := found_520) rfl) (Ex.r (xLst (lsCMP (Ex.im (xTup (fun z => T3.mk z.1 z.2.1 z.2.2.1) (asCPM (xVarS (i := 3) (x := p519.a) rfl) (asCPM (xVarS (i := 4) (x := p519.b) rfl) (asCMP (xAddMP (Ex.im (xCall2P (xVarS (i := 3) (x := p519.a) rfl) (xVarS (i := 4) (x := p519.b) rfl) (ok24 (by omega) _ _))) xInt) asN))) fun _ => rfl)) (lsCPP (Ex.im (xTup3P (xVarS (i := 3) (x := p519.a) rfl) xInt xInt)) (lsCPP (Ex.im (xTup3P (xVarS (i := 3) (x := p519.a) rfl) xInt xInt)) (lsCPP (Ex.im (xTup3P (xNeg_P (xVarS (i := 3) (x := p519.a) rfl)) (xVarS (i := 4) (x := p519.b) rfl) (xVarS (i := 5) (x := p519.c) rfl))) lsN))))))) rfl fun found_529 => (sC (Γ' := [.S .R (enc date_), .S .R (enc draws_), .S (.O .R) (enc found_529), .S .R (enc p519.a), .S .R (enc p519.b), .S .R (enc p519.c), .U]) rfl (sAsg (fun _ _ => trivial) (xCatLiPM (xVar (i := 2) (x := found_529) rfl) (Ex.r (xLst (lsCPM (Ex.im (xTup3P (xVarS (i := 3) (x := p519.a) rfl) xInt xInt)) (lsCPM (Ex.im (xTup3P xInt xInt xInt)) (lsCPM (Ex.im (xTup3P xInt xInt xInt)) (lsCMM (Ex.im (xTup (fun z => T3.mk z.1 z.2.1 z.2.2.1) (asCPM (xVarS (i := 3) (x := p519.a) rfl) (asCPM (xVarS (i := 4) (x := p519.b) rfl) (asCMP (xAddPM xInt (Ex.im (xIxVLP (xs := draws_) rfl xInt))) asN))) fun _ => rfl)) (lsCMP (Ex.im (xTup (fun z => T3.mk z.1 z.2.1 z.2.2.1) (asCPM (xVarS (i := 3) (x := p519.a) rfl) (asCMP (xAddPM xInt (Ex.im (xIxVLP (xs := draws_) rfl xInt))) (asCPP xInt asN))) fun _ => rfl)) lsN)))))))) rfl fun found_546 => (sC (Γ' := [.S .R (enc date_), .S .R (enc draws_), .S (.O .R) (enc found_546), .S .R (enc p519.a), .S .R (enc p519.b), .S .R (enc p519.c), .U]) rfl (sRet (fun _ _ => trivial) (xLci (xLcXM (fun x552 : (T3 Int Int Int) => (M.bind (F25 x552) fun t554 => (M.ok (!t554)))) (fun x552 : (T3 Int Int Int) => (M.ok x552)) (itL (Ex.r (xCatLiPM (xVar (i := 2) (x := found_546) rfl) (Ex.r (xLst (lsCMP (Ex.im (xTup (fun z => T3.mk z.1 z.2.1 z.2.2.1) (asCMP (xAddPM xInt (Ex.im (xIxVLP (xs := draws_) rfl xInt))) (asCPP xInt (asCPP xInt asN))) fun _ => rfl)) (lsCPP (Ex.im (xTup3P (xVarS (i := 3) (x := p519.a) rfl) (xNeg_P (xVarS (i := 4) (x := p519.b) rfl)) (xVarS (i := 5) (x := p519.c) rfl))) lsN))))))) (fun _ => tgN) (fun x552 => (cs1 (tNot_M (Tr.bb (Ex.im (xCall1P (xVarS (i := 6) (x := x552) rfl) (ok25 (by omega) _))) rfl)))) (fun x552 => (xVarS (i := 6) (x := x552) rfl)))) rfl)))))))))

/-- date_words -/
@[irreducible] noncomputable def F19 (date_ : (T3 Int Int Int)) : M Unit := Rs.toN (() : Unit) (σ := Unit)
  (M.bindS (M.bind (F18 date_) fun t573 => (getM (Tu.l gv_WEEK) t573)) fun week_574 => (M.bindS (M.ok date_) fun p575 => Rs.stuck))
theorem ok19 {k : Nat} (h : 6 ≤ k) (date_ : (T3 Int Int Int)) : Fx (C k) 19 [enc date_] (F19 date_) (vM .R []) := by
  obtain ⟨k, rfl⟩ : ∃ j, k = j + 1 := ⟨k - 1, by omega⟩
  delta F19
  exact fxN (Γn := [.U, .U, .U, .U, .U]) rfl (c19 k _) (stV (stU (stU (stU (stU stN))))) (sAsg (fun _ _ => trivial) (Ex.im (xIxUPM rfl (xGlob gl_WEEK) (Ex.im (xCall1P (xVarS (i := 0) (x := date_) rfl) (ok18 (by omega) _))))) rfl fun week_574 => (sC (Γ' := [.S .R (enc date_), .S .R (enc week_574), .U, .U, .U]) rfl (sAsgT (fun _ _ => trivial) (xVarS (i := 0) (x := date_) rfl) rfl (fun _ => tg3) fun p575 => (sC (Γ' := [.S .R (enc date_), .S .R (enc week_574), .S .R (enc p575.a), .S .R (enc p575.b), .S .R (enc p575.c)]) rfl sBad))))

/-- _law_refused -/
@[irreducible] noncomputable def F29 (date_ : (T3 Int Int Int)) (way_ : Int) : M Bool := Rs.toM (σ := Unit)
  (Rs.seq (Rs.tryR (M.bindS (M.ok (decide (way_ = (0 : Int)))) fun c592 => if c592 then (M.bindS (F12 date_) fun _ => (Rs.next ())) else (M.bindS (M.ok (decide (way_ = (1 : Int)))) fun c594 => if c594 then (M.bindS (F15 date_) fun _ => (Rs.next ())) else (M.bindS (M.ok (decide (way_ = (2 : Int)))) fun c596 => if c596 then (M.bindS (F18 date_) fun _ => (Rs.next ())) else (M.bindS (F19 date_) fun _ => (Rs.next ()))))) (fun c : Str => (if c = "NoDate" then some true else none : Option Bool))) fun s584 : Unit => (Rs.ret false))
theorem ok29 {k : Nat} (h : 7 ≤ k) (date_ : (T3 Int Int Int)) (way_ : Int) : Fx (C k) 29 [enc date_, enc way_] (F29 date_ way_) (vM .R []) := by
  obtain ⟨k, rfl⟩ : ∃ j, k = j + 1 := ⟨k - 1, by omega⟩
  delta F29
  exact fxM (c29 k _ _) (stV (stV (stU stN))) (sTry (Γj := fun s584 : Unit => [.S .R (enc date_), .S .R (enc way_), .U]) (Γe := [.U, .U, .U]) (h := (fun c : Str => (if c = "NoDate" then some true else none : Option Bool))) (sIf (Le.of (leC leU (leC leU (leC leU leN)))) (Tr.bb (xEqPP (by decide) (xVarS (i := 1) (x := way_) rfl) xInt) rfl) rfl (sDrop (Le.of (leC leU (leC leU (leC leU leN)))) (Ex.im (xCall1P (xVarS (i := 0) (x := date_) rfl) (ok12 (by omega) _))) rfl (sNil (Le.of (leC leE (leC leE (leC leU leN)))))) (sIf (Le.of (leC leU (leC leU (leC leU leN)))) (Tr.bb (xEqPP (by decide) (xVarS (i := 1) (x := way_) rfl) xInt) rfl) rfl (sDrop (Le.of (leC leU (leC leU (leC leU leN)))) (Ex.im (xCall1P (xVarS (i := 0) (x := date_) rfl) (ok15 (by omega) _))) rfl (sNil (Le.of (leC leE (leC leE (leC leU leN)))))) (sIf (Le.of (leC leU (leC leU (leC leU leN)))) (Tr.bb (xEqPP (by decide) (xVarS (i := 1) (x := way_) rfl) xInt) rfl) rfl (sDrop (Le.of (leC leU (leC leU (leC leU leN)))) (Ex.im (xCall1P (xVarS (i := 0) (x := date_) rfl) (ok18 (by omega) _))) rfl (sNil (Le.of (leC leE (leC leE (leC leU leN)))))) (sDrop (Le.of (leC leU (leC leU (leC leU leN)))) (Ex.im (xCall1P (xVarS (i := 0) (x := date_) rfl) (ok19 (by omega) _))) rfl (sNil (Le.of (leC leE (leC leE (leC leU leN))))))))) (by
    intro c v hv
    have hv := hv
    try dsimp only at hv
    split at hv
    · rename_i hc; subst hc; cases hv; intro ρ h; have hl := h.len; exact ⟨.v (enc (true : Bool)), by show _ = RS.ret (D.v (.bool true)); rw [hndT (by decide)]; have hx : (List.set ρ 2 (some D.exn))[2]? = some (some D.exn) := List.getElem?_set_self (by rw [← hl]; decide); simp (config := { implicitDefEqProofs := false }) [Hv.s1, Hv.s2, Hv.s3, Hv.s4, Hv.s5, Hv.s6, Hv.s7, Hv.s8, Hv.s9, Hv.s10, Hv.s11, Hv.s12, Hv.s13, Hv.s14, Hv.s15, Hv.s16, Hv.s17, Hv.s18, Hv.s19, Hv.s20, Hv.s21, Hv.s22, Hv.s23, Hv.s24, Hv.s25, Hv.s26, Hv.s27, Hv.s28, Hv.s29, Hv.s30, Hv.s31, Hv.s32, Hv.s33, Hv.s34, Hv.s35, Hv.s36, Hv.s37, Hv.s38, Hv.v1, Hv.v2, Hv.v3, Hv.v4, Hv.v6, Hv.v7, Hv.v8, Hv.v9, Hv.v10, Hv.v11, Hv.e1, Hv.e2, Hv.e3, Hv.e4, Hv.e5, Hv.e6, Hv.e7, Hv.e8, Hv.e9, Hv.e10, Hv.e11, Hv.e12, Hv.e13, Hv.e14, Hv.e16, Hv.e17, Hv.e18, Hv.e19, Hv.e20, Hv.e21, Hv.e22, Hv.e23, Hv.e24, Hv.e25, Hv.e26, Hv.x1, Hv.x2, Hv.x6, Hv.x7, Hv.x8, Hv.x9, Hv.x12, Hv.x13, Hv.x14, Hv.x15, Hv.x16, Hv.x17, Hv.x21, Hv.x22, Hv.x23, Hv.x24, Hv.x25, Hv.x26, Hv.x27, Hv.x28, Hv.x29, Hv.x30, Hv.y0, Hv.y1, Hv.y2, Hv.y3, Hv.y4, Hv.y5, Hv.x31, Hv.x32, Hv.x33, Hv.x34, Hv.x35, Hv.x36, Hv.x39, Hv.a1, Hv.a2, Hv.k1, Hv.k4, Hv.k6, Hv.k7, Hv.k8, Hv.k9, Hv.k10, Hv.t0, Hv.t1, Hv.t2, Hv.t3, Hv.t4, Hv.t5, Hv.t6, Hv.t7, Hv.t8, Hv.t9, Hv.t10, Hv.t11, Hv.t12, Hv.t13, Hv.t14, Hv.t14', Hv.t15, Hv.t16, Hv.t17, Hv.t18, Hv.t19, Hv.t20, Hv.t21, Hv.t22, Hv.t23, Hv.t24, Hv.t25, Hv.t26, Hv.t28, Hv.r2, Hv.r3, Hv.r4, Hv.z1, Hv.z2, Hv.z3, Hv.mutDs_int, Hv.intsOf_int, Hv.startE, Hv.isNew, List.set, e_ise, ise_eq, outX_ret noX_v, inX, ei_lst, t_raise, hx, iseD_ok (cs := [("NoDate", true), ("OutOfRange", true)]) (c := "NoDate") (b := true) (by decide), iseD_ok (cs := [("NoDate", false), ("OutOfRange", true)]) (c := "NoDate") (b := false) (by decide)], MR.v _⟩
    · cases hv) fun s584 => (sRetP (x := false) xBl rfl))

/-- _law_beyond -/
@[irreducible] noncomputable def F30 (number_ : Int) : M Bool := Rs.toM (σ := Unit)
  (Rs.seq (Rs.tryR (M.bindS (F17 number_) fun _ => (Rs.next ())) (fun c : Str => (if c = "OutOfRange" then some true else none : Option Bool))) fun s837 : Unit => (Rs.ret false))
theorem ok30 {k : Nat} (h : 4 ≤ k) (number_ : Int) : Fx (C k) 30 [enc number_] (F30 number_) (vM .R []) := by
  obtain ⟨k, rfl⟩ : ∃ j, k = j + 1 := ⟨k - 1, by omega⟩
  delta F30
  exact fxM (c30 k _) (stV (stU stN)) (sTry (Γj := fun s837 : Unit => [.S .R (enc number_), .U]) (Γe := [.U, .U]) (h := (fun c : Str => (if c = "OutOfRange" then some true else none : Option Bool))) (sDrop (Le.of (leC leU (leC leU leN))) (Ex.im (xCall1P (xVarS (i := 0) (x := number_) rfl) (ok17 (by omega) _))) rfl (sNil (Le.of (leC leE (leC leU leN))))) (by
    intro c v hv
    have hv := hv
    try dsimp only at hv
    split at hv
    · rename_i hc; subst hc; cases hv; intro ρ h; have hl := h.len; exact ⟨.v (enc (true : Bool)), by show _ = RS.ret (D.v (.bool true)); rw [hndT (by decide)]; have hx : (List.set ρ 1 (some D.exn))[1]? = some (some D.exn) := List.getElem?_set_self (by rw [← hl]; decide); simp (config := { implicitDefEqProofs := false }) [Hv.s1, Hv.s2, Hv.s3, Hv.s4, Hv.s5, Hv.s6, Hv.s7, Hv.s8, Hv.s9, Hv.s10, Hv.s11, Hv.s12, Hv.s13, Hv.s14, Hv.s15, Hv.s16, Hv.s17, Hv.s18, Hv.s19, Hv.s20, Hv.s21, Hv.s22, Hv.s23, Hv.s24, Hv.s25, Hv.s26, Hv.s27, Hv.s28, Hv.s29, Hv.s30, Hv.s31, Hv.s32, Hv.s33, Hv.s34, Hv.s35, Hv.s36, Hv.s37, Hv.s38, Hv.v1, Hv.v2, Hv.v3, Hv.v4, Hv.v6, Hv.v7, Hv.v8, Hv.v9, Hv.v10, Hv.v11, Hv.e1, Hv.e2, Hv.e3, Hv.e4, Hv.e5, Hv.e6, Hv.e7, Hv.e8, Hv.e9, Hv.e10, Hv.e11, Hv.e12, Hv.e13, Hv.e14, Hv.e16, Hv.e17, Hv.e18, Hv.e19, Hv.e20, Hv.e21, Hv.e22, Hv.e23, Hv.e24, Hv.e25, Hv.e26, Hv.x1, Hv.x2, Hv.x6, Hv.x7, Hv.x8, Hv.x9, Hv.x12, Hv.x13, Hv.x14, Hv.x15, Hv.x16, Hv.x17, Hv.x21, Hv.x22, Hv.x23, Hv.x24, Hv.x25, Hv.x26, Hv.x27, Hv.x28, Hv.x29, Hv.x30, Hv.y0, Hv.y1, Hv.y2, Hv.y3, Hv.y4, Hv.y5, Hv.x31, Hv.x32, Hv.x33, Hv.x34, Hv.x35, Hv.x36, Hv.x39, Hv.a1, Hv.a2, Hv.k1, Hv.k4, Hv.k6, Hv.k7, Hv.k8, Hv.k9, Hv.k10, Hv.t0, Hv.t1, Hv.t2, Hv.t3, Hv.t4, Hv.t5, Hv.t6, Hv.t7, Hv.t8, Hv.t9, Hv.t10, Hv.t11, Hv.t12, Hv.t13, Hv.t14, Hv.t14', Hv.t15, Hv.t16, Hv.t17, Hv.t18, Hv.t19, Hv.t20, Hv.t21, Hv.t22, Hv.t23, Hv.t24, Hv.t25, Hv.t26, Hv.t28, Hv.r2, Hv.r3, Hv.r4, Hv.z1, Hv.z2, Hv.z3, Hv.mutDs_int, Hv.intsOf_int, Hv.startE, Hv.isNew, List.set, e_ise, ise_eq, outX_ret noX_v, inX, ei_lst, t_raise, hx, iseD_ok (cs := [("NoDate", true), ("OutOfRange", true)]) (c := "OutOfRange") (b := true) (by decide), iseD_ok (cs := [("NoDate", true), ("OutOfRange", false)]) (c := "OutOfRange") (b := false) (by decide)], MR.v _⟩
    · cases hv) fun s837 => (sRetP (x := false) xBl rfl))

/-- law -/
@[irreducible] noncomputable def F32 (script_ : (List Int)) : M Bool := Rs.toM (σ := Unit)
  (M.bindS (M.bind (M.bind (F20 script_ (4 : Int)) fun t850 => (M.ok (t850, ((6 : Int), ((55440 : Int), ()))))) fun z851 => F21 z851.1 z851.2.1 z851.2.2.1) fun draws_852 => (M.bindS (rg1 (4 : Int)) fun xs1170 => Rs.seq (forL (fun (x854 : Int) (s853 : Unit) => (M.bindS (M.bind (M.bind (M.bind (F20 script_ x854) fun t1039 => (M.bind (M.bind (M.bind (M.bind (F20 script_ x854) fun t1035 => (M.bind (powM (10 : Int) (18 : Int)) fun t1036 => (M.ok (decide (t1035 < t1036))))) fun t1037 => (M.ok (if t1037 then 1 else 0 : Int))) fun t1038 => (mulM x854 t1038)) fun t1040 => (M.ok (t1039 + t1040)))) fun t1041 => (M.ok (t1041, ()))) fun z1042 => F28 z1042.1) fun date_1043 => (M.bindS (F26 date_1043) fun number_1045 => (M.bindS (M.bind (M.bind (F12 date_1043) fun t1047 => (M.ok false)) fun t1053 => (if t1053 then M.ok true else (M.bind (M.bind (M.bind (F15 date_1043) fun t1050 => (M.ok (t1050, (number_1045, ())))) fun z1051 => sameM z1051.1 z1051.2.1) fun t1052 => (M.ok (!t1052))))) fun c1054 => if c1054 then (Rs.ret false) else (M.bindS (M.bind (M.bind (M.bind (M.bind (F17 number_1045) fun t1057 => (M.ok (t1057, (date_1043, ())))) fun z1058 => sameM z1058.1 z1058.2.1) fun t1059 => (M.ok (!t1059))) fun t1068 => (if t1068 then M.ok true else (M.bind (M.bind (M.bind (F18 date_1043) fun t1064 => (M.bind (M.bind (modM number_1045 (7 : Int)) fun t1063 => (M.ok (t1063, ()))) fun t1065 => (M.ok (t1064, t1065)))) fun z1066 => sameM z1066.1 z1066.2.1) fun t1067 => (M.ok (!t1067))))) fun c1069 => if c1069 then (Rs.ret false) else (Rs.seq (M.bindS (M.ok (!decide (date_1043 = (T3.mk (9999 : Int) (12 : Int) (31 : Int))))) fun c1070 => if c1070 then (M.bindS (F27 date_1043) fun after_1087 => (M.bindS (M.bind (M.bind (M.bind (M.bind (F17 (number_1045 + (1 : Int))) fun t1090 => (M.ok (t1090, (after_1087, ())))) fun z1091 => sameM z1091.1 z1091.2.1) fun t1092 => (M.ok (!t1092))) fun t1098 => (if t1098 then M.ok true else (M.bind (M.bind (M.bind (F15 after_1087) fun t1095 => (M.ok (t1095, ((number_1045 + (1 : Int)), ())))) fun z1096 => sameM z1096.1 z1096.2.1) fun t1097 => (M.ok (!t1097))))) fun c1099 => if c1099 then (Rs.ret false) else (Rs.next ()))) else (Rs.next ())) fun s1085 : Unit => (M.bindS (F31 date_1043 draws_852) fun xs1121 => Rs.seq (forL (fun (x1102 : (T3 Int Int Int)) (s1101 : Unit) => (M.bindS (rg1 (4 : Int)) fun xs1120 => Rs.seq (forL (fun (x1113 : Int) (s1112 : Unit) => (M.bindS (M.bind (F29 x1102 x1113) fun t1118 => (M.ok (!t1118))) fun c1119 => if c1119 then (Rs.ret false) else (Rs.next ()))) xs1120 ()) fun s1112 : Unit => (Rs.next ()))) xs1121 ()) fun s1101 : Unit => (Rs.next ())))))))) xs1170 ()) fun s853 : Unit => (M.bindS (M.bind (M.bind (M.bind (getM draws_852 (3 : Int)) fun t1122 => (mulM t1122 (60 : Int))) fun t1123 => (modM t1123 (3652059 : Int))) fun t1127 => (M.bind (M.bind (M.bind (M.bind (getM draws_852 (4 : Int)) fun t1124 => (mulM t1124 (3607 : Int))) fun t1125 => (modM t1125 (3652059 : Int))) fun t1126 => (M.ok (t1126 :: ((0 : Int) :: ((3652058 : Int) :: []))))) fun t1128 => (M.ok (t1127 :: t1128)))) fun xs1169 => Rs.seq (forL (fun (x1130 : Int) (s1129 : Unit) => (M.bindS (F17 x1130) fun date_1142 => (M.bindS (if (!true) then M.ok true else (if (!decide ((3 : Int) = (3 : Int))) then M.ok true else (M.bind (F25 date_1142) fun t1144 => (M.ok (!t1144))))) fun c1145 => if c1145 then (Rs.ret false) else (M.bindS (M.bind (M.bind (sameM date_1142 (T3.mk date_1142.a date_1142.b date_1142.c)) fun t1146 => (M.ok (!t1146))) fun t1149 => (if t1149 then M.ok true else (M.bind (F26 date_1142) fun t1148 => (M.ok (!decide (t1148 = x1130)))))) fun c1150 => if c1150 then (Rs.ret false) else (Rs.next ()))))) xs1169 ()) fun s1129 : Unit => (M.bindS (M.bind (M.bind (M.bind (M.bind (getM draws_852 (5 : Int)) fun t1151 => (M.ok ((-(2 : Int)) - t1151))) fun t1156 => (M.bind (M.bind (M.bind (getM draws_852 (5 : Int)) fun t1152 => (M.ok ((3652060 : Int) + t1152))) fun t1154 => (M.bind (M.bind (powM (10 : Int) (20 : Int)) fun t1153 => (M.ok (t1153 :: []))) fun t1155 => (M.ok (t1154 :: t1155)))) fun t1157 => (M.ok (t1156 :: t1157)))) fun t1158 => (M.ok ((3652059 : Int) :: t1158))) fun t1159 => (M.ok ((-(1 : Int)) :: t1159))) fun xs1168 => Rs.seq (forL (fun (x1161 : Int) (s1160 : Unit) => (M.bindS (M.bind (F30 x1161) fun t1166 => (M.ok (!t1166))) fun c1167 => if c1167 then (Rs.ret false) else (Rs.next ()))) xs1168 ()) fun s1160 : Unit => (Rs.ret true)))))
theorem ok32 {k : Nat} (h : 31 ≤ k) (script_ : (List Int)) : Fx (C k) 32 [enc script_] (F32 script_) (vM .R []) := by
  obtain ⟨k, rfl⟩ : ∃ j, k = j + 1 := ⟨k - 1, by omega⟩
  delta F32
  exact fxM (c32 k _) (stV (stU (stU (stU (stU (stU (stU (stU stN)))))))) (sAsg (fun _ _ => trivial) (xCall (F := fun z => F21 z.1 z.2.1 z.2.2.1) (asCMP (Ex.im (xCall2P (xVar (i := 0) (x := script_) rfl) xInt (ok20 (by omega) _ _))) (asCPP xInt (asCPP xInt asN))) fun z => ok21 (by omega) z.1 z.2.1 z.2.2.1) rfl fun draws_852 => (sC (Γ' := [.S .R (enc script_), .S (.O .R) (enc draws_852), .U, .U, .U, .U, .U, .U]) rfl (sFor (Γl := fun s853 : Unit => [.S .R (enc script_), .S .R (enc draws_852), .U, .U, .U, .U, .U, .U]) (fun _ _ => trivial) (itR1P xInt) rfl rfl (Le.of (leC leE (leC leR (leC leU (leC leU (leC leU (leC leU (leC leU (leC leU leN))))))))) (fun _ _ => tgN) (fun s853 x854 => (sC (Γ' := [.S .R (enc script_), .S .R (enc draws_852), .S .R (enc x854), .U, .U, .U, .U, .U]) rfl (sAsg (fun _ _ => trivial) (Ex.im (xCall (F := fun z => F28 z.1) (asCMP (xAddMM (Ex.im (xCall2P (xVar (i := 0) (x := script_) rfl) (xVarS (i := 2) (x := x854) rfl) (ok20 (by omega) _ _))) (xMulPM (xVarS (i := 2) (x := x854) rfl) (xIntBM (xLtMM (Ex.im (xCall2P (xVar (i := 0) (x := script_) rfl) (xVarS (i := 2) (x := x854) rfl) (ok20 (by omega) _ _))) (xPowPP xInt xInt))))) asN) fun z => ok28 (by omega) z.1)) rfl fun date_1043 => (sC (Γ' := [.S .R (enc script_), .S .R (enc draws_852), .S .R (enc x854), .U, .S .R (enc date_1043), .U, .U, .U]) rfl (sAsg (fun _ _ => trivial) (Ex.im (xCall1P (xVarS (i := 4) (x := date_1043) rfl) (ok26 (by omega) _))) rfl fun number_1045 => (sC (Γ' := [.S .R (enc script_), .S .R (enc draws_852), .S .R (enc x854), .S .R (enc number_1045), .S .R (enc date_1043), .U, .U, .U]) rfl (sIf (fun _ _ => trivial) (tOr (toC (Tr.bb (xNotUM (Ex.im (xCall1P (xVarS (i := 4) (x := date_1043) rfl) (ok12 (by omega) _)))) rfl) (to1 (tNot_M (Tr.bb (Ex.im (xCall (F := fun z => sameM z.1 z.2.1) (asCMP (Ex.im (xCall1P (xVarS (i := 4) (x := date_1043) rfl) (ok15 (by omega) _))) (asCPP (xVarS (i := 3) (x := number_1045) rfl) asN)) fun z => same22 (by omega) (by decide) z.1 z.2.1)) rfl))))) rfl (sRetP (x := false) xBl rfl) (sIf (fun _ _ => trivial) (tOr (toC (tNot_M (Tr.bb (Ex.im (xCall (F := fun z => sameM z.1 z.2.1) (asCMP (Ex.im (xCall1P (xVarS (i := 3) (x := number_1045) rfl) (ok17 (by omega) _))) (asCPP (xVarS (i := 4) (x := date_1043) rfl) asN)) fun z => same22 (by omega) (by decide) z.1 z.2.1)) rfl)) (to1 (tNot_M (Tr.bb (Ex.im (xCall (F := fun z => sameM z.1 z.2.1) (asCMM (Ex.im (xCall1P (xVarS (i := 4) (x := date_1043) rfl) (ok18 (by omega) _))) (asCMP (xModPP (xVarS (i := 3) (x := number_1045) rfl) xInt) asN)) fun z => same22 (by omega) (by decide) z.1 z.2.1)) rfl))))) rfl (sRetP (x := false) xBl rfl) (sIfJ (Γj := fun s1085 : Unit => [.S .R (enc script_), .S .R (enc draws_852), .S .R (enc x854), .S .R (enc number_1045), .S .R (enc date_1043), .U, .U, .U]) (fun _ _ => trivial) (Tr.bb (xNePP (by decide) (xVarS (i := 4) (x := date_1043) rfl) (Ex.im (xTup3P xInt xInt xInt))) rfl) rfl (sAsg (fun _ _ => trivial) (Ex.im (xCall1P (xVarS (i := 4) (x := date_1043) rfl) (ok27 (by omega) _))) rfl fun after_1087 => (sC (Γ' := [.S .R (enc script_), .S .R (enc draws_852), .S .R (enc x854), .S .R (enc number_1045), .S .R (enc date_1043), .U, .S .R (enc after_1087), .U]) rfl (sIf (fun _ _ => trivial) (tOr (toC (tNot_M (Tr.bb (Ex.im (xCall (F := fun z => sameM z.1 z.2.1) (asCMP (Ex.im (xCall1P (xAddPP (xVarS (i := 3) (x := number_1045) rfl) xInt) (ok17 (by omega) _))) (asCPP (xVarS (i := 6) (x := after_1087) rfl) asN)) fun z => same22 (by omega) (by decide) z.1 z.2.1)) rfl)) (to1 (tNot_M (Tr.bb (Ex.im (xCall (F := fun z => sameM z.1 z.2.1) (asCMP (Ex.im (xCall1P (xVarS (i := 6) (x := after_1087) rfl) (ok15 (by omega) _))) (asCPP (xAddPP (xVarS (i := 3) (x := number_1045) rfl) xInt) asN)) fun z => same22 (by omega) (by decide) z.1 z.2.1)) rfl))))) rfl (sRetP (x := false) xBl rfl) (sNil (Le.of (leC leE (leC leE (leC leE (leC leE (leC leE (leC leU (leC leU (leC leU leN))))))))))))) (sNil (Le.of (leC leE (leC leE (leC leE (leC leE (leC leE (leC leU (leC leU (leC leU leN)))))))))) fun s1085 => (sFor (Γl := fun s1101 : Unit => [.S .R (enc script_), .S .R (enc draws_852), .S .R (enc x854), .S .R (enc number_1045), .S .R (enc date_1043), .U, .U, .U]) (fun _ _ => trivial) (itL (Ex.r (xCall2P (xVarS (i := 4) (x := date_1043) rfl) (xVar (i := 1) (x := draws_852) rfl) (ok31 (by omega) _ _)))) rfl rfl (Le.of (leC leE (leC leE (leC leE (leC leE (leC leE (leC leU (leC leU (leC leU leN))))))))) (fun _ _ => tgN) (fun s1101 x1102 => (sC (Γ' := [.S .R (enc script_), .S .R (enc draws_852), .S .R (enc x854), .S .R (enc number_1045), .S .R (enc date_1043), .S .R (enc x1102), .U, .U]) rfl (sFor (Γl := fun s1112 : Unit => [.S .R (enc script_), .S .R (enc draws_852), .S .R (enc x854), .S .R (enc number_1045), .S .R (enc date_1043), .S .R (enc x1102), .U, .U]) (fun _ _ => trivial) (itR1P xInt) rfl rfl (Le.of (leC leE (leC leE (leC leE (leC leE (leC leE (leC leE (leC leU (leC leU leN))))))))) (fun _ _ => tgN) (fun s1112 x1113 => (sC (Γ' := [.S .R (enc script_), .S .R (enc draws_852), .S .R (enc x854), .S .R (enc number_1045), .S .R (enc date_1043), .S .R (enc x1102), .U, .S .R (enc x1113)]) rfl (sIf (fun _ _ => trivial) (tNot_M (Tr.bb (Ex.im (xCall2P (xVarS (i := 5) (x := x1102) rfl) (xVarS (i := 7) (x := x1113) rfl) (ok29 (by omega) _ _))) rfl)) rfl (sRetP (x := false) xBl rfl) (sNil (Le.of (leC leE (leC leE (leC leE (leC leE (leC leE (leC leE (leC leU (leC leU leN))))))))))))) fun s1112 => (sNil (Le.of (leC leE (leC leE (leC leE (leC leE (leC leE (leC leU (leC leU (leC leU leN))))))))))))) fun s1101 => (sNil (Le.of (leC leE (leC leE (leC leU (leC leU (leC leU (leC leU (leC leU (leC leU leN)))))))))))))))))))) fun s853 => (sFor (Γl := fun s1129 : Unit => [.S .R (enc script_), .S .R (enc draws_852), .U, .U, .U, .U, .U, .U]) (fun _ _ => trivial) (itL (Ex.r (xLst (lsCMM (xModMP (xMulMP (Ex.im (xIxVLP (xs := draws_852) rfl xInt)) xInt) xInt) (lsCMP (xModMP (xMulMP (Ex.im (xIxVLP (xs := draws_852) rfl xInt)) xInt) xInt) (lsCPP xInt (lsCPP xInt lsN))))))) rfl rfl (Le.of (leC leE (leC leE (leC leU (leC leU (leC leU (leC leU (leC leU (leC leU leN))))))))) (fun _ _ => tgN) (fun s1129 x1130 => (sC (Γ' := [.S .R (enc script_), .S .R (enc draws_852), .U, .S .R (enc x1130), .U, .U, .U, .U]) rfl (sAsg (fun _ _ => trivial) (Ex.im (xCall1P (xVarS (i := 3) (x := x1130) rfl) (ok17 (by omega) _))) rfl fun date_1142 => (sC (Γ' := [.S .R (enc script_), .S .R (enc draws_852), .U, .S .R (enc x1130), .S .R (enc date_1142), .U, .U, .U]) rfl (sIf (fun _ _ => trivial) (tOr (toCP (tNot_P (Tr.bb (xIsiKP true (fun _ => rfl) (xVarS (i := 4) (x := date_1142) rfl)) rfl)) (toCP (Tr.bb (xNePP (by decide) (xLenKP 3 (fun _ => ⟨_, rfl, rfl⟩) (xVarS (i := 4) (x := date_1142) rfl)) xInt) rfl) (to1 (tNot_M (Tr.bb (Ex.im (xCall1P (xVarS (i := 4) (x := date_1142) rfl) (ok25 (by omega) _))) rfl)))))) rfl (sRetP (x := false) xBl rfl) (sIf (fun _ _ => trivial) (tOr (toC (tNot_M (Tr.bb (Ex.im (xCall2P (xVarS (i := 4) (x := date_1142) rfl) (Ex.im (xTup3P (xIntI (Ex.im (xIxVT (n := 0) (x := date_1142.a) rfl rfl rfl))) (xIntI (Ex.im (xIxVT (n := 1) (x := date_1142.b) rfl rfl rfl))) (xIntI (Ex.im (xIxVT (n := 2) (x := date_1142.c) rfl rfl rfl))))) (same22 (by omega) (by decide) _ _))) rfl)) (to1 (Tr.bb (xNeMP (by decide) (Ex.im (xCall1P (xVarS (i := 4) (x := date_1142) rfl) (ok26 (by omega) _))) (xVarS (i := 3) (x := x1130) rfl)) rfl)))) rfl (sRetP (x := false) xBl rfl) (sNil (Le.of (leC leE (leC leE (leC leU (leC leU (leC leU (leC leU (leC leU (leC leU leN)))))))))))))))) fun s1129 => (sFor (Γl := fun s1160 : Unit => [.S .R (enc script_), .S .R (enc draws_852), .U, .U, .U, .U, .U, .U]) (fun _ _ => trivial) (itL (Ex.r (xLst (lsCPM (xNeg_P xInt) (lsCPM xInt (lsCMM (xSubPM (xNeg_P xInt) (Ex.im (xIxVLP (xs := draws_852) rfl xInt))) (lsCMM (xAddPM xInt (Ex.im (xIxVLP (xs := draws_852) rfl xInt))) (lsCMP (xPowPP xInt xInt) lsN)))))))) rfl rfl (Le.of (leC leE (leC leE (leC leU (leC leU (leC leU (leC leU (leC leU (leC leU leN))))))))) (fun _ _ => tgN) (fun s1160 x1161 => (sC (Γ' := [.S .R (enc script_), .S .R (enc draws_852), .U, .S .R (enc x1161), .U, .U, .U, .U]) rfl (sIf (fun _ _ => trivial) (tNot_M (Tr.bb (Ex.im (xCall1P (xVarS (i := 3) (x := x1161) rfl) (ok30 (by omega) _))) rfl)) rfl (sRetP (x := false) xBl rfl) (sNil (Le.of (leC leE (leC leE (leC leU (leC leU (leC leU (leC leU (leC leU (leC leU leN))))))))))))) fun s1160 => (sRetP (x := true) xBl rfl))))))

end Law

namespace Law
open PySem Hv
theorem cell (ns : List Int) (i : Nat) : F20 ns i = .ok (ns.getD i 0) := by
  unfold F20
  by_cases h : (i : Int) < ns.length
  · simp (disch := first | assumption | omega | (simp only [List.length_append, List.length_cons, List.length_nil, List.length_map, List.length_reverse, List.length_take, List.length_drop, List.length_dropLast, List.length_singleton]; omega)) only [M.ok_bind, M.exc_bind, M.ofO_some, Hv.bindS_ok, Hv.bindS_exc, Hv.seq_next, Hv.seq_ret, Hv.seq_exc, Hv.seq_brk, Hv.seq_cnt, Hv.toM_ret, Hv.toM_exc, Hv.toN_ret, Hv.toN_next, Hv.toN_exc, Hv.tot_ok, decide_eq_true_eq, Bool.and_eq_true, Bool.or_eq_true, Bool.not_eq_true', decide_eq_false_iff_not, if_true, if_false, Bool.false_eq_true, ite_self, Bool.not_true, Bool.not_false, true_and, and_true, false_and, and_false, or_true, true_or, or_false, false_or, not_true, not_false_iff, decide_true, decide_false, reduceCtorEq, Bool.true_and, Bool.and_true, Bool.false_and, Bool.and_false, Bool.true_or, Bool.or_true, Bool.false_or, Bool.or_false, _root_.eq_self, Hv.wN, Hv.wB, Hv.wC, Hv.wR, Hv.ok_ok, h, getM_ok (show (0 : Int) ≤ i by omega) h]
    rfl
  · simp (disch := first | assumption | omega | (simp only [List.length_append, List.length_cons, List.length_nil, List.length_map, List.length_reverse, List.length_take, List.length_drop, List.length_dropLast, List.length_singleton]; omega)) only [M.ok_bind, M.exc_bind, M.ofO_some, Hv.bindS_ok, Hv.bindS_exc, Hv.seq_next, Hv.seq_ret, Hv.seq_exc, Hv.seq_brk, Hv.seq_cnt, Hv.toM_ret, Hv.toM_exc, Hv.toN_ret, Hv.toN_next, Hv.toN_exc, Hv.tot_ok, decide_eq_true_eq, Bool.and_eq_true, Bool.or_eq_true, Bool.not_eq_true', decide_eq_false_iff_not, if_true, if_false, Bool.false_eq_true, ite_self, Bool.not_true, Bool.not_false, true_and, and_true, false_and, and_false, or_true, true_or, or_false, false_or, not_true, not_false_iff, decide_true, decide_false, reduceCtorEq, Bool.true_and, Bool.and_true, Bool.false_and, Bool.and_false, Bool.true_or, Bool.or_true, Bool.false_or, Bool.or_false, _root_.eq_self, Hv.wN, Hv.wB, Hv.wC, Hv.wR, Hv.ok_ok, h]
    rw [List.getD_eq_getElem?_getD, List.getElem?_eq_none (by omega)]
    rfl
/-- the numbers drawn: so many, each below the limit -/
theorem numbers (cell n limit : Int) (h1 : 0 ≤ n) (h2 : n ≤ 100000) (h3 : 0 < limit) (h4 : limit ≤ 1000000) : Ok (F21 cell n limit) fun l => (l.length : Int) = n ∧ ∀ x ∈ l, 0 ≤ x ∧ x < limit := by
  unfold F21
  rw [pow18]
  simp (disch := first | assumption | omega | (simp only [List.length_append, List.length_cons, List.length_nil, List.length_map, List.length_reverse, List.length_take, List.length_drop, List.length_dropLast, List.length_singleton]; omega)) only [M.ok_bind, M.exc_bind, M.ofO_some, Hv.bindS_ok, Hv.bindS_exc, Hv.seq_next, Hv.seq_ret, Hv.seq_exc, Hv.seq_brk, Hv.seq_cnt, Hv.toM_ret, Hv.toM_exc, Hv.toN_ret, Hv.toN_next, Hv.toN_exc, Hv.tot_ok, decide_eq_true_eq, Bool.and_eq_true, Bool.or_eq_true, Bool.not_eq_true', decide_eq_false_iff_not, if_true, if_false, Bool.false_eq_true, ite_self, Bool.not_true, Bool.not_false, true_and, and_true, false_and, and_false, or_true, true_or, or_false, false_or, not_true, not_false_iff, decide_true, decide_false, reduceCtorEq, Bool.true_and, Bool.and_true, Bool.false_and, Bool.and_false, Bool.true_or, Bool.or_true, Bool.false_or, Bool.or_false, _root_.eq_self, Hv.wN, Hv.wB, Hv.wC, Hv.wR, Hv.ok_ok, rg1_ok h1 (show n ≤ 16777216 by omega)]
  refine wM (wIp (fun _ => wQ (wRg (fun i (s : Int × List Int) => (s.2.length : Int) = i ∧ ∀ x ∈ s.2, 0 ≤ x ∧ x < limit) h1 ⟨rfl, by simp⟩ (fun i s hi hn hs => ?_) fun s hs => by simp (disch := first | assumption | omega | (simp only [List.length_append, List.length_cons, List.length_nil, List.length_map, List.length_reverse, List.length_take, List.length_drop, List.length_dropLast, List.length_singleton]; omega)) only [M.ok_bind, M.exc_bind, M.ofO_some, Hv.bindS_ok, Hv.bindS_exc, Hv.seq_next, Hv.seq_ret, Hv.seq_exc, Hv.seq_brk, Hv.seq_cnt, Hv.toM_ret, Hv.toM_exc, Hv.toN_ret, Hv.toN_next, Hv.toN_exc, Hv.tot_ok, decide_eq_true_eq, Bool.and_eq_true, Bool.or_eq_true, Bool.not_eq_true', decide_eq_false_iff_not, if_true, if_false, Bool.false_eq_true, ite_self, Bool.not_true, Bool.not_false, true_and, and_true, false_and, and_false, or_true, true_or, or_false, false_or, not_true, not_false_iff, decide_true, decide_false, reduceCtorEq, Bool.true_and, Bool.and_true, Bool.false_and, Bool.and_false, Bool.true_or, Bool.or_true, Bool.false_or, Bool.or_false, _root_.eq_self, Hv.wN, Hv.wB, Hv.wC, Hv.wR, Hv.ok_ok]; exact hs))
    fun _ => wQ (wRg (fun i (s : List Int) => (s.length : Int) = i ∧ ∀ x ∈ s, 0 ≤ x ∧ x < limit) h1 ⟨rfl, by simp⟩ (fun i s hi hn hs => ?_) fun s hs => by simp (disch := first | assumption | omega | (simp only [List.length_append, List.length_cons, List.length_nil, List.length_map, List.length_reverse, List.length_take, List.length_drop, List.length_dropLast, List.length_singleton]; omega)) only [M.ok_bind, M.exc_bind, M.ofO_some, Hv.bindS_ok, Hv.bindS_exc, Hv.seq_next, Hv.seq_ret, Hv.seq_exc, Hv.seq_brk, Hv.seq_cnt, Hv.toM_ret, Hv.toM_exc, Hv.toN_ret, Hv.toN_next, Hv.toN_exc, Hv.tot_ok, decide_eq_true_eq, Bool.and_eq_true, Bool.or_eq_true, Bool.not_eq_true', decide_eq_false_iff_not, if_true, if_false, Bool.false_eq_true, ite_self, Bool.not_true, Bool.not_false, true_and, and_true, false_and, and_false, or_true, true_or, or_false, false_or, not_true, not_false_iff, decide_true, decide_false, reduceCtorEq, Bool.true_and, Bool.and_true, Bool.false_and, Bool.and_false, Bool.true_or, Bool.or_true, Bool.false_or, Bool.or_false, _root_.eq_self, Hv.wN, Hv.wB, Hv.wC, Hv.wR, Hv.ok_ok]; exact hs))
  · obtain ⟨hl, hm⟩ := hs
    simp (disch := first | assumption | omega | (simp only [List.length_append, List.length_cons, List.length_nil, List.length_map, List.length_reverse, List.length_take, List.length_drop, List.length_dropLast, List.length_singleton]; omega)) only [M.ok_bind, M.exc_bind, M.ofO_some, Hv.bindS_ok, Hv.bindS_exc, Hv.seq_next, Hv.seq_ret, Hv.seq_exc, Hv.seq_brk, Hv.seq_cnt, Hv.toM_ret, Hv.toM_exc, Hv.toN_ret, Hv.toN_next, Hv.toN_exc, Hv.tot_ok, decide_eq_true_eq, Bool.and_eq_true, Bool.or_eq_true, Bool.not_eq_true', decide_eq_false_iff_not, if_true, if_false, Bool.false_eq_true, ite_self, Bool.not_true, Bool.not_false, true_and, and_true, false_and, and_false, or_true, true_or, or_false, false_or, not_true, not_false_iff, decide_true, decide_false, reduceCtorEq, Bool.true_and, Bool.and_true, Bool.false_and, Bool.and_false, Bool.true_or, Bool.or_true, Bool.false_or, Bool.or_false, _root_.eq_self, Hv.wN, Hv.wB, Hv.wC, Hv.wR, Hv.ok_ok, modM_ok, divM_ok, pushM_ok]
    refine ⟨by simp; omega, fun x hx => ?_⟩
    rcases List.mem_append.mp hx with hx | hx
    · exact hm x hx
    · rw [List.mem_singleton.mp hx]; exact mod_rg _ h3
  · obtain ⟨hl, hm⟩ := hs
    rw [mulM_r (by decide), mulM_r (by decide)]
    simp (disch := first | assumption | omega | (simp only [List.length_append, List.length_cons, List.length_nil, List.length_map, List.length_reverse, List.length_take, List.length_drop, List.length_dropLast, List.length_singleton]; omega)) only [M.ok_bind, M.exc_bind, M.ofO_some, Hv.bindS_ok, Hv.bindS_exc, Hv.seq_next, Hv.seq_ret, Hv.seq_exc, Hv.seq_brk, Hv.seq_cnt, Hv.toM_ret, Hv.toM_exc, Hv.toN_ret, Hv.toN_next, Hv.toN_exc, Hv.tot_ok, decide_eq_true_eq, Bool.and_eq_true, Bool.or_eq_true, Bool.not_eq_true', decide_eq_false_iff_not, if_true, if_false, Bool.false_eq_true, ite_self, Bool.not_true, Bool.not_false, true_and, and_true, false_and, and_false, or_true, true_or, or_false, false_or, not_true, not_false_iff, decide_true, decide_false, reduceCtorEq, Bool.true_and, Bool.and_true, Bool.false_and, Bool.and_false, Bool.true_or, Bool.or_true, Bool.false_or, Bool.or_false, _root_.eq_self, Hv.wN, Hv.wB, Hv.wC, Hv.wR, Hv.ok_ok, modM_ok]
    have hm1 := mod_rg (cell * 48271 + i * 69621 + 7) (n := 2147483647) (by decide)
    generalize (cell * 48271 + i * 69621 + 7) % 2147483647 = u at hm1
    rw [mulM_r (by omega), mulM_r (by decide), mulM_r (by decide)]
    simp (disch := first | assumption | omega | (simp only [List.length_append, List.length_cons, List.length_nil, List.length_map, List.length_reverse, List.length_take, List.length_drop, List.length_dropLast, List.length_singleton]; omega)) only [M.ok_bind, M.exc_bind, M.ofO_some, Hv.bindS_ok, Hv.bindS_exc, Hv.seq_next, Hv.seq_ret, Hv.seq_exc, Hv.seq_brk, Hv.seq_cnt, Hv.toM_ret, Hv.toM_exc, Hv.toN_ret, Hv.toN_next, Hv.toN_exc, Hv.tot_ok, decide_eq_true_eq, Bool.and_eq_true, Bool.or_eq_true, Bool.not_eq_true', decide_eq_false_iff_not, if_true, if_false, Bool.false_eq_true, ite_self, Bool.not_true, Bool.not_false, true_and, and_true, false_and, and_false, or_true, true_or, or_false, false_or, not_true, not_false_iff, decide_true, decide_false, reduceCtorEq, Bool.true_and, Bool.and_true, Bool.false_and, Bool.and_false, Bool.true_or, Bool.or_true, Bool.false_or, Bool.or_false, _root_.eq_self, Hv.wN, Hv.wB, Hv.wC, Hv.wR, Hv.ok_ok, modM_ok, divM_ok, pushM_ok]
    refine ⟨by simp; omega, fun x hx => ?_⟩
    rcases List.mem_append.mp hx with hx | hx
    · exact hm x hx
    · rw [List.mem_singleton.mp hx]; exact mod_rg _ h3
end Law

namespace Law
open PySem Hv
abbrev Dt := T3 Int Int Int
def lp (y : Int) : Bool := decide (y % 4 = 0) && (!decide (y % 100 = 0) || decide (y % 400 = 0))
def md (y m : Int) : Int := if m = 2 then (if lp y then 29 else 28) else if m = 4 ∨ m = 6 ∨ m = 9 ∨ m = 11 then 30 else 31
theorem F10_eq (y : Int) : F10 y = .ok (lp y) := by
  unfold F10 lp
  simp (disch := first | assumption | omega | (simp only [List.length_append, List.length_cons, List.length_nil, List.length_map, List.length_reverse, List.length_take, List.length_drop, List.length_dropLast, List.length_singleton]; omega)) only [M.ok_bind, M.exc_bind, M.ofO_some, Hv.bindS_ok, Hv.bindS_exc, Hv.seq_next, Hv.seq_ret, Hv.seq_exc, Hv.seq_brk, Hv.seq_cnt, Hv.toM_ret, Hv.toM_exc, Hv.toN_ret, Hv.toN_next, Hv.toN_exc, Hv.tot_ok, decide_eq_true_eq, Bool.and_eq_true, Bool.or_eq_true, Bool.not_eq_true', decide_eq_false_iff_not, if_true, if_false, Bool.false_eq_true, ite_self, Bool.not_true, Bool.not_false, true_and, and_true, false_and, and_false, or_true, true_or, or_false, false_or, not_true, not_false_iff, decide_true, decide_false, reduceCtorEq, Bool.true_and, Bool.and_true, Bool.false_and, Bool.and_false, Bool.true_or, Bool.or_true, Bool.false_or, Bool.or_false, _root_.eq_self, Hv.wN, Hv.wB, Hv.wC, Hv.wR, Hv.ok_ok, modM_ok]
  by_cases h1 : y % 4 = 0 <;> by_cases h2 : y % 100 = 0 <;> by_cases h3 : y % 400 = 0 <;> simp (disch := first | assumption | omega | (simp only [List.length_append, List.length_cons, List.length_nil, List.length_map, List.length_reverse, List.length_take, List.length_drop, List.length_dropLast, List.length_singleton]; omega)) only [M.ok_bind, M.exc_bind, M.ofO_some, Hv.bindS_ok, Hv.bindS_exc, Hv.seq_next, Hv.seq_ret, Hv.seq_exc, Hv.seq_brk, Hv.seq_cnt, Hv.toM_ret, Hv.toM_exc, Hv.toN_ret, Hv.toN_next, Hv.toN_exc, Hv.tot_ok, decide_eq_true_eq, Bool.and_eq_true, Bool.or_eq_true, Bool.not_eq_true', decide_eq_false_iff_not, if_true, if_false, Bool.false_eq_true, ite_self, Bool.not_true, Bool.not_false, true_and, and_true, false_and, and_false, or_true, true_or, or_false, false_or, not_true, not_false_iff, decide_true, decide_false, reduceCtorEq, Bool.true_and, Bool.and_true, Bool.false_and, Bool.and_false, Bool.true_or, Bool.or_true, Bool.false_or, Bool.or_false, _root_.eq_self, Hv.wN, Hv.wB, Hv.wC, Hv.wR, Hv.ok_ok, h1, h2, h3]
theorem F23_eq (y : Int) : F23 y = .ok (lp y) := by
  unfold F23 lp
  simp (disch := first | assumption | omega | (simp only [List.length_append, List.length_cons, List.length_nil, List.length_map, List.length_reverse, List.length_take, List.length_drop, List.length_dropLast, List.length_singleton]; omega)) only [M.ok_bind, M.exc_bind, M.ofO_some, Hv.bindS_ok, Hv.bindS_exc, Hv.seq_next, Hv.seq_ret, Hv.seq_exc, Hv.seq_brk, Hv.seq_cnt, Hv.toM_ret, Hv.toM_exc, Hv.toN_ret, Hv.toN_next, Hv.toN_exc, Hv.tot_ok, decide_eq_true_eq, Bool.and_eq_true, Bool.or_eq_true, Bool.not_eq_true', decide_eq_false_iff_not, if_true, if_false, Bool.false_eq_true, ite_self, Bool.not_true, Bool.not_false, true_and, and_true, false_and, and_false, or_true, true_or, or_false, false_or, not_true, not_false_iff, decide_true, decide_false, reduceCtorEq, Bool.true_and, Bool.and_true, Bool.false_and, Bool.and_false, Bool.true_or, Bool.or_true, Bool.false_or, Bool.or_false, _root_.eq_self, Hv.wN, Hv.wB, Hv.wC, Hv.wR, Hv.ok_ok, modM_ok]
  have hm := mod_rg y (n := 100) (by decide)
  by_cases h3 : y % 400 = 0
  · have h1 : y % 4 = 0 := by omega
    simp (disch := first | assumption | omega | (simp only [List.length_append, List.length_cons, List.length_nil, List.length_map, List.length_reverse, List.length_take, List.length_drop, List.length_dropLast, List.length_singleton]; omega)) only [M.ok_bind, M.exc_bind, M.ofO_some, Hv.bindS_ok, Hv.bindS_exc, Hv.seq_next, Hv.seq_ret, Hv.seq_exc, Hv.seq_brk, Hv.seq_cnt, Hv.toM_ret, Hv.toM_exc, Hv.toN_ret, Hv.toN_next, Hv.toN_exc, Hv.tot_ok, decide_eq_true_eq, Bool.and_eq_true, Bool.or_eq_true, Bool.not_eq_true', decide_eq_false_iff_not, if_true, if_false, Bool.false_eq_true, ite_self, Bool.not_true, Bool.not_false, true_and, and_true, false_and, and_false, or_true, true_or, or_false, false_or, not_true, not_false_iff, decide_true, decide_false, reduceCtorEq, Bool.true_and, Bool.and_true, Bool.false_and, Bool.and_false, Bool.true_or, Bool.or_true, Bool.false_or, Bool.or_false, _root_.eq_self, Hv.wN, Hv.wB, Hv.wC, Hv.wR, Hv.ok_ok, h1, h3]
  · by_cases h1 : y % 4 = 0
    · by_cases h2 : y % 100 = 0
      · have : ¬ 0 < y % 100 := by omega
        simp (disch := first | assumption | omega | (simp only [List.length_append, List.length_cons, List.length_nil, List.length_map, List.length_reverse, List.length_take, List.length_drop, List.length_dropLast, List.length_singleton]; omega)) only [M.ok_bind, M.exc_bind, M.ofO_some, Hv.bindS_ok, Hv.bindS_exc, Hv.seq_next, Hv.seq_ret, Hv.seq_exc, Hv.seq_brk, Hv.seq_cnt, Hv.toM_ret, Hv.toM_exc, Hv.toN_ret, Hv.toN_next, Hv.toN_exc, Hv.tot_ok, decide_eq_true_eq, Bool.and_eq_true, Bool.or_eq_true, Bool.not_eq_true', decide_eq_false_iff_not, if_true, if_false, Bool.false_eq_true, ite_self, Bool.not_true, Bool.not_false, true_and, and_true, false_and, and_false, or_true, true_or, or_false, false_or, not_true, not_false_iff, decide_true, decide_false, reduceCtorEq, Bool.true_and, Bool.and_true, Bool.false_and, Bool.and_false, Bool.true_or, Bool.or_true, Bool.false_or, Bool.or_false, _root_.eq_self, Hv.wN, Hv.wB, Hv.wC, Hv.wR, Hv.ok_ok, h1, h2, h3, this]
        rfl
      · have : 0 < y % 100 := by omega
        simp (disch := first | assumption | omega | (simp only [List.length_append, List.length_cons, List.length_nil, List.length_map, List.length_reverse, List.length_take, List.length_drop, List.length_dropLast, List.length_singleton]; omega)) only [M.ok_bind, M.exc_bind, M.ofO_some, Hv.bindS_ok, Hv.bindS_exc, Hv.seq_next, Hv.seq_ret, Hv.seq_exc, Hv.seq_brk, Hv.seq_cnt, Hv.toM_ret, Hv.toM_exc, Hv.toN_ret, Hv.toN_next, Hv.toN_exc, Hv.tot_ok, decide_eq_true_eq, Bool.and_eq_true, Bool.or_eq_true, Bool.not_eq_true', decide_eq_false_iff_not, if_true, if_false, Bool.false_eq_true, ite_self, Bool.not_true, Bool.not_false, true_and, and_true, false_and, and_false, or_true, true_or, or_false, false_or, not_true, not_false_iff, decide_true, decide_false, reduceCtorEq, Bool.true_and, Bool.and_true, Bool.false_and, Bool.and_false, Bool.true_or, Bool.or_true, Bool.false_or, Bool.or_false, _root_.eq_self, Hv.wN, Hv.wB, Hv.wC, Hv.wR, Hv.ok_ok, h1, h2, h3, this]
    · simp (disch := first | assumption | omega | (simp only [List.length_append, List.length_cons, List.length_nil, List.length_map, List.length_reverse, List.length_take, List.length_drop, List.length_dropLast, List.length_singleton]; omega)) only [M.ok_bind, M.exc_bind, M.ofO_some, Hv.bindS_ok, Hv.bindS_exc, Hv.seq_next, Hv.seq_ret, Hv.seq_exc, Hv.seq_brk, Hv.seq_cnt, Hv.toM_ret, Hv.toM_exc, Hv.toN_ret, Hv.toN_next, Hv.toN_exc, Hv.tot_ok, decide_eq_true_eq, Bool.and_eq_true, Bool.or_eq_true, Bool.not_eq_true', decide_eq_false_iff_not, if_true, if_false, Bool.false_eq_true, ite_self, Bool.not_true, Bool.not_false, true_and, and_true, false_and, and_false, or_true, true_or, or_false, false_or, not_true, not_false_iff, decide_true, decide_false, reduceCtorEq, Bool.true_and, Bool.and_true, Bool.false_and, Bool.and_false, Bool.true_or, Bool.or_true, Bool.false_or, Bool.or_false, _root_.eq_self, Hv.wN, Hv.wB, Hv.wC, Hv.wR, Hv.ok_ok, h1, h3]
theorem F24_eq (y m : Int) : F24 y m = .ok (md y m) := by
  unfold F24 md
  simp (disch := first | assumption | omega | (simp only [List.length_append, List.length_cons, List.length_nil, List.length_map, List.length_reverse, List.length_take, List.length_drop, List.length_dropLast, List.length_singleton]; omega)) only [M.ok_bind, M.exc_bind, M.ofO_some, Hv.bindS_ok, Hv.bindS_exc, Hv.seq_next, Hv.seq_ret, Hv.seq_exc, Hv.seq_brk, Hv.seq_cnt, Hv.toM_ret, Hv.toM_exc, Hv.toN_ret, Hv.toN_next, Hv.toN_exc, Hv.tot_ok, decide_eq_true_eq, Bool.and_eq_true, Bool.or_eq_true, Bool.not_eq_true', decide_eq_false_iff_not, if_true, if_false, Bool.false_eq_true, ite_self, Bool.not_true, Bool.not_false, true_and, and_true, false_and, and_false, or_true, true_or, or_false, false_or, not_true, not_false_iff, decide_true, decide_false, reduceCtorEq, Bool.true_and, Bool.and_true, Bool.false_and, Bool.and_false, Bool.true_or, Bool.or_true, Bool.false_or, Bool.or_false, _root_.eq_self, Hv.wN, Hv.wB, Hv.wC, Hv.wR, Hv.ok_ok, F23_eq]
  by_cases h : m = 2
  · simp (disch := first | assumption | omega | (simp only [List.length_append, List.length_cons, List.length_nil, List.length_map, List.length_reverse, List.length_take, List.length_drop, List.length_dropLast, List.length_singleton]; omega)) only [M.ok_bind, M.exc_bind, M.ofO_some, Hv.bindS_ok, Hv.bindS_exc, Hv.seq_next, Hv.seq_ret, Hv.seq_exc, Hv.seq_brk, Hv.seq_cnt, Hv.toM_ret, Hv.toM_exc, Hv.toN_ret, Hv.toN_next, Hv.toN_exc, Hv.tot_ok, decide_eq_true_eq, Bool.and_eq_true, Bool.or_eq_true, Bool.not_eq_true', decide_eq_false_iff_not, if_true, if_false, Bool.false_eq_true, ite_self, Bool.not_true, Bool.not_false, true_and, and_true, false_and, and_false, or_true, true_or, or_false, false_or, not_true, not_false_iff, decide_true, decide_false, reduceCtorEq, Bool.true_and, Bool.and_true, Bool.false_and, Bool.and_false, Bool.true_or, Bool.or_true, Bool.false_or, Bool.or_false, _root_.eq_self, Hv.wN, Hv.wB, Hv.wC, Hv.wR, Hv.ok_ok, h]
    cases lp y <;> rfl
  · simp (disch := first | assumption | omega | (simp only [List.length_append, List.length_cons, List.length_nil, List.length_map, List.length_reverse, List.length_take, List.length_drop, List.length_dropLast, List.length_singleton]; omega)) only [M.ok_bind, M.exc_bind, M.ofO_some, Hv.bindS_ok, Hv.bindS_exc, Hv.seq_next, Hv.seq_ret, Hv.seq_exc, Hv.seq_brk, Hv.seq_cnt, Hv.toM_ret, Hv.toM_exc, Hv.toN_ret, Hv.toN_next, Hv.toN_exc, Hv.tot_ok, decide_eq_true_eq, Bool.and_eq_true, Bool.or_eq_true, Bool.not_eq_true', decide_eq_false_iff_not, if_true, if_false, Bool.false_eq_true, ite_self, Bool.not_true, Bool.not_false, true_and, and_true, false_and, and_false, or_true, true_or, or_false, false_or, not_true, not_false_iff, decide_true, decide_false, reduceCtorEq, Bool.true_and, Bool.and_true, Bool.false_and, Bool.and_false, Bool.true_or, Bool.or_true, Bool.false_or, Bool.or_false, _root_.eq_self, Hv.wN, Hv.wB, Hv.wC, Hv.wR, Hv.ok_ok, h, List.mem_cons, List.not_mem_nil]
    by_cases h2 : m = 4 ∨ m = 6 ∨ m = 9 ∨ m = 11
    · rw [if_pos h2, if_pos h2]; rfl
    · rw [if_neg h2, if_neg h2]; rfl
theorem md_rg (y m : Int) : 28 ≤ md y m ∧ md y m ≤ 31 := by
  unfold md
  split
  · split <;> omega
  · split <;> omega
theorem F11_eq (y m : Int) (h1 : 1 ≤ m) (h2 : m ≤ 12) : F11 y m = .ok (md y m) := by
  unfold F11
  have hd : ∀ i : Int, 0 ≤ i → i < 12 → getM gv_DAYS.l i = .ok (gx gv_DAYS.l i) := fun i h0 h1 => getM_ok h0 (by show i < 12; exact h1)
  simp (disch := first | assumption | omega | (simp only [List.length_append, List.length_cons, List.length_nil, List.length_map, List.length_reverse, List.length_take, List.length_drop, List.length_dropLast, List.length_singleton]; omega)) only [M.ok_bind, M.exc_bind, M.ofO_some, Hv.bindS_ok, Hv.bindS_exc, Hv.seq_next, Hv.seq_ret, Hv.seq_exc, Hv.seq_brk, Hv.seq_cnt, Hv.toM_ret, Hv.toM_exc, Hv.toN_ret, Hv.toN_next, Hv.toN_exc, Hv.tot_ok, decide_eq_true_eq, Bool.and_eq_true, Bool.or_eq_true, Bool.not_eq_true', decide_eq_false_iff_not, if_true, if_false, Bool.false_eq_true, ite_self, Bool.not_true, Bool.not_false, true_and, and_true, false_and, and_false, or_true, true_or, or_false, false_or, not_true, not_false_iff, decide_true, decide_false, reduceCtorEq, Bool.true_and, Bool.and_true, Bool.false_and, Bool.and_false, Bool.true_or, Bool.or_true, Bool.false_or, Bool.or_false, _root_.eq_self, Hv.wN, Hv.wB, Hv.wC, Hv.wR, Hv.ok_ok, F10_eq, hd]
  have hv : ∀ i : Int, 0 ≤ i → i < 12 → gx gv_DAYS.l i = if i = 1 then 28 else if i = 3 ∨ i = 5 ∨ i = 8 ∨ i = 10 then 30 else 31 := fun i h0 h1 => by
    obtain ⟨n, rfl⟩ := Int.eq_ofNat_of_zero_le h0
    have : n < 12 := by omega
    clear h0 h1 hd h2
    revert n
    decide
  unfold md
  by_cases h : m = 2
  · subst h
    simp (disch := first | assumption | omega | (simp only [List.length_append, List.length_cons, List.length_nil, List.length_map, List.length_reverse, List.length_take, List.length_drop, List.length_dropLast, List.length_singleton]; omega)) only [M.ok_bind, M.exc_bind, M.ofO_some, Hv.bindS_ok, Hv.bindS_exc, Hv.seq_next, Hv.seq_ret, Hv.seq_exc, Hv.seq_brk, Hv.seq_cnt, Hv.toM_ret, Hv.toM_exc, Hv.toN_ret, Hv.toN_next, Hv.toN_exc, Hv.tot_ok, decide_eq_true_eq, Bool.and_eq_true, Bool.or_eq_true, Bool.not_eq_true', decide_eq_false_iff_not, if_true, if_false, Bool.false_eq_true, ite_self, Bool.not_true, Bool.not_false, true_and, and_true, false_and, and_false, or_true, true_or, or_false, false_or, not_true, not_false_iff, decide_true, decide_false, reduceCtorEq, Bool.true_and, Bool.and_true, Bool.false_and, Bool.and_false, Bool.true_or, Bool.or_true, Bool.false_or, Bool.or_false, _root_.eq_self, Hv.wN, Hv.wB, Hv.wC, Hv.wR, Hv.ok_ok, hv 1 (by decide) (by decide)]
    cases lp y <;> rfl
  · simp (disch := first | assumption | omega | (simp only [List.length_append, List.length_cons, List.length_nil, List.length_map, List.length_reverse, List.length_take, List.length_drop, List.length_dropLast, List.length_singleton]; omega)) only [M.ok_bind, M.exc_bind, M.ofO_some, Hv.bindS_ok, Hv.bindS_exc, Hv.seq_next, Hv.seq_ret, Hv.seq_exc, Hv.seq_brk, Hv.seq_cnt, Hv.toM_ret, Hv.toM_exc, Hv.toN_ret, Hv.toN_next, Hv.toN_exc, Hv.tot_ok, decide_eq_true_eq, Bool.and_eq_true, Bool.or_eq_true, Bool.not_eq_true', decide_eq_false_iff_not, if_true, if_false, Bool.false_eq_true, ite_self, Bool.not_true, Bool.not_false, true_and, and_true, false_and, and_false, or_true, true_or, or_false, false_or, not_true, not_false_iff, decide_true, decide_false, reduceCtorEq, Bool.true_and, Bool.and_true, Bool.false_and, Bool.and_false, Bool.true_or, Bool.or_true, Bool.false_or, Bool.or_false, _root_.eq_self, Hv.wN, Hv.wB, Hv.wC, Hv.wR, Hv.ok_ok, h, hv (m - 1) (by omega) (by omega)]
    rw [if_neg (show ¬ m - 1 = 1 by omega)]
    by_cases h2 : m = 4 ∨ m = 6 ∨ m = 9 ∨ m = 11
    · rw [if_pos h2, if_pos (by omega)]
    · rw [if_neg h2, if_neg (by omega)]
def dby (y : Int) : Int := 365 * (y - 1) + (y - 1) / 4 - (y - 1) / 100 + (y - 1) / 400
theorem F13_eq (y : Int) : F13 y = .ok (dby y) := by
  unfold F13 dby
  simp (disch := first | assumption | omega | (simp only [List.length_append, List.length_cons, List.length_nil, List.length_map, List.length_reverse, List.length_take, List.length_drop, List.length_dropLast, List.length_singleton]; omega)) only [M.ok_bind, M.exc_bind, M.ofO_some, Hv.bindS_ok, Hv.bindS_exc, Hv.seq_next, Hv.seq_ret, Hv.seq_exc, Hv.seq_brk, Hv.seq_cnt, Hv.toM_ret, Hv.toM_exc, Hv.toN_ret, Hv.toN_next, Hv.toN_exc, Hv.tot_ok, decide_eq_true_eq, Bool.and_eq_true, Bool.or_eq_true, Bool.not_eq_true', decide_eq_false_iff_not, if_true, if_false, Bool.false_eq_true, ite_self, Bool.not_true, Bool.not_false, true_and, and_true, false_and, and_false, or_true, true_or, or_false, false_or, not_true, not_false_iff, decide_true, decide_false, reduceCtorEq, Bool.true_and, Bool.and_true, Bool.false_and, Bool.and_false, Bool.true_or, Bool.or_true, Bool.false_or, Bool.or_false, _root_.eq_self, Hv.wN, Hv.wB, Hv.wC, Hv.wR, Hv.ok_ok]
  rw [mulM_l (by decide)]
  simp (disch := first | assumption | omega | (simp only [List.length_append, List.length_cons, List.length_nil, List.length_map, List.length_reverse, List.length_take, List.length_drop, List.length_dropLast, List.length_singleton]; omega)) only [M.ok_bind, M.exc_bind, M.ofO_some, Hv.bindS_ok, Hv.bindS_exc, Hv.seq_next, Hv.seq_ret, Hv.seq_exc, Hv.seq_brk, Hv.seq_cnt, Hv.toM_ret, Hv.toM_exc, Hv.toN_ret, Hv.toN_next, Hv.toN_exc, Hv.tot_ok, decide_eq_true_eq, Bool.and_eq_true, Bool.or_eq_true, Bool.not_eq_true', decide_eq_false_iff_not, if_true, if_false, Bool.false_eq_true, ite_self, Bool.not_true, Bool.not_false, true_and, and_true, false_and, and_false, or_true, true_or, or_false, false_or, not_true, not_false_iff, decide_true, decide_false, reduceCtorEq, Bool.true_and, Bool.and_true, Bool.false_and, Bool.and_false, Bool.true_or, Bool.or_true, Bool.false_or, Bool.or_false, _root_.eq_self, Hv.wN, Hv.wB, Hv.wC, Hv.wR, Hv.ok_ok, divM_ok]
def dbm (y m : Int) : Int := ((rgI 1 m).map (md y)).sum
theorem F14_eq (y m : Int) (h1 : 1 ≤ m) (h2 : m ≤ 13) : F14 y m = .ok (dbm y m) := by
  unfold F14 dbm
  have e : lcM (fun _ : Int => .ok true) (fun x : Int => F11 y x) (rgI 1 m) = .ok ((rgI 1 m).map (md y)) := lcM_okm fun x hx => by
    have := mem_rg.mp hx
    exact F11_eq y x (by omega) (by omega)
  simp (disch := first | assumption | omega | (simp only [List.length_append, List.length_cons, List.length_nil, List.length_map, List.length_reverse, List.length_take, List.length_drop, List.length_dropLast, List.length_singleton]; omega)) only [M.ok_bind, M.exc_bind, M.ofO_some, Hv.bindS_ok, Hv.bindS_exc, Hv.seq_next, Hv.seq_ret, Hv.seq_exc, Hv.seq_brk, Hv.seq_cnt, Hv.toM_ret, Hv.toM_exc, Hv.toN_ret, Hv.toN_next, Hv.toN_exc, Hv.tot_ok, decide_eq_true_eq, Bool.and_eq_true, Bool.or_eq_true, Bool.not_eq_true', decide_eq_false_iff_not, if_true, if_false, Bool.false_eq_true, ite_self, Bool.not_true, Bool.not_false, true_and, and_true, false_and, and_false, or_true, true_or, or_false, false_or, not_true, not_false_iff, decide_true, decide_false, reduceCtorEq, Bool.true_and, Bool.and_true, Bool.false_and, Bool.and_false, Bool.true_or, Bool.or_true, Bool.false_or, Bool.or_false, _root_.eq_self, Hv.wN, Hv.wB, Hv.wC, Hv.wR, Hv.ok_ok, rg2_ok, e]
theorem dbm_1 (y : Int) : dbm y 1 = 0 := rfl
theorem dbm_s (y m : Int) (h : 1 ≤ m) : dbm y (m + 1) = dbm y m + md y m := by
  unfold dbm
  rw [rg_snoc h, List.map_append, List.sum_append]
  simp
def num (d : Dt) : Int := dby d.a + dbm d.a d.b + d.c - 1
def isD (d : Dt) : Bool := decide (1 ≤ d.a) && decide (d.a ≤ 9999) && decide (1 ≤ d.b) && decide (d.b ≤ 12) && decide (1 ≤ d.c) && decide (d.c ≤ md d.a d.b)
theorem isD_iff {d : Dt} : isD d = true ↔ 1 ≤ d.a ∧ d.a ≤ 9999 ∧ 1 ≤ d.b ∧ d.b ≤ 12 ∧ 1 ≤ d.c ∧ d.c ≤ md d.a d.b := by
  unfold isD
  simp only [Bool.and_eq_true, decide_eq_true_eq, and_assoc]
theorem F12_eq (d : Dt) : F12 d = if isD d then .ok () else .exc "NoDate" := by
  unfold F12
  have hl : ((gv_DAYS.l.length : Nat) : Int) = 12 := rfl
  simp (disch := first | assumption | omega | (simp only [List.length_append, List.length_cons, List.length_nil, List.length_map, List.length_reverse, List.length_take, List.length_drop, List.length_dropLast, List.length_singleton]; omega)) only [M.ok_bind, M.exc_bind, M.ofO_some, Hv.bindS_ok, Hv.bindS_exc, Hv.seq_next, Hv.seq_ret, Hv.seq_exc, Hv.seq_brk, Hv.seq_cnt, Hv.toM_ret, Hv.toM_exc, Hv.toN_ret, Hv.toN_next, Hv.toN_exc, Hv.tot_ok, decide_eq_true_eq, Bool.and_eq_true, Bool.or_eq_true, Bool.not_eq_true', decide_eq_false_iff_not, if_true, if_false, Bool.false_eq_true, ite_self, Bool.not_true, Bool.not_false, true_and, and_true, false_and, and_false, or_true, true_or, or_false, false_or, not_true, not_false_iff, decide_true, decide_false, reduceCtorEq, Bool.true_and, Bool.and_true, Bool.false_and, Bool.and_false, Bool.true_or, Bool.or_true, Bool.false_or, Bool.or_false, _root_.eq_self, Hv.wN, Hv.wB, Hv.wC, Hv.wR, Hv.ok_ok, cI_le, hl]
  by_cases h : 1 ≤ d.a ∧ d.a ≤ 9999 ∧ 1 ≤ d.b ∧ d.b ≤ 12
  · obtain ⟨h1, h2, h3, h4⟩ := h
    have hF := F11_eq d.a d.b h3 h4
    by_cases h5 : 1 ≤ d.c
    · by_cases h6 : d.c ≤ md d.a d.b
      · rw [if_pos (isD_iff.mpr ⟨h1, h2, h3, h4, h5, h6⟩)]
        simp (disch := first | assumption | omega | (simp only [List.length_append, List.length_cons, List.length_nil, List.length_map, List.length_reverse, List.length_take, List.length_drop, List.length_dropLast, List.length_singleton]; omega)) only [M.ok_bind, M.exc_bind, M.ofO_some, Hv.bindS_ok, Hv.bindS_exc, Hv.seq_next, Hv.seq_ret, Hv.seq_exc, Hv.seq_brk, Hv.seq_cnt, Hv.toM_ret, Hv.toM_exc, Hv.toN_ret, Hv.toN_next, Hv.toN_exc, Hv.tot_ok, decide_eq_true_eq, Bool.and_eq_true, Bool.or_eq_true, Bool.not_eq_true', decide_eq_false_iff_not, if_true, if_false, Bool.false_eq_true, ite_self, Bool.not_true, Bool.not_false, true_and, and_true, false_and, and_false, or_true, true_or, or_false, false_or, not_true, not_false_iff, decide_true, decide_false, reduceCtorEq, Bool.true_and, Bool.and_true, Bool.false_and, Bool.and_false, Bool.true_or, Bool.or_true, Bool.false_or, Bool.or_false, _root_.eq_self, Hv.wN, Hv.wB, Hv.wC, Hv.wR, Hv.ok_ok, h1, h2, h3, h4, h5, h6, hF]
      · rw [if_neg (fun z => h6 (isD_iff.mp z).2.2.2.2.2)]
        simp (disch := first | assumption | omega | (simp only [List.length_append, List.length_cons, List.length_nil, List.length_map, List.length_reverse, List.length_take, List.length_drop, List.length_dropLast, List.length_singleton]; omega)) only [M.ok_bind, M.exc_bind, M.ofO_some, Hv.bindS_ok, Hv.bindS_exc, Hv.seq_next, Hv.seq_ret, Hv.seq_exc, Hv.seq_brk, Hv.seq_cnt, Hv.toM_ret, Hv.toM_exc, Hv.toN_ret, Hv.toN_next, Hv.toN_exc, Hv.tot_ok, decide_eq_true_eq, Bool.and_eq_true, Bool.or_eq_true, Bool.not_eq_true', decide_eq_false_iff_not, if_true, if_false, Bool.false_eq_true, ite_self, Bool.not_true, Bool.not_false, true_and, and_true, false_and, and_false, or_true, true_or, or_false, false_or, not_true, not_false_iff, decide_true, decide_false, reduceCtorEq, Bool.true_and, Bool.and_true, Bool.false_and, Bool.and_false, Bool.true_or, Bool.or_true, Bool.false_or, Bool.or_false, _root_.eq_self, Hv.wN, Hv.wB, Hv.wC, Hv.wR, Hv.ok_ok, h1, h2, h3, h4, h5, h6, hF]
    · rw [if_neg (fun z => h5 (isD_iff.mp z).2.2.2.2.1)]
      simp (disch := first | assumption | omega | (simp only [List.length_append, List.length_cons, List.length_nil, List.length_map, List.length_reverse, List.length_take, List.length_drop, List.length_dropLast, List.length_singleton]; omega)) only [M.ok_bind, M.exc_bind, M.ofO_some, Hv.bindS_ok, Hv.bindS_exc, Hv.seq_next, Hv.seq_ret, Hv.seq_exc, Hv.seq_brk, Hv.seq_cnt, Hv.toM_ret, Hv.toM_exc, Hv.toN_ret, Hv.toN_next, Hv.toN_exc, Hv.tot_ok, decide_eq_true_eq, Bool.and_eq_true, Bool.or_eq_true, Bool.not_eq_true', decide_eq_false_iff_not, if_true, if_false, Bool.false_eq_true, ite_self, Bool.not_true, Bool.not_false, true_and, and_true, false_and, and_false, or_true, true_or, or_false, false_or, not_true, not_false_iff, decide_true, decide_false, reduceCtorEq, Bool.true_and, Bool.and_true, Bool.false_and, Bool.and_false, Bool.true_or, Bool.or_true, Bool.false_or, Bool.or_false, _root_.eq_self, Hv.wN, Hv.wB, Hv.wC, Hv.wR, Hv.ok_ok, h1, h2, h3, h4, h5, hF]
  · have hn : ¬ isD d = true := fun z => h ⟨(isD_iff.mp z).1, (isD_iff.mp z).2.1, (isD_iff.mp z).2.2.1, (isD_iff.mp z).2.2.2.1⟩
    rw [if_neg hn, if_pos (by simp; omega)]
    rfl
theorem F25_eq (d : Dt) : F25 d = .ok (isD d) := by
  unfold F25
  simp (disch := first | assumption | omega | (simp only [List.length_append, List.length_cons, List.length_nil, List.length_map, List.length_reverse, List.length_take, List.length_drop, List.length_dropLast, List.length_singleton]; omega)) only [M.ok_bind, M.exc_bind, M.ofO_some, Hv.bindS_ok, Hv.bindS_exc, Hv.seq_next, Hv.seq_ret, Hv.seq_exc, Hv.seq_brk, Hv.seq_cnt, Hv.toM_ret, Hv.toM_exc, Hv.toN_ret, Hv.toN_next, Hv.toN_exc, Hv.tot_ok, decide_eq_true_eq, Bool.and_eq_true, Bool.or_eq_true, Bool.not_eq_true', decide_eq_false_iff_not, if_true, if_false, Bool.false_eq_true, ite_self, Bool.not_true, Bool.not_false, true_and, and_true, false_and, and_false, or_true, true_or, or_false, false_or, not_true, not_false_iff, decide_true, decide_false, reduceCtorEq, Bool.true_and, Bool.and_true, Bool.false_and, Bool.and_false, Bool.true_or, Bool.or_true, Bool.false_or, Bool.or_false, _root_.eq_self, Hv.wN, Hv.wB, Hv.wC, Hv.wR, Hv.ok_ok, F24_eq]
  by_cases h : d.a < 1 ∨ 9999 < d.a ∨ d.b < 1 ∨ 12 < d.b
  · have hn : isD d = false := by
      rw [← Bool.not_eq_true, isD_iff]; omega
    simp (disch := first | assumption | omega | (simp only [List.length_append, List.length_cons, List.length_nil, List.length_map, List.length_reverse, List.length_take, List.length_drop, List.length_dropLast, List.length_singleton]; omega)) only [M.ok_bind, M.exc_bind, M.ofO_some, Hv.bindS_ok, Hv.bindS_exc, Hv.seq_next, Hv.seq_ret, Hv.seq_exc, Hv.seq_brk, Hv.seq_cnt, Hv.toM_ret, Hv.toM_exc, Hv.toN_ret, Hv.toN_next, Hv.toN_exc, Hv.tot_ok, decide_eq_true_eq, Bool.and_eq_true, Bool.or_eq_true, Bool.not_eq_true', decide_eq_false_iff_not, if_true, if_false, Bool.false_eq_true, ite_self, Bool.not_true, Bool.not_false, true_and, and_true, false_and, and_false, or_true, true_or, or_false, false_or, not_true, not_false_iff, decide_true, decide_false, reduceCtorEq, Bool.true_and, Bool.and_true, Bool.false_and, Bool.and_false, Bool.true_or, Bool.or_true, Bool.false_or, Bool.or_false, _root_.eq_self, Hv.wN, Hv.wB, Hv.wC, Hv.wR, Hv.ok_ok, h, hn]
  · by_cases h5 : 1 ≤ d.c
    · by_cases h6 : d.c ≤ md d.a d.b
      · rw [isD_iff.mpr ⟨by omega, by omega, by omega, by omega, h5, h6⟩]
        simp (disch := first | assumption | omega | (simp only [List.length_append, List.length_cons, List.length_nil, List.length_map, List.length_reverse, List.length_take, List.length_drop, List.length_dropLast, List.length_singleton]; omega)) only [M.ok_bind, M.exc_bind, M.ofO_some, Hv.bindS_ok, Hv.bindS_exc, Hv.seq_next, Hv.seq_ret, Hv.seq_exc, Hv.seq_brk, Hv.seq_cnt, Hv.toM_ret, Hv.toM_exc, Hv.toN_ret, Hv.toN_next, Hv.toN_exc, Hv.tot_ok, decide_eq_true_eq, Bool.and_eq_true, Bool.or_eq_true, Bool.not_eq_true', decide_eq_false_iff_not, if_true, if_false, Bool.false_eq_true, ite_self, Bool.not_true, Bool.not_false, true_and, and_true, false_and, and_false, or_true, true_or, or_false, false_or, not_true, not_false_iff, decide_true, decide_false, reduceCtorEq, Bool.true_and, Bool.and_true, Bool.false_and, Bool.and_false, Bool.true_or, Bool.or_true, Bool.false_or, Bool.or_false, _root_.eq_self, Hv.wN, Hv.wB, Hv.wC, Hv.wR, Hv.ok_ok, h, h5, h6]
      · have hn : isD d = false := by rw [← Bool.not_eq_true, isD_iff]; omega
        simp (disch := first | assumption | omega | (simp only [List.length_append, List.length_cons, List.length_nil, List.length_map, List.length_reverse, List.length_take, List.length_drop, List.length_dropLast, List.length_singleton]; omega)) only [M.ok_bind, M.exc_bind, M.ofO_some, Hv.bindS_ok, Hv.bindS_exc, Hv.seq_next, Hv.seq_ret, Hv.seq_exc, Hv.seq_brk, Hv.seq_cnt, Hv.toM_ret, Hv.toM_exc, Hv.toN_ret, Hv.toN_next, Hv.toN_exc, Hv.tot_ok, decide_eq_true_eq, Bool.and_eq_true, Bool.or_eq_true, Bool.not_eq_true', decide_eq_false_iff_not, if_true, if_false, Bool.false_eq_true, ite_self, Bool.not_true, Bool.not_false, true_and, and_true, false_and, and_false, or_true, true_or, or_false, false_or, not_true, not_false_iff, decide_true, decide_false, reduceCtorEq, Bool.true_and, Bool.and_true, Bool.false_and, Bool.and_false, Bool.true_or, Bool.or_true, Bool.false_or, Bool.or_false, _root_.eq_self, Hv.wN, Hv.wB, Hv.wC, Hv.wR, Hv.ok_ok, h, h5, h6, hn]
    · have hn : isD d = false := by rw [← Bool.not_eq_true, isD_iff]; omega
      simp (disch := first | assumption | omega | (simp only [List.length_append, List.length_cons, List.length_nil, List.length_map, List.length_reverse, List.length_take, List.length_drop, List.length_dropLast, List.length_singleton]; omega)) only [M.ok_bind, M.exc_bind, M.ofO_some, Hv.bindS_ok, Hv.bindS_exc, Hv.seq_next, Hv.seq_ret, Hv.seq_exc, Hv.seq_brk, Hv.seq_cnt, Hv.toM_ret, Hv.toM_exc, Hv.toN_ret, Hv.toN_next, Hv.toN_exc, Hv.tot_ok, decide_eq_true_eq, Bool.and_eq_true, Bool.or_eq_true, Bool.not_eq_true', decide_eq_false_iff_not, if_true, if_false, Bool.false_eq_true, ite_self, Bool.not_true, Bool.not_false, true_and, and_true, false_and, and_false, or_true, true_or, or_false, false_or, not_true, not_false_iff, decide_true, decide_false, reduceCtorEq, Bool.true_and, Bool.and_true, Bool.false_and, Bool.and_false, Bool.true_or, Bool.or_true, Bool.false_or, Bool.or_false, _root_.eq_self, Hv.wN, Hv.wB, Hv.wC, Hv.wR, Hv.ok_ok, h, h5, hn]
theorem F15_eq (d : Dt) : F15 d = if isD d then .ok (num d) else .exc "NoDate" := by
  unfold F15
  simp (disch := first | assumption | omega | (simp only [List.length_append, List.length_cons, List.length_nil, List.length_map, List.length_reverse, List.length_take, List.length_drop, List.length_dropLast, List.length_singleton]; omega)) only [M.ok_bind, M.exc_bind, M.ofO_some, Hv.bindS_ok, Hv.bindS_exc, Hv.seq_next, Hv.seq_ret, Hv.seq_exc, Hv.seq_brk, Hv.seq_cnt, Hv.toM_ret, Hv.toM_exc, Hv.toN_ret, Hv.toN_next, Hv.toN_exc, Hv.tot_ok, decide_eq_true_eq, Bool.and_eq_true, Bool.or_eq_true, Bool.not_eq_true', decide_eq_false_iff_not, if_true, if_false, Bool.false_eq_true, ite_self, Bool.not_true, Bool.not_false, true_and, and_true, false_and, and_false, or_true, true_or, or_false, false_or, not_true, not_false_iff, decide_true, decide_false, reduceCtorEq, Bool.true_and, Bool.and_true, Bool.false_and, Bool.and_false, Bool.true_or, Bool.or_true, Bool.false_or, Bool.or_false, _root_.eq_self, Hv.wN, Hv.wB, Hv.wC, Hv.wR, Hv.ok_ok, F12_eq]
  by_cases h : isD d = true
  · obtain ⟨h1, h2, h3, h4, h5, h6⟩ := isD_iff.mp h
    simp (disch := first | assumption | omega | (simp only [List.length_append, List.length_cons, List.length_nil, List.length_map, List.length_reverse, List.length_take, List.length_drop, List.length_dropLast, List.length_singleton]; omega)) only [M.ok_bind, M.exc_bind, M.ofO_some, Hv.bindS_ok, Hv.bindS_exc, Hv.seq_next, Hv.seq_ret, Hv.seq_exc, Hv.seq_brk, Hv.seq_cnt, Hv.toM_ret, Hv.toM_exc, Hv.toN_ret, Hv.toN_next, Hv.toN_exc, Hv.tot_ok, decide_eq_true_eq, Bool.and_eq_true, Bool.or_eq_true, Bool.not_eq_true', decide_eq_false_iff_not, if_true, if_false, Bool.false_eq_true, ite_self, Bool.not_true, Bool.not_false, true_and, and_true, false_and, and_false, or_true, true_or, or_false, false_or, not_true, not_false_iff, decide_true, decide_false, reduceCtorEq, Bool.true_and, Bool.and_true, Bool.false_and, Bool.and_false, Bool.true_or, Bool.or_true, Bool.false_or, Bool.or_false, _root_.eq_self, Hv.wN, Hv.wB, Hv.wC, Hv.wR, Hv.ok_ok, h, F13_eq, F14_eq d.a d.b h3 (by omega)]
    rfl
  · simp (disch := first | assumption | omega | (simp only [List.length_append, List.length_cons, List.length_nil, List.length_map, List.length_reverse, List.length_take, List.length_drop, List.length_dropLast, List.length_singleton]; omega)) only [M.ok_bind, M.exc_bind, M.ofO_some, Hv.bindS_ok, Hv.bindS_exc, Hv.seq_next, Hv.seq_ret, Hv.seq_exc, Hv.seq_brk, Hv.seq_cnt, Hv.toM_ret, Hv.toM_exc, Hv.toN_ret, Hv.toN_next, Hv.toN_exc, Hv.tot_ok, decide_eq_true_eq, Bool.and_eq_true, Bool.or_eq_true, Bool.not_eq_true', decide_eq_false_iff_not, if_true, if_false, Bool.false_eq_true, ite_self, Bool.not_true, Bool.not_false, true_and, and_true, false_and, and_false, or_true, true_or, or_false, false_or, not_true, not_false_iff, decide_true, decide_false, reduceCtorEq, Bool.true_and, Bool.and_true, Bool.false_and, Bool.and_false, Bool.true_or, Bool.or_true, Bool.false_or, Bool.or_false, _root_.eq_self, Hv.wN, Hv.wB, Hv.wC, Hv.wR, Hv.ok_ok, h]
theorem F18_eq (d : Dt) : F18 d = if isD d then .ok (num d % 7) else .exc "NoDate" := by
  unfold F18
  have hl : ((gv_WEEK.l.length : Nat) : Int) = 7 := rfl
  simp (disch := first | assumption | omega | (simp only [List.length_append, List.length_cons, List.length_nil, List.length_map, List.length_reverse, List.length_take, List.length_drop, List.length_dropLast, List.length_singleton]; omega)) only [M.ok_bind, M.exc_bind, M.ofO_some, Hv.bindS_ok, Hv.bindS_exc, Hv.seq_next, Hv.seq_ret, Hv.seq_exc, Hv.seq_brk, Hv.seq_cnt, Hv.toM_ret, Hv.toM_exc, Hv.toN_ret, Hv.toN_next, Hv.toN_exc, Hv.tot_ok, decide_eq_true_eq, Bool.and_eq_true, Bool.or_eq_true, Bool.not_eq_true', decide_eq_false_iff_not, if_true, if_false, Bool.false_eq_true, ite_self, Bool.not_true, Bool.not_false, true_and, and_true, false_and, and_false, or_true, true_or, or_false, false_or, not_true, not_false_iff, decide_true, decide_false, reduceCtorEq, Bool.true_and, Bool.and_true, Bool.false_and, Bool.and_false, Bool.true_or, Bool.or_true, Bool.false_or, Bool.or_false, _root_.eq_self, Hv.wN, Hv.wB, Hv.wC, Hv.wR, Hv.ok_ok, F15_eq, hl]
  by_cases h : isD d = true
  · simp (disch := first | assumption | omega | (simp only [List.length_append, List.length_cons, List.length_nil, List.length_map, List.length_reverse, List.length_take, List.length_drop, List.length_dropLast, List.length_singleton]; omega)) only [M.ok_bind, M.exc_bind, M.ofO_some, Hv.bindS_ok, Hv.bindS_exc, Hv.seq_next, Hv.seq_ret, Hv.seq_exc, Hv.seq_brk, Hv.seq_cnt, Hv.toM_ret, Hv.toM_exc, Hv.toN_ret, Hv.toN_next, Hv.toN_exc, Hv.tot_ok, decide_eq_true_eq, Bool.and_eq_true, Bool.or_eq_true, Bool.not_eq_true', decide_eq_false_iff_not, if_true, if_false, Bool.false_eq_true, ite_self, Bool.not_true, Bool.not_false, true_and, and_true, false_and, and_false, or_true, true_or, or_false, false_or, not_true, not_false_iff, decide_true, decide_false, reduceCtorEq, Bool.true_and, Bool.and_true, Bool.false_and, Bool.and_false, Bool.true_or, Bool.or_true, Bool.false_or, Bool.or_false, _root_.eq_self, Hv.wN, Hv.wB, Hv.wC, Hv.wR, Hv.ok_ok, h, modM_ok]
  · simp (disch := first | assumption | omega | (simp only [List.length_append, List.length_cons, List.length_nil, List.length_map, List.length_reverse, List.length_take, List.length_drop, List.length_dropLast, List.length_singleton]; omega)) only [M.ok_bind, M.exc_bind, M.ofO_some, Hv.bindS_ok, Hv.bindS_exc, Hv.seq_next, Hv.seq_ret, Hv.seq_exc, Hv.seq_brk, Hv.seq_cnt, Hv.toM_ret, Hv.toM_exc, Hv.toN_ret, Hv.toN_next, Hv.toN_exc, Hv.tot_ok, decide_eq_true_eq, Bool.and_eq_true, Bool.or_eq_true, Bool.not_eq_true', decide_eq_false_iff_not, if_true, if_false, Bool.false_eq_true, ite_self, Bool.not_true, Bool.not_false, true_and, and_true, false_and, and_false, or_true, true_or, or_false, false_or, not_true, not_false_iff, decide_true, decide_false, reduceCtorEq, Bool.true_and, Bool.and_true, Bool.false_and, Bool.and_false, Bool.true_or, Bool.or_true, Bool.false_or, Bool.or_false, _root_.eq_self, Hv.wN, Hv.wB, Hv.wC, Hv.wR, Hv.ok_ok, h]
theorem F26_eq (d : Dt) (h1 : 1 ≤ d.a) (h2 : d.a ≤ 9999) (h3 : 1 ≤ d.b) (h4 : d.b ≤ 13) : F26 d = .ok (num d) := by
  refine Ok.eq ?_
  unfold F26
  simp (disch := first | assumption | omega | (simp only [List.length_append, List.length_cons, List.length_nil, List.length_map, List.length_reverse, List.length_take, List.length_drop, List.length_dropLast, List.length_singleton]; omega)) only [M.ok_bind, M.exc_bind, M.ofO_some, Hv.bindS_ok, Hv.bindS_exc, Hv.seq_next, Hv.seq_ret, Hv.seq_exc, Hv.seq_brk, Hv.seq_cnt, Hv.toM_ret, Hv.toM_exc, Hv.toN_ret, Hv.toN_next, Hv.toN_exc, Hv.tot_ok, decide_eq_true_eq, Bool.and_eq_true, Bool.or_eq_true, Bool.not_eq_true', decide_eq_false_iff_not, if_true, if_false, Bool.false_eq_true, ite_self, Bool.not_true, Bool.not_false, true_and, and_true, false_and, and_false, or_true, true_or, or_false, false_or, not_true, not_false_iff, decide_true, decide_false, reduceCtorEq, Bool.true_and, Bool.and_true, Bool.false_and, Bool.and_false, Bool.true_or, Bool.or_true, Bool.false_or, Bool.or_false, _root_.eq_self, Hv.wN, Hv.wB, Hv.wC, Hv.wR, Hv.ok_ok, divM_ok, modM_ok, rg2_ok]
  rw [mulM_r (by decide)]
  simp (disch := first | assumption | omega | (simp only [List.length_append, List.length_cons, List.length_nil, List.length_map, List.length_reverse, List.length_take, List.length_drop, List.length_dropLast, List.length_singleton]; omega)) only [M.ok_bind, M.exc_bind, M.ofO_some, Hv.bindS_ok, Hv.bindS_exc, Hv.seq_next, Hv.seq_ret, Hv.seq_exc, Hv.seq_brk, Hv.seq_cnt, Hv.toM_ret, Hv.toM_exc, Hv.toN_ret, Hv.toN_next, Hv.toN_exc, Hv.tot_ok, decide_eq_true_eq, Bool.and_eq_true, Bool.or_eq_true, Bool.not_eq_true', decide_eq_false_iff_not, if_true, if_false, Bool.false_eq_true, ite_self, Bool.not_true, Bool.not_false, true_and, and_true, false_and, and_false, or_true, true_or, or_false, false_or, not_true, not_false_iff, decide_true, decide_false, reduceCtorEq, Bool.true_and, Bool.and_true, Bool.false_and, Bool.and_false, Bool.true_or, Bool.or_true, Bool.false_or, Bool.or_false, _root_.eq_self, Hv.wN, Hv.wB, Hv.wC, Hv.wR, Hv.ok_ok]
  rw [mulM_r (by decide)]
  simp (disch := first | assumption | omega | (simp only [List.length_append, List.length_cons, List.length_nil, List.length_map, List.length_reverse, List.length_take, List.length_drop, List.length_dropLast, List.length_singleton]; omega)) only [M.ok_bind, M.exc_bind, M.ofO_some, Hv.bindS_ok, Hv.bindS_exc, Hv.seq_next, Hv.seq_ret, Hv.seq_exc, Hv.seq_brk, Hv.seq_cnt, Hv.toM_ret, Hv.toM_exc, Hv.toN_ret, Hv.toN_next, Hv.toN_exc, Hv.tot_ok, decide_eq_true_eq, Bool.and_eq_true, Bool.or_eq_true, Bool.not_eq_true', decide_eq_false_iff_not, if_true, if_false, Bool.false_eq_true, ite_self, Bool.not_true, Bool.not_false, true_and, and_true, false_and, and_false, or_true, true_or, or_false, false_or, not_true, not_false_iff, decide_true, decide_false, reduceCtorEq, Bool.true_and, Bool.and_true, Bool.false_and, Bool.and_false, Bool.true_or, Bool.or_true, Bool.false_or, Bool.or_false, _root_.eq_self, Hv.wN, Hv.wB, Hv.wC, Hv.wR, Hv.ok_ok]
  rw [mulM_r (by decide), mulM_r (by decide)]
  simp (disch := first | assumption | omega | (simp only [List.length_append, List.length_cons, List.length_nil, List.length_map, List.length_reverse, List.length_take, List.length_drop, List.length_dropLast, List.length_singleton]; omega)) only [M.ok_bind, M.exc_bind, M.ofO_some, Hv.bindS_ok, Hv.bindS_exc, Hv.seq_next, Hv.seq_ret, Hv.seq_exc, Hv.seq_brk, Hv.seq_cnt, Hv.toM_ret, Hv.toM_exc, Hv.toN_ret, Hv.toN_next, Hv.toN_exc, Hv.tot_ok, decide_eq_true_eq, Bool.and_eq_true, Bool.or_eq_true, Bool.not_eq_true', decide_eq_false_iff_not, if_true, if_false, Bool.false_eq_true, ite_self, Bool.not_true, Bool.not_false, true_and, and_true, false_and, and_false, or_true, true_or, or_false, false_or, not_true, not_false_iff, decide_true, decide_false, reduceCtorEq, Bool.true_and, Bool.and_true, Bool.false_and, Bool.and_false, Bool.true_or, Bool.or_true, Bool.false_or, Bool.or_false, _root_.eq_self, Hv.wN, Hv.wB, Hv.wC, Hv.wR, Hv.ok_ok]
  refine wM (wQ (wRg (fun m (s : Int) => s = dby d.a + dbm d.a m) h3 (by unfold dby; rw [dbm_1]; omega) (fun m s g1 g2 hs => ?_) fun s hs => ?_))
  · simp (disch := first | assumption | omega | (simp only [List.length_append, List.length_cons, List.length_nil, List.length_map, List.length_reverse, List.length_take, List.length_drop, List.length_dropLast, List.length_singleton]; omega)) only [M.ok_bind, M.exc_bind, M.ofO_some, Hv.bindS_ok, Hv.bindS_exc, Hv.seq_next, Hv.seq_ret, Hv.seq_exc, Hv.seq_brk, Hv.seq_cnt, Hv.toM_ret, Hv.toM_exc, Hv.toN_ret, Hv.toN_next, Hv.toN_exc, Hv.tot_ok, decide_eq_true_eq, Bool.and_eq_true, Bool.or_eq_true, Bool.not_eq_true', decide_eq_false_iff_not, if_true, if_false, Bool.false_eq_true, ite_self, Bool.not_true, Bool.not_false, true_and, and_true, false_and, and_false, or_true, true_or, or_false, false_or, not_true, not_false_iff, decide_true, decide_false, reduceCtorEq, Bool.true_and, Bool.and_true, Bool.false_and, Bool.and_false, Bool.true_or, Bool.or_true, Bool.false_or, Bool.or_false, _root_.eq_self, Hv.wN, Hv.wB, Hv.wC, Hv.wR, Hv.ok_ok, F24_eq]
    rw [hs, dbm_s _ _ g1]
    omega
  · simp (disch := first | assumption | omega | (simp only [List.length_append, List.length_cons, List.length_nil, List.length_map, List.length_reverse, List.length_take, List.length_drop, List.length_dropLast, List.length_singleton]; omega)) only [M.ok_bind, M.exc_bind, M.ofO_some, Hv.bindS_ok, Hv.bindS_exc, Hv.seq_next, Hv.seq_ret, Hv.seq_exc, Hv.seq_brk, Hv.seq_cnt, Hv.toM_ret, Hv.toM_exc, Hv.toN_ret, Hv.toN_next, Hv.toN_exc, Hv.tot_ok, decide_eq_true_eq, Bool.and_eq_true, Bool.or_eq_true, Bool.not_eq_true', decide_eq_false_iff_not, if_true, if_false, Bool.false_eq_true, ite_self, Bool.not_true, Bool.not_false, true_and, and_true, false_and, and_false, or_true, true_or, or_false, false_or, not_true, not_false_iff, decide_true, decide_false, reduceCtorEq, Bool.true_and, Bool.and_true, Bool.false_and, Bool.and_false, Bool.true_or, Bool.or_true, Bool.false_or, Bool.or_false, _root_.eq_self, Hv.wN, Hv.wB, Hv.wC, Hv.wR, Hv.ok_ok]
    rw [hs]; rfl
end Law

namespace Law
open PySem Hv
theorem dby_s (y : Int) : dby (y + 1) = dby y + (if lp y then 366 else 365) := by
  unfold dby
  have hl : lp y = true ↔ y % 4 = 0 ∧ (¬ y % 100 = 0 ∨ y % 400 = 0) := by
    unfold lp
    simp only [Bool.and_eq_true, Bool.or_eq_true, decide_eq_true_eq, Bool.not_eq_true', decide_eq_false_iff_not]
  by_cases h : lp y = true
  · rw [if_pos h]
    have := hl.mp h
    omega
  · rw [if_neg h]
    have : ¬ (y % 4 = 0 ∧ (¬ y % 100 = 0 ∨ y % 400 = 0)) := fun z => h (hl.mpr z)
    omega
theorem dby_s' (y : Int) : dby y + 365 ≤ dby (y + 1) := by
  rw [dby_s]
  split <;> omega
theorem dby_mono {x y : Int} (h : x ≤ y) : dby x + 365 * (y - x) ≤ dby y := by
  obtain ⟨n, rfl⟩ := Int.le.dest h
  induction n with
  | zero => simp
  | succ n ih =>
    have := ih (by omega)
    have h2 := dby_s' (x + n)
    rw [show x + ((n + 1 : Nat) : Int) = x + n + 1 by push_cast; omega]
    omega
theorem dbm_13 (y : Int) : dbm y 13 = if lp y then 366 else 365 := by
  have e : ∀ m : Int, 1 ≤ m → dbm y (m + 1) = dbm y m + md y m := dbm_s y
  rw [show (13 : Int) = 12 + 1 by rfl, e 12 (by decide), show (12 : Int) = 11 + 1 by rfl, e 11 (by decide), show (11 : Int) = 10 + 1 by rfl, e 10 (by decide), show (10 : Int) = 9 + 1 by rfl, e 9 (by decide), show (9 : Int) = 8 + 1 by rfl, e 8 (by decide), show (8 : Int) = 7 + 1 by rfl, e 7 (by decide), show (7 : Int) = 6 + 1 by rfl, e 6 (by decide), show (6 : Int) = 5 + 1 by rfl, e 5 (by decide), show (5 : Int) = 4 + 1 by rfl, e 4 (by decide), show (4 : Int) = 3 + 1 by rfl, e 3 (by decide), show (3 : Int) = 2 + 1 by rfl, e 2 (by decide), show (2 : Int) = 1 + 1 by rfl, e 1 (by decide), dbm_1]
  unfold md
  cases lp y <;> simp
theorem dbm_mono (y : Int) {m n : Int} (h1 : 1 ≤ m) (h : m ≤ n) : dbm y m ≤ dbm y n := by
  obtain ⟨k, rfl⟩ := Int.le.dest h
  induction k with
  | zero => simp
  | succ k ih =>
    have := ih (by omega)
    have h2 := dbm_s y (m + k) (by omega)
    have h3 := md_rg y (m + k)
    rw [show m + ((k + 1 : Nat) : Int) = m + k + 1 by push_cast; omega]
    omega
/-- two dates with one number are one -/
theorem num_inj {d e : Dt} (hd : isD d = true) (he : isD e = true) (h : num d = num e) : d = e := by
  have key : ∀ d e : Dt, isD d = true → isD e = true → num d = num e → d.a ≤ e.a ∧ (d.a = e.a → d.b ≤ e.b ∧ (d.b = e.b → d.c = e.c)) := by
    intro d e hd he h
    obtain ⟨a1, a2, a3, a4, a5, a6⟩ := isD_iff.mp hd
    obtain ⟨b1, b2, b3, b4, b5, b6⟩ := isD_iff.mp he
    unfold num at h
    refine ⟨?_, fun hy => ⟨?_, fun hm => by rw [hy, hm] at h; omega⟩⟩
    · by_cases hc : d.a ≤ e.a
      · exact hc
      · exfalso
        have h1 := dby_mono (show e.a + 1 ≤ d.a by omega)
        have h2 := dby_s e.a
        have h3 := dbm_13 e.a
        have h4 := dbm_mono e.a (m := e.b + 1) (n := 13) (by omega) (by omega)
        rw [dbm_s _ _ b3] at h4
        have h5 := dbm_mono d.a (m := 1) (n := d.b) (by omega) a3
        rw [dbm_1] at h5
        omega
    · by_cases hc : d.b ≤ e.b
      · exact hc
      · exfalso
        rw [hy] at h
        have h4 := dbm_mono e.a (m := e.b + 1) (n := d.b) (by omega) (by omega)
        rw [dbm_s _ _ b3] at h4
        omega
  obtain ⟨k1, k2⟩ := key d e hd he h
  obtain ⟨k3, k4⟩ := key e d he hd h.symm
  have ha : d.a = e.a := by omega
  obtain ⟨k5, k6⟩ := k2 ha
  obtain ⟨k7, k8⟩ := k4 ha.symm
  have hb : d.b = e.b := by omega
  have hc := k6 hb
  cases d; cases e
  simp only at ha hb hc
  rw [ha, hb, hc]
theorem year_loop (n : Int) (hn : 0 ≤ n) (hn2 : n ≤ 3652058) : ∀ (f : Nat) (y : Int), 1 ≤ y → dby y ≤ n → (20000 - y).toNat ≤ f → ∃ y', whL (τ := Empty) (β := Int) (fun s : Int => (F13 (s + 1)).bind fun t => .ok (decide (t ≤ n))) (fun s : Int => (Rs.next (s + 1) : Rs Int Int Int)) y = .next y' ∧ 1 ≤ y' ∧ dby y' ≤ n ∧ n < dby (y' + 1) := by
  intro f
  induction f with
  | zero =>
    intro y h1 h2 h3
    exfalso
    have := dby_mono (show 10000 ≤ y by omega)
    have e : dby 10000 = 3652059 := by decide
    omega
  | succ f ih =>
    intro y h1 h2 h3
    by_cases hc : dby (y + 1) ≤ n
    · obtain ⟨y', e, r⟩ := ih (y + 1) (by omega) hc (by omega)
      refine ⟨y', ?_, r⟩
      refine (whL_step (s' := y + 1) ?_ (.inl ?_)).trans e
      · simp (disch := first | assumption | omega | (simp only [List.length_append, List.length_cons, List.length_nil, List.length_map, List.length_reverse, List.length_take, List.length_drop, List.length_dropLast, List.length_singleton]; omega)) only [M.ok_bind, M.exc_bind, M.ofO_some, Hv.bindS_ok, Hv.bindS_exc, Hv.seq_next, Hv.seq_ret, Hv.seq_exc, Hv.seq_brk, Hv.seq_cnt, Hv.toM_ret, Hv.toM_exc, Hv.toN_ret, Hv.toN_next, Hv.toN_exc, Hv.tot_ok, decide_eq_true_eq, Bool.and_eq_true, Bool.or_eq_true, Bool.not_eq_true', decide_eq_false_iff_not, if_true, if_false, Bool.false_eq_true, ite_self, Bool.not_true, Bool.not_false, true_and, and_true, false_and, and_false, or_true, true_or, or_false, false_or, not_true, not_false_iff, decide_true, decide_false, reduceCtorEq, Bool.true_and, Bool.and_true, Bool.false_and, Bool.and_false, Bool.true_or, Bool.or_true, Bool.false_or, Bool.or_false, _root_.eq_self, Hv.wN, Hv.wB, Hv.wC, Hv.wR, Hv.ok_ok, F13_eq, hc]
      · rfl
    · refine ⟨y, whL_stop (by simp (disch := first | assumption | omega | (simp only [List.length_append, List.length_cons, List.length_nil, List.length_map, List.length_reverse, List.length_take, List.length_drop, List.length_dropLast, List.length_singleton]; omega)) only [M.ok_bind, M.exc_bind, M.ofO_some, Hv.bindS_ok, Hv.bindS_exc, Hv.seq_next, Hv.seq_ret, Hv.seq_exc, Hv.seq_brk, Hv.seq_cnt, Hv.toM_ret, Hv.toM_exc, Hv.toN_ret, Hv.toN_next, Hv.toN_exc, Hv.tot_ok, decide_eq_true_eq, Bool.and_eq_true, Bool.or_eq_true, Bool.not_eq_true', decide_eq_false_iff_not, if_true, if_false, Bool.false_eq_true, ite_self, Bool.not_true, Bool.not_false, true_and, and_true, false_and, and_false, or_true, true_or, or_false, false_or, not_true, not_false_iff, decide_true, decide_false, reduceCtorEq, Bool.true_and, Bool.and_true, Bool.false_and, Bool.and_false, Bool.true_or, Bool.or_true, Bool.false_or, Bool.or_false, _root_.eq_self, Hv.wN, Hv.wB, Hv.wC, Hv.wR, Hv.ok_ok, F13_eq, hc]), h1, h2, by omega⟩
theorem month_loop (n y : Int) (h9 : n < dby (y + 1)) : ∀ (f : Nat) (r m : Int), 1 ≤ m → m ≤ 12 → 0 ≤ r → dby y + dbm y m + r = n → (13 - m).toNat ≤ f → ∃ r' m', whL (τ := Empty) (β := Dt) (fun s399 : (Int × Int) => (M.bind (F11 y s399.2) fun t409 => (M.ok (decide (t409 ≤ s399.1))))) (fun s399 : (Int × Int) => (M.bindS (F11 y s399.2) fun y412 => Rs.next (s399.1 - y412, s399.2 + 1))) (r, m) = .next (r', m') ∧ 1 ≤ m' ∧ m' ≤ 12 ∧ 0 ≤ r' ∧ r' < md y m' ∧ dby y + dbm y m' + r' = n := by
  intro f
  induction f with
  | zero => intro r m h1 h2 h3 h4 h5; omega
  | succ f ih =>
    intro r m h1 h2 h3 h4 h5
    have hF := F11_eq y m h1 h2
    by_cases hc : md y m ≤ r
    · have hm : m < 12 := by
        by_cases hm : m < 12
        · exact hm
        · exfalso
          obtain rfl : m = 12 := by omega
          have e1 := dbm_s y 12 (by decide)
          have e2 := dbm_13 y
          have e3 := dby_s y
          rw [show (12 : Int) + 1 = 13 by rfl] at e1
          omega
      obtain ⟨r', m', e, q⟩ := ih (r - md y m) (m + 1) (by omega) (by omega) (by omega) (by rw [dbm_s y m h1]; omega) (by omega)
      refine ⟨r', m', ?_, q⟩
      refine (whL_step (s' := (r - md y m, m + 1)) ?_ (.inl ?_)).trans e
      · simp (disch := first | assumption | omega | (simp only [List.length_append, List.length_cons, List.length_nil, List.length_map, List.length_reverse, List.length_take, List.length_drop, List.length_dropLast, List.length_singleton]; omega)) only [M.ok_bind, M.exc_bind, M.ofO_some, Hv.bindS_ok, Hv.bindS_exc, Hv.seq_next, Hv.seq_ret, Hv.seq_exc, Hv.seq_brk, Hv.seq_cnt, Hv.toM_ret, Hv.toM_exc, Hv.toN_ret, Hv.toN_next, Hv.toN_exc, Hv.tot_ok, decide_eq_true_eq, Bool.and_eq_true, Bool.or_eq_true, Bool.not_eq_true', decide_eq_false_iff_not, if_true, if_false, Bool.false_eq_true, ite_self, Bool.not_true, Bool.not_false, true_and, and_true, false_and, and_false, or_true, true_or, or_false, false_or, not_true, not_false_iff, decide_true, decide_false, reduceCtorEq, Bool.true_and, Bool.and_true, Bool.false_and, Bool.and_false, Bool.true_or, Bool.or_true, Bool.false_or, Bool.or_false, _root_.eq_self, Hv.wN, Hv.wB, Hv.wC, Hv.wR, Hv.ok_ok, hF, hc]
      · simp (disch := first | assumption | omega | (simp only [List.length_append, List.length_cons, List.length_nil, List.length_map, List.length_reverse, List.length_take, List.length_drop, List.length_dropLast, List.length_singleton]; omega)) only [M.ok_bind, M.exc_bind, M.ofO_some, Hv.bindS_ok, Hv.bindS_exc, Hv.seq_next, Hv.seq_ret, Hv.seq_exc, Hv.seq_brk, Hv.seq_cnt, Hv.toM_ret, Hv.toM_exc, Hv.toN_ret, Hv.toN_next, Hv.toN_exc, Hv.tot_ok, decide_eq_true_eq, Bool.and_eq_true, Bool.or_eq_true, Bool.not_eq_true', decide_eq_false_iff_not, if_true, if_false, Bool.false_eq_true, ite_self, Bool.not_true, Bool.not_false, true_and, and_true, false_and, and_false, or_true, true_or, or_false, false_or, not_true, not_false_iff, decide_true, decide_false, reduceCtorEq, Bool.true_and, Bool.and_true, Bool.false_and, Bool.and_false, Bool.true_or, Bool.or_true, Bool.false_or, Bool.or_false, _root_.eq_self, Hv.wN, Hv.wB, Hv.wC, Hv.wR, Hv.ok_ok, hF]
    · exact ⟨r, m, whL_stop (by simp (disch := first | assumption | omega | (simp only [List.length_append, List.length_cons, List.length_nil, List.length_map, List.length_reverse, List.length_take, List.length_drop, List.length_dropLast, List.length_singleton]; omega)) only [M.ok_bind, M.exc_bind, M.ofO_some, Hv.bindS_ok, Hv.bindS_exc, Hv.seq_next, Hv.seq_ret, Hv.seq_exc, Hv.seq_brk, Hv.seq_cnt, Hv.toM_ret, Hv.toM_exc, Hv.toN_ret, Hv.toN_next, Hv.toN_exc, Hv.tot_ok, decide_eq_true_eq, Bool.and_eq_true, Bool.or_eq_true, Bool.not_eq_true', decide_eq_false_iff_not, if_true, if_false, Bool.false_eq_true, ite_self, Bool.not_true, Bool.not_false, true_and, and_true, false_and, and_false, or_true, true_or, or_false, false_or, not_true, not_false_iff, decide_true, decide_false, reduceCtorEq, Bool.true_and, Bool.and_true, Bool.false_and, Bool.and_false, Bool.true_or, Bool.or_true, Bool.false_or, Bool.or_false, _root_.eq_self, Hv.wN, Hv.wB, Hv.wC, Hv.wR, Hv.ok_ok, hF, hc]), h1, h2, h3, by omega, h4⟩
theorem F17_ok (n : Int) (hn : 0 ≤ n) (hn2 : n ≤ 3652058) : Ok (F17 n) fun d => isD d = true ∧ num d = n := by
  have h16 : ∃ y, F16 n = .ok y ∧ 1 ≤ y ∧ dby y ≤ n ∧ n < dby (y + 1) := by
    unfold F16
    simp (disch := first | assumption | omega | (simp only [List.length_append, List.length_cons, List.length_nil, List.length_map, List.length_reverse, List.length_take, List.length_drop, List.length_dropLast, List.length_singleton]; omega)) only [M.ok_bind, M.exc_bind, M.ofO_some, Hv.bindS_ok, Hv.bindS_exc, Hv.seq_next, Hv.seq_ret, Hv.seq_exc, Hv.seq_brk, Hv.seq_cnt, Hv.toM_ret, Hv.toM_exc, Hv.toN_ret, Hv.toN_next, Hv.toN_exc, Hv.tot_ok, decide_eq_true_eq, Bool.and_eq_true, Bool.or_eq_true, Bool.not_eq_true', decide_eq_false_iff_not, if_true, if_false, Bool.false_eq_true, ite_self, Bool.not_true, Bool.not_false, true_and, and_true, false_and, and_false, or_true, true_or, or_false, false_or, not_true, not_false_iff, decide_true, decide_false, reduceCtorEq, Bool.true_and, Bool.and_true, Bool.false_and, Bool.and_false, Bool.true_or, Bool.or_true, Bool.false_or, Bool.or_false, _root_.eq_self, Hv.wN, Hv.wB, Hv.wC, Hv.wR, Hv.ok_ok, divM_ok]
    have h0 : dby (n / 366 + 1) ≤ n := by unfold dby; omega
    obtain ⟨y, e, r⟩ := year_loop n hn hn2 _ (n / 366 + 1) (by omega) h0 (Nat.le_refl _)
    refine ⟨y, ?_, r⟩
    rw [e]
    rfl
  obtain ⟨y, e, y1, y2, y3⟩ := h16
  unfold F17
  simp (disch := first | assumption | omega | (simp only [List.length_append, List.length_cons, List.length_nil, List.length_map, List.length_reverse, List.length_take, List.length_drop, List.length_dropLast, List.length_singleton]; omega)) only [M.ok_bind, M.exc_bind, M.ofO_some, Hv.bindS_ok, Hv.bindS_exc, Hv.seq_next, Hv.seq_ret, Hv.seq_exc, Hv.seq_brk, Hv.seq_cnt, Hv.toM_ret, Hv.toM_exc, Hv.toN_ret, Hv.toN_next, Hv.toN_exc, Hv.tot_ok, decide_eq_true_eq, Bool.and_eq_true, Bool.or_eq_true, Bool.not_eq_true', decide_eq_false_iff_not, if_true, if_false, Bool.false_eq_true, ite_self, Bool.not_true, Bool.not_false, true_and, and_true, false_and, and_false, or_true, true_or, or_false, false_or, not_true, not_false_iff, decide_true, decide_false, reduceCtorEq, Bool.true_and, Bool.and_true, Bool.false_and, Bool.and_false, Bool.true_or, Bool.or_true, Bool.false_or, Bool.or_false, _root_.eq_self, Hv.wN, Hv.wB, Hv.wC, Hv.wR, Hv.ok_ok, cI_le, e, F13_eq]
  rw [if_neg (by simp; omega)]
  obtain ⟨r, m, e2, m1, m2, m3, m4, m5⟩ := month_loop n y y3 _ (n - dby y) 1 (by omega) (by omega) (by omega) (by rw [dbm_1]; omega) (Nat.le_refl _)
  rw [e2]
  simp (disch := first | assumption | omega | (simp only [List.length_append, List.length_cons, List.length_nil, List.length_map, List.length_reverse, List.length_take, List.length_drop, List.length_dropLast, List.length_singleton]; omega)) only [M.ok_bind, M.exc_bind, M.ofO_some, Hv.bindS_ok, Hv.bindS_exc, Hv.seq_next, Hv.seq_ret, Hv.seq_exc, Hv.seq_brk, Hv.seq_cnt, Hv.toM_ret, Hv.toM_exc, Hv.toN_ret, Hv.toN_next, Hv.toN_exc, Hv.tot_ok, decide_eq_true_eq, Bool.and_eq_true, Bool.or_eq_true, Bool.not_eq_true', decide_eq_false_iff_not, if_true, if_false, Bool.false_eq_true, ite_self, Bool.not_true, Bool.not_false, true_and, and_true, false_and, and_false, or_true, true_or, or_false, false_or, not_true, not_false_iff, decide_true, decide_false, reduceCtorEq, Bool.true_and, Bool.and_true, Bool.false_and, Bool.and_false, Bool.true_or, Bool.or_true, Bool.false_or, Bool.or_false, _root_.eq_self, Hv.wN, Hv.wB, Hv.wC, Hv.wR, Hv.ok_ok]
  have hy : y ≤ 9999 := by
    by_cases h : y ≤ 9999
    · exact h
    · exfalso
      have := dby_mono (show 10000 ≤ y by omega)
      have e : dby 10000 = 3652059 := by decide
      omega
  refine ⟨isD_iff.mpr ⟨y1, hy, m1, m2, ?_, ?_⟩, ?_⟩
  · show 1 ≤ r + 1; omega
  · show r + 1 ≤ md y m; omega
  · show dby y + dbm y m + (r + 1) - 1 = n; omega
theorem F17_num {d : Dt} (h : isD d = true) : F17 (num d) = .ok d := by
  obtain ⟨h1, h2, h3, h4, h5, h6⟩ := isD_iff.mp h
  have a1 := dby_mono h1
  have a2 := dby_mono (show d.a + 1 ≤ 10000 by omega)
  have e1 : dby 1 = 0 := by decide
  have e2 : dby 10000 = 3652059 := by decide
  have b1 := dbm_mono d.a (m := 1) (n := d.b) (by omega) h3
  rw [dbm_1] at b1
  have b2 := dbm_mono d.a (m := d.b + 1) (n := 13) (by omega) (by omega)
  rw [dbm_s _ _ h3, dbm_13] at b2
  have b3 := dby_s d.a
  obtain ⟨e, he, g1, g2⟩ := F17_ok (num d) (by unfold num; omega) (by unfold num; omega)
  rw [he, num_inj g1 h g2]
theorem F17_no (n : Int) (h : n < 0 ∨ 3652058 < n) : F17 n = .exc "OutOfRange" := by
  unfold F17
  simp (disch := first | assumption | omega | (simp only [List.length_append, List.length_cons, List.length_nil, List.length_map, List.length_reverse, List.length_take, List.length_drop, List.length_dropLast, List.length_singleton]; omega)) only [M.ok_bind, M.exc_bind, M.ofO_some, Hv.bindS_ok, Hv.bindS_exc, Hv.seq_next, Hv.seq_ret, Hv.seq_exc, Hv.seq_brk, Hv.seq_cnt, Hv.toM_ret, Hv.toM_exc, Hv.toN_ret, Hv.toN_next, Hv.toN_exc, Hv.tot_ok, decide_eq_true_eq, Bool.and_eq_true, Bool.or_eq_true, Bool.not_eq_true', decide_eq_false_iff_not, if_true, if_false, Bool.false_eq_true, ite_self, Bool.not_true, Bool.not_false, true_and, and_true, false_and, and_false, or_true, true_or, or_false, false_or, not_true, not_false_iff, decide_true, decide_false, reduceCtorEq, Bool.true_and, Bool.and_true, Bool.false_and, Bool.and_false, Bool.true_or, Bool.or_true, Bool.false_or, Bool.or_false, _root_.eq_self, Hv.wN, Hv.wB, Hv.wC, Hv.wR, Hv.ok_ok, cI_le]
  rw [if_pos (by simp; omega)]
  rfl
end Law

namespace Law
open PySem Hv
theorem F27_ok {d : Dt} (h : isD d = true) (hl : d ≠ ⟨9999, 12, 31⟩) : ∃ e, F27 d = .ok e ∧ isD e = true ∧ num e = num d + 1 := by
  obtain ⟨h1, h2, h3, h4, h5, h6⟩ := isD_iff.mp h
  unfold F27
  simp (disch := first | assumption | omega | (simp only [List.length_append, List.length_cons, List.length_nil, List.length_map, List.length_reverse, List.length_take, List.length_drop, List.length_dropLast, List.length_singleton]; omega)) only [M.ok_bind, M.exc_bind, M.ofO_some, Hv.bindS_ok, Hv.bindS_exc, Hv.seq_next, Hv.seq_ret, Hv.seq_exc, Hv.seq_brk, Hv.seq_cnt, Hv.toM_ret, Hv.toM_exc, Hv.toN_ret, Hv.toN_next, Hv.toN_exc, Hv.tot_ok, decide_eq_true_eq, Bool.and_eq_true, Bool.or_eq_true, Bool.not_eq_true', decide_eq_false_iff_not, if_true, if_false, Bool.false_eq_true, ite_self, Bool.not_true, Bool.not_false, true_and, and_true, false_and, and_false, or_true, true_or, or_false, false_or, not_true, not_false_iff, decide_true, decide_false, reduceCtorEq, Bool.true_and, Bool.and_true, Bool.false_and, Bool.and_false, Bool.true_or, Bool.or_true, Bool.false_or, Bool.or_false, _root_.eq_self, Hv.wN, Hv.wB, Hv.wC, Hv.wR, Hv.ok_ok, F24_eq]
  by_cases c1 : d.c < md d.a d.b
  · simp (disch := first | assumption | omega | (simp only [List.length_append, List.length_cons, List.length_nil, List.length_map, List.length_reverse, List.length_take, List.length_drop, List.length_dropLast, List.length_singleton]; omega)) only [M.ok_bind, M.exc_bind, M.ofO_some, Hv.bindS_ok, Hv.bindS_exc, Hv.seq_next, Hv.seq_ret, Hv.seq_exc, Hv.seq_brk, Hv.seq_cnt, Hv.toM_ret, Hv.toM_exc, Hv.toN_ret, Hv.toN_next, Hv.toN_exc, Hv.tot_ok, decide_eq_true_eq, Bool.and_eq_true, Bool.or_eq_true, Bool.not_eq_true', decide_eq_false_iff_not, if_true, if_false, Bool.false_eq_true, ite_self, Bool.not_true, Bool.not_false, true_and, and_true, false_and, and_false, or_true, true_or, or_false, false_or, not_true, not_false_iff, decide_true, decide_false, reduceCtorEq, Bool.true_and, Bool.and_true, Bool.false_and, Bool.and_false, Bool.true_or, Bool.or_true, Bool.false_or, Bool.or_false, _root_.eq_self, Hv.wN, Hv.wB, Hv.wC, Hv.wR, Hv.ok_ok, c1]
    refine ⟨_, rfl, isD_iff.mpr ⟨h1, h2, h3, h4, ?_, ?_⟩, ?_⟩
    · show 1 ≤ d.c + 1; omega
    · show d.c + 1 ≤ md d.a d.b; omega
    · show dby d.a + dbm d.a d.b + (d.c + 1) - 1 = dby d.a + dbm d.a d.b + d.c - 1 + 1; omega
  · by_cases c2 : d.b < 12
    · simp (disch := first | assumption | omega | (simp only [List.length_append, List.length_cons, List.length_nil, List.length_map, List.length_reverse, List.length_take, List.length_drop, List.length_dropLast, List.length_singleton]; omega)) only [M.ok_bind, M.exc_bind, M.ofO_some, Hv.bindS_ok, Hv.bindS_exc, Hv.seq_next, Hv.seq_ret, Hv.seq_exc, Hv.seq_brk, Hv.seq_cnt, Hv.toM_ret, Hv.toM_exc, Hv.toN_ret, Hv.toN_next, Hv.toN_exc, Hv.tot_ok, decide_eq_true_eq, Bool.and_eq_true, Bool.or_eq_true, Bool.not_eq_true', decide_eq_false_iff_not, if_true, if_false, Bool.false_eq_true, ite_self, Bool.not_true, Bool.not_false, true_and, and_true, false_and, and_false, or_true, true_or, or_false, false_or, not_true, not_false_iff, decide_true, decide_false, reduceCtorEq, Bool.true_and, Bool.and_true, Bool.false_and, Bool.and_false, Bool.true_or, Bool.or_true, Bool.false_or, Bool.or_false, _root_.eq_self, Hv.wN, Hv.wB, Hv.wC, Hv.wR, Hv.ok_ok, c1, c2]
      have hm := md_rg d.a (d.b + 1)
      refine ⟨_, rfl, isD_iff.mpr ⟨h1, h2, ?_, ?_, ?_, ?_⟩, ?_⟩
      · show 1 ≤ d.b + 1; omega
      · show d.b + 1 ≤ 12; omega
      · show (1 : Int) ≤ 1; omega
      · show 1 ≤ md d.a (d.b + 1); omega
      · show dby d.a + dbm d.a (d.b + 1) + 1 - 1 = dby d.a + dbm d.a d.b + d.c - 1 + 1
        rw [dbm_s _ _ h3]; omega
    · simp (disch := first | assumption | omega | (simp only [List.length_append, List.length_cons, List.length_nil, List.length_map, List.length_reverse, List.length_take, List.length_drop, List.length_dropLast, List.length_singleton]; omega)) only [M.ok_bind, M.exc_bind, M.ofO_some, Hv.bindS_ok, Hv.bindS_exc, Hv.seq_next, Hv.seq_ret, Hv.seq_exc, Hv.seq_brk, Hv.seq_cnt, Hv.toM_ret, Hv.toM_exc, Hv.toN_ret, Hv.toN_next, Hv.toN_exc, Hv.tot_ok, decide_eq_true_eq, Bool.and_eq_true, Bool.or_eq_true, Bool.not_eq_true', decide_eq_false_iff_not, if_true, if_false, Bool.false_eq_true, ite_self, Bool.not_true, Bool.not_false, true_and, and_true, false_and, and_false, or_true, true_or, or_false, false_or, not_true, not_false_iff, decide_true, decide_false, reduceCtorEq, Bool.true_and, Bool.and_true, Bool.false_and, Bool.and_false, Bool.true_or, Bool.or_true, Bool.false_or, Bool.or_false, _root_.eq_self, Hv.wN, Hv.wB, Hv.wC, Hv.wR, Hv.ok_ok, c1, c2]
      have hb : d.b = 12 := by omega
      have hm := md_rg (d.a + 1) 1
      have hy : d.a < 9999 := by
        by_cases hy : d.a < 9999
        · exact hy
        · exfalso
          refine hl ?_
          have ha : d.a = 9999 := by omega
          rw [hb, ha, show md 9999 12 = 31 from rfl] at c1 h6
          cases d with
          | mk a b c =>
            simp only at ha hb c1 h6
            have hc : c = 31 := by omega
            rw [ha, hb, hc]
      have e1 := dbm_s d.a 12 (by decide)
      have e2 := dbm_13 d.a
      have e3 := dby_s d.a
      rw [show (12 : Int) + 1 = 13 by rfl] at e1
      refine ⟨_, rfl, isD_iff.mpr ⟨?_, ?_, ?_, ?_, ?_, ?_⟩, ?_⟩
      · show 1 ≤ d.a + 1; omega
      · show d.a + 1 ≤ 9999; omega
      · show (1 : Int) ≤ 1; omega
      · show (1 : Int) ≤ 12; omega
      · show (1 : Int) ≤ 1; omega
      · show 1 ≤ md (d.a + 1) 1; omega
      · show dby (d.a + 1) + dbm (d.a + 1) 1 + 1 - 1 = dby d.a + dbm d.a d.b + d.c - 1 + 1
        rw [dbm_1, hb]
        rw [hb] at c1 h6
        omega
theorem F28_ok (cell : Int) : Ok (F28 cell) fun d => isD d = true := by
  unfold F28
  obtain ⟨dr, e, hl, hm⟩ := numbers cell 4 55440 (by decide) (by decide) (by decide) (by decide)
  have a1 := mod_rg (gx dr 0) (n := 9999) (by decide)
  have a2 := mod_rg (gx dr 0) (n := 99) (by decide)
  have a3 := mod_rg (gx dr 0) (n := 2499) (by decide)
  have a4 := mod_rg (gx dr 0) (n := 200) (by decide)
  have a5 := mod_rg (gx dr 3) (n := 6) (by decide)
  have a6 := mod_rg (gx dr 1) (n := 12) (by decide)
  have a7 := mod_rg (gx dr 3 / 24) (n := 4) (by decide)
  simp (disch := first | assumption | omega | (simp only [List.length_append, List.length_cons, List.length_nil, List.length_map, List.length_reverse, List.length_take, List.length_drop, List.length_dropLast, List.length_singleton]; omega)) only [M.ok_bind, M.exc_bind, M.ofO_some, Hv.bindS_ok, Hv.bindS_exc, Hv.seq_next, Hv.seq_ret, Hv.seq_exc, Hv.seq_brk, Hv.seq_cnt, Hv.toM_ret, Hv.toM_exc, Hv.toN_ret, Hv.toN_next, Hv.toN_exc, Hv.tot_ok, decide_eq_true_eq, Bool.and_eq_true, Bool.or_eq_true, Bool.not_eq_true', decide_eq_false_iff_not, if_true, if_false, Bool.false_eq_true, ite_self, Bool.not_true, Bool.not_false, true_and, and_true, false_and, and_false, or_true, true_or, or_false, false_or, not_true, not_false_iff, decide_true, decide_false, reduceCtorEq, Bool.true_and, Bool.and_true, Bool.false_and, Bool.and_false, Bool.true_or, Bool.or_true, Bool.false_or, Bool.or_false, _root_.eq_self, Hv.wN, Hv.wB, Hv.wC, Hv.wR, Hv.ok_ok, e, getM_ok, modM_ok, divM_ok]
  rw [mulM_l (by decide)]
  simp (disch := first | assumption | omega | (simp only [List.length_append, List.length_cons, List.length_nil, List.length_map, List.length_reverse, List.length_take, List.length_drop, List.length_dropLast, List.length_singleton]; omega)) only [M.ok_bind, M.exc_bind, M.ofO_some, Hv.bindS_ok, Hv.bindS_exc, Hv.seq_next, Hv.seq_ret, Hv.seq_exc, Hv.seq_brk, Hv.seq_cnt, Hv.toM_ret, Hv.toM_exc, Hv.toN_ret, Hv.toN_next, Hv.toN_exc, Hv.tot_ok, decide_eq_true_eq, Bool.and_eq_true, Bool.or_eq_true, Bool.not_eq_true', decide_eq_false_iff_not, if_true, if_false, Bool.false_eq_true, ite_self, Bool.not_true, Bool.not_false, true_and, and_true, false_and, and_false, or_true, true_or, or_false, false_or, not_true, not_false_iff, decide_true, decide_false, reduceCtorEq, Bool.true_and, Bool.and_true, Bool.false_and, Bool.and_false, Bool.true_or, Bool.or_true, Bool.false_or, Bool.or_false, _root_.eq_self, Hv.wN, Hv.wB, Hv.wC, Hv.wR, Hv.ok_ok]
  rw [mulM_l (by decide)]
  simp (disch := first | assumption | omega | (simp only [List.length_append, List.length_cons, List.length_nil, List.length_map, List.length_reverse, List.length_take, List.length_drop, List.length_dropLast, List.length_singleton]; omega)) only [M.ok_bind, M.exc_bind, M.ofO_some, Hv.bindS_ok, Hv.bindS_exc, Hv.seq_next, Hv.seq_ret, Hv.seq_exc, Hv.seq_brk, Hv.seq_cnt, Hv.toM_ret, Hv.toM_exc, Hv.toN_ret, Hv.toN_next, Hv.toN_exc, Hv.tot_ok, decide_eq_true_eq, Bool.and_eq_true, Bool.or_eq_true, Bool.not_eq_true', decide_eq_false_iff_not, if_true, if_false, Bool.false_eq_true, ite_self, Bool.not_true, Bool.not_false, true_and, and_true, false_and, and_false, or_true, true_or, or_false, false_or, not_true, not_false_iff, decide_true, decide_false, reduceCtorEq, Bool.true_and, Bool.and_true, Bool.false_and, Bool.and_false, Bool.true_or, Bool.or_true, Bool.false_or, Bool.or_false, _root_.eq_self, Hv.wN, Hv.wB, Hv.wC, Hv.wR, Hv.ok_ok]
  have hy : Ok (getM [1 + gx dr 0 % 9999, 100 * (1 + gx dr 0 % 99), 4 * (1 + gx dr 0 % 2499), 1900 + gx dr 0 % 200, 1, 9999] (gx dr 3 % 6)) fun y => 1 ≤ y ∧ y ≤ 9999 := by
    rw [getM_ok a5.1 (by simp; omega)]
    refine okI ?_
    have := gx_mem (xs := [1 + gx dr 0 % 9999, 100 * (1 + gx dr 0 % 99), 4 * (1 + gx dr 0 % 2499), 1900 + gx dr 0 % 200, 1, 9999]) a5.1 (by simp; omega)
    generalize gx (_ : List Int) (gx dr 3 % 6) = y at this
    simp only [List.mem_cons, List.not_mem_nil, or_false] at this
    omega
  obtain ⟨y, ey, y1, y2⟩ := hy
  simp (disch := first | assumption | omega | (simp only [List.length_append, List.length_cons, List.length_nil, List.length_map, List.length_reverse, List.length_take, List.length_drop, List.length_dropLast, List.length_singleton]; omega)) only [M.ok_bind, M.exc_bind, M.ofO_some, Hv.bindS_ok, Hv.bindS_exc, Hv.seq_next, Hv.seq_ret, Hv.seq_exc, Hv.seq_brk, Hv.seq_cnt, Hv.toM_ret, Hv.toM_exc, Hv.toN_ret, Hv.toN_next, Hv.toN_exc, Hv.tot_ok, decide_eq_true_eq, Bool.and_eq_true, Bool.or_eq_true, Bool.not_eq_true', decide_eq_false_iff_not, if_true, if_false, Bool.false_eq_true, ite_self, Bool.not_true, Bool.not_false, true_and, and_true, false_and, and_false, or_true, true_or, or_false, false_or, not_true, not_false_iff, decide_true, decide_false, reduceCtorEq, Bool.true_and, Bool.and_true, Bool.false_and, Bool.and_false, Bool.true_or, Bool.or_true, Bool.false_or, Bool.or_false, _root_.eq_self, Hv.wN, Hv.wB, Hv.wC, Hv.wR, Hv.ok_ok, ey]
  refine wM (wQ' (P := fun m => 1 ≤ m ∧ m ≤ 12) (wIp (fun _ => by simp (disch := first | assumption | omega | (simp only [List.length_append, List.length_cons, List.length_nil, List.length_map, List.length_reverse, List.length_take, List.length_drop, List.length_dropLast, List.length_singleton]; omega)) only [M.ok_bind, M.exc_bind, M.ofO_some, Hv.bindS_ok, Hv.bindS_exc, Hv.seq_next, Hv.seq_ret, Hv.seq_exc, Hv.seq_brk, Hv.seq_cnt, Hv.toM_ret, Hv.toM_exc, Hv.toN_ret, Hv.toN_next, Hv.toN_exc, Hv.tot_ok, decide_eq_true_eq, Bool.and_eq_true, Bool.or_eq_true, Bool.not_eq_true', decide_eq_false_iff_not, if_true, if_false, Bool.false_eq_true, ite_self, Bool.not_true, Bool.not_false, true_and, and_true, false_and, and_false, or_true, true_or, or_false, false_or, not_true, not_false_iff, decide_true, decide_false, reduceCtorEq, Bool.true_and, Bool.and_true, Bool.false_and, Bool.and_false, Bool.true_or, Bool.or_true, Bool.false_or, Bool.or_false, _root_.eq_self, Hv.wN, Hv.wB, Hv.wC, Hv.wR, Hv.ok_ok]; omega) fun _ => by simp (disch := first | assumption | omega | (simp only [List.length_append, List.length_cons, List.length_nil, List.length_map, List.length_reverse, List.length_take, List.length_drop, List.length_dropLast, List.length_singleton]; omega)) only [M.ok_bind, M.exc_bind, M.ofO_some, Hv.bindS_ok, Hv.bindS_exc, Hv.seq_next, Hv.seq_ret, Hv.seq_exc, Hv.seq_brk, Hv.seq_cnt, Hv.toM_ret, Hv.toM_exc, Hv.toN_ret, Hv.toN_next, Hv.toN_exc, Hv.tot_ok, decide_eq_true_eq, Bool.and_eq_true, Bool.or_eq_true, Bool.not_eq_true', decide_eq_false_iff_not, if_true, if_false, Bool.false_eq_true, ite_self, Bool.not_true, Bool.not_false, true_and, and_true, false_and, and_false, or_true, true_or, or_false, false_or, not_true, not_false_iff, decide_true, decide_false, reduceCtorEq, Bool.true_and, Bool.and_true, Bool.false_and, Bool.and_false, Bool.true_or, Bool.or_true, Bool.false_or, Bool.or_false, _root_.eq_self, Hv.wN, Hv.wB, Hv.wC, Hv.wR, Hv.ok_ok]; omega) fun m hm => ?_)
  have hd := md_rg y m
  have a8 := mod_rg (gx dr 2) (n := md y m) (by omega)
  simp (disch := first | assumption | omega | (simp only [List.length_append, List.length_cons, List.length_nil, List.length_map, List.length_reverse, List.length_take, List.length_drop, List.length_dropLast, List.length_singleton]; omega)) only [M.ok_bind, M.exc_bind, M.ofO_some, Hv.bindS_ok, Hv.bindS_exc, Hv.seq_next, Hv.seq_ret, Hv.seq_exc, Hv.seq_brk, Hv.seq_cnt, Hv.toM_ret, Hv.toM_exc, Hv.toN_ret, Hv.toN_next, Hv.toN_exc, Hv.tot_ok, decide_eq_true_eq, Bool.and_eq_true, Bool.or_eq_true, Bool.not_eq_true', decide_eq_false_iff_not, if_true, if_false, Bool.false_eq_true, ite_self, Bool.not_true, Bool.not_false, true_and, and_true, false_and, and_false, or_true, true_or, or_false, false_or, not_true, not_false_iff, decide_true, decide_false, reduceCtorEq, Bool.true_and, Bool.and_true, Bool.false_and, Bool.and_false, Bool.true_or, Bool.or_true, Bool.false_or, Bool.or_false, _root_.eq_self, Hv.wN, Hv.wB, Hv.wC, Hv.wR, Hv.ok_ok, F24_eq, modM_ok]
  have hg : Ok (getM [1 + gx dr 2 % md y m, md y m, 1, max 1 (md y m - 1)] (gx dr 3 / 24 % 4)) fun c => 1 ≤ c ∧ c ≤ md y m := by
    rw [getM_ok a7.1 (by simp; omega)]
    refine okI ?_
    have := gx_mem (xs := [1 + gx dr 2 % md y m, md y m, 1, max 1 (md y m - 1)]) a7.1 (by simp; omega)
    generalize gx (_ : List Int) (gx dr 3 / 24 % 4) = y at this
    simp only [List.mem_cons, List.not_mem_nil, or_false] at this
    omega
  obtain ⟨c, ec, c1, c2⟩ := hg
  simp (disch := first | assumption | omega | (simp only [List.length_append, List.length_cons, List.length_nil, List.length_map, List.length_reverse, List.length_take, List.length_drop, List.length_dropLast, List.length_singleton]; omega)) only [M.ok_bind, M.exc_bind, M.ofO_some, Hv.bindS_ok, Hv.bindS_exc, Hv.seq_next, Hv.seq_ret, Hv.seq_exc, Hv.seq_brk, Hv.seq_cnt, Hv.toM_ret, Hv.toM_exc, Hv.toN_ret, Hv.toN_next, Hv.toN_exc, Hv.tot_ok, decide_eq_true_eq, Bool.and_eq_true, Bool.or_eq_true, Bool.not_eq_true', decide_eq_false_iff_not, if_true, if_false, Bool.false_eq_true, ite_self, Bool.not_true, Bool.not_false, true_and, and_true, false_and, and_false, or_true, true_or, or_false, false_or, not_true, not_false_iff, decide_true, decide_false, reduceCtorEq, Bool.true_and, Bool.and_true, Bool.false_and, Bool.and_false, Bool.true_or, Bool.or_true, Bool.false_or, Bool.or_false, _root_.eq_self, Hv.wN, Hv.wB, Hv.wC, Hv.wR, Hv.ok_ok, ec]
  exact isD_iff.mpr ⟨y1, y2, hm.1, hm.2, c1, c2⟩
theorem F29_no (d : Dt) (w : Int) (h : isD d = false) : F29 d w = .ok true := by
  unfold F29
  have h19 : F19 d = .exc "NoDate" := by unfold F19; simp (disch := first | assumption | omega | (simp only [List.length_append, List.length_cons, List.length_nil, List.length_map, List.length_reverse, List.length_take, List.length_drop, List.length_dropLast, List.length_singleton]; omega)) only [M.ok_bind, M.exc_bind, M.ofO_some, Hv.bindS_ok, Hv.bindS_exc, Hv.seq_next, Hv.seq_ret, Hv.seq_exc, Hv.seq_brk, Hv.seq_cnt, Hv.toM_ret, Hv.toM_exc, Hv.toN_ret, Hv.toN_next, Hv.toN_exc, Hv.tot_ok, decide_eq_true_eq, Bool.and_eq_true, Bool.or_eq_true, Bool.not_eq_true', decide_eq_false_iff_not, if_true, if_false, Bool.false_eq_true, ite_self, Bool.not_true, Bool.not_false, true_and, and_true, false_and, and_false, or_true, true_or, or_false, false_or, not_true, not_false_iff, decide_true, decide_false, reduceCtorEq, Bool.true_and, Bool.and_true, Bool.false_and, Bool.and_false, Bool.true_or, Bool.or_true, Bool.false_or, Bool.or_false, _root_.eq_self, Hv.wN, Hv.wB, Hv.wC, Hv.wR, Hv.ok_ok, F18_eq, h]
  simp (disch := first | assumption | omega | (simp only [List.length_append, List.length_cons, List.length_nil, List.length_map, List.length_reverse, List.length_take, List.length_drop, List.length_dropLast, List.length_singleton]; omega)) only [M.ok_bind, M.exc_bind, M.ofO_some, Hv.bindS_ok, Hv.bindS_exc, Hv.seq_next, Hv.seq_ret, Hv.seq_exc, Hv.seq_brk, Hv.seq_cnt, Hv.toM_ret, Hv.toM_exc, Hv.toN_ret, Hv.toN_next, Hv.toN_exc, Hv.tot_ok, decide_eq_true_eq, Bool.and_eq_true, Bool.or_eq_true, Bool.not_eq_true', decide_eq_false_iff_not, if_true, if_false, Bool.false_eq_true, ite_self, Bool.not_true, Bool.not_false, true_and, and_true, false_and, and_false, or_true, true_or, or_false, false_or, not_true, not_false_iff, decide_true, decide_false, reduceCtorEq, Bool.true_and, Bool.and_true, Bool.false_and, Bool.and_false, Bool.true_or, Bool.or_true, Bool.false_or, Bool.or_false, _root_.eq_self, Hv.wN, Hv.wB, Hv.wC, Hv.wR, Hv.ok_ok, F12_eq, F15_eq, F18_eq, h, h19]
  by_cases h0 : w = 0
  · simp (disch := first | assumption | omega | (simp only [List.length_append, List.length_cons, List.length_nil, List.length_map, List.length_reverse, List.length_take, List.length_drop, List.length_dropLast, List.length_singleton]; omega)) only [M.ok_bind, M.exc_bind, M.ofO_some, Hv.bindS_ok, Hv.bindS_exc, Hv.seq_next, Hv.seq_ret, Hv.seq_exc, Hv.seq_brk, Hv.seq_cnt, Hv.toM_ret, Hv.toM_exc, Hv.toN_ret, Hv.toN_next, Hv.toN_exc, Hv.tot_ok, decide_eq_true_eq, Bool.and_eq_true, Bool.or_eq_true, Bool.not_eq_true', decide_eq_false_iff_not, if_true, if_false, Bool.false_eq_true, ite_self, Bool.not_true, Bool.not_false, true_and, and_true, false_and, and_false, or_true, true_or, or_false, false_or, not_true, not_false_iff, decide_true, decide_false, reduceCtorEq, Bool.true_and, Bool.and_true, Bool.false_and, Bool.and_false, Bool.true_or, Bool.or_true, Bool.false_or, Bool.or_false, _root_.eq_self, Hv.wN, Hv.wB, Hv.wC, Hv.wR, Hv.ok_ok, h0, tryR_exc]
  · by_cases h1 : w = 1
    · simp (disch := first | assumption | omega | (simp only [List.length_append, List.length_cons, List.length_nil, List.length_map, List.length_reverse, List.length_take, List.length_drop, List.length_dropLast, List.length_singleton]; omega)) only [M.ok_bind, M.exc_bind, M.ofO_some, Hv.bindS_ok, Hv.bindS_exc, Hv.seq_next, Hv.seq_ret, Hv.seq_exc, Hv.seq_brk, Hv.seq_cnt, Hv.toM_ret, Hv.toM_exc, Hv.toN_ret, Hv.toN_next, Hv.toN_exc, Hv.tot_ok, decide_eq_true_eq, Bool.and_eq_true, Bool.or_eq_true, Bool.not_eq_true', decide_eq_false_iff_not, if_true, if_false, Bool.false_eq_true, ite_self, Bool.not_true, Bool.not_false, true_and, and_true, false_and, and_false, or_true, true_or, or_false, false_or, not_true, not_false_iff, decide_true, decide_false, reduceCtorEq, Bool.true_and, Bool.and_true, Bool.false_and, Bool.and_false, Bool.true_or, Bool.or_true, Bool.false_or, Bool.or_false, _root_.eq_self, Hv.wN, Hv.wB, Hv.wC, Hv.wR, Hv.ok_ok, h0, h1, tryR_exc]
    · by_cases h2 : w = 2
      · simp (disch := first | assumption | omega | (simp only [List.length_append, List.length_cons, List.length_nil, List.length_map, List.length_reverse, List.length_take, List.length_drop, List.length_dropLast, List.length_singleton]; omega)) only [M.ok_bind, M.exc_bind, M.ofO_some, Hv.bindS_ok, Hv.bindS_exc, Hv.seq_next, Hv.seq_ret, Hv.seq_exc, Hv.seq_brk, Hv.seq_cnt, Hv.toM_ret, Hv.toM_exc, Hv.toN_ret, Hv.toN_next, Hv.toN_exc, Hv.tot_ok, decide_eq_true_eq, Bool.and_eq_true, Bool.or_eq_true, Bool.not_eq_true', decide_eq_false_iff_not, if_true, if_false, Bool.false_eq_true, ite_self, Bool.not_true, Bool.not_false, true_and, and_true, false_and, and_false, or_true, true_or, or_false, false_or, not_true, not_false_iff, decide_true, decide_false, reduceCtorEq, Bool.true_and, Bool.and_true, Bool.false_and, Bool.and_false, Bool.true_or, Bool.or_true, Bool.false_or, Bool.or_false, _root_.eq_self, Hv.wN, Hv.wB, Hv.wC, Hv.wR, Hv.ok_ok, h0, h1, h2, tryR_exc]
      · simp (disch := first | assumption | omega | (simp only [List.length_append, List.length_cons, List.length_nil, List.length_map, List.length_reverse, List.length_take, List.length_drop, List.length_dropLast, List.length_singleton]; omega)) only [M.ok_bind, M.exc_bind, M.ofO_some, Hv.bindS_ok, Hv.bindS_exc, Hv.seq_next, Hv.seq_ret, Hv.seq_exc, Hv.seq_brk, Hv.seq_cnt, Hv.toM_ret, Hv.toM_exc, Hv.toN_ret, Hv.toN_next, Hv.toN_exc, Hv.tot_ok, decide_eq_true_eq, Bool.and_eq_true, Bool.or_eq_true, Bool.not_eq_true', decide_eq_false_iff_not, if_true, if_false, Bool.false_eq_true, ite_self, Bool.not_true, Bool.not_false, true_and, and_true, false_and, and_false, or_true, true_or, or_false, false_or, not_true, not_false_iff, decide_true, decide_false, reduceCtorEq, Bool.true_and, Bool.and_true, Bool.false_and, Bool.and_false, Bool.true_or, Bool.or_true, Bool.false_or, Bool.or_false, _root_.eq_self, Hv.wN, Hv.wB, Hv.wC, Hv.wR, Hv.ok_ok, h0, h1, h2, tryR_exc]
theorem F30_no (n : Int) (h : n < 0 ∨ 3652058 < n) : F30 n = .ok true := by
  unfold F30
  simp (disch := first | assumption | omega | (simp only [List.length_append, List.length_cons, List.length_nil, List.length_map, List.length_reverse, List.length_take, List.length_drop, List.length_dropLast, List.length_singleton]; omega)) only [M.ok_bind, M.exc_bind, M.ofO_some, Hv.bindS_ok, Hv.bindS_exc, Hv.seq_next, Hv.seq_ret, Hv.seq_exc, Hv.seq_brk, Hv.seq_cnt, Hv.toM_ret, Hv.toM_exc, Hv.toN_ret, Hv.toN_next, Hv.toN_exc, Hv.tot_ok, decide_eq_true_eq, Bool.and_eq_true, Bool.or_eq_true, Bool.not_eq_true', decide_eq_false_iff_not, if_true, if_false, Bool.false_eq_true, ite_self, Bool.not_true, Bool.not_false, true_and, and_true, false_and, and_false, or_true, true_or, or_false, false_or, not_true, not_false_iff, decide_true, decide_false, reduceCtorEq, Bool.true_and, Bool.and_true, Bool.false_and, Bool.and_false, Bool.true_or, Bool.or_true, Bool.false_or, Bool.or_false, _root_.eq_self, Hv.wN, Hv.wB, Hv.wC, Hv.wR, Hv.ok_ok, F17_no n h, tryR_exc]
theorem F31_ok (d : Dt) (dr : List Int) (hl : (dr.length : Int) = 6) : Ok (F31 d dr) fun l => ∀ e ∈ l, isD e = false := by
  unfold F31
  simp (disch := first | assumption | omega | (simp only [List.length_append, List.length_cons, List.length_nil, List.length_map, List.length_reverse, List.length_take, List.length_drop, List.length_dropLast, List.length_singleton]; omega)) only [M.ok_bind, M.exc_bind, M.ofO_some, Hv.bindS_ok, Hv.bindS_exc, Hv.seq_next, Hv.seq_ret, Hv.seq_exc, Hv.seq_brk, Hv.seq_cnt, Hv.toM_ret, Hv.toM_exc, Hv.toN_ret, Hv.toN_next, Hv.toN_exc, Hv.tot_ok, decide_eq_true_eq, Bool.and_eq_true, Bool.or_eq_true, Bool.not_eq_true', decide_eq_false_iff_not, if_true, if_false, Bool.false_eq_true, ite_self, Bool.not_true, Bool.not_false, true_and, and_true, false_and, and_false, or_true, true_or, or_false, false_or, not_true, not_false_iff, decide_true, decide_false, reduceCtorEq, Bool.true_and, Bool.and_true, Bool.false_and, Bool.and_false, Bool.true_or, Bool.or_true, Bool.false_or, Bool.or_false, _root_.eq_self, Hv.wN, Hv.wB, Hv.wC, Hv.wR, Hv.ok_ok, F24_eq, getM_ok, catL_ok, F25_eq]
  refine wM (wS' (P := fun l => ∀ e ∈ l, isD e = false) ?_ fun l hl => ?_)
  · refine (okLc (P := fun e => isD e = false) fun e _ => okI fun h => okI ?_).mp fun l h => h.2
    simpa using h
  · exact hl
end Law

namespace Law
open PySem Hv
theorem same_i (a : Int) : sameM a a = .ok true := if_pos ⟨rfl, rfl⟩
theorem same_d (a : Dt) : sameM a a = .ok true := if_pos ⟨rfl, rfl⟩
theorem law_ok (ns : List Int) : F32 ns = .ok true := by
  refine Ok.eq ?_
  unfold F32
  have c4 : F20 ns 4 = .ok (ns.getD 4 0) := cell ns 4
  obtain ⟨dr, e1, hd1, hd2⟩ := numbers (ns.getD 4 0) 6 55440 (by omega) (by omega) (by omega) (by omega)
  simp (disch := first | assumption | omega | (simp only [List.length_append, List.length_cons, List.length_nil, List.length_map, List.length_reverse, List.length_take, List.length_drop, List.length_dropLast, List.length_singleton]; omega)) only [M.ok_bind, M.exc_bind, M.ofO_some, Hv.bindS_ok, Hv.bindS_exc, Hv.seq_next, Hv.seq_ret, Hv.seq_exc, Hv.seq_brk, Hv.seq_cnt, Hv.toM_ret, Hv.toM_exc, Hv.toN_ret, Hv.toN_next, Hv.toN_exc, Hv.tot_ok, decide_eq_true_eq, Bool.and_eq_true, Bool.or_eq_true, Bool.not_eq_true', decide_eq_false_iff_not, if_true, if_false, Bool.false_eq_true, ite_self, Bool.not_true, Bool.not_false, true_and, and_true, false_and, and_false, or_true, true_or, or_false, false_or, not_true, not_false_iff, decide_true, decide_false, reduceCtorEq, Bool.true_and, Bool.and_true, Bool.false_and, Bool.and_false, Bool.true_or, Bool.or_true, Bool.false_or, Bool.or_false, _root_.eq_self, Hv.wN, Hv.wB, Hv.wC, Hv.wR, Hv.ok_ok, c4, e1, rg1_ok, pow18]
  refine wM (wQ' (P := fun _ => True) (wRg (fun _ _ => True) (by decide) trivial (fun k s h0 h1 _ => ?_) fun _ h => h) fun _ _ => ?_)
  · have ck : F20 ns k = .ok (ns.getD k.toNat 0) := by
      obtain ⟨n, rfl⟩ := Int.eq_ofNat_of_zero_le h0
      exact cell ns n
    simp (disch := first | assumption | omega | (simp only [List.length_append, List.length_cons, List.length_nil, List.length_map, List.length_reverse, List.length_take, List.length_drop, List.length_dropLast, List.length_singleton]; omega)) only [M.ok_bind, M.exc_bind, M.ofO_some, Hv.bindS_ok, Hv.bindS_exc, Hv.seq_next, Hv.seq_ret, Hv.seq_exc, Hv.seq_brk, Hv.seq_cnt, Hv.toM_ret, Hv.toM_exc, Hv.toN_ret, Hv.toN_next, Hv.toN_exc, Hv.tot_ok, decide_eq_true_eq, Bool.and_eq_true, Bool.or_eq_true, Bool.not_eq_true', decide_eq_false_iff_not, if_true, if_false, Bool.false_eq_true, ite_self, Bool.not_true, Bool.not_false, true_and, and_true, false_and, and_false, or_true, true_or, or_false, false_or, not_true, not_false_iff, decide_true, decide_false, reduceCtorEq, Bool.true_and, Bool.and_true, Bool.false_and, Bool.and_false, Bool.true_or, Bool.or_true, Bool.false_or, Bool.or_false, _root_.eq_self, Hv.wN, Hv.wB, Hv.wC, Hv.wR, Hv.ok_ok, ck]
    rw [mulM_l (by omega)]
    simp (disch := first | assumption | omega | (simp only [List.length_append, List.length_cons, List.length_nil, List.length_map, List.length_reverse, List.length_take, List.length_drop, List.length_dropLast, List.length_singleton]; omega)) only [M.ok_bind, M.exc_bind, M.ofO_some, Hv.bindS_ok, Hv.bindS_exc, Hv.seq_next, Hv.seq_ret, Hv.seq_exc, Hv.seq_brk, Hv.seq_cnt, Hv.toM_ret, Hv.toM_exc, Hv.toN_ret, Hv.toN_next, Hv.toN_exc, Hv.tot_ok, decide_eq_true_eq, Bool.and_eq_true, Bool.or_eq_true, Bool.not_eq_true', decide_eq_false_iff_not, if_true, if_false, Bool.false_eq_true, ite_self, Bool.not_true, Bool.not_false, true_and, and_true, false_and, and_false, or_true, true_or, or_false, false_or, not_true, not_false_iff, decide_true, decide_false, reduceCtorEq, Bool.true_and, Bool.and_true, Bool.false_and, Bool.and_false, Bool.true_or, Bool.or_true, Bool.false_or, Bool.or_false, _root_.eq_self, Hv.wN, Hv.wB, Hv.wC, Hv.wR, Hv.ok_ok]
    obtain ⟨d, ed, hd⟩ := F28_ok (ns.getD k.toNat 0 + k * if ns.getD k.toNat 0 < 1000000000000000000 then 1 else 0)
    obtain ⟨g1, g2, g3, g4, g5, g6⟩ := isD_iff.mp hd
    have f26 := F26_eq d g1 g2 g3 (by omega)
    have f12 : F12 d = .ok () := by rw [F12_eq, if_pos hd]
    have f15 : F15 d = .ok (num d) := by rw [F15_eq, if_pos hd]
    have f18 : F18 d = .ok (num d % 7) := by rw [F18_eq, if_pos hd]
    simp (disch := first | assumption | omega | (simp only [List.length_append, List.length_cons, List.length_nil, List.length_map, List.length_reverse, List.length_take, List.length_drop, List.length_dropLast, List.length_singleton]; omega)) only [M.ok_bind, M.exc_bind, M.ofO_some, Hv.bindS_ok, Hv.bindS_exc, Hv.seq_next, Hv.seq_ret, Hv.seq_exc, Hv.seq_brk, Hv.seq_cnt, Hv.toM_ret, Hv.toM_exc, Hv.toN_ret, Hv.toN_next, Hv.toN_exc, Hv.tot_ok, decide_eq_true_eq, Bool.and_eq_true, Bool.or_eq_true, Bool.not_eq_true', decide_eq_false_iff_not, if_true, if_false, Bool.false_eq_true, ite_self, Bool.not_true, Bool.not_false, true_and, and_true, false_and, and_false, or_true, true_or, or_false, false_or, not_true, not_false_iff, decide_true, decide_false, reduceCtorEq, Bool.true_and, Bool.and_true, Bool.false_and, Bool.and_false, Bool.true_or, Bool.or_true, Bool.false_or, Bool.or_false, _root_.eq_self, Hv.wN, Hv.wB, Hv.wC, Hv.wR, Hv.ok_ok, ed, f26, f12, f15, f18, F17_num hd, same_i, same_d, modM_ok]
    obtain ⟨ws, ew, hw⟩ := F31_ok d dr hd1
    refine wQ' (P := fun _ => True) (wIp (fun hne => ?_) fun _ => trivial) fun _ _ => ?_
    · obtain ⟨e, ee, he1, he2⟩ := F27_ok hd hne
      have f15e : F15 e = .ok (num d + 1) := by rw [F15_eq, if_pos he1, he2]
      have f17e : F17 (num d + 1) = .ok e := by rw [← he2]; exact F17_num he1
      simp (disch := first | assumption | omega | (simp only [List.length_append, List.length_cons, List.length_nil, List.length_map, List.length_reverse, List.length_take, List.length_drop, List.length_dropLast, List.length_singleton]; omega)) only [M.ok_bind, M.exc_bind, M.ofO_some, Hv.bindS_ok, Hv.bindS_exc, Hv.seq_next, Hv.seq_ret, Hv.seq_exc, Hv.seq_brk, Hv.seq_cnt, Hv.toM_ret, Hv.toM_exc, Hv.toN_ret, Hv.toN_next, Hv.toN_exc, Hv.tot_ok, decide_eq_true_eq, Bool.and_eq_true, Bool.or_eq_true, Bool.not_eq_true', decide_eq_false_iff_not, if_true, if_false, Bool.false_eq_true, ite_self, Bool.not_true, Bool.not_false, true_and, and_true, false_and, and_false, or_true, true_or, or_false, false_or, not_true, not_false_iff, decide_true, decide_false, reduceCtorEq, Bool.true_and, Bool.and_true, Bool.false_and, Bool.and_false, Bool.true_or, Bool.or_true, Bool.false_or, Bool.or_false, _root_.eq_self, Hv.wN, Hv.wB, Hv.wC, Hv.wR, Hv.ok_ok, ee, f15e, f17e, same_i, same_d]
    · simp (disch := first | assumption | omega | (simp only [List.length_append, List.length_cons, List.length_nil, List.length_map, List.length_reverse, List.length_take, List.length_drop, List.length_dropLast, List.length_singleton]; omega)) only [M.ok_bind, M.exc_bind, M.ofO_some, Hv.bindS_ok, Hv.bindS_exc, Hv.seq_next, Hv.seq_ret, Hv.seq_exc, Hv.seq_brk, Hv.seq_cnt, Hv.toM_ret, Hv.toM_exc, Hv.toN_ret, Hv.toN_next, Hv.toN_exc, Hv.tot_ok, decide_eq_true_eq, Bool.and_eq_true, Bool.or_eq_true, Bool.not_eq_true', decide_eq_false_iff_not, if_true, if_false, Bool.false_eq_true, ite_self, Bool.not_true, Bool.not_false, true_and, and_true, false_and, and_false, or_true, true_or, or_false, false_or, not_true, not_false_iff, decide_true, decide_false, reduceCtorEq, Bool.true_and, Bool.and_true, Bool.false_and, Bool.and_false, Bool.true_or, Bool.or_true, Bool.false_or, Bool.or_false, _root_.eq_self, Hv.wN, Hv.wB, Hv.wC, Hv.wR, Hv.ok_ok, ew]
      refine wQ' (P := fun _ => True) (wE (fun _ => True) trivial (fun w hwm _ _ => ?_) fun _ h => h) fun _ _ => trivial
      refine wQ' (P := fun _ => True) (wE (fun _ => True) trivial (fun x _ _ _ => ?_) fun _ h => h) fun _ _ => trivial
      simp (disch := first | assumption | omega | (simp only [List.length_append, List.length_cons, List.length_nil, List.length_map, List.length_reverse, List.length_take, List.length_drop, List.length_dropLast, List.length_singleton]; omega)) only [M.ok_bind, M.exc_bind, M.ofO_some, Hv.bindS_ok, Hv.bindS_exc, Hv.seq_next, Hv.seq_ret, Hv.seq_exc, Hv.seq_brk, Hv.seq_cnt, Hv.toM_ret, Hv.toM_exc, Hv.toN_ret, Hv.toN_next, Hv.toN_exc, Hv.tot_ok, decide_eq_true_eq, Bool.and_eq_true, Bool.or_eq_true, Bool.not_eq_true', decide_eq_false_iff_not, if_true, if_false, Bool.false_eq_true, ite_self, Bool.not_true, Bool.not_false, true_and, and_true, false_and, and_false, or_true, true_or, or_false, false_or, not_true, not_false_iff, decide_true, decide_false, reduceCtorEq, Bool.true_and, Bool.and_true, Bool.false_and, Bool.and_false, Bool.true_or, Bool.or_true, Bool.false_or, Bool.or_false, _root_.eq_self, Hv.wN, Hv.wB, Hv.wC, Hv.wR, Hv.ok_ok, F29_no w x (hw w hwm)]
  · have a1 := mod_rg (gx dr 3 * 60) (n := 3652059) (by decide)
    have a2 := mod_rg (gx dr 4 * 3607) (n := 3652059) (by decide)
    have hm5 := hd2 _ (gx_mem (xs := dr) (i := 5) (by decide) (by omega))
    have p20 : powM 10 20 = .ok 100000000000000000000 := by
      unfold powM
      rw [M.when_t (by decide)]
      rfl
    simp (disch := first | assumption | omega | (simp only [List.length_append, List.length_cons, List.length_nil, List.length_map, List.length_reverse, List.length_take, List.length_drop, List.length_dropLast, List.length_singleton]; omega)) only [M.ok_bind, M.exc_bind, M.ofO_some, Hv.bindS_ok, Hv.bindS_exc, Hv.seq_next, Hv.seq_ret, Hv.seq_exc, Hv.seq_brk, Hv.seq_cnt, Hv.toM_ret, Hv.toM_exc, Hv.toN_ret, Hv.toN_next, Hv.toN_exc, Hv.tot_ok, decide_eq_true_eq, Bool.and_eq_true, Bool.or_eq_true, Bool.not_eq_true', decide_eq_false_iff_not, if_true, if_false, Bool.false_eq_true, ite_self, Bool.not_true, Bool.not_false, true_and, and_true, false_and, and_false, or_true, true_or, or_false, false_or, not_true, not_false_iff, decide_true, decide_false, reduceCtorEq, Bool.true_and, Bool.and_true, Bool.false_and, Bool.and_false, Bool.true_or, Bool.or_true, Bool.false_or, Bool.or_false, _root_.eq_self, Hv.wN, Hv.wB, Hv.wC, Hv.wR, Hv.ok_ok, getM_ok, p20]
    rw [mulM_r (by decide), mulM_r (by decide)]
    simp (disch := first | assumption | omega | (simp only [List.length_append, List.length_cons, List.length_nil, List.length_map, List.length_reverse, List.length_take, List.length_drop, List.length_dropLast, List.length_singleton]; omega)) only [M.ok_bind, M.exc_bind, M.ofO_some, Hv.bindS_ok, Hv.bindS_exc, Hv.seq_next, Hv.seq_ret, Hv.seq_exc, Hv.seq_brk, Hv.seq_cnt, Hv.toM_ret, Hv.toM_exc, Hv.toN_ret, Hv.toN_next, Hv.toN_exc, Hv.tot_ok, decide_eq_true_eq, Bool.and_eq_true, Bool.or_eq_true, Bool.not_eq_true', decide_eq_false_iff_not, if_true, if_false, Bool.false_eq_true, ite_self, Bool.not_true, Bool.not_false, true_and, and_true, false_and, and_false, or_true, true_or, or_false, false_or, not_true, not_false_iff, decide_true, decide_false, reduceCtorEq, Bool.true_and, Bool.and_true, Bool.false_and, Bool.and_false, Bool.true_or, Bool.or_true, Bool.false_or, Bool.or_false, _root_.eq_self, Hv.wN, Hv.wB, Hv.wC, Hv.wR, Hv.ok_ok, modM_ok]
    refine wQ' (P := fun _ => True) (wE (fun _ => True) trivial (fun n hn _ _ => ?_) fun _ h => h) fun _ _ => ?_
    · have hr : 0 ≤ n ∧ n ≤ 3652058 := by
        simp only [List.mem_cons, List.not_mem_nil, or_false] at hn
        omega
      obtain ⟨d, ed, hd, hnum⟩ := F17_ok n hr.1 hr.2
      obtain ⟨g1, g2, g3, g4, g5, g6⟩ := isD_iff.mp hd
      have f26 := F26_eq d g1 g2 g3 (by omega)
      have hs : sameM d { a := d.a, b := d.b, c := d.c } = .ok true := same_d d
      simp (disch := first | assumption | omega | (simp only [List.length_append, List.length_cons, List.length_nil, List.length_map, List.length_reverse, List.length_take, List.length_drop, List.length_dropLast, List.length_singleton]; omega)) only [M.ok_bind, M.exc_bind, M.ofO_some, Hv.bindS_ok, Hv.bindS_exc, Hv.seq_next, Hv.seq_ret, Hv.seq_exc, Hv.seq_brk, Hv.seq_cnt, Hv.toM_ret, Hv.toM_exc, Hv.toN_ret, Hv.toN_next, Hv.toN_exc, Hv.tot_ok, decide_eq_true_eq, Bool.and_eq_true, Bool.or_eq_true, Bool.not_eq_true', decide_eq_false_iff_not, if_true, if_false, Bool.false_eq_true, ite_self, Bool.not_true, Bool.not_false, true_and, and_true, false_and, and_false, or_true, true_or, or_false, false_or, not_true, not_false_iff, decide_true, decide_false, reduceCtorEq, Bool.true_and, Bool.and_true, Bool.false_and, Bool.and_false, Bool.true_or, Bool.or_true, Bool.false_or, Bool.or_false, _root_.eq_self, Hv.wN, Hv.wB, Hv.wC, Hv.wR, Hv.ok_ok, ed, f26, F25_eq, hd, hs, hnum]
    · refine wQ' (P := fun _ => True) (wE (fun _ => True) trivial (fun n hn _ _ => ?_) fun _ h => h) fun _ _ => rfl
      have hr : n < 0 ∨ 3652058 < n := by
        simp only [List.mem_cons, List.not_mem_nil, or_false] at hn
        omega
      simp (disch := first | assumption | omega | (simp only [List.length_append, List.length_cons, List.length_nil, List.length_map, List.length_reverse, List.length_take, List.length_drop, List.length_dropLast, List.length_singleton]; omega)) only [M.ok_bind, M.exc_bind, M.ofO_some, Hv.bindS_ok, Hv.bindS_exc, Hv.seq_next, Hv.seq_ret, Hv.seq_exc, Hv.seq_brk, Hv.seq_cnt, Hv.toM_ret, Hv.toM_exc, Hv.toN_ret, Hv.toN_next, Hv.toN_exc, Hv.tot_ok, decide_eq_true_eq, Bool.and_eq_true, Bool.or_eq_true, Bool.not_eq_true', decide_eq_false_iff_not, if_true, if_false, Bool.false_eq_true, ite_self, Bool.not_true, Bool.not_false, true_and, and_true, false_and, and_false, or_true, true_or, or_false, false_or, not_true, not_false_iff, decide_true, decide_false, reduceCtorEq, Bool.true_and, Bool.and_true, Bool.false_and, Bool.and_false, Bool.true_or, Bool.or_true, Bool.false_or, Bool.or_false, _root_.eq_self, Hv.wN, Hv.wB, Hv.wC, Hv.wR, Hv.ok_ok, F30_no n hr]
theorem law_holds_ (k : Nat) (hk : 31 ≤ k) (ns : List Int) (hn : ns.length ≤ 63) : callN T (fun _ _ => none) k 32 [.list (ns.map .int)] = .ok (.v (.bool true)) :=
  fx_true (ok32 (k := k) hk ns) (law_ok ns)
end Law

namespace Law
open PySem PySem.Spec PyProof.Rows L2 Hv
theorem ok : T.ok = true := by decide +kernel
theorem at_ : T.at_ = true := by decide +kernel
theorem b0 (f : Fd) (h : T.T[0]? = some f) : BindOk f := by
  cases h
  exact fun _ _ _ _ _ _ us hl => match us, hl with | [_], _ => rfl
theorem b1 (f : Fd) (h : T.T[1]? = some f) : BindOk f := by
  cases h
  exact fun _ _ _ _ _ _ us hl => match us, hl with | [_], _ => rfl
theorem b2 (f : Fd) (h : T.T[2]? = some f) : BindOk f := by
  cases h
  exact fun _ _ _ _ _ _ us hl => match us, hl with | [_], _ => rfl
theorem b3 (f : Fd) (h : T.T[3]? = some f) : BindOk f := by
  cases h
  exact fun _ _ _ _ _ _ us hl => match us, hl with | [_, _], _ => rfl
theorem b4 (f : Fd) (h : T.T[4]? = some f) : BindOk f := by
  cases h
  exact fun _ _ _ _ _ _ us hl => match us, hl with | [_], _ => rfl
theorem b5 (f : Fd) (h : T.T[5]? = some f) : BindOk f := by
  cases h
  exact fun _ _ _ _ _ _ us hl => match us, hl with | [_], _ => rfl
theorem b6 (f : Fd) (h : T.T[6]? = some f) : BindOk f := by
  cases h
  exact fun _ _ _ _ _ _ us hl => match us, hl with | [_], _ => rfl
theorem b7 (f : Fd) (h : T.T[7]? = some f) : BindOk f := by
  cases h
  exact fun _ _ _ _ _ _ us hl => match us, hl with | [_], _ => rfl
theorem b8 (f : Fd) (h : T.T[8]? = some f) : BindOk f := by
  cases h
  exact fun _ _ _ _ _ _ us hl => match us, hl with | [_], _ => rfl
theorem b9 (f : Fd) (h : T.T[9]? = some f) : BindOk f := by
  cases h
  exact fun _ _ _ _ _ _ us hl => match us, hl with | [_], _ => rfl
theorem b10 (f : Fd) (h : T.T[10]? = some f) : BindOk f := by
  cases h
  exact fun _ _ _ _ _ _ us hl => match us, hl with | [_], _ => rfl
theorem b11 (f : Fd) (h : T.T[11]? = some f) : BindOk f := by
  cases h
  exact fun _ _ _ _ _ _ us hl => match us, hl with | [_, _], _ => rfl
theorem b12 (f : Fd) (h : T.T[12]? = some f) : BindOk f := by
  cases h
  exact fun _ _ _ _ _ _ us hl => match us, hl with | [_], _ => rfl
theorem b13 (f : Fd) (h : T.T[13]? = some f) : BindOk f := by
  cases h
  exact fun _ _ _ _ _ _ us hl => match us, hl with | [_], _ => rfl
theorem b14 (f : Fd) (h : T.T[14]? = some f) : BindOk f := by
  cases h
  exact fun _ _ _ _ _ _ us hl => match us, hl with | [_, _], _ => rfl
theorem b15 (f : Fd) (h : T.T[15]? = some f) : BindOk f := by
  cases h
  exact fun _ _ _ _ _ _ us hl => match us, hl with | [_], _ => rfl
theorem b16 (f : Fd) (h : T.T[16]? = some f) : BindOk f := by
  cases h
  exact fun _ _ _ _ _ _ us hl => match us, hl with | [_], _ => rfl
theorem b17 (f : Fd) (h : T.T[17]? = some f) : BindOk f := by
  cases h
  exact fun _ _ _ _ _ _ us hl => match us, hl with | [_], _ => rfl
theorem b18 (f : Fd) (h : T.T[18]? = some f) : BindOk f := by
  cases h
  exact fun _ _ _ _ _ _ us hl => match us, hl with | [_], _ => rfl
theorem b19 (f : Fd) (h : T.T[19]? = some f) : BindOk f := by
  cases h
  exact fun _ _ _ _ _ _ us hl => match us, hl with | [_], _ => rfl
theorem b20 (f : Fd) (h : T.T[20]? = some f) : BindOk f := by
  cases h
  exact fun _ _ _ _ _ _ us hl => match us, hl with | [_, _], _ => rfl
theorem b21 (f : Fd) (h : T.T[21]? = some f) : BindOk f := by
  cases h
  exact fun _ _ _ _ _ _ us hl => match us, hl with | [_, _, _], _ => rfl
theorem b22 (f : Fd) (h : T.T[22]? = some f) : BindOk f := by
  cases h
  exact fun _ _ _ _ _ _ us hl => match us, hl with | [_, _], _ => rfl
theorem b23 (f : Fd) (h : T.T[23]? = some f) : BindOk f := by
  cases h
  exact fun _ _ _ _ _ _ us hl => match us, hl with | [_], _ => rfl
theorem b24 (f : Fd) (h : T.T[24]? = some f) : BindOk f := by
  cases h
  exact fun _ _ _ _ _ _ us hl => match us, hl with | [_, _], _ => rfl
theorem b25 (f : Fd) (h : T.T[25]? = some f) : BindOk f := by
  cases h
  exact fun _ _ _ _ _ _ us hl => match us, hl with | [_], _ => rfl
theorem b26 (f : Fd) (h : T.T[26]? = some f) : BindOk f := by
  cases h
  exact fun _ _ _ _ _ _ us hl => match us, hl with | [_], _ => rfl
theorem b27 (f : Fd) (h : T.T[27]? = some f) : BindOk f := by
  cases h
  exact fun _ _ _ _ _ _ us hl => match us, hl with | [_], _ => rfl
theorem b28 (f : Fd) (h : T.T[28]? = some f) : BindOk f := by
  cases h
  exact fun _ _ _ _ _ _ us hl => match us, hl with | [_], _ => rfl
theorem b29 (f : Fd) (h : T.T[29]? = some f) : BindOk f := by
  cases h
  exact fun _ _ _ _ _ _ us hl => match us, hl with | [_, _], _ => rfl
theorem b30 (f : Fd) (h : T.T[30]? = some f) : BindOk f := by
  cases h
  exact fun _ _ _ _ _ _ us hl => match us, hl with | [_], _ => rfl
theorem b31 (f : Fd) (h : T.T[31]? = some f) : BindOk f := by
  cases h
  exact fun _ _ _ _ _ _ us hl => match us, hl with | [_, _], _ => rfl
theorem b32 (f : Fd) (h : T.T[32]? = some f) : BindOk f := by
  cases h
  exact fun _ _ _ _ _ _ us hl => match us, hl with | [_], _ => rfl
theorem bind : ∀ f ∈ T.T, BindOk f := by
  intro f hf
  obtain ⟨i, hi⟩ := List.getElem?_of_mem hf
  match i, hi with
  | 0, hi => exact b0 f hi
  | 1, hi => exact b1 f hi
  | 2, hi => exact b2 f hi
  | 3, hi => exact b3 f hi
  | 4, hi => exact b4 f hi
  | 5, hi => exact b5 f hi
  | 6, hi => exact b6 f hi
  | 7, hi => exact b7 f hi
  | 8, hi => exact b8 f hi
  | 9, hi => exact b9 f hi
  | 10, hi => exact b10 f hi
  | 11, hi => exact b11 f hi
  | 12, hi => exact b12 f hi
  | 13, hi => exact b13 f hi
  | 14, hi => exact b14 f hi
  | 15, hi => exact b15 f hi
  | 16, hi => exact b16 f hi
  | 17, hi => exact b17 f hi
  | 18, hi => exact b18 f hi
  | 19, hi => exact b19 f hi
  | 20, hi => exact b20 f hi
  | 21, hi => exact b21 f hi
  | 22, hi => exact b22 f hi
  | 23, hi => exact b23 f hi
  | 24, hi => exact b24 f hi
  | 25, hi => exact b25 f hi
  | 26, hi => exact b26 f hi
  | 27, hi => exact b27 f hi
  | 28, hi => exact b28 f hi
  | 29, hi => exact b29 f hi
  | 30, hi => exact b30 f hi
  | 31, hi => exact b31 f hi
  | 32, hi => exact b32 f hi
  | i + 33, hi => cases hi
abbrev R : PySem.W.OpenRow := PySem.W.OpenLaw.row PySem.Challenge.rw_screenspoken_k31_dates_and_their_numbers
abbrev hk : PySem.W.Hook := He.hookX 6 T.fa T.fn [] [] T.ex
def ob (s : PySem.W.SharedT) : He.AlX := He.obsX 6 T.fa T.fn [] [] T.ex (HandSHeadRun.getT s)
theorem ob_eq (s : PySem.W.SharedT) : ob s = hk.obs s.abs := He.obsX_eq (HandSHeadRun.getT_eq s)
theorem run (w : World) : HandSHeadRun.RunEq R (PySem.W.view R.prog [54]) hk ob 8000 loose w := by
  intro os
  kernel_rfl
end Law
open PySem PySem.W PySem.Calls PyProof.Rows
theorem law_holds_of (law : ∀ ns : List Int, ns.length ≤ 63 → Hv.callN Law.T (fun _ _ => none) 200 32 [.list (ns.map .int)] = .ok (.v (.bool true))) : PySem.Challenge.rw_screenspoken_k31_dates_and_their_numbers.Holds := by
  w_on; o_law
  refine HandSHeadRun.head_any (r := OpenLaw.row PySem.Challenge.rw_screenspoken_k31_dates_and_their_numbers) (q := view (OpenLaw.row PySem.Challenge.rw_screenspoken_k31_dates_and_their_numbers).prog [54]) (H := Law.hk) (ob := Law.ob) (M := 8000) (loose := Law.loose) (d := HandSHeadRun.topDef (OpenLaw.row PySem.Challenge.rw_screenspoken_k31_dates_and_their_numbers).prog 54) (kwd := []) Law.ob_eq
    (by kernel_rfl) (fun s => by kernel_rfl) Law.run (by kernel_rfl) (by kernel_rfl) (by kernel_rfl) (by rfl) (by first | assumption | decide +kernel) (by decide +kernel) ⟨rfl, rfl, rfl, rfl, rfl, by decide +kernel⟩ ?hw ?hc
  case hw => w_witness2
  case hc => exact Hv.law_walk (iL := 32) (n := 63) (k := 200) (x := "script") rfl (by decide) (by kernel_rfl) rfl (by kernel_rfl) (by kernel_rfl) Law.ok Law.at_ Law.bind (by decide) law

theorem PySem.Challenge.cw_screenspoken_k31_dates_and_their_numbers_holds : PySem.Challenge.rw_screenspoken_k31_dates_and_their_numbers.Holds :=
  law_holds_of fun ns hn => Law.law_holds_ 200 (by decide) ns hn
