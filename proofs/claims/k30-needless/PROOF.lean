import PyProof.Rows.All
import Wide.All
import OpenK.AllK
import Wide.FinOn
import HandS.ForMost
import HandS.Wide
import HandS.IsInst
import HandS.Flow
import HandS.Conv
import HandS.Deep
import HandS.Defaults
import HandS.Head0
import HandS.Head1
import HandS.Head2
import HandS.HeadEnd
import HandS.HeadHook1
import HandS.HeadHook2
import HandS.Flt
import HandS.IterVal
import HandS.TupAny
import HandS.Strs
import HandS.Small
import HandS.Exc
import HandS.ExcOwn
import HandS.ExcInit
import HandS.ExcField
import HandS.TryOnly
import KE.KSortTupAny
import HandS.Sort
import KE.KDictPairs
import PyProof.SetRoads
import PyProof.Rows.SetFrom
import HandS.SortOrd
import HandS.SortInts
import HandS.More
import HandS.Dict
import KE.KDictSum
import PySem.Challenge.RW_placesforgood_k30_needless_parts
set_option Elab.async false
set_option linter.all false
set_option maxRecDepth 100000
/-! Mi: a small language of deep values over the layer: its words, its run (a predicate transformer). -/
namespace Mi
open PySem PySem.Spec PyProof.Rows L2

/-! ### values, objects -/
inductive D where
  | non | bl (b : Bool) | int (i : Int) | str (x : Str) | tup (xs : List D) | ref (n : Nat) | fn (a : Addr)
/-- objects: lists, lists that nobody changes, dicts -/
inductive MO where
  | lst (xs : List D) | frz (xs : List D) | dic (kvs : List (Str × D)) | dtp (kvs : List (List D × D))
abbrev Hh := List MO
abbrev Sg := List (Option D)
abbrev Kd := D → Hh → Prop
/-- what an error may leave: its class, its fields -/
abbrev Ex := Str → List (Str × D) → Hh → Prop
abbrev EX0 : Ex := fun _ _ _ => False
abbrev Cl := Nat → List D → Hh → Kd → Ex → Prop

/-! ### tests of what is known -/
@[irreducible] def chk : Bool → Prop → Prop
  | true, P => P
  | false, _ => False
@[irreducible] def br : Bool → Prop → Prop → Prop
  | true, P, _ => P
  | false, _, R => R
theorem chk_t {P : Prop} : chk true P = P := by unfold chk; rfl
theorem chk_i {b : Bool} {P : Prop} (h : b = true) (p : P) : chk b P := by subst h; rw [chk_t]; exact p
theorem chk_e {b : Bool} {P : Prop} (h : chk b P) : b = true ∧ P := by
  cases b with
  | true => rw [chk_t] at h; exact ⟨rfl, h⟩
  | false => unfold chk at h; exact h.elim
theorem br_T {P R : Prop} : br true P R = P := by unfold br; rfl
theorem br_F {P R : Prop} : br false P R = R := by unfold br; rfl
theorem br_i {b : Bool} {P R : Prop} (h1 : b = true → P) (h2 : b = false → R) : br b P R := by
  cases b with
  | true => rw [br_T]; exact h1 rfl
  | false => rw [br_F]; exact h2 rfl
theorem br_t {b : Bool} {P R : Prop} (h : b = true) (p : P) : br b P R := by subst h; rw [br_T]; exact p
theorem br_f {b : Bool} {P R : Prop} (h : b = false) (p : R) : br b P R := by subst h; rw [br_F]; exact p
theorem br_e {b : Bool} {P R : Prop} (h : br b P R) : (b = true ∧ P) ∨ (b = false ∧ R) := by
  cases b with
  | true => rw [br_T] at h; exact .inl ⟨rfl, h⟩
  | false => rw [br_F] at h; exact .inr ⟨rfl, h⟩

/-! ### words -/
inductive BOp where | add | sub | mul | fdiv | mod | pow | shl | band
inductive COp where | eq | ne | lt | le | gt | ge | is | isnot | isin | notin
inductive Blt where | len | int | abs | max | min | tuple | list | sum | str | dict
inductive Tyn where | int | bool | str | tuple | list
  deriving DecidableEq
inductive Mth where | append | pop | popAt | extend | update | index | count | lindex | insert

mutual
inductive ME where
  | non | bl (b : Bool) | int (i : Int) | str (x : Str)
  | var (i : Nat) | gl (i : Nat)
  | bin (op : BOp) (a b : ME) | neg (a : ME) | not (a : ME)
  | cmp (op : COp) (a b : ME) | chain (op op' : COp) (a b c : ME)
  | and (a b : ME) | or (a b : ME) | ife (t a b : ME)
  | call (f : Nat) (es : MEs)
  | blt (f : Blt) (es : MEs)
  | isi (a : ME) (ts : List Tyn)
  | meth (m : Mth) (o : ME) (es : MEs)
  | dlit (k x : ME) | ix (a i : ME) | sl (a : ME) (lo hi : MEo) | rev (a : ME) | dnew | dget (o k x : ME) | callv (i f g : Nat) (es : MEs) | callk (f : Nat) (es : MEs)
  | tup (es : MEs) | lst (es : MEs) | lset (a : ME) | dnewt | srt (a : ME)
  | lc (elt : ME) (t : MT) (it : MI) (c : MEo)
inductive MEs where
  | nil | cons (e : ME) (es : MEs)
inductive MEo where
  | none | some (e : ME)
inductive MT where
  | name (i : Nat) | tup (is : List Nat) | sub (a i : ME)
inductive MI where
  | seq (e : ME) | rng1 (a : ME) | rng2 (a b : ME)
end
/-- what an except suite gives back -/
inductive HA where
  | non | bl (b : Bool) | int (i : Int) | str (x : Str) | fld (n : Str)
inductive HE where
  | one (a : HA) | tup (as : List HA)
mutual
inductive MS where
  | expr (e : ME) | asg (t : MT) (e : ME) | aug (i : Nat) (op : BOp) (e : ME)
  | ret (e : ME) | retN | pass | brk | cnt
  | ife (t : ME) (a b : MB) | whl (t : ME) (b : MB) | forr (t : MT) (it : MI) (b : MB)
  | rse (x : Str) (fs : List Str) (es : MEs) | tr (b : MB) (y : Str) (ys zs : List Str) (i : Option Nat) (he : HE)
inductive MB where
  | nil | cons (s : MS) (b : MB)
end
structure MF where
  np : Nat
  ns : Nat
  body : MB

/-! ### operations -/
/-- the object at n -/
@[irreducible] def rdO (h : Hh) (n : Nat) (K : MO → Prop) : Prop := match h[n]? with
  | some o => K o
  | none => False
theorem rdO_i {h : Hh} {n : Nat} {o : MO} {K : MO → Prop} (e : h[n]? = some o) (k : K o) : rdO h n K := by unfold rdO; rw [e]; exact k
theorem rdO_e {h : Hh} {n : Nat} {K : MO → Prop} (w : rdO h n K) : ∃ o, h[n]? = some o ∧ K o := by
  unfold rdO at w
  split at w
  · rename_i o e
    exact ⟨o, e, w⟩
  · exact w.elim
def rdL (h : Hh) (n : Nat) (K : List D → Prop) : Prop := rdO h n fun o => match o with
  | .lst xs => K xs
  | _ => False
theorem rdL_e {h : Hh} {n : Nat} {K : List D → Prop} (w : rdL h n K) : ∃ xs, h[n]? = some (.lst xs) ∧ K xs := by
  obtain ⟨o, e, k⟩ := rdO_e w
  cases o with
  | lst xs => exact ⟨xs, e, k⟩
  | _ => exact k.elim
/-- what a sequence holds -/
def sq (h : Hh) (d : D) (K : List D → Prop) : Prop := match d with
  | .tup xs => K xs
  | .ref n => rdO h n fun o => match o with
    | .lst xs => K xs
    | .frz xs => K xs
    | _ => False
  | _ => False
/-- a new object; an object changed -/
@[irreducible] def new (o : MO) (h : Hh) (Q : Kd) : Prop := Q (.ref h.length) (h ++ [o])
@[irreducible] def put (h : Hh) (n : Nat) (o : MO) (P : Hh → Prop) : Prop := P (h.set n o)
theorem new_e {o : MO} {h : Hh} {Q : Kd} (w : new o h Q) : Q (.ref h.length) (h ++ [o]) := by unfold new at w; exact w
theorem put_e {h : Hh} {n : Nat} {o : MO} {P : Hh → Prop} (w : put h n o P) : P (h.set n o) := by unfold put at w; exact w
theorem new_b {o : MO} {h : Hh} {Q : Kd} (w : Q (.ref h.length) (h ++ [o])) : new o h Q := by unfold new; exact w
theorem put_b {h : Hh} {n : Nat} {o : MO} {P : Hh → Prop} (w : P (h.set n o)) : put h n o P := by unfold put; exact w
def lenOk (n : Nat) : Bool := decide (n ≤ sizeLine)
/-- what a tuple, a list holds -/
def seqOf (h : Hh) : D → Option (List D)
  | .tup xs => some xs
  | .ref n => match h[n]? with
    | some (.lst xs) => some xs
    | some (.frz xs) => some xs
    | _ => none
  | _ => none
theorem sq_i {h : Hh} {d : D} {xs : List D} {K : List D → Prop} (e : seqOf h d = some xs) (k : K xs) : sq h d K := by
  cases d with
  | tup ys => cases e; exact k
  | ref n =>
    simp only [seqOf] at e
    split at e
    · rename_i ys hn
      cases e
      exact rdO_i hn k
    · rename_i ys hn
      cases e
      exact rdO_i hn k
    · cases e
  | _ => cases e
theorem sq_e {h : Hh} {d : D} {K : List D → Prop} (w : sq h d K) : ∃ xs, seqOf h d = some xs ∧ K xs := by
  cases d with
  | tup xs => exact ⟨xs, rfl, w⟩
  | ref n =>
    obtain ⟨o, e, k⟩ := rdO_e (show rdO h n _ from w)
    cases o with
    | lst xs => exact ⟨xs, by simp only [seqOf, e], k⟩
    | frz xs => exact ⟨xs, by simp only [seqOf, e], k⟩
    | dic _ => exact k.elim
    | dtp _ => exact k.elim
  | _ => exact w.elim
def natsEq : List Nat → List Nat → Bool
  | [], [] => true
  | x :: xs, y :: ys => Nat.beq x y && natsEq xs ys
  | _, _ => false
theorem natsEq_iff : ∀ {xs ys : List Nat}, natsEq xs ys = true ↔ xs = ys
  | [], [] => by simp [natsEq]
  | [], _ :: _ => by simp [natsEq]
  | _ :: _, [] => by simp [natsEq]
  | x :: xs, y :: ys => by
    have ih := @natsEq_iff xs ys
    simp only [natsEq, Bool.and_eq_true, List.cons.injEq, ih, Nat.beq_eq]
def strEq (a b : Str) : Bool := natsEq a.cps.toList b.cps.toList
theorem strEq_iff {a b : Str} : strEq a b = true ↔ a = b := by
  unfold strEq
  rw [natsEq_iff]
  constructor
  · intro h
    cases a with
    | mk x =>
      cases b with
      | mk y =>
        congr 1
        exact Array.toList_inj.mp h
  · rintro rfl
    rfl
theorem strEq_dec (a b : Str) : strEq a b = decide (a = b) := by
  rw [Bool.eq_iff_iff, strEq_iff]
  simp
theorem strEq_self (a : Str) : strEq a a = true := strEq_iff.mpr rfl
mutual
def D.flat : D → Bool
  | .tup xs => D.flats xs
  | .ref _ => false
  | .fn _ => false
  | _ => true
def D.flats : List D → Bool
  | [] => true
  | d :: ds => d.flat && D.flats ds
end
mutual
/-- == of values without objects -/
def eqD : D → D → Bool
  | .non, .non => true
  | .bl a, .bl b => a == b
  | .int a, .int b => a == b
  | .str a, .str b => strEq a b
  | .tup a, .tup b => eqDs a b
  | .int a, .bl b => a == (if b then 1 else 0)
  | .bl a, .int b => (if a then 1 else 0) == b
  | _, _ => false
def eqDs : List D → List D → Bool
  | [], [] => true
  | x :: xs, y :: ys => eqD x y && eqDs xs ys
  | _, _ => false
end
/-- dicts of texts -/
def lkD : List (Str × D) → Str → Option D
  | [], _ => none
  | (y, d) :: r, x => if strEq y x then some d else lkD r x
def putD (kvs : List (Str × D)) (x : Str) (d : D) : List (Str × D) :=
  if kvs.any (fun kv => strEq kv.1 x) then kvs.map (fun kv => if strEq kv.1 x then (kv.1, d) else kv) else kvs ++ [(x, d)]
def mergeD (kvs es : List (Str × D)) : List (Str × D) := es.foldl (fun a p => putD a p.1 p.2) kvs
@[irreducible] def gtD (kvs : List (Str × D)) (x : Str) (K : D → Prop) : Prop := match lkD kvs x with
  | some d => K d
  | none => False
theorem gtD_i {kvs : List (Str × D)} {x : Str} {d : D} {K : D → Prop} (e : lkD kvs x = some d) (w : K d) : gtD kvs x K := by unfold gtD; rw [e]; exact w
theorem gtD_e {kvs : List (Str × D)} {x : Str} {K : D → Prop} (w : gtD kvs x K) : ∃ d, lkD kvs x = some d ∧ K d := by
  unfold gtD at w
  split at w
  · rename_i d e
    exact ⟨d, e, w⟩
  · exact w.elim
def rdD (h : Hh) (n : Nat) (K : List (Str × D) → Prop) : Prop := rdO h n fun o => match o with
  | .dic kvs => K kvs
  | _ => False
theorem rdD_e {h : Hh} {n : Nat} {K : List (Str × D) → Prop} (w : rdD h n K) : ∃ kvs, h[n]? = some (.dic kvs) ∧ K kvs := by
  obtain ⟨o, e, k⟩ := rdO_e w
  cases o with
  | dic kvs => exact ⟨kvs, e, k⟩
  | _ => exact k.elim
/-- dicts of tuples -/
def isI : D → Bool
  | .int _ => true
  | _ => false
def isS : D → Bool
  | .str _ => true
  | _ => false
def isKy : D → Bool
  | .int _ => true
  | .str _ => true
  | _ => false
def lkT : List (List D × D) → List D → Option D
  | [], _ => none
  | (y, d) :: r, x => if eqDs y x then some d else lkT r x
def putT (kvs : List (List D × D)) (x : List D) (d : D) : List (List D × D) :=
  if kvs.any (fun kv => eqDs kv.1 x) then kvs.map (fun kv => if eqDs kv.1 x then (kv.1, d) else kv) else kvs ++ [(x, d)]
@[irreducible] def gtT (kvs : List (List D × D)) (x : List D) (K : D → Prop) : Prop := match lkT kvs x with
  | some d => K d
  | none => False
theorem gtT_i {kvs : List (List D × D)} {x : List D} {d : D} {K : D → Prop} (e : lkT kvs x = some d) (w : K d) : gtT kvs x K := by unfold gtT; rw [e]; exact w
theorem gtT_e {kvs : List (List D × D)} {x : List D} {K : D → Prop} (w : gtT kvs x K) : ∃ d, lkT kvs x = some d ∧ K d := by
  unfold gtT at w
  split at w
  · rename_i d e
    exact ⟨d, e, w⟩
  · exact w.elim
def rdT (h : Hh) (n : Nat) (K : List (List D × D) → Prop) : Prop := rdO h n fun o => match o with
  | .dtp kvs => K kvs
  | _ => False
theorem rdT_e {h : Hh} {n : Nat} {K : List (List D × D) → Prop} (w : rdT h n K) : ∃ kvs, h[n]? = some (.dtp kvs) ∧ K kvs := by
  obtain ⟨o, e, k⟩ := rdO_e w
  cases o with
  | dtp kvs => exact ⟨kvs, e, k⟩
  | _ => exact k.elim
mutual
/-- how deep a value is -/
def D.dep : D → Nat
  | .tup xs => D.deps xs + 1
  | _ => 0
def D.deps : List D → Nat
  | [] => 0
  | d :: ds => max d.dep (D.deps ds)
end
/-- sorted -/
def k1 : D → Int ⊕ List Nat
  | .int i => .inl i
  | .bl b => .inl (if b then 1 else 0)
  | .str x => .inr x.cps.toList
  | _ => .inl 0
def keyD : D → List (Int ⊕ List Nat)
  | .tup ds => ds.map k1
  | d => [k1 d]
def ltD (x y : D) : Bool := PyProof.Rows.lexLt PyProof.Rows.itemOrd (keyD x) (keyD y)
def cmpDs : List D → List D → Bool
  | x :: r, y :: t => if eqD x y then cmpDs r t else (isI x && isI y) || (isS x && isS y)
  | _, _ => true
def fI : D → Bool
  | .tup (.int _ :: _) => true
  | _ => false
def fS : D → Bool
  | .tup (.str _ :: _) => true
  | _ => false
def cmpD : D → D → Bool
  | .tup a, .tup b => cmpDs a b
  | _, _ => false
def SrtOk (xs : List D) : Prop := xs.length < 2 ∨ (∀ x ∈ xs, isS x = true) ∨ (∀ x ∈ xs, isI x = true) ∨
  ((∀ x ∈ xs, D.flat x = true ∧ D.dep x ≤ 50) ∧ ((∀ x ∈ xs, fI x = true) ∨ (∀ x ∈ xs, fS x = true)) ∧ ∀ x ∈ xs, ∀ y ∈ xs, cmpD x y = true)
def Srt (xs : List D) : Prop := xs.Pairwise fun x y => ltD y x = false
@[irreducible] def srtD (xs : List D) (K : List D → Prop) : Prop := SrtOk xs ∧ xs.length ≤ sizeLine ∧ ∀ ys, ys.Perm xs → Srt ys → K ys
theorem srtD_i {xs : List D} {K : List D → Prop} (o : SrtOk xs) (l : xs.length ≤ sizeLine) (w : ∀ ys, ys.Perm xs → Srt ys → K ys) : srtD xs K := by unfold srtD; exact ⟨o, l, w⟩
theorem srtD_e {xs : List D} {K : List D → Prop} (w : srtD xs K) : SrtOk xs ∧ xs.length ≤ sizeLine ∧ ∀ ys, ys.Perm xs → Srt ys → K ys := by unfold srtD at w; exact w
/-- what sorted gathers -/
def itsOf (h : Hh) (d : D) (K : List D → Prop) : Prop := match d with
  | .tup xs => K xs
  | .ref n => rdO h n fun o => match o with
    | .lst xs => K xs
    | .frz xs => K xs
    | .dic kvs => K (kvs.map fun kv => .str kv.1)
    | .dtp kvs => K (kvs.map fun kv => .tup kv.1)
  | _ => False
def opEq (x y : D) (Q : Bool → Prop) : Prop := match x, y with
  | .tup a, .tup b => chk (D.flats a && (D.flats b && decide (D.deps a ≤ 50))) (Q (eqDs a b))
  | .tup _, .non => Q false
  | .tup _, .bl _ => Q false
  | .tup _, .int _ => Q false
  | .tup _, .str _ => Q false
  | .non, .tup _ => Q false
  | .bl _, .tup _ => Q false
  | .int _, .tup _ => Q false
  | .str _, .tup _ => Q false
  | .non, .non => Q true
  | .non, .int _ => Q false
  | .int _, .non => Q false
  | .non, .bl _ => Q false
  | .bl _, .non => Q false
  | .non, .str _ => Q false
  | .str _, .non => Q false
  | .int a, .int b => Q (a == b)
  | .bl a, .bl b => Q (a == b)
  | .str a, .str b => Q (strEq a b)
  | .int _, .str _ => Q false
  | .str _, .int _ => Q false
  | .bl _, .str _ => Q false
  | .str _, .bl _ => Q false
  | _, _ => False
def inFlat (x : D) (xs : List D) : Bool := xs.any fun y => eqD y x
def isFl : D → Bool
  | .non => true | .bl _ => true | .int _ => true | .str _ => true | _ => false
/-- a text of one sign -/
def sg1 (c : Str) (K : Nat → Prop) : Prop := match c.cps.toList with
  | [k] => K k
  | _ => False
def sgIn (z : Str) (k : Nat) : Bool := z.cps.toList.any fun j => Nat.beq k j
/-- a text's signs -/
def sgs (z : Str) : List D := z.cps.toList.map fun c => .str ⟨#[c]⟩
/-- x in y -/
def opIn (x y : D) (h : Hh) (Q : Bool → Prop) : Prop := match y with
  | .str z => (match x with | .str c => sg1 c fun k => Q (sgIn z k) | _ => False)
  | .tup xs => chk (isFl x && xs.all isFl) (Q (inFlat x xs))
  | .ref n => rdO h n fun o => match o with
    | .lst xs => chk (isFl x && xs.all isFl) (Q (inFlat x xs))
    | .frz xs => chk (isFl x && xs.all isFl) (Q (inFlat x xs))
    | .dic kvs => (match x with | .str z => Q (lkD kvs z).isSome | _ => False)
    | .dtp kvs => (match x with | .tup ks => chk (ks.all isKy) (Q (lkT kvs ks).isSome) | _ => False)
  | _ => False
def opCmp (op : COp) (x y : D) (h : Hh) (Q : Bool → Prop) : Prop := match op with
  | .eq => opEq x y Q
  | .ne => (match x, y with | .tup _, _ => False | _, .tup _ => False | _, _ => opEq x y fun b => Q (!b))
  | .lt => (match x, y with | .int i, .int j => Q (decide (i < j)) | _, _ => False)
  | .le => (match x, y with | .int i, .int j => Q (decide (i ≤ j)) | _, _ => False)
  | .gt => (match x, y with | .int i, .int j => Q (decide (j < i)) | _, _ => False)
  | .ge => (match x, y with | .int i, .int j => Q (decide (j ≤ i)) | _, _ => False)
  | .is => (match y with | .non => (match x with | .non => Q true | _ => Q false) | _ => False)
  | .isnot => (match y with | .non => (match x with | .non => Q false | _ => Q true) | _ => False)
  | .isin => opIn x y h Q
  | .notin => opIn x y h fun b => Q (!b)
def mulOk (i j : Int) : Bool := decide (i.natAbs < 2 ^ 64) || (decide (j.natAbs < 2 ^ 64) || (decide (i.natAbs < 2 ^ 9000) && decide (j.natAbs < 2 ^ 9000)))
def opBin (op : BOp) (x y : D) (h : Hh) (Q : Kd) : Prop := match op with
  | .add => (match x, y with
    | .int i, .int j => Q (.int (i + j)) h
    | .str a, .str b => chk (lenOk (a.length + b.length)) (Q (.str (a ++ b)) h)
    | .tup xs, .tup ys => chk (lenOk (xs.length + ys.length)) (Q (.tup (xs ++ ys)) h)
    | .ref n, .ref m => rdL h n fun xs => rdL h m fun ys => chk (lenOk (xs.length + ys.length)) (new (.lst (xs ++ ys)) h Q)
    | _, _ => False)
  | .sub => (match x, y with | .int i, .int j => Q (.int (i - j)) h | _, _ => False)
  | .mul => (match x, y with
    | .int i, .int j => chk (mulOk i j) (Q (.int (i * j)) h)
    | .ref n, .int k => rdL h n fun xs => chk (decide (k.natAbs < 2 ^ 62) && lenOk (xs.length * k.toNat)) (new (.lst (List.replicate k.toNat xs).flatten) h Q)
    | _, _ => False)
  | .fdiv => (match x, y with | .int i, .int j => chk (decide (0 < j) && decide (j.natAbs < 2 ^ 9000)) (Q (.int (i / j)) h) | _, _ => False)
  | .mod => (match x, y with | .int i, .int j => chk (decide (0 < j)) (Q (.int (i % j)) h) | _, _ => False)
  | .pow => (match x, y with | .int i, .int j => chk (decide (0 ≤ j) && decide (j ≤ 1000000) && decide (i.natAbs < 2 ^ 64)) (Q (.int (i ^ j.toNat)) h) | _, _ => False)
  | .shl => (match x, y with | .int i, .int j => chk (decide (0 ≤ j) && decide (j ≤ 1000000) && decide (i.natAbs < 2 ^ 64)) (Q (.int (i * 2 ^ j.toNat)) h) | _, _ => False)
  | .band => (match x, y with | .int i, .int j => Q (.int (Builtin.bitAnd i j)) h | _, _ => False)
/-- a op= b: no list -/
def opAug (op : BOp) (x y : D) (h : Hh) (Q : Kd) : Prop := match x with
  | .ref _ => False
  | .tup _ => False
  | _ => (match op with
    | .pow | .shl | .band => False
    | _ => opBin op x y h Q)
def truth (d : D) (h : Hh) (Q : Bool → Prop) : Prop := match d with
  | .bl b => Q b
  | .non => Q false
  | .int i => Q (i != 0)
  | .tup xs => Q (!xs.isEmpty)
  | .ref n => rdL h n fun xs => Q (!xs.isEmpty)
  | _ => False
/-- the place of an index -/
def ixAt (n : Nat) (i : Int) : Option Nat := if 0 ≤ i then (if i < n then some i.toNat else none) else if -(n : Int) ≤ i then some (i + n).toNat else none
def getAt (xs : List D) (i : Int) : Option D := (ixAt xs.length i).bind fun j => xs[j]?
@[irreducible] def itm (xs : List D) (k : Int) (K : D → Prop) : Prop := match getAt xs k with
  | some d => K d
  | none => False
theorem itm_i {xs : List D} {k : Int} {d : D} {K : D → Prop} (e : getAt xs k = some d) (w : K d) : itm xs k K := by unfold itm; rw [e]; exact w
theorem itm_e {xs : List D} {k : Int} {K : D → Prop} (w : itm xs k K) : ∃ d, getAt xs k = some d ∧ K d := by
  unfold itm at w
  split at w
  · rename_i d e
    exact ⟨d, e, w⟩
  · exact w.elim
/-- the sign at k of a text -/
@[irreducible] def sgn (z : Str) (k : Int) (K : Str → Prop) : Prop := match (ixAt z.length k).bind fun j => z.cps.toList[j]? with
  | some c => z.length ≤ sizeLine ∧ K ⟨#[c]⟩
  | none => False
theorem sgn_i {z : Str} {k : Int} {c : Nat} {K : Str → Prop} (e : ((ixAt z.length k).bind fun j => z.cps.toList[j]?) = some c) (l : z.length ≤ sizeLine) (w : K ⟨#[c]⟩) : sgn z k K := by unfold sgn; rw [e]; exact ⟨l, w⟩
theorem sgn_e {z : Str} {k : Int} {K : Str → Prop} (w : sgn z k K) : ∃ c, ((ixAt z.length k).bind fun j => z.cps.toList[j]?) = some c ∧ z.length ≤ sizeLine ∧ K ⟨#[c]⟩ := by
  unfold sgn at w
  split at w
  · rename_i c e
    exact ⟨c, e, w.1, w.2⟩
  · exact w.elim
def opIx (x i : D) (h : Hh) (Q : Kd) : Prop := match i with
  | .int k => (match x with
    | .str z => sgn z k fun c => Q (.str c) h
    | _ => sq h x fun xs => itm xs k fun d => Q d h)
  | .str z => (match x with
    | .ref n => rdD h n fun kvs => gtD kvs z fun d => Q d h
    | _ => False)
  | .tup ks => (match x with
    | .ref n => rdT h n fun kvs => chk (ks.all isKy) (gtT kvs ks fun d => Q d h)
    | _ => False)
  | _ => False
/-- a list the other way round -/
def opRev (x : D) (h : Hh) (Q : Kd) : Prop := match x with
  | .ref _ => sq h x fun xs => new (.lst xs.reverse) h Q
  | .tup xs => Q (.tup xs.reverse) h
  | _ => False
/-- the part of a list from lo to hi -/
def cutD (xs : List D) (lo hi : Option Int) : List D := (xs.drop (HT.sIx xs.length 0 lo)).take (HT.sIx xs.length xs.length hi - HT.sIx xs.length 0 lo)
def opSl (x : D) (l u : Option Int) (h : Hh) (Q : Kd) : Prop := match x with
  | .ref _ => sq h x fun xs => new (.lst (cutD xs l u)) h Q
  | .str z => chk (lenOk z.length) (Q (.str (cutS z l u)) h)
  | .tup xs => Q (.tup (cutD xs l u)) h
  | _ => False
def intsOf : List D → Option (List Int)
  | [] => some []
  | .int i :: r => (intsOf r).map (i :: ·)
  | _ => none
@[irreducible] def iLst (ys : List D) (K : List Int → Prop) : Prop := match intsOf ys with
  | some ms => K ms
  | none => False
theorem iLst_i {ys : List D} {ms : List Int} {K : List Int → Prop} (e : intsOf ys = some ms) (w : K ms) : iLst ys K := by unfold iLst; rw [e]; exact w
theorem iLst_e {ys : List D} {K : List Int → Prop} (w : iLst ys K) : ∃ ms, intsOf ys = some ms ∧ K ms := by
  unfold iLst at w
  split at w
  · rename_i d e
    exact ⟨d, e, w⟩
  · exact w.elim
def maxI : Int → List Int → Int
  | m, [] => m
  | m, x :: xs => maxI (if x > m then x else m) xs
def minI : Int → List Int → Int
  | m, [] => m
  | m, x :: xs => minI (if x < m then x else m) xs
/-- texts, each but once -/
def stp (acc : List Str) (y : Str) : List Str := if acc.any (fun z => strEq z y) then acc else acc ++ [y]
def nub (ys : List Str) : List Str := ys.foldl stp []
/-- how many texts a set of them has -/
@[irreducible] def lsetN (xs : List D) (K : Nat → Prop) : Prop := ∃ ys : List Str, xs = ys.map .str ∧ ys.length < 4000 ∧ K (nub ys).length
theorem lsetN_i {xs : List D} {K : Nat → Prop} (ys : List Str) (e : xs = ys.map .str) (l : ys.length < 4000) (w : K (nub ys).length) : lsetN xs K := by unfold lsetN; exact ⟨ys, e, l, w⟩
theorem lsetN_e {xs : List D} {K : Nat → Prop} (w : lsetN xs K) : ∃ ys : List Str, xs = ys.map .str ∧ ys.length < 4000 ∧ K (nub ys).length := by unfold lsetN at w; exact w
/-- pairs of a text and a value -/
@[irreducible] def prsD (xs : List D) (K : List (Str × D) → Prop) : Prop := ∃ kvs : List (Str × D), xs = kvs.map (fun p => .tup [.str p.1, p.2]) ∧ kvs.length ≤ sizeLine ∧ K kvs
theorem prsD_i {xs : List D} {K : List (Str × D) → Prop} (kvs : List (Str × D)) (e : xs = kvs.map (fun p => .tup [.str p.1, p.2])) (l : kvs.length ≤ sizeLine) (w : K kvs) : prsD xs K := by unfold prsD; exact ⟨kvs, e, l, w⟩
theorem prsD_e {xs : List D} {K : List (Str × D) → Prop} (w : prsD xs K) : ∃ kvs : List (Str × D), xs = kvs.map (fun p => .tup [.str p.1, p.2]) ∧ kvs.length ≤ sizeLine ∧ K kvs := by unfold prsD at w; exact w
def opBlt (f : Blt) (xs : List D) (h : Hh) (Q : Kd) : Prop := match f, xs with
  | .len, [x] => (match x with
    | .str s => chk (lenOk s.length) (Q (.int s.length) h)
    | _ => sq h x fun ys => Q (.int ys.length) h)
  | .int, [.int i] => Q (.int i) h
  | .str, [.int i] => chk (decide (i.natAbs < 2 ^ 100)) (Q (.str (toString i)) h)
  | .int, [.bl b] => Q (.int (if b then 1 else 0)) h
  | .abs, [.int i] => Q (.int (if i < 0 then -i else i)) h
  | .max, [.int i, .int j] => Q (.int (if j > i then j else i)) h
  | .min, [.int i, .int j] => Q (.int (if j < i then j else i)) h
  | .max, [.int i, .int j, .int k] => Q (.int (if k > (if j > i then j else i) then k else (if j > i then j else i))) h
  | .min, [.int i, .int j, .int k] => Q (.int (if k < (if j < i then j else i) then k else (if j < i then j else i))) h
  | .max, [.ref n] => rdL h n fun ys => iLst ys fun ms => (match ms with
    | m :: ms => Q (.int (maxI m ms)) h
    | [] => False)
  | .min, [.ref n] => rdL h n fun ys => iLst ys fun ms => (match ms with
    | m :: ms => Q (.int (minI m ms)) h
    | [] => False)
  | .sum, [.ref n] => rdL h n fun ys => iLst ys fun ms => Q (.int ms.sum) h
  | .tuple, [x] => sq h x fun ys => Q (.tup ys) h
  | .list, [x] => sq h x fun ys => new (.lst ys) h Q
  | .dict, [.ref n] => rdD h n fun kvs => new (.dic kvs) h Q
  | .dict, [.tup ys] => prsD ys fun kvs => new (.dic (mergeD [] kvs)) h Q
  | _, _ => False
def tyOf : D → Option Tyn
  | .bl _ => some .bool
  | .int _ => some .int
  | .str _ => some .str
  | .tup _ => some .tuple
  | _ => none
def isTy (t u : Tyn) : Bool := decide (t = u) || (decide (t = .bool) && decide (u = .int))
def opIsi (x : D) (ts : List Tyn) (h : Hh) (Q : Kd) : Prop := match x with
  | .non => Q (.bl false) h
  | .ref n => rdL h n fun _ => Q (.bl (ts.any fun u => isTy .list u)) h
  | _ => (match tyOf x with
    | some t => Q (.bl (ts.any fun u => isTy t u)) h
    | none => False)
/-- the first place of a text among texts -/
@[irreducible] def idx (xs : List D) (z : Str) (K : Nat → Prop) : Prop := ∃ (ys : List Str) (j : Nat), xs = ys.map .str ∧ ys[j]? = some z ∧ (∀ m, m < j → ys[m]? ≠ some z) ∧ K j
theorem idx_i {xs : List D} {z : Str} {K : Nat → Prop} (ys : List Str) (j : Nat) (e : xs = ys.map .str) (h : ys[j]? = some z) (n : ∀ m, m < j → ys[m]? ≠ some z) (w : K j) : idx xs z K := by unfold idx; exact ⟨ys, j, e, h, n, w⟩
theorem idx_e {xs : List D} {z : Str} {K : Nat → Prop} (w : idx xs z K) : ∃ (ys : List Str) (j : Nat), xs = ys.map .str ∧ ys[j]? = some z ∧ (∀ m, m < j → ys[m]? ≠ some z) ∧ K j := by unfold idx at w; exact w
/-- how often a text stands among texts -/
@[irreducible] def cnt (xs : List D) (z : Str) (K : Nat → Prop) : Prop := ∃ ys : List Str, xs = ys.map .str ∧ K (ys.countP (· == z))
theorem cnt_i {xs : List D} {z : Str} {K : Nat → Prop} (ys : List Str) (e : xs = ys.map .str) (w : K (ys.countP (· == z))) : cnt xs z K := by unfold cnt; exact ⟨ys, e, w⟩
theorem cnt_e {xs : List D} {z : Str} {K : Nat → Prop} (w : cnt xs z K) : ∃ ys : List Str, xs = ys.map .str ∧ K (ys.countP (· == z)) := by unfold cnt at w; exact w
def opMethL (m : Mth) (n : Nat) (xs : List D) (h : Hh) (Q : Kd) : Prop := rdL h n fun ys => (match m, xs with
    | .append, [d] => chk (decide (ys.length < sizeLine)) (put h n (.lst (ys ++ [d])) fun h' => Q .non h')
    | .pop, [] => itm ys (-1) fun d => put h n (.lst ys.dropLast) fun h' => Q d h'
    | .popAt, [.int i] => chk (decide (i.natAbs < 2 ^ 62)) (itm ys i fun d => put h n (.lst (ys.eraseIdx ((ixAt ys.length i).getD 0))) fun h' => Q d h')
    | .extend, [x] => (match x with
      | .ref k => rdL h k fun zs => chk (lenOk (ys.length + zs.length)) (put h n (.lst (ys ++ zs)) fun h' => Q .non h')
      | .tup zs => chk (lenOk (ys.length + zs.length)) (put h n (.lst (ys ++ zs)) fun h' => Q .non h')
      | _ => False)
    | .insert, [.int i, d] => chk (decide (ys.length < sizeLine) && (decide (0 ≤ i) && decide (i < 2 ^ 62))) (put h n (.lst (ys.take i.toNat ++ [d] ++ ys.drop i.toNat)) fun h' => Q .non h')
    | .count, [x] => (match x with
      | .str z => cnt ys z fun j => Q (.int j) h
      | _ => False)
    | .lindex, [x] => (match x with
      | .str z => idx ys z fun j => Q (.int j) h
      | _ => False)
    | _, _ => False)
def opMeth (m : Mth) (o : D) (xs : List D) (h : Hh) (Q : Kd) : Prop := match m with
  | .update => (match o, xs with
    | .ref n, [.ref k] => rdD h n fun kvs => rdD h k fun es => chk (decide (n ≠ k) && lenOk (kvs.length + es.length)) (put h n (.dic (mergeD kvs es)) fun h' => Q .non h')
    | _, _ => False)
  | .index => (match o, xs with
    | .tup ys, [.str z] => idx ys z fun j => Q (.int j) h
    | _, _ => False)
  | m => (match o with
    | .ref n => opMethL m n xs h Q
    | _ => False)
/-- is the receiver of the method's type? -/
def rcv (m : Mth) (x : D) (h : Hh) (P : Prop) : Prop := match m with
  | .update => (match x with
    | .ref n => rdD h n fun _ => P
    | _ => False)
  | .index => (match x with
    | .tup _ => P
    | _ => False)
  | _ => (match x with
    | .ref n => rdL h n fun _ => P
    | _ => False)
def opSet (o i v : D) (h : Hh) (Q : Hh → Prop) : Prop := match o, i with
  | .ref n, .int k => rdL h n fun ys => itm ys k fun _ => put h n (.lst (ys.set ((ixAt ys.length k).getD 0) v)) Q
  | .ref n, .str z => rdD h n fun kvs => chk (decide (kvs.length < sizeLine)) (put h n (.dic (putD kvs z v)) Q)
  | .ref n, .tup ks => rdT h n fun kvs => chk (ks.all isKy && decide (kvs.length < sizeLine)) (put h n (.dtp (putT kvs ks v)) Q)
  | _, _ => False

/-! ### slots -/
def look (σ : Sg) (i : Nat) (Q : D → Prop) : Prop := match σ[i]? with
  | some (some d) => Q d
  | _ => False
def puts : List Nat → List D → Sg → (Sg → Prop) → Prop
  | [], [], σ, Q => Q σ
  | i :: is, d :: ds, σ, Q => puts is ds (σ.set i (some d)) Q
  | _, _, _, _ => False
def wipes (σ : Sg) : List Nat → Sg
  | [] => σ
  | v :: vs => (wipes σ vs).set v none
def range : Nat → Int → Nat → List D
  | 0, _, _ => []
  | n + 1, lo, k => .int (lo + k) :: range n lo (k + 1)
/-- what a loop walks: items that stand, or a list as it stands at each turn -/
inductive MW where
  | snap (xs : List D) | live (n : Nat)
def walkOf (h : Hh) (d : D) (Q : MW → Prop) : Prop := match d with
  | .tup xs => Q (.snap xs)
  | .str z => Q (.snap (sgs z))
  | .ref n => rdO h n fun o => (match o with
    | .lst _ => Q (.live n)
    | .frz xs => Q (.snap xs)
    | _ => False)
  | _ => False
structure Es where
  nx : Sg → Hh → Prop
  rt : Kd
  bk : Sg → Hh → Prop
  ct : Sg → Hh → Prop
@[irreducible] def fuel : Nat := 1000000000
/-- the ends behind a word: R stands but once in them, so the goals stay small -/
def seqE (P : Es → Sg → Hh → Prop) (R : Es) : Es := { nx := P R, rt := R.rt, bk := R.bk, ct := R.ct }
def lpE (K : Sg → Hh → Prop) (R : Es) : Es := { nx := K, rt := R.rt, bk := R.nx, ct := K }

/-- a loop's turns -/
def loopS (t : D → Sg → Hh → (Sg → Hh → Prop) → Prop) (b : Es → Sg → Hh → Prop) (R : Es) : List D → Sg → Hh → Prop
  | [], σ, h => R.nx σ h
  | x :: xs, σ, h => t x σ h fun σ1 h1 => b (lpE (loopS t b R xs) R) σ1 h1
def loopL (t : D → Sg → Hh → (Sg → Hh → Prop) → Prop) (b : Es → Sg → Hh → Prop) (R : Es) (n : Nat) : Nat → Nat → Sg → Hh → Prop
  | 0, _, _, _ => False
  | k + 1, i, σ, h => match h[n]? with
    | some (.lst xs) => (match xs[i]? with
      | none => R.nx σ h
      | some x => t x σ h fun σ1 h1 => b (lpE (loopL t b R n k (i + 1)) R) σ1 h1)
    | _ => False
def loopW (c : Sg → Hh → (Bool → Hh → Prop) → Prop) (b : Es → Sg → Hh → Prop) (R : Es) : Nat → Sg → Hh → Prop
  | 0, _, _ => False
  | k + 1, σ, h => c σ h fun d h1 => br d (b (lpE (loopW c b R k) R) σ h1) (R.nx σ h1)
/-- a comprehension's turns: the new list at p -/
def compS (t : D → Sg → Hh → (Sg → Hh → Prop) → Prop) (c : Sg → Hh → (Bool → Hh → Prop) → Prop) (e : Sg → Hh → Kd → Prop) (σ0 : Sg) (p : Nat) (Q : Kd) : List D → Hh → Prop
  | [], h => Q (.ref p) h
  | x :: xs, h => t x σ0 h fun σ1 h1 => c σ1 h1 fun d h2 => br d
      (e σ1 h2 fun y h3 => rdL h3 p fun acc => chk (decide (acc.length < sizeLine)) (put h3 p (.lst (acc ++ [y])) fun h4 => compS t c e σ0 p Q xs h4))
      (compS t c e σ0 p Q xs h2)
def compL (t : D → Sg → Hh → (Sg → Hh → Prop) → Prop) (c : Sg → Hh → (Bool → Hh → Prop) → Prop) (e : Sg → Hh → Kd → Prop) (σ0 : Sg) (p : Nat) (Q : Kd) (n : Nat) : Nat → Nat → Hh → Prop
  | 0, _, _ => False
  | k + 1, i, h => match h[n]? with
    | some (.lst xs) => (match xs[i]? with
      | none => Q (.ref p) h
      | some x => t x σ0 h fun σ1 h1 => c σ1 h1 fun d h2 => br d
        (e σ1 h2 fun y h3 => rdL h3 p fun acc => chk (decide (acc.length < sizeLine)) (put h3 p (.lst (acc ++ [y])) fun h4 => compL t c e σ0 p Q n k (i + 1) h4))
        (compL t c e σ0 p Q n k (i + 1) h2))
    | _ => False
def slotsOf : MT → List Nat
  | .name i => [i]
  | .tup is => is
  | .sub _ _ => []

/-- what an except suite gives back, the error's fields known -/
def HA.val (kvs : List (Str × D)) : HA → Option D
  | .non => some .non
  | .bl b => some (.bl b)
  | .int i => some (.int i)
  | .str x => some (.str x)
  | .fld n => lkD kvs n
def HA.vals (kvs : List (Str × D)) : List HA → Option (List D)
  | [] => some []
  | a :: as => match a.val kvs with
    | some d => (match HA.vals kvs as with
      | some ds => some (d :: ds)
      | none => none)
    | none => none
def HE.val (kvs : List (Str × D)) : HE → Option D
  | .one a => a.val kvs
  | .tup as => match HA.vals kvs as with
    | some ds => if lenOk ds.length then some (.tup ds) else none
    | none => none
def hx (o : Option D) (K : D → Prop) : Prop := match o with
  | some d => K d
  | none => False
/-- the errors that a try takes; the others fly on -/
def exT (ys zs : List Str) (he : HE) (R : Es) (X : Ex) : Ex := fun x kvs h =>
  if ys.any (fun y => strEq x y) then hx (he.val kvs) fun d => R.rt d h else if zs.any (fun z => strEq x z) then X x kvs h else False
/-! ### the run -/
section
variable (gls : List D) (C : Cl)
mutual
def wE (X : Ex) : ME → Sg → Hh → Kd → Prop
  | .non, _, h, Q => Q .non h
  | .bl b, _, h, Q => Q (.bl b) h
  | .int i, _, h, Q => Q (.int i) h
  | .str x, _, h, Q => Q (.str x) h
  | .var i, σ, h, Q => look σ i fun d => Q d h
  | .gl i, _, h, Q => (match gls[i]? with
    | some d => Q d h
    | none => False)
  | .bin op a b, σ, h, Q => wE X a σ h fun x h1 => wE X b σ h1 fun y h2 => opBin op x y h2 Q
  | .neg a, σ, h, Q => wE X a σ h fun x h1 => (match x with | .int i => Q (.int (-i)) h1 | _ => False)
  | .not a, σ, h, Q => wE X a σ h fun x h1 => truth x h1 fun b => Q (.bl (!b)) h1
  | .cmp op a b, σ, h, Q => wE X a σ h fun x h1 => wE X b σ h1 fun y h2 => opCmp op x y h2 fun b => Q (.bl b) h2
  | .chain op op' a b c, σ, h, Q => wE X a σ h fun x h1 => wE X b σ h1 fun y h2 => opCmp op x y h2 fun r => br r
      (wE X c σ h2 fun z h3 => opCmp op' y z h3 fun r' => Q (.bl r') h3) (Q (.bl false) h2)
  | .and a b, σ, h, Q => wE X a σ h fun x h1 => (match x with | .bl r => br r (wE X b σ h1 Q) (Q (.bl false) h1) | _ => False)
  | .or a b, σ, h, Q => wE X a σ h fun x h1 => (match x with | .bl r => br r (Q (.bl true) h1) (wE X b σ h1 Q) | _ => False)
  | .ife t a b, σ, h, Q => wT X t σ h fun r h1 => br r (wE X a σ h1 Q) (wE X b σ h1 Q)
  | .call f es, σ, h, Q => wEs X es σ h fun ds h1 => C f ds h1 Q X
  | .blt f es, σ, h, Q => wEs X es σ h fun ds h1 => opBlt f ds h1 Q
  | .isi a ts, σ, h, Q => wE X a σ h fun x h1 => opIsi x ts h1 Q
  | .meth m o es, σ, h, Q => wE X o σ h fun x h1 => rcv m x h1 (wEs X es σ h1 fun ds h2 => opMeth m x ds h2 Q)
  | .ix a i, σ, h, Q => wE X a σ h fun x h1 => wE X i σ h1 fun y h2 => opIx x y h2 Q
  | .rev a, σ, h, Q => wE X a σ h fun x h1 => opRev x h1 Q
  | .lset a, σ, h, Q => wE X a σ h fun x h1 => (match x with
    | .ref n => rdL h1 n fun ys => lsetN ys fun j => Q (.int j) h1
    | _ => False)
  | .dnew, _, h, Q => new (.dic []) h Q
  | .dnewt, _, h, Q => new (.dtp []) h Q
  | .srt a, σ, h, Q => wE X a σ h fun x h1 => itsOf h1 x fun xs => srtD xs fun ys => new (.lst ys) h1 Q
  | .dlit k x, σ, h, Q => new (.dic []) h fun r h0 => (match r with
    | .ref p => wE X k σ h0 fun y h1 => wE X x σ h1 fun z h2 => (match y with
      | .str s => rdD h2 p fun kvs => chk kvs.isEmpty (put h2 p (.dic [(s, z)]) fun h3 => Q (.ref p) h3)
      | _ => False)
    | _ => False)
  | .dget o k x, σ, h, Q => wE X o σ h fun d h1 => (match d with
    | .ref n => rdD h1 n fun _ => wE X k σ h1 fun y h2 => wE X x σ h2 fun z h3 => (match y with
      | .str s => rdD h3 n fun kvs => Q ((lkD kvs s).getD z) h3
      | _ => False)
    | _ => False)
  | .callk f es, σ, h, Q => wEs X es σ h fun ds h1 => C f ds h1 Q X
  | .callv i f g es, σ, h, Q => look σ i fun d => (match d with
    | .fn a => chk (match gls[g]? with | some (.fn b) => decide (a = b) | _ => false) (wEs X es σ h fun ds h1 => C f ds h1 Q EX0)
    | _ => False)
  | .sl a lo hi, σ, h, Q => wE X a σ h fun x h1 => wEo X lo σ h1 fun l h2 => wEo X hi σ h2 fun u h3 => opSl x l u h3 Q
  | .tup es, σ, h, Q => wEs X es σ h fun ds h1 => chk (lenOk ds.length) (Q (.tup ds) h1)
  | .lst es, σ, h, Q => wEs X es σ h fun ds h1 => chk (lenOk ds.length) (new (.lst ds) h1 Q)
  | .lc elt t it c, σ, h, Q => wI X it σ h fun w h1 => new (.lst []) h1 fun r h2 => (match r with
      | .ref p => (match w with
        | .snap xs => compS (wG EX0 t) (wC EX0 c) (wE EX0 elt) (wipes σ (slotsOf t)) p Q xs h2
        | .live n => compL (wG EX0 t) (wC EX0 c) (wE EX0 elt) (wipes σ (slotsOf t)) p Q n fuel 0 h2)
      | _ => False)
/-- as a test -/
def wT (X : Ex) : ME → Sg → Hh → (Bool → Hh → Prop) → Prop
  | .not a, σ, h, Q => wT X a σ h fun b h1 => Q (!b) h1
  | .and a b, σ, h, Q => wT X a σ h fun r h1 => br r (wT X b σ h1 Q) (Q false h1)
  | .or a b, σ, h, Q => wT X a σ h fun r h1 => br r (Q true h1) (wT X b σ h1 Q)
  | .cmp op a b, σ, h, Q => wE X a σ h fun x h1 => wE X b σ h1 fun y h2 => opCmp op x y h2 fun b => Q b h2
  | .chain op op' a b c, σ, h, Q => wE X a σ h fun x h1 => wE X b σ h1 fun y h2 => opCmp op x y h2 fun r => br r
      (wE X c σ h2 fun z h3 => opCmp op' y z h3 fun r' => Q r' h3) (Q false h2)
  | .ife _ _ _, _, _, _ => False
  | .bl b, _, h, Q => Q b h
  | .var i, σ, h, Q => look σ i fun d => truth d h fun b => Q b h
  | .call f es, σ, h, Q => wEs X es σ h fun ds h1 => C f ds h1 (fun d h2 => truth d h2 fun b => Q b h2) X
  | .callk f es, σ, h, Q => wEs X es σ h fun ds h1 => C f ds h1 (fun d h2 => truth d h2 fun b => Q b h2) X
  | .isi a ts, σ, h, Q => wE X a σ h fun x h1 => opIsi x ts h1 fun d h2 => truth d h2 fun b => Q b h2
  | .ix a i, σ, h, Q => wE X a σ h fun x h1 => wE X i σ h1 fun y h2 => opIx x y h2 fun d h3 => truth d h3 fun b => Q b h3
  | _, _, _, _ => False
def wEs (X : Ex) : MEs → Sg → Hh → (List D → Hh → Prop) → Prop
  | .nil, _, h, Q => Q [] h
  | .cons e es, σ, h, Q => wE X e σ h fun x h1 => wEs X es σ h1 fun xs h2 => Q (x :: xs) h2
def wEo (X : Ex) : MEo → Sg → Hh → (Option Int → Hh → Prop) → Prop
  | .none, _, h, Q => Q none h
  | .some e, σ, h, Q => wE X e σ h fun x h1 => (match x with | .int i => Q (some i) h1 | _ => False)
def wC (X : Ex) : MEo → Sg → Hh → (Bool → Hh → Prop) → Prop
  | .none, _, h, Q => Q true h
  | .some e, σ, h, Q => wT X e σ h Q
def wG (X : Ex) : MT → D → Sg → Hh → (Sg → Hh → Prop) → Prop
  | .name i, d, σ, h, Q => Q (σ.set i (some d)) h
  | .tup is, d, σ, h, Q => (match d with
    | .tup ds => puts is ds σ fun σ1 => Q σ1 h
    | _ => False)
  | .sub a i, d, σ, h, Q => wE X a σ h fun o h1 => wE X i σ h1 fun k h2 => opSet o k d h2 fun h3 => Q σ h3
def wI (X : Ex) : MI → Sg → Hh → (MW → Hh → Prop) → Prop
  | .seq e, σ, h, Q => wE X e σ h fun d h1 => walkOf h1 d fun w => Q w h1
  | .rng1 a, σ, h, Q => wE X a σ h fun d h1 => (match d with
    | .int n => chk (decide (n.natAbs < 2 ^ 62)) (Q (.snap (range n.toNat 0 0)) h1)
    | _ => False)
  | .rng2 a b, σ, h, Q => wE X a σ h fun d h1 => wE X b σ h1 fun e h2 => (match d, e with
    | .int lo, .int hi => chk (decide (lo.natAbs < 2 ^ 62) && decide (hi.natAbs < 2 ^ 62)) (Q (.snap (range (hi - lo).toNat lo 0)) h2)
    | _, _ => False)
end
mutual
def wS (X : Ex) : MS → Es → Sg → Hh → Prop
  | .expr e, R, σ, h => wE gls C X e σ h fun _ h1 => R.nx σ h1
  | .asg t e, R, σ, h => wE gls C X e σ h fun d h1 => wG gls C X t d σ h1 R.nx
  | .aug i op e, R, σ, h => look σ i fun d => wE gls C X e σ h fun y h1 => opAug op d y h1 fun z h2 => R.nx (σ.set i (some z)) h2
  | .ret e, R, σ, h => wE gls C X e σ h R.rt
  | .retN, R, _, h => R.rt .non h
  | .pass, R, σ, h => R.nx σ h
  | .brk, R, σ, h => R.bk σ h
  | .cnt, R, σ, h => R.ct σ h
  | .ife t a b, R, σ, h => wT gls C X t σ h fun r h1 => br r (wB X a R σ h1) (wB X b R σ h1)
  | .whl t b, R, σ, h => loopW (wT gls C X t) (wB X b) R fuel σ h
  | .forr t it b, R, σ, h => wI gls C X it σ h fun w h1 => (match w with
    | .snap xs => loopS (wG gls C X t) (wB X b) R xs σ h1
    | .live n => loopL (wG gls C X t) (wB X b) R n fuel 0 σ h1)
  | .rse x fs es, R, σ, h => wEs gls C X es σ h fun ds h1 => chk (decide (ds.length = fs.length)) (X x (fs.zip ds).reverse h1)
  | .tr b y ys zs i he, R, σ, h => wB (exT ys zs he R X) b R σ h
def wB (X : Ex) : MB → Es → Sg → Hh → Prop
  | .nil, R, σ, h => R.nx σ h
  | .cons s b, R, σ, h => wS X s (seqE (wB X b) R) σ h
end
end
/-- the run of a def: n calls deep at most -/
def run (gls : List D) (tb : List MF) : Nat → Cl
  | 0, _, _, _, _, _ => False
  | n + 1, f, ds, h, Q, X => match tb[f]? with
    | some m => chk (decide (ds.length = m.np)) (wB gls (run gls tb n) X m.body
        { nx := fun _ h' => Q .non h', rt := Q, bk := fun _ _ => False, ct := fun _ _ => False } (ds.map some ++ List.replicate (m.ns - m.np) none) h)
    | none => False
end Mi

set_option Elab.async false
set_option linter.all false
set_option maxRecDepth 100000
/-! MiS: len(set(xs)) of texts, dict(t) of a tuple of pairs, t.index(x) of any tuple. -/
namespace Mi
open PySem PySem.Spec PyProof.Rows L2
theorem nub_len (ys : List Str) : ∀ acc : List Str, (ys.foldl stp acc).length ≤ acc.length + ys.length := by
  induction ys with
  | nil => intro acc; simp
  | cons y ys ih =>
    intro acc
    have h := ih (stp acc y)
    have : (stp acc y).length ≤ acc.length + 1 := by
      unfold stp
      split <;> simp
    simp only [List.foldl_cons, List.length_cons]
    omega
/-- what is in hand after i texts -/
def met (xs : List Str) (i : Nat) : List Str := nub (xs.take i)
theorem met_next {xs : List Str} {i : Nat} {x : Str} (h : xs[i]? = some x) : met xs (i + 1) = stp (met xs i) x := by
  unfold met nub
  rw [List.take_add_one, h]
  simp [List.foldl_append]
theorem met_small (xs : List Str) (i : Nat) : (met xs i).length ≤ i := by
  have := nub_len (xs.take i) []
  simp only [List.length_nil, Nat.zero_add, List.length_take] at this
  unfold met nub
  omega
theorem anyEq (acc : List Str) (y : Str) : (acc.any fun z => strEq z y) = acc.any (· == y) := by
  congr 1
  funext z
  rw [strEq_dec]
  rfl
theorem stp_any (acc : List Str) (y k : Str) : (acc.any (· == k) || decide (k = y)) = (stp acc y).any (· == k) := by
  unfold stp
  rw [anyEq]
  split
  · rename_i h
    by_cases e : k = y
    · subst e; simp [h]
    · simp [e]
  · by_cases e : k = y
    · subst e; simp
    · have : (y == k) = false := by simpa [beq_iff_eq] using fun h : y = k => e h.symm
      simp [e, this]
theorem stp_len (acc : List Str) (y : Str) : (if acc.any (· == y) = true then acc.length else acc.length + 1) = (stp acc y).length := by
  unfold stp
  rw [anyEq]
  split <;> simp
/-- the table holds just the texts of l -/
def Hold (P : Program) (w : World) (h : Heap) (a : Addr) (l : List Str) : Prop := h.SetOf (PySem.strKind P w) a (fun k => l.any (· == k)) l.length
theorem Hold.at' {P : Program} {w : World} {h h' : Heap} {a : Addr} {l : List Str} (S : Hold P w h a l) (k : ∀ o, h.get? a = some o → h'.get? a = some o) : Hold P w h' a l := by
  obtain ⟨o, es, ep, tb, ho, r⟩ := S
  exact ⟨o, es, ep, tb, k o ho, r⟩
theorem Hold.put {P : Program} {w : World} {h : Heap} {a : Addr} {l : List Str} {y : Str} (S : h.SetOf (PySem.strKind P w) a (fun k => l.any (· == k) || decide (k = y)) (if l.any (· == y) = true then l.length else l.length + 1)) : Hold P w h a (stp l y) := by
  unfold Hold
  rw [stp_len] at S
  have e : (fun k => l.any (· == k) || decide (k = y)) = fun k => (stp l y).any (· == k) := funext fun k => stp_any l y k
  rw [e] at S
  exact S

section
variable {P : Program} {w : World} {A : Around} {R : Result → Shared → Prop} {I : Addr} {fp wr : List Addr} {G : Array GenState → Array GenState → Prop} {n : Nat} {Pv : Nat → Value → Prop} {St : Nat → Shared → Prop}
theorem fill (W : WalksS P w A.in1 I fp wr G n Pv St) {a : Addr} (off : a ∉ fp) (xs : List Str) (few : n + 1 < scanBound)
    (val : ∀ i v, Pv i v → ∃ x u, xs[i]? = some x ∧ v = .str x u) : ∀ (m i : Nat) (s : Shared), n - i = m → i ≤ n → St i s → Hold P w s.heap a (met xs i) →
      (∀ s1, Moved (a :: wr) G s s1 → Hold P w s1.heap a (met xs n) → R (.ok (.ret .none)) s1) → codeAny (model P w) A (.builtin "set.update.loop" ⟨[.ref a, .ref I], []⟩) R s := by
  have aw : a ∉ wr := fun z => off (W.sub _ z)
  intro m
  induction m with
  | zero =>
    intro i s hm hi st S K
    obtain rfl : i = n := by omega
    refine codeAny_builtin PyProof.Rows.F.entry_set_update_loop (by
      rw [Around.under_plainId PyProof.Rows.F.plain_set_update_loop _]
      exact wpAny_bind (m := pyNext (.ref I)) (W.done s _ _ st fun s1 mv => wpAny_pure (K s1 (mv.mono fun b z => .tail _ z) (S.at' fun o e => mv.heap a o aw e))))
  | succ m ih =>
    intro i s hm hi st S K
    have lt : i < n := by omega
    refine codeAny_builtin PyProof.Rows.F.entry_set_update_loop ?_
    rw [Around.under_plainId PyProof.Rows.F.plain_set_update_loop _]
    refine wpAny_bind (m := pyNext (.ref I)) (W.item i s _ _ lt st fun v s1 pv st1 mv => ?_)
    obtain ⟨x, u, hx, rfl⟩ := val i v pv
    have S1 : Hold P w s1.heap a (met xs i) := S.at' fun o e => mv.heap a o aw e
    have kx : (PySem.strKind P w).is x (.str x u) = true := PySem.strKind_is _ _ _ _
    refine wpAny_bind (m := holding [Value.str x u] (setAdd a (.str x u))) (wpAny_holding (show wpAny _ _ (setAdd a (.str x u)) _ _ _ from wpAny_holding ?_))
    refine wpAny_bind ((PySem.strKind P w).pyHash kx ?_)
    have room : (met xs i).length + 1 < scanBound := by have := met_small xs i; omega
    refine wpAny_setAddHashed_of (s := ⟨s1.heap, s1.gens, s1.drawn, s1.toks + 1, s1.os⟩) kx rfl S1 room fun h2 same S2 => wpAny_pure ⟨plainId_quiet PyProof.Rows.F.plain_set_update_loop _, ?_⟩
    have S3 : Hold P w h2 a (met xs (i + 1)) := by rw [met_next hx]; exact Hold.put S2
    refine ih (i + 1) _ (by omega) lt (W.frame _ s1 _ _ st1 (Nat.le_add_right _ 1) fun b hb o e => ?_) S3 fun s2 mv2 S4 => K s2 (Moved.trans W.gtrans ((mv.mono fun b z => .tail _ z).then_heap (Nat.le_add_right _ 1) fun b o hb e => ?_) mv2) S4
    · rw [same.2 b (by rintro rfl; exact off hb)]; exact e
    · rw [same.2 b (by rintro rfl; exact hb List.mem_cons_self)]; exact e
end
section
variable {P : Program} {w : World} {A : Around} {E : Value → Shared → Prop} {s : Shared}
/-- a set with nothing in it -/
def set0 (led : Bool) : Obj := { cls := .type "set", dict := none, data := .set #[] 0 (.fresh 0 0 led) }
/-- what set(xs) leaves -/
def Left (P : Program) (w : World) (s : Shared) (xs : List Str) (h : Heap) : Prop := Hold P w h s.heap.objs.size (met xs xs.length) ∧ ∀ b o, s.heap.get? b = some o → h.get? b = some o
set_option maxHeartbeats 3200000 in
theorem set_init {l : Addr} {its : Array Value} {xs : List Str} {led : Bool} (hh : A.handled = none) (hl : s.heap.IsList l its) (hi : StrsAre its.toList xs) (few : xs.length + 1 < scanBound) :
    codeAny (model P w) A (.call (.builtin "set.__init__") ⟨[.ref s.heap.objs.size, .ref l], []⟩)
      (wants (fun r s2 => r = .none ∧ ∃ h tk, s2 = { s with heap := h, toks := tk } ∧ Left P w s xs h) E) { s with heap := s.heap.push (set0 led) } := by
  have at0 : (s.heap.push (set0 led)).get? s.heap.objs.size = some (set0 led) := Heap.get?_push_size _ rfl
  have len : xs.length = its.size := by rw [← StrsAre.len_eq hi, Array.length_toList]
  refine codeAny_call_builtin PySem.F.called_set.init.plain PySem.F.entry_set_init (check_set_init_1 ⟨_, at0, rfl⟩ ?_)
  obtain ⟨⟨cl, dd, dt, sl⟩, at1, c1, nl, d1⟩ := hl
  subst c1
  subst d1
  have at2 := Heap.get?_push_of_some (set0 led) at1
  have i2 : (s.heap.push (set0 led)).IsList l its := ⟨_, at2, rfl, nl, rfl⟩
  have f1 := PySem.F.sub_list_set
  have f2 := PySem.F.sub_list_frozenset
  have f3 : (Value.type "list" == Value.type "dict") = false := by decide
  unfold Builtin.«set.__init__» noKeywords Builtin.Frozenset.updateFrom
  generalize e : pyIter = it
  wp_walk
  subst e
  refine wpAny_pyIter_list i2 (wpAny_bind (wpAny_runValue ?_))
  have big : l < s.heap.objs.size := Heap.lt_size at1
  have sz : (s.heap.push (set0 led)).objs.size = s.heap.objs.size + 1 := Heap.size_push _ _
  have off : l ≠ (s.heap.push (set0 led)).objs.size := by rw [sz]; exact Nat.ne_of_lt (Nat.lt_succ_of_lt big)
  have off2 : s.heap.objs.size ∉ [(s.heap.push (set0 led)).objs.size, l] := by
    rw [sz]
    intro z
    rcases List.mem_cons.mp z with z | z
    · exact Nat.ne_of_lt (Nat.lt_succ_self _) z
    · exact Nat.ne_of_gt big (List.mem_singleton.mp z)
  refine fill (P := P) (w := w) (A := A.in1) (Walks.list (prog := P) (w := w) (A := A.in1.in1) (by simp [hh]) (s.heap.push (set0 led)).objs.size l off its).toS (a := s.heap.objs.size)
    off2 xs (by omega) (fun i v hv => ?_) (its.size - 0) 0 ⟨(s.heap.push (set0 led)).push { cls := .type "list_iterator", data := .fields #[.ref l, .int 0 0] }, s.gens, s.drawn, s.toks, s.os⟩ rfl (Nat.zero_le _)
    ⟨⟨_, Heap.get?_push_size _ rfl, rfl, rfl⟩, i2.push _⟩ ?_ ?_
  · obtain ⟨u, e⟩ := SS.strs_at hi i v (by rw [Array.getElem?_toList]; exact hv)
    have lt : i < xs.length := by
      rw [len]
      exact (Array.getElem?_eq_some_iff.mp hv).1
    refine ⟨xs.getD i Str.empty, u, ?_, e⟩
    rw [List.getD_eq_getElem?_getD, List.getElem?_eq_getElem lt]
    rfl
  · have at3 := Heap.get?_push_of_some (h := s.heap.push (set0 led)) { cls := .type "list_iterator", data := .fields #[.ref l, .int 0 0] } at0
    exact (PyProof.Rows.setObjOf_fresh (knd := PySem.strKind P w) led).setOf at3 (by unfold scanBound; omega)
  · intro s1 mv S
    obtain ⟨h1, g1, d1, t1, o1⟩ := s1
    obtain rfl : g1 = s.gens := mv.gens
    obtain rfl : d1 = s.drawn := mv.drawn
    obtain rfl : o1 = s.os := mv.os
    refine wpAny_pure (show wpAny _ _ (ret Value.none) _ _ _ from wpAny_pure ⟨rfl, h1, t1, rfl, by rw [← len] at S; exact S, fun b o e => ?_⟩)
    have lt := Heap.lt_size e
    refine mv.heap b o (fun z => ?_) (Heap.get?_push_of_some _ (Heap.get?_push_of_some _ e))
    rcases List.mem_cons.mp z with z | z
    · exact Nat.ne_of_lt lt z
    · rw [sz] at z
      exact Nat.ne_of_lt (Nat.lt_succ_of_lt lt) (List.mem_singleton.mp z)
/-- set(xs) of a list of texts -/
theorem call_setL {l : Addr} {its : Array Value} {xs : List Str} {Q : Value → Shared → Prop} (hh : A.handled = none) (hl : s.heap.IsList l its) (hi : StrsAre its.toList xs) (few : xs.length + 1 < scanBound)
    (k : ∀ h tk, Left P w s xs h → Q (.ref s.heap.objs.size) { s with heap := h, toks := tk }) : wpAny (model P w) A (call (.type "set") [.ref l]) Q E s := by
  have ft := PySem.F.called_set
  obtain ⟨c0, c1, c2⟩ := ft.mro
  have c3 := ft.made
  have c4 := ft.sub
  have c5 := ft.notType
  have c6 := ft.canCreate
  have c7 := PySem.F.typeCall_set_1 (.ref l)
  refine wpAny_call (codeAny_of_tree (show wpAny _ _ (callAny (.type "set") _) _ _ _ from wpAny_pure ⟨Code.quiet_builtin _ (by decide +kernel), codeAny_builtin PySem.F.entry_type_call ?_⟩))
  rw [Around.under_plain (weight_type_call_type "set" [.ref l] []) rfl]
  repeat (any_goals (first | assumption | wp_step))
  refine codeAny_mono (code_set_new_1 (.ref l) (E := E) (Q₁ := fun ob s1 => ∃ led, ob = .ref s.heap.objs.size ∧ s1 = ⟨s.heap.push (set0 led), s.gens, s.drawn, s.toks, s.os⟩) fun led => ⟨led, rfl, rfl⟩) fun r s1 z => ?_
  match r, z with
  | .error _, z => exact z
  | .ok (.ret ob), z =>
    obtain ⟨led, rfl, rfl⟩ := z
    have ty : Shared.TypeIs ⟨s.heap.push (set0 led), s.gens, s.drawn, s.toks, s.os⟩ (.ref s.heap.objs.size) "set" := ⟨_, Heap.get?_push_size _ rfl, rfl⟩
    have c8 := ft.init.lookup
    have c9 := ft.init.bind (.ref s.heap.objs.size)
    repeat (any_goals (first | assumption | wp_step))
    refine codeAny_mono (set_init (E := E) (led := led) (by simp [hh]) hl hi few) fun r2 s2 z2 => ?_
    match r2, z2 with
    | .error _, z2 => exact z2
    | .ok (.ret r), z2 =>
      obtain ⟨rfl, h, tk, rfl, z3⟩ := z2
      repeat (any_goals (first | assumption | wp_step))
      exact k _ _ z3
end
section
variable {X : Cx}
/-- len(set(xs)) -/
def tLset (K : PySem.W.Frag) (ta : TE) : TE := fun σ H Q => ta σ H fun x H1 => ∃ (a : Addr) (xs : List Str), x = .ref a ∧ SqL K H1 a (xs.map V.str) ∧ xs.length < 4000 ∧ Q (.int (nub xs).length) H1
theorem pe_lset {a : Expr} {ta : TE} {p p2 q pos : Pos} (hc : X.calm = true) (g1 : Gl X "len") (m1 : X.mg "len" = none) (g2 : Gl X "set") (m2 : X.mg "set" = none) (ha : PE X a ta)
    (na : starEach [a] X.env = (false, eval a X.env) :: starEach [] X.env) : PE X (.Call (.Name "len" p) [.Call (.Name "set" p2) [a] [] q] [] pos) (tLset X.K ta) := ⟨fun pins s σ H Q I w => by
  refine Call_ (ld_blt I g1 m1 boot_len (PyProof.Rows.callWith_builtin1 (PyProof.Rows.args_cons ?_ rfl) rfl rfl))
  refine Call_ (ld_blt I g2 m2 boot_set (PyProof.Rows.callWith_type1 (PyProof.Rows.args_cons (thn (ha.run pins s σ H _ I w) fun v s1 ⟨x, H1, I1, r1, w1⟩ => PyProof.Rows.args_nil ?_) na) na rfl))
  obtain ⟨b, xs, rfl, sq, few, w1⟩ := w1
  cases r1
  obtain ⟨its, rv, pl, hz⟩ := I1.list sq
  refine call_setL (I1.ok.hd hc) pl.isList (by simpa using strsAre_of rv) (by unfold scanBound; omega) fun h tk lf => PyProof.Rows.args_nil ?_
  obtain ⟨⟨o, es, ep, t, ho, ex, hd, _, _, _, hf, hn⟩, keep⟩ := lf
  have I2 : Inv X pins σ H1 ⟨h, s1.gens, s1.drawn, tk, s1.os⟩ := I1.kept keep
  have hm : (met xs xs.length).length = (nub xs).length := by unfold met; rw [List.take_length]
  have := met_small xs xs.length
  refine call_len_set ho ex hd hf (by rw [hn]; omega) ⟨.int (nub xs).length, H1, I2.tok _, ⟨_, by rw [hn, hm]⟩, w1⟩⟩
end

/-! ### tuples whose objects are known -/
/-- behind a new tuple of xs -/
def TupAt (Q : VK) (H : Hp) (xs : List V) : Prop := ∀ (p : Addr) (o : Obj), o.dict = none → H p = none → Q (.ref p) (upd H p (.frz o (.tup xs)))
section
variable {X : Cx} {pins : List (Addr × Obj)} {σ : L2.St} {H : Hp} {s : Shared}
def tO (us : List Value) : Obj := { cls := .type "tuple", data := .seq us.toArray }
theorem lay_tup (I : Inv X pins σ H s) {us : List Value} {xs : List V} {Q : VK} (z : xs.length ≤ sizeLine) (r : Vals xs us) (q : TupAt Q H xs) :
    EP X pins σ Q (.ref s.heap.objs.size) ⟨s.heap.push (tO us), s.gens, s.drawn, s.toks, s.os⟩ :=
  ⟨.ref s.heap.objs.size, upd H s.heap.objs.size (.frz (tO us) (.tup xs)), I.laid (t' := s.toks) (fun b u e => Heap.get?_push_of_some _ e) (Nat.le_refl _)
    (show ObjOk X.prog X.w _ _ _ (.frz (tO us) (.tup xs)) from ⟨Heap.get?_push_size _ rfl, z, us, r, _, Heap.get?_push_size _ rfl, rfl, _, rfl⟩), rfl, q _ (tO us) rfl (I.hok.fresh (Nat.le_refl _))⟩
def tTupF (t : TA) : TE := fun σ H Q => t σ H fun xs H1 => xs.length ≤ sizeLine ∧ TupAt Q H1 xs
theorem pe_tupF {es : List Expr} {t : TA} {pos : Pos} {x1 : Nat} (h : PA X es t) : PE X (.Tuple es x1 pos) (tTupF t) := ⟨fun pins s σ H Q I w =>
  wpAny_Tuple_spliced (thn (h.run pos pins s σ H _ I w) fun us s1 ⟨xs, H1, I1, r, z, q⟩ => ⟨by rw [← r.length]; exact z, lay_tup I1 z r q⟩)⟩
def rTupOf (K : PySem.W.Frag) : List V → Hp → VK → Prop := fun xs H Q => ∃ a ys, xs = [.ref a] ∧ ((SqL K H a ys ∧ TupAt Q H ys) ∨ (SqT K H a ys ∧ Q (.ref a) H))
theorem call_tupF : CallR X (.type "tuple") (rTupOf X.K) := by
  intro pins s σ H xs us Q I r w
  obtain ⟨a, ys, rfl, w⟩ := w
  obtain ⟨u, rfl, ru⟩ := vals1 r
  cases ru
  rcases w with ⟨sq, q⟩ | ⟨sq, q⟩
  · obtain ⟨its, rv, pl, z⟩ := I.list sq
    have n := rv.length
    exact call_tuple_list pl.isList (fun h2 keep => lay_tup (I.kept (t' := s.toks) keep) z rv q) (by rw [List.size_toArray]; omega)
  · obtain ⟨its, rv, pl, z⟩ := I.tuple sq
    exact call_tuple_same pl ⟨.ref a, H, I, rfl, q⟩
def rCatF (K : PySem.W.Frag) : R2 := fun x y H Q => ∃ a b xs ys, x = .ref a ∧ y = .ref b ∧ SqT K H a xs ∧ SqT K H b ys ∧ xs.length + ys.length ≤ sizeLine ∧
  (xs = [] → Q (.ref b) H) ∧ (xs ≠ [] → ys = [] → Q (.ref a) H) ∧ (xs ≠ [] → ys ≠ [] → TupAt Q H (xs ++ ys))
theorem op_catF : OpR X (binaryOp .Add) (rCatF X.K) := by
  intro pins s σ H x y v u Q I rx ry w
  obtain ⟨a, b, xs, ys, rfl, rfl, ha, hb, z, q0, q1, q2⟩ := w
  cases rx
  cases ry
  obtain ⟨its, r1, p1, _⟩ := I.tuple ha
  obtain ⟨jts, r2, p2, _⟩ := I.tuple hb
  by_cases hx : xs = []
  · subst hx
    cases r1
    exact cat_tup0 p1 p2 ⟨.ref b, H, I, rfl, q0 rfl⟩
  · refine HT.cat_tup p1 p2 (fun e => hx (r1.nil_iff.mp e)) (fun e => ⟨.ref a, H, I, rfl, q1 hx (r2.nil_iff.mp e)⟩) (fun e => lay_tup I (by rw [List.length_append]; exact z) (r1.append r2) (q2 hx fun e2 => e (r2.nil_iff.mpr e2))) (by rw [← r1.length, ← r2.length]; exact z)
def rSlF (K : PySem.W.Frag) : V → Option Int → Option Int → Hp → VK → Prop := fun x lo hi H Q => ∃ a xs, x = .ref a ∧ SqT K H a xs ∧
  ¬ (HT.sIx xs.length 0 lo = 0 ∧ HT.sIx xs.length xs.length hi = xs.length) ∧ TupAt Q H (cutV xs lo hi)
theorem sl_tupF : SlR X (rSlF X.K) := by
  intro pins s σ H x v vl vu lo hi sl Q I rx hs pl pu w
  obtain ⟨a, xs, rfl, sq, no, q⟩ := w
  cases rx
  obtain ⟨its, r, ht, z⟩ := I.tuple sq
  have n : its.toArray.size = xs.length := by rw [List.size_toArray]; exact r.length.symm
  refine ⟨"tuple", _, PyProof.Rows.slot_tuple_getitem.lookup, ht.typeIs, HT.getItem_tuple_cut ht hs pl pu (by rw [n]; exact no) ?_ (by rw [n]; exact z)⟩
  rw [n]
  exact lay_tup I (Nat.le_trans (cutV_length xs lo hi) z) ((r.drop (HT.sIx xs.length 0 lo)).take (HT.sIx xs.length xs.length hi - HT.sIx xs.length 0 lo)) q
end

/-- it has no dict of its own -/
def BareT (K : PySem.W.Frag) (H : Hp) (a : Addr) : Prop := (∃ o u, H a = some (.frz o u) ∧ o.dict = none) ∨ ∃ o, K.lookup a = some o ∧ o.dict = none
section
variable {X : Cx} {pins : List (Addr × Obj)} {σ : L2.St} {H : Hp} {s : Shared}
theorem BareT.at_ {a : Addr} (b : BareT X.K H a) (I : Inv X pins σ H s) : ∃ o, s.heap.get? a = some o ∧ o.dict = none := by
  rcases b with ⟨o, u, e, d⟩ | ⟨o, e, d⟩
  · exact ⟨o, (I.hok a _ e).1, d⟩
  · exact ⟨o, I.kIn a o e, d⟩
def tTM (K : PySem.W.Frag) (r : V → List V → Hp → VK → Prop) (to : TE) (t : TA) : TE := fun σ H Q => to σ H fun x H1 => (∃ a xs, x = .ref a ∧ SqT K H1 a xs ∧ BareT K H1 a) ∧ t σ H1 fun xs H2 => r x xs H2 Q
variable {o e : Expr} {es : List Expr} {to : TE} {t : TA} {name : Str} {apos cpos : Pos} {id : String} {r : V → List V → Hp → VK → Prop}
theorem pe_tM (slot : Slot "tuple" name id) (ty : typeOf (.builtin id) = pure (.type "method_descriptor")) (hm : MtR X id r) (ho : PE X o to) (ha : PA X (e :: es) t) (b0 : attributeBase o name X.env (eval o X.env) = eval o X.env)
    (few : ((backTo cpos (starEach (e :: es) X.env)).all (fun x => !x.1) && (backToKw cpos (keywordEach [] X.env)).all (fun x => x.1.isSome)
      && decide ((e :: es).length + ([] : List Keyword).length + (if ([] : List Keyword).isEmpty then 0 else 1) < 30)) = true)
    (ln : (apos.endLine == cpos.line) = true) (st : starEach (e :: es) X.env = (false, eval e X.env) :: starEach es X.env) (pl : (backTo cpos (starEach es X.env)).any (·.1) = false) :
    PE X (.Call (.Attribute o name apos) (e :: es) [] cpos) (tTM X.K r to t) := ⟨fun pins s σ H Q I w =>
  wpAny_Call_method_late b0 few ln rfl (thn (ho.run pins s σ H _ I w) fun v s1 ⟨x, H1, I1, r1, ⟨a, xs, ex, sq, ba⟩, w1⟩ => by
    subst ex
    cases r1
    obtain ⟨its, _, p1, _⟩ := I1.tuple sq
    obtain ⟨ob, h1, h2⟩ := ba.at_ I1
    refine ⟨"tuple", id, PySem.F.plainAttrs_tuple, slot, ty, p1.typeIs, fun b eb => by cases eb; exact ⟨ob, h1, h2⟩, ?_⟩
    have hA := ha.run cpos pins s1 σ H1 _ I1 w1
    rw [st] at hA ⊢
    refine Calls.callWith_builtin (by show (false || (backTo cpos (starEach es X.env)).any (·.1)) = false; rw [pl] <;> rfl) (Calls.evalArgs_plain ?_)
    exact thn hA fun us s2 ⟨vs, H2, I2, r2, w2⟩ => hm pins s2 σ H2 (.ref a) vs _ us Q I2 rfl r2 w2)⟩
/-- dict(t), t a tuple of pairs -/
def rDictT (K : PySem.W.Frag) : List V → Hp → VK → Prop := fun xs H Q => ∃ (a : Addr) (ps : List Addr) (kvs : List (L2.Key × V)), xs = [.ref a] ∧ SqT K H a (ps.map V.ref) ∧ BareT K H a ∧ Paired (fun p kv => SqT K H p [kV kv.1, kv.2]) ps kvs ∧
    ∀ p, H p = none → Q (.ref p) (upd H p (.dK (mergeK [] kvs)))
theorem call_dictT (hc : X.calm = true) : CallR X (.type "dict") (rDictT X.K) := by
  intro pins s σ H xs us Q I r w
  obtain ⟨a, ps, kvs, rfl, sq, ba, pp, q⟩ := w
  obtain ⟨u, rfl, ru⟩ := vals1 r
  cases ru
  obtain ⟨its, rv, ⟨ob, g1, g2, n, g3⟩, z⟩ := I.tuple sq
  obtain rfl := refs_at rv
  rw [List.length_map] at z
  obtain ⟨prs, rel, ln, each⟩ := pairs_of I pp
  obtain ⟨o2, g4, g5⟩ := ba.at_ I
  rw [g1] at g4
  cases g4
  have pick : ∀ (j : Nat) (q : L2.Key × Value), prs[j]? = some q → ∃ u, ps[j]? = some (ps.getD j 0) ∧ s.heap.IsTuple (ps.getD j 0) #[u, q.2] ∧ keyIs q.1 u = true := fun j q e => by
    obtain ⟨b, u, e1, e2, e3⟩ := each j q e
    have eb : ps.getD j 0 = b := by rw [List.getD_eq_getElem?_getD, e1]; rfl
    rw [eb]
    exact ⟨u, e1, e2, e3⟩
  have keys : ∃ ks : List Value, ks.length = prs.length ∧ ∀ (j : Nat) (q : L2.Key × Value) (u : Value), prs[j]? = some q → ks[j]? = some u → s.heap.IsTuple (ps.getD j 0) #[u, q.2] ∧ keyIs q.1 u = true := by
    refine ⟨(List.range prs.length).map fun j => if h : j < prs.length then (pick j prs[j] (List.getElem?_eq_getElem h)).choose else .none, by simp, fun j q u e1 e2 => ?_⟩
    obtain ⟨hj, ej⟩ := List.getElem?_eq_some_iff.mp e1
    rw [List.getElem?_map, List.getElem?_range hj] at e2
    simp only [Option.map_some, Option.some.injEq] at e2
    rw [dif_pos hj] at e2
    subst ej
    have := (pick j prs[j] (List.getElem?_eq_getElem hj)).choose_spec
    rw [e2] at this
    exact this.2
  obtain ⟨ks, kl, kp⟩ := keys
  have zl : (ks.zip (prs.map (·.2))).length = prs.length := by simp [kl]
  have zat : ∀ (i : Nat) (k v : Value), (ks.zip (prs.map (·.2)))[i]? = some (k, v) → ∃ q, prs[i]? = some q ∧ q.2 = v ∧ ks[i]? = some k := fun i k v e => by
    obtain ⟨e1, e2⟩ := List.getElem?_zip_eq_some.mp e
    rw [List.getElem?_map] at e2
    cases h : prs[i]? with
    | none => rw [h] at e2; cases e2
    | some q => rw [h] at e2; exact ⟨q, rfl, Option.some.inj e2, e1⟩
  refine PySem.call_dict_pairs (knd := mixKind X.prog X.w) (kvs := prs) (PairArg.tuple a (ps.map Value.ref).toArray (fun j => ps.getD j 0) (ks.zip (prs.map (·.2)))) (I.ok.hd hc) ⟨⟨ob, n, g1, g2, g5, g3⟩, ?_, fun j k v e => ?_⟩ ⟨zl.symm, fun i k v e => ?_⟩ (by rw [zl, ln]; exact z) fun h2 tk hd keep => ?_
  · rw [zl, ln]; simp
  · obtain ⟨q, e1, e2, e3⟩ := zat j k v e
    obtain ⟨u, e4, _⟩ := pick j q e1
    obtain ⟨t1, t2⟩ := kp j q k e1 e3
    rw [e2] at t1
    refine ⟨?_, .inl t1⟩
    rw [List.getElem?_toArray, List.getElem?_map, e4]
    rfl
  · obtain ⟨q, e1, e2, e3⟩ := zat i k v e
    obtain ⟨t1, t2⟩ := kp i q k e1 e3
    exact ⟨q.1, by rw [e1, ← e2], t2⟩
  · have hm : (s.heap.objs.size == sysModules) = false := beq_eq_false_iff_ne.mpr (Nat.ne_of_gt I.big)
    have hl : (mergeK [] kvs).length ≤ sizeLine := by
      have := length_mergeK kvs []
      have := rel.length
      simp only [List.length_nil] at *
      omega
    exact ⟨.ref s.heap.objs.size, upd H s.heap.objs.size (.dK (mergeK [] kvs)), I.laid (t' := tk) (fun b o e => keep b o (by simp) e) (Nat.le_refl _) (show ObjOk X.prog X.w _ _ _ (.dK (mergeK [] kvs)) from ⟨hl, hm, merged [] prs, KV.merge rel .nil, hd⟩), rfl, q _ (I.hok.fresh (Nat.le_refl _))⟩
end
end Mi

set_option Elab.async false
set_option linter.all false
set_option maxRecDepth 100000
set_option maxHeartbeats 4000000
/-! MiT: dicts whose keys are tuples, by what is true of their object; sorted of whatever can be collected. -/
namespace Mi
open PySem PySem.Spec PyProof.Rows L2

/-! ### dicts of tuples -/
/-- a key, its tuple's place, the value -/
abbrev Ent := List L2.Key × Addr × Value
def DTat (P : Program) (w : World) (a : Addr) (xs : List Ent) (h : Heap) : Prop :=
  (xs.length ≤ sizeLine ∧ (a == sysModules) = false) ∧ ∃ o es ep, h.get? a = some o ∧ o.ExactDict ∧ o.data = .dict es ep ∧ es.toList = xs.map (entryOfKey (tupleKind (mixKind P w))) ∧ (xs.map (·.1)).Nodup
def DTO (P : Program) (w : World) (a : Addr) (xs : List Ent) : HO := .ext (DTat P w a xs)
theorem dto_ok {P : Program} {w : World} {H : Hp} {h : Heap} {a : Addr} {xs : List Ent} (x : DTat P w a xs h) : ObjOk P w H h a (DTO P w a xs) :=
  ⟨x, let ⟨_, o, _, _, e, _⟩ := x; ⟨o, e⟩, fun _ _ ⟨z, o, es, ep, e, r⟩ k => ⟨z, o, es, ep, k o e, r⟩⟩
/-- its keys' tuples stand -/
def DTK (K : PySem.W.Frag) (H : Hp) (xs : List Ent) : Prop := ∀ x ∈ xs, SqT K H x.2.1 (x.1.map kV)
section
variable {X : Cx} {pins : List (Addr × Obj)} {σ : L2.St} {H : Hp} {s : Shared} {a b : Addr} {xs : List Ent} {k : List L2.Key} {A : Around} {E : Value → Shared → Prop}
theorem dto_of (I : Inv X pins σ H s) (e : H a = some (DTO X.prog X.w a xs)) : DTat X.prog X.w a xs s.heap := (show _ ∧ _ from I.hok a _ e).1
theorem key_sq (I : Inv X pins σ H s) (sq : SqT X.K H b (k.map kV)) : (tupleKind (mixKind X.prog X.w)).is s.heap k b := by
  obtain ⟨its, r, ⟨o, h1, h2, n, h3⟩, _⟩ := I.tuple sq
  exact ⟨o, its.toArray, n, h1, h2, h3, by simpa using items_are r⟩
theorem dto_dict (I : Inv X pins σ H s) (d : DTat X.prog X.w a xs s.heap) (q : DTK X.K H xs) : s.heap.DictOfH (tupleKind (mixKind X.prog X.w)) a xs := by
  obtain ⟨_, o, es, ep, h1, h2, h3, h4, h5⟩ := d
  exact ⟨o, es, ep, h1, h2, h3, h4, fun x m => key_sq I (q x m), h5⟩
theorem dto_get {p : Addr × Value} {Q : Value → Shared → Prop} (hu : A.units + 1 < cLine) (I : Inv X pins σ H s) (e : H a = some (DTO X.prog X.w a xs)) (q : DTK X.K H xs) (sq : SqT X.K H b (k.map kV)) (hp : atKey xs k = some p)
    (h : ∀ s', Inv X pins σ H s' → Q p.2 s') : wpAny (model X.prog X.w) A (getItem (.ref a) (.ref b)) Q E s :=
  wpAny_getItem_heap (tupleKind_room_in1 hu) (key_sq I sq) (dto_dict I (dto_of I e) q) hp (h _ (I.tok _))
theorem dto_in {Q : Value → Shared → Prop} (hu : A.units + 1 < cLine) (I : Inv X pins σ H s) (e : H a = some (DTO X.prog X.w a xs)) (q : DTK X.K H xs) (sq : SqT X.K H b (k.map kV))
    (h : ∀ s', Inv X pins σ H s' → Q (.bool (atKey xs k).isSome) s') : wpAny (model X.prog X.w) A (compareOp .In (.ref b) (.ref a)) Q E s :=
  wpAny_in_heap (tupleKind_room_in1 hu) (key_sq I sq) (dto_of I e).1.2 (dto_dict I (dto_of I e) q) (h _ (I.tok _))
theorem dto_notin {Q : Value → Shared → Prop} (hu : A.units + 1 < cLine) (I : Inv X pins σ H s) (e : H a = some (DTO X.prog X.w a xs)) (q : DTK X.K H xs) (sq : SqT X.K H b (k.map kV))
    (h : ∀ s', Inv X pins σ H s' → Q (.bool (!(atKey xs k).isSome)) s') : wpAny (model X.prog X.w) A (compareOp .NotIn (.ref b) (.ref a)) Q E s :=
  wpAny_notIn_heap (tupleKind_room_in1 hu) (key_sq I sq) (dto_of I e).1.2 (dto_dict I (dto_of I e) q) (h _ (I.tok _))
theorem dto_set {u : Value} {Q : Unit → Shared → Prop} (hu : A.units + 1 < cLine) (I : Inv X pins σ H s) (e : H a = some (DTO X.prog X.w a xs)) (q : DTK X.K H xs) (sq : SqT X.K H b (k.map kV)) (l : xs.length < sizeLine)
    (h : ∀ s', Inv X pins σ (upd H a (DTO X.prog X.w a (storedH xs k b u))) s' → Q () s') : wpAny (model X.prog X.w) A (setItem (.ref a) (.ref b) u) Q E s := by
  have d := dto_of I e
  refine wpAny_setItem_heap (hsz := Nat.le_of_lt l) (tupleKind_room_in1 hu) (key_sq I sq) (dto_dict I d q) fun h' dd hs => h _ ?_
  obtain ⟨o, es, ep, hq, h2, h3, h4, _, h5⟩ := dd
  have hl : (storedH xs k b u).length ≤ sizeLine := by
    have : (storedH xs k b u).length ≤ xs.length + 1 := by
      unfold storedH
      split <;> simp
    omega
  exact d_write I (by rw [e]; exact True.intro) hs ⟨o, hq⟩ (dto_ok ⟨⟨hl, d.1.2⟩, o, es, ep, hq, h2, h3, h4, h5⟩)
theorem pe_dnewTO {pos : Pos} : PE X (.Dict [] [] pos) (fun _ H Q => ∀ p, H p = none → Q (.ref p) (upd H p (DTO X.prog X.w p []))) := ⟨fun pins s σ H Q I h =>
  wpAny_Dict_empty ⟨.ref s.heap.objs.size, _, I.laid (a := s.heap.objs.size) (o := DTO X.prog X.w s.heap.objs.size []) (t' := s.toks) (fun _ _ q => Heap.get?_push_of_some _ q) (Nat.le_refl _)
    (dto_ok ⟨⟨Nat.zero_le _, beq_eq_false_iff_ne.mpr (Ne.symm (Nat.ne_of_lt I.big))⟩, _, #[], 0, Heap.get?_push_size _ rfl, ⟨rfl, rfl, rfl⟩, rfl, rfl, List.nodup_nil⟩), rfl, h _ (I.hok.fresh (Nat.le_refl _))⟩⟩
end

/-! ### sorted, over what is collected -/
section
variable {prog : Program} {w : World} {A : Around} {E : Value → Shared → Prop} {s : Shared}
theorem sorted_by {v : Value} {G : List Value → Prop} {Q : Value → Shared → Prop}
    (hc : ∀ R : List Value → Shared → Prop, (∀ (vs : List Value) (h' : Heap) (tk : Nat), G vs → (∀ b o, s.heap.get? b = some o → h'.get? b = some o) → R vs { s with heap := h', toks := tk }) → wpAny (model prog w) A.in1 (collect v) R E s)
    (rest : ∀ vs, G vs → vs.length ≤ sizeLine ∧ ∃ ltv : Value → Value → Bool, SrtO.Swo ltv ∧
      (2 ≤ vs.length → ∀ (h₁ : Heap) (tk : Nat) (a : Addr), (∀ b o, s.heap.get? b = some o → b ≠ a ∧ h₁.get? b = some o) → SrtO.SortableO prog w A.in1.in1 { s with heap := h₁, toks := tk } a vs ltv) ∧
      ∀ (h₀ h' : Heap) (tk : Nat) (out : List Value), SrtO.Srtd ltv out → SrtO.Stb ltv out vs → (∀ b o, s.heap.get? b = some o → h₀.get? b = some o) → (∀ b o, h₀.get? b = some o → h'.get? b = some o) → (∃ n, h'.get? h₀.objs.size = some (seqObj "list" out.toArray n)) → Q (.ref h₀.objs.size) { s with heap := h', toks := tk }) :
    wpAny (model prog w) A (call (.builtin "sorted") [v]) Q E s := by
  refine Calls.call_function_entry kind_sorted plain_sorted entry_sorted (args_sorted1 _) ?_
  unfold Builtin.«sorted»
  refine wpAny_bind (m := checkCount "sorted" 1 1 _) (wpAny_pure ?_)
  refine wpAny_bind (hc _ fun vs h' tk g keep => ?_)
  obtain ⟨hz, ltv, O, hS, fin⟩ := rest vs g
  refine wpAny_bind (wpAny_newList ?_ hz)
  have hoL : (h'.push (seqObj "list" vs.toArray 0)).get? h'.objs.size = some (seqObj "list" vs.toArray 0) := Heap.get?_push_size _ rfl
  have lt : ∀ b o, s.heap.get? b = some o → b < h'.objs.size := fun b o e => Heap.lt_size (keep b o e)
  show wpAny _ _ _ _ _ { s with heap := h'.push (seqObj "list" vs.toArray 0), toks := tk }
  refine wpAny_bind (wpAny_holding (wpAny_call_entry slot_list_sort ⟨_, hoL, rfl⟩ entry_list_sort
    (SrtO.list_sort_ord (s := { s with heap := h'.push (seqObj "list" vs.toArray 0), toks := tk }) O hoL hz (fun h2 => hS h2 _ tk _ fun b o e => ⟨Nat.ne_of_lt (lt b o e), Heap.get?_push_of_some _ (keep b o e)⟩) fun out hs hb => ⟨_, rfl, ?_⟩) (args_list_sort _)))
  refine wpAny_pure ⟨_, rfl, fin h' _ tk out hs hb keep (fun b o e => ?_) ?_⟩
  · have hb : b < h'.objs.size := Heap.lt_size e
    show (sortedHeap (h'.push (seqObj "list" vs.toArray 0)) h'.objs.size vs out.toArray).get? b = some o
    rw [PyProof.Rows.sortedHeap_old (Nat.ne_of_lt hb) (by rw [size_push']; exact Nat.lt_succ_of_lt hb)]
    exact Heap.get?_push_of_some _ e
  · obtain ⟨e', he'⟩ := PyProof.Rows.sortedHeap_at (vs := vs) (out := out.toArray) hoL
    exact ⟨e', he'⟩
end
end Mi

set_option Elab.async false
set_option linter.all false
set_option maxRecDepth 100000
set_option maxHeartbeats 1000000
/-! Mi: some more rules over the kit's: d.update(e), d[k] by a text, xs.count(text), t[::-1] of a tuple. -/
namespace Mi
open PySem PySem.Spec PyProof.Rows L2
section
variable {X : Cx}
def rDUpd : V → List V → Hp → VK → Prop := fun x vs H Q => ∃ (a b : Addr) (kvs es : List (L2.Key × V)), x = .ref a ∧ vs = [.ref b] ∧ a ≠ b ∧ H a = some (.dK kvs) ∧ H b = some (.dK es) ∧ kvs.length + es.length ≤ sizeLine ∧ Q .non (upd H a (.dK (mergeK kvs es)))
theorem mt_dupd : MtR X "dict.update" rDUpd := by
  intro pins s σ H x vs v us Q I rx rv h
  obtain ⟨a, b, kvs, es, rfl, rfl, hne, e, e2, hz, q⟩ := h
  obtain rfl : v = Value.ref a := rx
  obtain ⟨u, rfl, ru⟩ := rv.one
  obtain rfl : u = Value.ref b := ru
  obtain ⟨z, hd, vs, rel, dd⟩ := dk_of I.hok e
  obtain ⟨z2, hd2, vs2, rel2, dd2⟩ := dk_of I.hok e2
  refine call_meetsIn PySem.F.slot_dict_update dd.typeIs PySem.F.entry_dict_update (PySem.F.args_dict_update_2 _ _) (meets_dict_update (mixKind X.prog X.w) a b hne hd2)
    ⟨vs, vs2, dd, dd2, by rw [← rel.length, ← rel2.length]; exact hz, fun h' dd' _ hs => ⟨.non, _, ?_, rfl, q⟩⟩
  have he : ∃ q, h'.get? a = some q := let ⟨q, _, _, hq, _⟩ := dd'; ⟨q, hq⟩
  have hl : (mergeK kvs es).length ≤ sizeLine := Nat.le_trans (length_mergeK es kvs) hz
  exact d_write (t' := s.toks) I (by rw [e]; exact True.intro) hs he (dk_new hl hd (rel2.merge rel) dd')
/-- d[k], there -/
def rIxDK : R2 := fun x y H Q => ∃ (a : Addr) (kvs : List (L2.Key × V)) (z : Str) (v : V), x = .ref a ∧ y = .str z ∧ H a = some (.dK kvs) ∧ valV kvs (Sum.inr z : L2.Key) = some v ∧ Q v H
theorem ix_dK (hu : X.A.units + 1 < cLine) : IxR X rIxDK := by
  intro value slice pins s σ H x y v u Q I rx ry h hs
  obtain ⟨a, kvs, z, w, rfl, rfl, e, l, q⟩ := h
  obtain rfl : v = Value.ref a := rx
  have g : DGet H a (.str z) (some w) := by rw [← l]; exact DGet.k (k := Sum.inr z) e
  exact tail_any (dict_typeIs I g) PySem.F.slot_dict_getitem.lookup (d_getItem hu I g ry fun w' s3 I3 rw' => ⟨w, H, I3, rw', q⟩) hs
def rCntS (K : PySem.W.Frag) : V → List V → Hp → VK → Prop := fun x xs H Q => ∃ (p : Addr) (ns : List Str) (k : Str), x = .ref p ∧ xs = [.str k] ∧ SqL K H p (ns.map V.str) ∧ Q (.int (ns.countP (· == k) : Nat)) H
theorem strs_of_vals : ∀ {ys : List Str} {us : List Value}, Vals (ys.map V.str) us → StrsAre us ys
  | [], _, .nil => .nil
  | y :: ys, _, .cons r t => by
    obtain ⟨k, rfl⟩ := r
    exact .cons _ _ (strs_of_vals t)
theorem count_strs (k : Str) : ∀ {vs : List Value} {ys : List Str}, StrsAre vs ys → vs.countP (isStrOf k) = ys.countP (· == k)
  | _, _, .nil => rfl
  | _, _, .cons n u h => by
    rw [List.countP_cons, List.countP_cons, count_strs k h]
    rfl
theorem mt_countS : MtR X "list.count" (rCntS X.K) := by
  intro pins s σ H x xs v us Q I rx rxs h
  obtain ⟨p, ns, k, rfl, rfl, hs, q⟩ := h
  cases rx
  obtain ⟨u, rfl, ru⟩ := rxs.one
  obtain ⟨t, rfl⟩ := ru
  obtain ⟨its, rv, ⟨⟨cls, dd, data, sl⟩, n, ho, hc, hdn, hd⟩, hlen⟩ := I.list hs
  simp only at hc hd
  subst hc hd
  have hi := strs_of_vals rv
  refine call_meets PySem.F.slot_list_count ⟨_, ho, rfl⟩ PySem.F.entry_list_count (PySem.F.args_list_count_2 _ _)
    (SeqAt.list_countAt p its.toArray n dd sl (.str k t) (isStrOf k)) ⟨ho, fun y hy => (eq_isStrOf k t hi y (by simpa using hy)).at _ _, ?_⟩
  have ec : its.toArray.toList.countP (isStrOf k) = ns.countP (· == k) := count_strs k hi
  refine ⟨.int (ns.countP (· == k) : Nat), H, I.tok _, ⟨s.toks, ?_⟩, q⟩
  show Value.int ((its.toArray.toList.countP (isStrOf k) : Nat) : Int) s.toks = _
  rw [ec]

end
section
variable {prog : Program} {w : World} {A : Around} {E : Value → Shared → Prop} {s : Shared}
theorem applied_back {sl : Addr} {k : Tok} {n : Nat} {Q : Int × Int × Nat → Shared → Prop} (hs : s.heap.IsSliceOf sl .none .none (.int (-1) k))
    (h : Q ((n : Int) - 1, -1, n) s) : wpAny (model prog w) A (Builtin.Slice.sliceApplied (.ref sl) (pure (n : Int))) Q E s := by
  obtain ⟨os, hos, hcs, hds⟩ := id hs
  unfold Builtin.Slice.sliceApplied Builtin.Slice.sliceFields
  refine wpAny_bind (wpAny_bind (wpAny_field hos hds (x := .none) rfl (wpAny_bind (wpAny_field hos hds (x := .none) rfl (wpAny_bind (wpAny_field hos hds (x := .int (-1) k) rfl (wpAny_pure ?_)))))))
  refine wpAny_bind (slicePart_int ?_)
  show wpAny _ _ (if ((-1 : Int) == 0) = true then _ else _) _ _ s
  rw [if_neg (by decide)]
  refine wpAny_bind (slicePart_none (wpAny_bind (slicePart_none (wpAny_bind (wpAny_pure ?_)))))
  show wpAny _ _ (match Builtin.Slice.sliceAdjust none none (-1) (n : Int) with | (lo, hi) => pure (lo, (-1 : Int), Builtin.Slice.slicePlaces lo hi (-1))) _ _ s
  have e1 : Builtin.Slice.sliceAdjust none none (-1) (n : Int) = ((n : Int) - 1, -1) := rfl
  rw [e1]
  show wpAny _ _ (pure ((n : Int) - 1, (-1 : Int), Builtin.Slice.slicePlaces ((n : Int) - 1) (-1) (-1))) _ _ s
  have e2 : Builtin.Slice.slicePlaces ((n : Int) - 1) (-1) (-1) = n := by
    unfold Builtin.Slice.slicePlaces
    rw [if_neg (by decide)]
    split
    · rw [show (- -1 : Int) = 1 by decide, Int.ediv_one]; omega
    · omega
  rw [e2]
  exact wpAny_pure h
theorem pick_backT (xs : List Value) : ((List.range xs.length).filterMap fun (m : Nat) => xs.toArray[(((xs.length : Int) - 1) + (m : Int) * (-1)).toNat]?).toArray = xs.reverse.toArray := by
  congr 1
  have e2 : ∀ n, n ≤ xs.length → List.filterMap (fun (m : Nat) => xs.toArray[(((xs.length : Int) - 1) + (m : Int) * (-1)).toNat]?) (List.range n) = xs.reverse.take n := by
    intro n
    induction n with
    | zero => intro _; rfl
    | succ n ih =>
      intro hn
      rw [List.range_succ, List.filterMap_append, ih (by omega), List.take_add_one]
      congr 1
      have h1 : xs.length - 1 - n < xs.length := by omega
      have h2 : n < xs.reverse.length := by simp; omega
      have h3 : (((xs.length : Int) - 1) + (n : Int) * (-1)).toNat = xs.length - 1 - n := by omega
      rw [List.getElem?_eq_getElem h2, List.getElem_reverse]
      simp only [List.filterMap_cons, h3]
      simp [h1]
  rw [e2 _ (Nat.le_refl _), List.take_of_length_le (by simp)]
theorem getItem_tuple_back {t sl : Addr} {items : List Value} {k : Tok} {Q : Value → Shared → Prop} (ht : IsTup s.heap t items.toArray) (hs : s.heap.IsSliceOf sl .none .none (.int (-1) k))
    (h : Q (.ref s.heap.objs.size) { s with heap := s.heap.push { cls := .type "tuple", data := .seq items.reverse.toArray } })
    (hsz : items.length ≤ sizeLine) : wpAny (model prog w) A (getItem (.ref t) (.ref sl)) Q E s := by
  have htake : sizeOk (.seq items.reverse.toArray) := by
    show items.reverse.toArray.size ≤ sizeLine
    rw [List.size_toArray, List.length_reverse]
    exact hsz
  obtain ⟨os, hos, hcs, hds⟩ := id hs
  have hTs : s.TypeIs (.ref sl) "slice" := ⟨os, hos, hcs⟩
  unfold getItem
  try with_reducible refine wpAny_holding ?_
  first | refine wpAny_bind (wpAny_pure ?_) | skip
  refine wpAny_bind (wpAny_sequenceKey ht.typeIs (by decide) ?_)
  refine wpAny_bind (wpAny_callSpecial?_slot (name := Str.ofString "__getitem__") ht.typeIs PyProof.Rows.slot_tuple_getitem
    (wpAny_call_entry PyProof.Rows.slot_tuple_getitem ht.typeIs entry_tuple_getitem ?_ (args_tuple_getitem _ _)))
  show wpAny _ _ (Builtin.Tuple.tupleItemsOf (.ref t) >>= _) _ _ s
  refine wpAny_bind (tupleItemsOf_ ht ?_)
  refine wpAny_bind (wpAny_typeOf hTs ?_)
  rw [if_pos (by decide)]
  rw [List.size_toArray]
  refine wpAny_bind (applied_back hs ?_)
  have hno : ¬ ((((items.length : Int) - 1 == 0) && ((-1 : Int) == 1) && items.length == items.length) = true) := by
    intro q
    rw [Bool.and_eq_true, Bool.and_eq_true] at q
    exact absurd (eq_of_beq q.1.2) (by decide)
  show wpAny _ _ (if (((items.length : Int) - 1 == 0) && ((-1 : Int) == 1) && items.length == items.length) = true then _ else _) _ _ s
  rw [if_neg hno, pick_backT]
  first
    | exact wpAny_bind (m := Builtin.Tuple.tupleExact _) (wpAny_newObj_type (wpAny_pure ⟨_, rfl, wpAny_pure h⟩) htake)
    | exact wpAny_bind (m := Builtin.Tuple.tupleExact _) (wpAny_newObj_type (wpAny_bind (wpAny_pure (wpAny_pure ⟨_, rfl, wpAny_pure h⟩))) htake)
    | exact wpAny_bind (wpAny_bind (m := Builtin.Tuple.tupleExact _) (wpAny_newObj_type (wpAny_pure (wpAny_pure ⟨_, rfl, wpAny_pure h⟩)) htake))
    | exact wpAny_bind (wpAny_bind (m := Builtin.Tuple.tupleExact _) (wpAny_newObj_type (wpAny_pure ⟨_, rfl, wpAny_pure h⟩) htake))
end
end Mi

set_option Elab.async false
set_option linter.all false
set_option maxRecDepth 100000
/-! Mi: the slice of a list from its end to its beginning, by the step -1. -/
namespace Mi
open PySem PySem.Spec PyProof.Rows L2
theorem range_back (n : Nat) : sliceRange ((n : Int) - 1) (-1) (-1) = (List.range n).map fun k => n - 1 - k := by
  unfold sliceRange
  have e : (if (-1 : Int) > 0 then (if (n : Int) - 1 < -1 then (-1 - ((n : Int) - 1) + -1 - 1) / -1 else 0) else (if (n : Int) - 1 > -1 then ((n : Int) - 1 - -1 - -1 - 1) / (- -1) else 0)) = n := by
    rw [if_neg (by decide)]
    split
    · rw [show (- -1 : Int) = 1 by decide, Int.ediv_one]; omega
    · omega
  simp only [e, Int.toNat_natCast]
  refine List.map_congr_left fun k hk => ?_
  have := List.mem_range.mp hk
  omega
theorem pick_back (xs : List Value) : slicePick xs.toArray none none (some (-1)) = xs.reverse.toArray := by
  unfold slicePick
  congr 1
  have e : sliceBounds none none (some (-1)) xs.toArray.size = ((xs.length : Int) - 1, -1, -1) := by
    simp [sliceBounds]
  rw [e]
  show List.filterMap (xs.toArray[·]?) (sliceRange ((xs.length : Int) - 1) (-1) (-1)) = xs.reverse
  rw [range_back, List.filterMap_map]
  have e2 : ∀ n, n ≤ xs.length → List.filterMap ((fun i => xs.toArray[i]?) ∘ fun k => xs.length - 1 - k) (List.range n) = xs.reverse.take n := by
    intro n
    induction n with
    | zero => intro _; rfl
    | succ n ih =>
      intro hn
      rw [List.range_succ, List.filterMap_append, ih (by omega), List.take_add_one]
      congr 1
      have h1 : xs.length - 1 - n < xs.length := by omega
      have h2 : n < xs.reverse.length := by simp; omega
      rw [List.getElem?_eq_getElem h2, List.getElem_reverse]
      simp [h1]
  rw [e2 _ (Nat.le_refl _), List.take_of_length_le (by simp)]
section
variable {X : Cx} {e st : Expr} {te ts : TE} {pos p2 : Pos}
def rRevL (K : PySem.W.Frag) : V → Hp → VK → Prop := fun x H Q => ∃ a xs, x = .ref a ∧ ((SqL K H a xs ∧ ∀ p, H p = none → Q (.ref p) (upd H p (.lst xs.reverse))) ∨ (SqT K H a xs ∧ TupAt Q H xs.reverse))
def tRev (K : PySem.W.Frag) (te ts : TE) : TE := fun σ H Q => te σ H fun x H1 => ts σ H1 fun y H2 => y = .int (-1) ∧ rRevL K x H2 Q
theorem rev_vals {xs : List V} {us : List Value} (r : Vals xs us) : Vals xs.reverse us.reverse := by
  induction r with
  | nil => exact .nil
  | cons a b ih =>
    rw [List.reverse_cons, List.reverse_cons]
    exact ih.append (.cons a .nil)
theorem pe_rev (he : PE X e te) (hs : PE X st ts) : PE X (.Subscript e (.Slice none none (some st) p2) pos) (tRev X.K te ts) := by
  refine ⟨fun pins s σ H Q I h => ?_⟩
  refine Subscript_ (thn (he.run pins s σ H _ I h) fun v s1 ⟨x, H1, I1, r1, q1⟩ => ?_)
  refine wpAny_Slice ?_
  rw [evalPart_none]
  refine wpAny_pure ?_
  refine wpAny_pure ?_
  rw [evalPart_some]
  refine thn (hs.run pins s1 σ H1 _ I1 q1) fun vs s3 ⟨y, H3, I3, r3, ey, q3⟩ => ?_
  subst ey
  obtain ⟨t, rfl⟩ := r3
  have I4 : Inv X pins σ H3 { s3 with heap := s3.heap.push { cls := .type "slice", data := .fields #[.none, .none, .int (-1) t] } } := I3.kept (t' := s3.toks) fun b ob q => Heap.get?_push_of_some _ q
  obtain ⟨a, xs, rfl, q3⟩ := q3
  cases r1
  rcases q3 with ⟨hx, q⟩ | ⟨hx, q⟩
  · obtain ⟨its, r, ht, hz⟩ := I4.list hx
    have hlen := r.length
    have hg : wpAny (model X.prog X.w) X.A (getItem (.ref a) (.ref s3.heap.objs.size)) (EP X pins σ Q) X.xe { s3 with heap := s3.heap.push { cls := .type "slice", data := .fields #[.none, .none, .int (-1) t] } } := by
      refine wpAny_getItem_list_slice ht.isList (Heap.IsSliceOf.new ..) .none .none (.int (-1) t) (by decide) ?_ (by rw [List.size_toArray] <;> omega)
      rw [pick_back]
      refine ⟨.ref _, _, I4.laid (t' := s3.toks) (o := .lst xs.reverse) (fun b ob q => Heap.get?_push_of_some _ q) (Nat.le_refl _) ?_, rfl, q _ (I4.hok.fresh (Nat.le_refl _))⟩
      exact ⟨by rw [List.length_reverse]; exact hz, _, 0, rev_vals r, Heap.get?_push_size _ rfl⟩
    exact tail_any (ops := [.ref a, .ref s3.heap.objs.size]) ht.isList.typeIs slot_list_getitem.lookup hg (by with_unfolding_all rfl)
  · obtain ⟨its, r, ht, hz⟩ := I4.tuple hx
    have hlen := r.length
    have hg : wpAny (model X.prog X.w) X.A (getItem (.ref a) (.ref s3.heap.objs.size)) (EP X pins σ Q) X.xe { s3 with heap := s3.heap.push { cls := .type "slice", data := .fields #[.none, .none, .int (-1) t] } } := by
      exact getItem_tuple_back ht (Heap.IsSliceOf.new ..) (lay_tup I4 (by rw [List.length_reverse]; exact hz) (rev_vals r) q) (by omega)
    exact tail_any (ops := [.ref a, .ref s3.heap.objs.size]) ht.typeIs slot_tuple_getitem.lookup hg (by with_unfolding_all rfl)
end
end Mi

set_option Elab.async false
set_option linter.all false
set_option maxRecDepth 100000
/-! Mi: how its values and objects lie in the layer's heap. -/
namespace Mi
open PySem PySem.Spec PyProof.Rows L2
/-- the fragment, the program, the world -/
structure KW where
  K : PySem.W.Frag
  P : Program
  w : World
instance : Coe KW PySem.W.Frag := ⟨KW.K⟩
abbrev _root_.L2.Cx.kw (X : L2.Cx) : KW := ⟨X.K, X.prog, X.w⟩

section
variable (K : KW) (loc : List Addr) (H : Hp)
mutual
def RD : D → V → Prop
  | .non, v => v = .non
  | .bl b, v => v = .bl b
  | .int i, v => v = .int i
  | .str x, v => v = .str x
  | .tup ds, v => ∃ a vs, v = .ref a ∧ SqT K H a vs ∧ BareT K H a ∧ RDs ds vs
  | .ref n, v => ∃ a, v = .ref a ∧ loc[n]? = some a
  | .fn a, v => v = .ref a
def RDs : List D → List V → Prop
  | [], vs => vs = []
  | d :: ds, vs => ∃ v r, vs = v :: r ∧ RD d v ∧ RDs ds r
end
end
/-- a list that nobody changes -/
def Fz (K : KW) (H : Hp) (a : Addr) (vs : List V) : Prop :=
  (∃ o, H a = some (.frz o (.lst vs))) ∨ ∃ (o : Obj) (its : Array Value) (n : Nat), K.K.lookup a = some o ∧ o.cls = .type "list" ∧ o.dict = none ∧ o.data = .seq its n ∧ its.size ≤ sizeLine ∧ Vals vs its.toList
theorem Fz.sq {K : KW} {H : Hp} {a : Addr} {vs : List V} (f : Fz K H a vs) : SqL K H a vs := by
  rcases f with ⟨o, e⟩ | f
  · exact .inl (.inr ⟨o, e⟩)
  · exact .inr f
def isKey (k : Key) (d : D) : Prop := match k with
  | .inl i => d = .int i
  | .inr x => d = .str x
/-- a dict's entries -/
def RKs (K : KW) (loc : List Addr) (H : Hp) : List (Str × D) → List (L2.Key × V) → Prop
  | [], ks => ks = []
  | e :: r, ks => ∃ v t, ks = ((Sum.inr e.1 : L2.Key), v) :: t ∧ RD K loc H e.2 v ∧ RKs K loc H r t
def kD : L2.Key → D
  | .inl i => .int i
  | .inr x => .str x
/-- the entries of a dict of tuples -/
def RTs (K : KW) (loc : List Addr) (H : Hp) : List (List D × D) → List Ent → Prop
  | [], es => es = []
  | e :: r, es => ∃ ks b u t v, es = (ks, b, u) :: t ∧ e.1 = ks.map kD ∧ SqT K H b (ks.map kV) ∧ BareT K H b ∧ RelV v u ∧ RD K loc H e.2 v ∧ RTs K loc H r t
def OR (K : KW) (loc : List Addr) (H : Hp) (a : Addr) : MO → Prop
  | .lst ds => ∃ vs, H a = some (.lst vs) ∧ RDs K loc H ds vs
  | .frz ds => ∃ vs, Fz K H a vs ∧ RDs K loc H ds vs
  | .dic kvs => ∃ ks, H a = some (.dK ks) ∧ RKs K loc H kvs ks
  | .dtp kvs => ∃ es, H a = some (DTO K.P K.w a es) ∧ RTs K loc H kvs es
def mutO : MO → Bool
  | .frz _ => false
  | _ => true
structure RH (K : KW) (loc : List Addr) (H : Hp) (h : Hh) : Prop where
  len : loc.length = h.length
  ob : ∀ (n : Nat) (o : MO), h[n]? = some o → ∃ a : Addr, loc[n]? = some a ∧ OR K loc H a o
  inj : ∀ (i j : Nat) (a : Addr) (oi oj : MO), h[i]? = some oi → h[j]? = some oj → mutO oi = true → mutO oj = true → loc[i]? = some a → loc[j]? = some a → i = j
/-- a later state -/
structure Xt (K : KW) (loc : List Addr) (H : Hp) (loc' : List Addr) (H' : Hp) : Prop where
  tp : ∀ a xs, SqT K H a xs → SqT K H' a xs
  tb : ∀ a, BareT K H a → BareT K H' a
  fz : ∀ a xs, Fz K H a xs → Fz K H' a xs
  lc : ∀ (n : Nat) (a : Addr), loc[n]? = some a → loc'[n]? = some a
section
variable {K : KW} {loc loc' loc2 : List Addr} {H H' H2 : Hp} {h h' : Hh}
theorem Xt.refl : Xt K loc H loc H := ⟨fun _ _ q => q, fun _ q => q, fun _ _ q => q, fun _ _ q => q⟩
theorem Xt.trans (a : Xt K loc H loc' H') (b : Xt K loc' H' loc2 H2) : Xt K loc H loc2 H2 := ⟨fun _ _ q => b.tp _ _ (a.tp _ _ q), fun _ q => b.tb _ (a.tb _ q), fun _ _ q => b.fz _ _ (a.fz _ _ q), fun _ _ q => b.lc _ _ (a.lc _ _ q)⟩
mutual
theorem RD.mono (x : Xt K loc H loc' H') : ∀ (d : D) (v : V), RD K loc H d v → RD K loc' H' d v
  | .non, v, r => by rw [RD] at r ⊢; exact r
  | .bl b, v, r => by rw [RD] at r ⊢; exact r
  | .int i, v, r => by rw [RD] at r ⊢; exact r
  | .str z, v, r => by rw [RD] at r ⊢; exact r
  | .tup ds, v, r => by
    rw [RD] at r ⊢
    obtain ⟨a, vs, e, s, b, q⟩ := r
    exact ⟨a, vs, e, x.tp _ _ s, x.tb _ b, RDs.mono x ds vs q⟩
  | .ref n, v, r => by
    rw [RD] at r ⊢
    obtain ⟨a, e, q⟩ := r
    exact ⟨a, e, x.lc _ _ q⟩
  | .fn a, v, r => by rw [RD] at r ⊢; exact r
theorem RDs.mono (x : Xt K loc H loc' H') : ∀ (ds : List D) (vs : List V), RDs K loc H ds vs → RDs K loc' H' ds vs
  | [], vs, r => by rw [RDs] at r ⊢; exact r
  | d :: ds, vs, r => by
    rw [RDs] at r ⊢
    obtain ⟨v, t, e, q1, q2⟩ := r
    exact ⟨v, t, e, RD.mono x d v q1, RDs.mono x ds t q2⟩
end
theorem RKs.mono (x : Xt K loc H loc' H') : ∀ (kvs : List (Str × D)) (ks : List (L2.Key × V)), RKs K loc H kvs ks → RKs K loc' H' kvs ks
  | [], _, r => r
  | e :: r, ks, q => by
    obtain ⟨v, t, e1, q1, q2⟩ := q
    exact ⟨v, t, e1, q1.mono x, RKs.mono x r t q2⟩
theorem RKs.length : ∀ {kvs : List (Str × D)} {ks : List (L2.Key × V)}, RKs K loc H kvs ks → ks.length = kvs.length
  | [], _, r => by rw [show _ = [] from r]; rfl
  | e :: r, ks, q => by
    obtain ⟨v, t, rfl, q1, q2⟩ := q
    simp [q2.length]
theorem RKs.val : ∀ {kvs : List (Str × D)} {ks : List (L2.Key × V)}, RKs K loc H kvs ks → ∀ x : Str, (lkD kvs x = none ∧ valV ks (Sum.inr x : L2.Key) = none) ∨ ∃ d v, lkD kvs x = some d ∧ valV ks (Sum.inr x : L2.Key) = some v ∧ RD K loc H d v
  | [], _, r, x => by rw [show _ = [] from r]; exact .inl ⟨rfl, rfl⟩
  | e :: r, ks, q, x => by
    obtain ⟨v, t, rfl, q1, q2⟩ := q
    unfold lkD
    by_cases h : e.1 = x
    · rw [if_pos (strEq_iff.mpr h), valV_pos (by rw [h])]
      exact .inr ⟨_, _, rfl, rfl, q1⟩
    · rw [if_neg (fun z => h (strEq_iff.mp z)), valV_neg (fun z => h (Sum.inr.inj z))]
      exact q2.val x
theorem RKs.any : ∀ {kvs : List (Str × D)} {ks : List (L2.Key × V)}, RKs K loc H kvs ks → ∀ x : Str, (ks.any fun kv => decide (kv.1 = (Sum.inr x : L2.Key))) = kvs.any fun kv => strEq kv.1 x
  | [], _, r, x => by rw [show _ = [] from r]; rfl
  | e :: r, ks, q, x => by
    obtain ⟨v, t, rfl, q1, q2⟩ := q
    rw [List.any_cons, List.any_cons, q2.any x]
    congr 1
    rw [strEq_dec]
    by_cases h : e.1 = x
    · simp [h]
    · rw [decide_eq_false (fun z => h (Sum.inr.inj z)), decide_eq_false h]
theorem RKs.mapSet {x : Str} {d : D} {v : V} (rv : RD K loc H d v) : ∀ {kvs : List (Str × D)} {ks : List (L2.Key × V)}, RKs K loc H kvs ks → RKs K loc H (kvs.map fun kv => if strEq kv.1 x then (kv.1, d) else kv) (ks.map fun kv => if kv.1 = (Sum.inr x : L2.Key) then (kv.1, v) else kv)
  | [], _, r => by rw [show _ = [] from r]; rfl
  | e :: r, ks, q => by
    obtain ⟨w, t, rfl, q1, q2⟩ := q
    by_cases h : e.1 = x
    · rw [List.map_cons, List.map_cons, if_pos (strEq_iff.mpr h), if_pos (by rw [h])]
      exact ⟨_, _, rfl, rv, RKs.mapSet rv q2⟩
    · rw [List.map_cons, List.map_cons, if_neg (fun z => h (strEq_iff.mp z)), if_neg (fun z => h (Sum.inr.inj z))]
      exact ⟨_, _, rfl, q1, RKs.mapSet rv q2⟩
theorem RKs.append : ∀ {kvs es : List (Str × D)} {ks ls : List (L2.Key × V)}, RKs K loc H kvs ks → RKs K loc H es ls → RKs K loc H (kvs ++ es) (ks ++ ls)
  | [], _, _, _, r, q => by rw [show _ = [] from r]; exact q
  | e :: r, es, ks, ls, q, q' => by
    obtain ⟨w, t, rfl, q1, q2⟩ := q
    exact ⟨_, _, rfl, q1, q2.append q'⟩
theorem RKs.put {kvs : List (Str × D)} {ks : List (L2.Key × V)} (r : RKs K loc H kvs ks) (x : Str) {d : D} {v : V} (rv : RD K loc H d v) : RKs K loc H (putD kvs x d) (putK ks (Sum.inr x : L2.Key) v) := by
  unfold putD putK
  rw [r.any x]
  by_cases h : (kvs.any fun kv => strEq kv.1 x) = true
  · rw [if_pos h, if_pos h]
    exact RKs.mapSet rv r
  · rw [if_neg h, if_neg h]
    exact r.append ⟨_, _, rfl, rv, rfl⟩
theorem RKs.merge : ∀ {es : List (Str × D)} {ls : List (L2.Key × V)} {kvs : List (Str × D)} {ks : List (L2.Key × V)}, RKs K loc H es ls → RKs K loc H kvs ks → RKs K loc H (mergeD kvs es) (mergeK ks ls)
  | [], _, _, _, r, q => by rw [show _ = [] from r]; exact q
  | e :: es, ls, kvs, ks, r, q => by
    obtain ⟨w, t, rfl, q1, q2⟩ := r
    show RKs K loc H (mergeD (putD kvs e.1 e.2) es) (mergeK (putK ks (Sum.inr e.1) w) t)
    exact RKs.merge q2 (q.put e.1 q1)
theorem RTs.mono (x : Xt K loc H loc' H') : ∀ (kvs : List (List D × D)) (es : List Ent), RTs K loc H kvs es → RTs K loc' H' kvs es
  | [], _, r => r
  | e :: r, es, q => by
    obtain ⟨ks, b, u, t, v, e1, e2, q1, q2, q3, q4, q5⟩ := q
    exact ⟨ks, b, u, t, v, e1, e2, x.tp _ _ q1, x.tb _ q2, q3, q4.mono x, RTs.mono x r t q5⟩
theorem RTs.length : ∀ {kvs : List (List D × D)} {es : List Ent}, RTs K loc H kvs es → es.length = kvs.length
  | [], _, r => by rw [show _ = [] from r]; rfl
  | e :: r, es, q => by
    obtain ⟨ks, b, u, t, v, rfl, e2, q1, q2, q3, q4, q5⟩ := q
    simp [q5.length]
theorem eqDs_kD : ∀ {ks js : List L2.Key}, eqDs (ks.map kD) (js.map kD) = decide (ks = js)
  | [], [] => rfl
  | [], _ :: _ => rfl
  | _ :: _, [] => rfl
  | k :: ks, j :: js => by
    show (eqD (kD k) (kD j) && eqDs (ks.map kD) (js.map kD)) = _
    rw [eqDs_kD]
    have h : eqD (kD k) (kD j) = decide (k = j) := by
      cases k <;> cases j
      · show (_ == _) = _
        rw [Bool.eq_iff_iff]
        simp
      · simp [kD, eqD]
      · simp [kD, eqD]
      · simp [kD, eqD, strEq_dec]
    rw [h]
    simp [List.cons.injEq]
theorem kD_of : ∀ {xs : List D}, xs.all isKy = true → ∃ ks : List L2.Key, xs = ks.map kD
  | [], _ => ⟨[], rfl⟩
  | d :: xs, h => by
    rw [List.all_cons, Bool.and_eq_true] at h
    obtain ⟨ks, rfl⟩ := kD_of h.2
    cases d with
    | int i => exact ⟨.inl i :: ks, rfl⟩
    | str x => exact ⟨.inr x :: ks, rfl⟩
    | _ => cases h.1
theorem rds_keys : ∀ {ks : List L2.Key} {vs : List V}, RDs K loc H (ks.map kD) vs → vs = ks.map kV
  | [], vs, r => by rw [List.map_nil, RDs] at r; exact r
  | k :: ks, vs, r => by
    rw [List.map_cons, RDs] at r
    obtain ⟨v, t, rfl, q1, q2⟩ := r
    rw [rds_keys q2]
    cases k with
    | inl i => rw [show kD (.inl i) = .int i from rfl, RD] at q1; rw [q1]; rfl
    | inr x => rw [show kD (.inr x) = .str x from rfl, RD] at q1; rw [q1]; rfl
theorem rds_kV : ∀ (ks : List L2.Key), RDs K loc H (ks.map kD) (ks.map kV)
  | [] => by rw [List.map_nil, RDs]; rfl
  | k :: ks => by
    rw [List.map_cons, RDs]
    refine ⟨kV k, ks.map kV, rfl, ?_, rds_kV ks⟩
    cases k with
    | inl i => rw [show kD (.inl i) = .int i from rfl, RD]; rfl
    | inr x => rw [show kD (.inr x) = .str x from rfl, RD]; rfl
theorem RTs.dtk : ∀ {kvs : List (List D × D)} {es : List Ent}, RTs K loc H kvs es → DTK K H es
  | [], _, r => by rw [show _ = [] from r]; exact fun _ m => absurd m List.not_mem_nil
  | e :: r, es, q => by
    obtain ⟨ks, b, u, t, v, rfl, e2, q1, q2, q3, q4, q5⟩ := q
    intro x m
    rcases List.mem_cons.mp m with rfl | m
    · exact q1
    · exact q5.dtk x m
theorem atKey_cons {ks js : List L2.Key} {b : Addr} {u : Value} {t : List Ent} : atKey ((ks, b, u) :: t) js = if ks = js then some (b, u) else atKey t js := by
  unfold atKey
  rw [List.find?_cons]
  by_cases h : ks = js
  · simp [h]
  · simp [h]
theorem RTs.val : ∀ {kvs : List (List D × D)} {es : List Ent}, RTs K loc H kvs es → ∀ js : List L2.Key, (lkT kvs (js.map kD) = none ∧ atKey es js = none) ∨ ∃ d p v, lkT kvs (js.map kD) = some d ∧ atKey es js = some p ∧ RelV v p.2 ∧ RD K loc H d v
  | [], _, r, js => by rw [show _ = [] from r]; exact .inl ⟨rfl, rfl⟩
  | e :: r, es, q, js => by
    obtain ⟨ks, b, u, t, v, rfl, e2, q1, q2, q3, q4, q5⟩ := q
    have h0 : lkT (e :: r) (js.map kD) = if eqDs e.1 (js.map kD) then some e.2 else lkT r (js.map kD) := rfl
    rw [h0, e2, eqDs_kD, atKey_cons]
    by_cases h : ks = js
    · rw [if_pos (decide_eq_true h), if_pos h]
      exact .inr ⟨_, _, _, rfl, rfl, q3, q4⟩
    · rw [if_neg (by simpa using h), if_neg h]
      exact q5.val js
theorem RTs.any : ∀ {kvs : List (List D × D)} {es : List Ent}, RTs K loc H kvs es → ∀ js : List L2.Key, (kvs.any fun kv => eqDs kv.1 (js.map kD)) = (atKey es js).isSome
  | [], _, r, js => by rw [show _ = [] from r]; rfl
  | e :: r, es, q, js => by
    obtain ⟨ks, b, u, t, v, rfl, e2, q1, q2, q3, q4, q5⟩ := q
    rw [List.any_cons, e2, eqDs_kD, atKey_cons, q5.any js]
    by_cases h : ks = js
    · rw [decide_eq_true h, if_pos h]; rfl
    · rw [decide_eq_false h, if_neg h]; rfl
theorem RTs.repl {js : List L2.Key} {d : D} {v : V} {u : Value} (ru : RelV v u) (rv : RD K loc H d v) : ∀ {kvs : List (List D × D)} {es : List Ent}, RTs K loc H kvs es → RTs K loc H (kvs.map fun kv => if eqDs kv.1 (js.map kD) then (kv.1, d) else kv) (es.map (putAt js u))
  | [], _, r => by rw [show _ = [] from r]; rfl
  | e :: r, es, q => by
    obtain ⟨ks, b, w, t, v2, rfl, e2, q1, q2, q3, q4, q5⟩ := q
    have ih := q5.repl (js := js) ru rv
    rw [List.map_cons, List.map_cons, e2, eqDs_kD]
    unfold putAt
    by_cases h : ks = js
    · rw [if_pos (decide_eq_true h)]
      exact ⟨ks, b, u, _, v, by rw [if_pos h]; rfl, rfl, q1, q2, ru, rv, ih⟩
    · rw [if_neg (by simpa using h)]
      exact ⟨ks, b, w, _, v2, by rw [if_neg h]; rfl, e2, q1, q2, q3, q4, ih⟩
theorem RTs.append : ∀ {kvs ls : List (List D × D)} {es fs : List Ent}, RTs K loc H kvs es → RTs K loc H ls fs → RTs K loc H (kvs ++ ls) (es ++ fs)
  | [], _, _, _, r, q => by rw [show _ = [] from r]; exact q
  | e :: r, ls, es, fs, q, q' => by
    obtain ⟨ks, b, u, t, v, rfl, e2, q1, q2, q3, q4, q5⟩ := q
    exact ⟨ks, b, u, _, v, rfl, e2, q1, q2, q3, q4, q5.append q'⟩
theorem RTs.put {kvs : List (List D × D)} {es : List Ent} (r : RTs K loc H kvs es) (js : List L2.Key) {b : Addr} {d : D} {v : V} {u : Value} (sq : SqT K H b (js.map kV)) (ba : BareT K H b) (ru : RelV v u) (rv : RD K loc H d v) :
    RTs K loc H (putT kvs (js.map kD) d) (storedH es js b u) := by
  unfold putT storedH
  rw [r.any js]
  by_cases q : (atKey es js).isSome = true
  · rw [if_pos q, if_pos q]; exact r.repl ru rv
  · rw [if_neg q, if_neg q]; exact r.append ⟨js, b, u, [], v, rfl, rfl, sq, ba, ru, rv, rfl⟩
theorem RDs.nil : RDs K loc H [] [] := by rw [RDs]
theorem RDs.cons {d : D} {v : V} {ds : List D} {vs : List V} (a : RD K loc H d v) (b : RDs K loc H ds vs) : RDs K loc H (d :: ds) (v :: vs) := by rw [RDs]; exact ⟨v, vs, rfl, a, b⟩
theorem RDs.length : ∀ {ds : List D} {vs : List V}, RDs K loc H ds vs → vs.length = ds.length
  | [], vs, r => by rw [RDs] at r; rw [r]; rfl
  | d :: ds, vs, r => by
    rw [RDs] at r
    obtain ⟨v, t, rfl, _, q⟩ := r
    simp [q.length]
theorem RDs.at_ : ∀ {ds : List D} {vs : List V}, RDs K loc H ds vs → ∀ {i : Nat} {d : D}, ds[i]? = some d → ∃ v, vs[i]? = some v ∧ RD K loc H d v
  | [], _, _, _, _, e => by simp at e
  | d :: ds, vs, r, 0, _, e => by
    rw [RDs] at r
    obtain ⟨v, t, rfl, q1, _⟩ := r
    simp at e
    subst e
    exact ⟨v, rfl, q1⟩
  | d :: ds, vs, r, i + 1, _, e => by
    rw [RDs] at r
    obtain ⟨v, t, rfl, _, q⟩ := r
    exact q.at_ (i := i) (by simpa using e)
theorem RDs.of : ∀ {ds : List D} {vs : List V}, vs.length = ds.length → (∀ (i : Nat) (v : V) (d : D), vs[i]? = some v → ds[i]? = some d → RD K loc H d v) → RDs K loc H ds vs
  | [], vs, e, _ => by rw [RDs]; exact List.length_eq_zero_iff.mp e
  | d :: ds, [], e, _ => by simp at e
  | d :: ds, v :: vs, e, q => .cons (q 0 v d rfl rfl) (RDs.of (by simpa using e) fun i w f a b => q (i + 1) w f (by simpa using a) (by simpa using b))
theorem RDs.pt {ds : List D} {vs : List V} (r : RDs K loc H ds vs) {i : Nat} {v : V} {d : D} (a : vs[i]? = some v) (b : ds[i]? = some d) : RD K loc H d v := by
  obtain ⟨w, e, q⟩ := r.at_ b
  rw [a] at e
  cases e
  exact q
theorem RDs.append {ds es : List D} {vs ws : List V} (r : RDs K loc H ds vs) (q : RDs K loc H es ws) : RDs K loc H (ds ++ es) (vs ++ ws) := by
  have l1 := r.length
  have l2 := q.length
  refine RDs.of (by simp [l1, l2]) fun i v d a b => ?_
  by_cases hi : i < ds.length
  · rw [List.getElem?_append_left (by omega)] at a b
    exact r.pt a b
  · rw [List.getElem?_append_right (by omega)] at a b
    rw [l1] at a
    exact q.pt a b
theorem RDs.take {ds : List D} {vs : List V} (r : RDs K loc H ds vs) (n : Nat) : RDs K loc H (ds.take n) (vs.take n) := by
  have l1 := r.length
  refine RDs.of (by simp [l1]) fun i v d a b => ?_
  rw [List.getElem?_take] at a b
  split at a
  · rename_i h
    rw [if_pos h] at b
    exact r.pt a b
  · cases a
theorem RDs.drop {ds : List D} {vs : List V} (r : RDs K loc H ds vs) (n : Nat) : RDs K loc H (ds.drop n) (vs.drop n) := by
  have l1 := r.length
  refine RDs.of (by simp [l1]) fun i v d a b => ?_
  rw [List.getElem?_drop] at a b
  exact r.pt a b
theorem RDs.set {ds : List D} {vs : List V} (r : RDs K loc H ds vs) (n : Nat) {d : D} {v : V} (q : RD K loc H d v) : RDs K loc H (ds.set n d) (vs.set n v) := by
  have l1 := r.length
  refine RDs.of (by simp [l1]) fun i w f a b => ?_
  rw [List.getElem?_set] at a b
  split at a
  · rename_i h
    rw [if_pos h] at b
    split at a
    · rename_i h2
      rw [if_pos (by omega)] at b
      cases a
      cases b
      exact q
    · cases a
  · rename_i h
    rw [if_neg h] at b
    exact r.pt a b
theorem RDs.eraseIdx {ds : List D} {vs : List V} (r : RDs K loc H ds vs) (n : Nat) : RDs K loc H (ds.eraseIdx n) (vs.eraseIdx n) := by
  have l1 := r.length
  rw [List.eraseIdx_eq_take_drop_succ, List.eraseIdx_eq_take_drop_succ]
  exact (r.take n).append (r.drop (n + 1))
theorem RDs.dropLast {ds : List D} {vs : List V} (r : RDs K loc H ds vs) : RDs K loc H ds.dropLast vs.dropLast := by
  have l1 := r.length
  rw [List.dropLast_eq_take, List.dropLast_eq_take, l1]
  exact r.take _
theorem RDs.rep {ds : List D} {vs : List V} (r : RDs K loc H ds vs) : ∀ n : Nat, RDs K loc H (List.replicate n ds).flatten (List.replicate n vs).flatten
  | 0 => RDs.nil
  | n + 1 => by
    rw [List.replicate_succ, List.replicate_succ, List.flatten_cons, List.flatten_cons]
    exact r.append (r.rep n)
theorem RDs.isEmpty {ds : List D} {vs : List V} (r : RDs K loc H ds vs) : vs.isEmpty = ds.isEmpty := by
  have l1 := r.length
  cases ds <;> cases vs <;> simp at l1 <;> rfl

/-! ### the heap's steps -/
theorem sqt_upd {a p : Addr} {xs : List V} {o : HO} (hp : H p = none ∨ (∃ vs, H p = some (.lst vs)) ∨ (∃ kvs, H p = some (.dK kvs)) ∨ ∃ φ, H p = some (.ext φ)) (q : SqT K H a xs) : SqT K (upd H p o) a xs := by
  rcases q with (q | ⟨ob, q⟩) | q
  · refine .inl (.inl ?_)
    have : a ≠ p := by
      rintro rfl
      rcases hp with e | ⟨_, e⟩ | ⟨_, e⟩ | ⟨_, e⟩ <;> (rw [q] at e; cases e)
    rw [upd_ne this]
    exact q
  · refine .inl (.inr ⟨ob, ?_⟩)
    have : a ≠ p := by
      rintro rfl
      rcases hp with e | ⟨_, e⟩ | ⟨_, e⟩ | ⟨_, e⟩ <;> (rw [q] at e; cases e)
    rw [upd_ne this]
    exact q
  · exact .inr q
theorem bare_upd {a p : Addr} {o : HO} (hp : H p = none ∨ (∃ vs, H p = some (.lst vs)) ∨ (∃ kvs, H p = some (.dK kvs)) ∨ ∃ φ, H p = some (.ext φ)) (q : BareT K H a) : BareT K (upd H p o) a := by
  rcases q with ⟨ob, u, q, d⟩ | q
  · refine .inl ⟨ob, u, ?_, d⟩
    rw [upd_ne (by
      rintro rfl
      rcases hp with e | ⟨_, e⟩ | ⟨_, e⟩ | ⟨_, e⟩ <;> (rw [q] at e; cases e))]
    exact q
  · exact .inr q
theorem fz_upd {a p : Addr} {xs : List V} {o : HO} (hp : H p = none ∨ (∃ vs, H p = some (.lst vs)) ∨ (∃ kvs, H p = some (.dK kvs)) ∨ ∃ φ, H p = some (.ext φ)) (q : Fz K H a xs) : Fz K (upd H p o) a xs := by
  rcases q with ⟨ob, q⟩ | q
  · refine .inl ⟨ob, ?_⟩
    have : a ≠ p := by
      rintro rfl
      rcases hp with e | ⟨_, e⟩ | ⟨_, e⟩ | ⟨_, e⟩ <;> (rw [q] at e; cases e)
    rw [upd_ne this]
    exact q
  · exact .inr q
theorem RH.mutH (r : RH K loc H h) {n : Nat} {o : MO} {a : Addr} (e : h[n]? = some o) (m : mutO o = true) (l : loc[n]? = some a) : (∃ vs, H a = some (.lst vs)) ∨ (∃ kvs, H a = some (.dK kvs)) ∨ ∃ φ, H a = some (.ext φ) := by
  obtain ⟨b, l2, q⟩ := r.ob n o e
  rw [l] at l2
  cases l2
  cases o with
  | lst ds => obtain ⟨vs, e, _⟩ := q; exact .inl ⟨vs, e⟩
  | frz ds => cases m
  | dic kvs => obtain ⟨ks, e, _⟩ := q; exact .inr (.inl ⟨ks, e⟩)
  | dtp kvs => obtain ⟨ks, e, _⟩ := q; exact .inr (.inr ⟨_, e⟩)
theorem RH.notin (r : RH K loc H h) {p : Addr} (hp : H p = none) {n : Nat} {o : MO} {a : Addr} (e : h[n]? = some o) (m : mutO o = true) (l : loc[n]? = some a) : a ≠ p := by
  rintro rfl
  rcases r.mutH e m l with ⟨_, q⟩ | ⟨_, q⟩ | ⟨_, q⟩ <;> (rw [hp] at q; cases q)
/-- the objects but one, behind a store at p -/
theorem OR.step {a p : Addr} {o : MO} {u : HO} (hp : H p = none ∨ (∃ vs, H p = some (.lst vs)) ∨ (∃ kvs, H p = some (.dK kvs)) ∨ ∃ φ, H p = some (.ext φ)) (hap : mutO o = true → a ≠ p) (x : Xt K loc H loc' (upd H p u)) (q : OR K loc H a o) : OR K loc' (upd H p u) a o := by
  cases o with
  | lst ds =>
    obtain ⟨vs, e, r⟩ := q
    exact ⟨vs, by rw [upd_ne (hap rfl)]; exact e, r.mono x⟩
  | frz ds =>
    obtain ⟨vs, e, r⟩ := q
    exact ⟨vs, fz_upd hp e, r.mono x⟩
  | dic kvs =>
    obtain ⟨vs, e, r⟩ := q
    exact ⟨vs, by rw [upd_ne (hap rfl)]; exact e, RKs.mono x _ _ r⟩
  | dtp kvs =>
    obtain ⟨vs, e, r⟩ := q
    exact ⟨vs, by rw [upd_ne (hap rfl)]; exact e, RTs.mono x _ _ r⟩
theorem Xt.new {p : Addr} {u : HO} (hp : H p = none) : Xt K loc H (loc ++ [p]) (upd H p u) :=
  ⟨fun a xs q => sqt_upd (.inl hp) q, fun a q => bare_upd (.inl hp) q, fun a xs q => fz_upd (.inl hp) q, fun n a q => by
    obtain ⟨hl, _⟩ := List.getElem?_eq_some_iff.mp q
    rw [List.getElem?_append_left hl]
    exact q⟩
theorem Xt.hid {p : Addr} {u : HO} (hp : H p = none ∨ (∃ vs, H p = some (.lst vs)) ∨ (∃ kvs, H p = some (.dK kvs)) ∨ ∃ φ, H p = some (.ext φ)) : Xt K loc H loc (upd H p u) := ⟨fun a xs q => sqt_upd hp q, fun a q => bare_upd hp q, fun a xs q => fz_upd hp q, fun _ _ q => q⟩
/-- a tuple is laid: no object of ours -/
theorem RH.hid (r : RH K loc H h) {p : Addr} {u : HO} (hp : H p = none) : RH K loc (upd H p u) h where
  len := r.len
  ob := fun n o e => by
    obtain ⟨a, l, q⟩ := r.ob n o e
    exact ⟨a, l, q.step (.inl hp) (fun m => r.notin hp e m l) (Xt.hid (.inl hp))⟩
  inj := r.inj
theorem RH.newO (r : RH K loc H h) {p : Addr} {u : HO} {o0 : MO} (hp : H p = none) (q : OR K (loc ++ [p]) (upd H p u) p o0) : RH K (loc ++ [p]) (upd H p u) (h ++ [o0]) where
  len := by simp [r.len]
  ob := fun n o e => by
    by_cases hn : n < h.length
    · rw [List.getElem?_append_left hn] at e
      obtain ⟨a, l, q2⟩ := r.ob n o e
      exact ⟨a, (Xt.new (K := K) (u := u) hp).lc _ _ l, q2.step (.inl hp) (fun m => r.notin hp e m l) (Xt.new hp)⟩
    · rw [List.getElem?_append_right (by omega)] at e
      have hn2 : n = h.length := by
        by_cases z : n - h.length = 0
        · omega
        · rw [List.getElem?_eq_none (by simp; omega)] at e
          cases e
      subst hn2
      simp at e
      subst e
      exact ⟨p, by rw [← r.len]; simp, q⟩
  inj := fun i j a oi oj ei ej mi mj li lj => by
    have key : ∀ (n : Nat) (o : MO), (h ++ [o0])[n]? = some o → (n < h.length ∧ h[n]? = some o) ∨ n = h.length := fun n o e => by
      by_cases hn : n < h.length
      · rw [List.getElem?_append_left hn] at e
        exact .inl ⟨hn, e⟩
      · rw [List.getElem?_append_right (by omega)] at e
        right
        by_cases z : n - h.length = 0
        · omega
        · rw [List.getElem?_eq_none (by simp; omega)] at e
          cases e
    have lk : ∀ (n : Nat) (a : Addr), n < h.length → (loc ++ [p])[n]? = some a → loc[n]? = some a := fun n a hn e => by
      rw [List.getElem?_append_left (by rw [r.len]; exact hn)] at e
      exact e
    have lp : ∀ a : Addr, (loc ++ [p])[h.length]? = some a → a = p := fun a e => by
      rw [← r.len] at e
      simp at e
      exact e.symm
    rcases key i oi ei with ⟨hi, ei'⟩ | hi <;> rcases key j oj ej with ⟨hj, ej'⟩ | hj
    · exact r.inj i j a oi oj ei' ej' mi mj (lk _ _ hi li) (lk _ _ hj lj)
    · subst hj
      have := lp _ lj
      subst this
      exact absurd rfl (r.notin hp ei' mi (lk _ _ hi li))
    · subst hi
      have := lp _ li
      subst this
      exact absurd rfl (r.notin hp ej' mj (lk _ _ hj lj))
    · omega
theorem RH.new (r : RH K loc H h) {p : Addr} {vs : List V} {ds : List D} (hp : H p = none) (q : RDs K loc H ds vs) : RH K (loc ++ [p]) (upd H p (.lst vs)) (h ++ [.lst ds]) := r.newO hp ⟨vs, upd_same, q.mono (Xt.new hp)⟩
theorem RH.newD (r : RH K loc H h) {p : Addr} {ks : List (L2.Key × V)} {kvs : List (Str × D)} (hp : H p = none) (q : RKs K loc H kvs ks) : RH K (loc ++ [p]) (upd H p (.dK ks)) (h ++ [.dic kvs]) := r.newO hp ⟨ks, upd_same, RKs.mono (Xt.new hp) _ _ q⟩
theorem RH.setO (r : RH K loc H h) {n : Nat} {a : Addr} {u : HO} {old o0 : MO} (e : h[n]? = some old) (mo0 : mutO old = true) (mo1 : mutO o0 = true) (l : loc[n]? = some a) (q : OR K loc (upd H a u) a o0) : RH K loc (upd H a u) (h.set n o0) := by
  have hm := r.mutH e mo0 l
  have hx : Xt K loc H loc (upd H a u) := Xt.hid (.inr hm)
  have hn : n < h.length := (List.getElem?_eq_some_iff.mp e).1
  refine ⟨by simp [r.len], fun m o e2 => ?_, fun i j b oi oj ei ej mi mj li lj => ?_⟩
  · by_cases hmn : n = m
    · subst hmn
      rw [List.getElem?_set_self hn] at e2
      cases e2
      exact ⟨a, l, q⟩
    · rw [List.getElem?_set_ne hmn] at e2
      obtain ⟨b, lb, q2⟩ := r.ob m o e2
      refine ⟨b, lb, q2.step (.inr hm) (fun mo => ?_) hx⟩
      rintro rfl
      exact hmn (r.inj n m b _ o e e2 mo0 mo l lb)
  · have key : ∀ (m : Nat) (o : MO), (h.set n o0)[m]? = some o → mutO o = true → ∃ o', h[m]? = some o' ∧ mutO o' = true := fun m o e2 m2 => by
      by_cases hmn : n = m
      · subst hmn
        exact ⟨_, e, mo0⟩
      · rw [List.getElem?_set_ne hmn] at e2
        exact ⟨o, e2, m2⟩
    obtain ⟨oi', ei', mi'⟩ := key i oi ei mi
    obtain ⟨oj', ej', mj'⟩ := key j oj ej mj
    exact r.inj i j b oi' oj' ei' ej' mi' mj' li lj
theorem RH.set (r : RH K loc H h) {n : Nat} {a : Addr} {vs : List V} {ds old : List D} (e : h[n]? = some (.lst old)) (l : loc[n]? = some a) (q : RDs K loc H ds vs) : RH K loc (upd H a (.lst vs)) (h.set n (.lst ds)) :=
  r.setO e rfl rfl l ⟨vs, upd_same, q.mono (Xt.hid (.inr (r.mutH e rfl l)))⟩
theorem RH.setD (r : RH K loc H h) {n : Nat} {a : Addr} {ks : List (L2.Key × V)} {kvs old : List (Str × D)} (e : h[n]? = some (.dic old)) (l : loc[n]? = some a) (q : RKs K loc H kvs ks) : RH K loc (upd H a (.dK ks)) (h.set n (.dic kvs)) :=
  r.setO e rfl rfl l ⟨ks, upd_same, RKs.mono (Xt.hid (.inr (r.mutH e rfl l))) _ _ q⟩
theorem RH.newT (r : RH K loc H h) {p : Addr} (hp : H p = none) : RH K (loc ++ [p]) (upd H p (DTO K.P K.w p [])) (h ++ [.dtp []]) := r.newO hp ⟨[], upd_same, rfl⟩
theorem RH.setT (r : RH K loc H h) {n : Nat} {a : Addr} {es : List Ent} {kvs old : List (List D × D)} (e : h[n]? = some (.dtp old)) (l : loc[n]? = some a) (q : RTs K loc H kvs es) : RH K loc (upd H a (DTO K.P K.w a es)) (h.set n (.dtp kvs)) :=
  r.setO e rfl rfl l ⟨es, upd_same, RTs.mono (Xt.hid (.inr (r.mutH e rfl l))) _ _ q⟩
theorem RH.dtp (r : RH K loc H h) {n : Nat} {kvs : List (List D × D)} {v : V} (e : h[n]? = some (.dtp kvs)) (q : RD K loc H (.ref n) v) : ∃ a es, v = .ref a ∧ loc[n]? = some a ∧ H a = some (DTO K.P K.w a es) ∧ RTs K loc H kvs es := by
  rw [RD] at q
  obtain ⟨a, rfl, l⟩ := q
  obtain ⟨b, l2, vs, e2, q2⟩ := r.ob n _ e
  rw [l] at l2
  cases l2
  exact ⟨a, vs, rfl, l, e2, q2⟩
/-- a dict of ours, read -/
theorem RH.dic (r : RH K loc H h) {n : Nat} {kvs : List (Str × D)} {v : V} (e : h[n]? = some (.dic kvs)) (q : RD K loc H (.ref n) v) : ∃ a ks, v = .ref a ∧ loc[n]? = some a ∧ H a = some (.dK ks) ∧ RKs K loc H kvs ks := by
  rw [RD] at q
  obtain ⟨a, rfl, l⟩ := q
  obtain ⟨b, l2, vs, e2, q2⟩ := r.ob n _ e
  rw [l] at l2
  cases l2
  exact ⟨a, vs, rfl, l, e2, q2⟩
/-- a list of ours, read -/
theorem RH.lst (r : RH K loc H h) {n : Nat} {ds : List D} {v : V} (e : h[n]? = some (.lst ds)) (q : RD K loc H (.ref n) v) : ∃ a vs, v = .ref a ∧ loc[n]? = some a ∧ H a = some (.lst vs) ∧ RDs K loc H ds vs := by
  rw [RD] at q
  obtain ⟨a, rfl, l⟩ := q
  obtain ⟨b, l2, vs, e2, q2⟩ := r.ob n _ e
  rw [l] at l2
  cases l2
  exact ⟨a, vs, rfl, l, e2, q2⟩
/-- what a sequence holds, read -/
theorem RH.seq (r : RH K loc H h) {d : D} {ds : List D} {v : V} (e : seqOf h d = some ds) (q : RD K loc H d v) : ∃ a vs, v = .ref a ∧ RDs K loc H ds vs ∧ ((SqT K H a vs ∧ d = .tup ds) ∨ SqL K H a vs ∧ ∃ n, d = .ref n) := by
  cases d with
  | tup xs =>
    cases e
    rw [RD] at q
    obtain ⟨a, vs, e, s, _, q⟩ := q
    exact ⟨a, vs, e, q, .inl ⟨s, rfl⟩⟩
  | ref n =>
    simp only [seqOf] at e
    rw [RD] at q
    obtain ⟨a, rfl, l⟩ := q
    cases hn : h[n]? with
    | none => rw [hn] at e; cases e
    | some o =>
      rw [hn] at e
      obtain ⟨b, l2, q2⟩ := r.ob n _ hn
      rw [l] at l2
      cases l2
      cases o with
      | lst xs =>
        cases e
        obtain ⟨vs, e2, q3⟩ := q2
        exact ⟨a, vs, rfl, q3, .inr ⟨SqL.of e2, n, rfl⟩⟩
      | frz xs =>
        cases e
        obtain ⟨vs, e2, q3⟩ := q2
        exact ⟨a, vs, rfl, q3, .inr ⟨e2.sq, n, rfl⟩⟩
      | dic kvs => cases e
      | dtp kvs => cases e
  | _ => cases e
end

/-! ### slots -/
/-- an earlier state; how many slots -/
structure BB where
  n : Nat
  loc : List Addr
  H : Hp
def RS (bb : BB) (K : KW) (loc : List Addr) (H : Hp) (σ : Sg) (s : L2.St) : Prop := s.length = σ.length ∧ (∀ (i : Nat) (d : D), σ[i]? = some (some d) → ∃ v, s[i]? = some (some v) ∧ RD K loc H d v) ∧ Xt K bb.loc bb.H loc H ∧ σ.length = bb.n
section
variable {bb : BB} {K : KW} {loc loc' : List Addr} {H H' : Hp} {σ : Sg} {s : L2.St}
theorem RS.mono (x : Xt K loc H loc' H') (r : RS bb K loc H σ s) : RS bb K loc' H' σ s := ⟨r.1, fun i d e => by
  obtain ⟨v, e2, q⟩ := r.2.1 i d e
  exact ⟨v, e2, q.mono x⟩, r.2.2.1.trans x, r.2.2.2⟩
theorem RS.set (r : RS bb K loc H σ s) (i : Nat) {d : D} {v : V} (q : RD K loc H d v) : RS bb K loc H (σ.set i (some d)) (s.set i (some v)) := by
  refine ⟨by simp [r.1], fun j e a => ?_, r.2.2.1, by rw [List.length_set]; exact r.2.2.2⟩
  have hl := r.1
  rw [List.getElem?_set] at a ⊢
  split at a
  · rename_i hij
    rw [if_pos hij]
    split at a
    · rename_i h2
      rw [if_pos (by omega)]
      cases a
      exact ⟨v, rfl, q⟩
    · cases a
  · rename_i hij
    rw [if_neg hij]
    exact r.2.1 j e a
theorem RS.wipe (r : RS bb K loc H σ s) : ∀ vs : List Nat, RS bb K loc H (wipes σ vs) (L2.wipe s vs)
  | [] => r
  | v :: vs => by
    have q := r.wipe vs
    unfold wipes L2.wipe
    have hl := q.1
    refine ⟨by simp [hl], fun j e a => ?_, q.2.2.1, by rw [List.length_set]; exact q.2.2.2⟩
    rw [List.getElem?_set] at a ⊢
    split at a
    · split at a <;> cases a
    · rename_i hij
      rw [if_neg hij]
      exact q.2.1 j e a
end

/-! ### readings lifted -/
section
variable (bb : BB) (K : KW)
def Kx (loc : List Addr) (H : Hp) (Q' : Kd) (Q : VK) : Prop := ∀ d h' v H' loc', Q' d h' → Xt K loc H loc' H' → RH K loc' H' h' → RD K loc' H' d v → Q v H'
def KxB (loc : List Addr) (H : Hp) (Q' : Bool → Hh → Prop) (Q : Bool → Hp → Prop) : Prop := ∀ b h' H' loc', Q' b h' → Xt K loc H loc' H' → RH K loc' H' h' → Q b H'
def KxL (loc : List Addr) (H : Hp) (Q' : List D → Hh → Prop) (Q : List V → Hp → Prop) : Prop := ∀ ds h' vs H' loc', Q' ds h' → Xt K loc H loc' H' → RH K loc' H' h' → RDs K loc' H' ds vs → Q vs H'
def KxS (loc : List Addr) (H : Hp) (Q' : Sg → Hh → Prop) (Q : L2.St → Hp → Prop) : Prop := ∀ σ' h' s' H' loc', Q' σ' h' → Xt K loc H loc' H' → RH K loc' H' h' → RS bb K loc' H' σ' s' → Q s' H'
def lfE (t : Sg → Hh → Kd → Prop) : TE := fun s H Q => ∃ loc σ h Q', RS bb K loc H σ s ∧ RH K loc H h ∧ t σ h Q' ∧ Kx K loc H Q' Q
def lfT (t : Sg → Hh → (Bool → Hh → Prop) → Prop) : TT := fun s H Q => ∃ loc σ h Q', RS bb K loc H σ s ∧ RH K loc H h ∧ t σ h Q' ∧ KxB K loc H Q' Q
def lfA (t : Sg → Hh → (List D → Hh → Prop) → Prop) : TA := fun s H Q => ∃ loc σ h Q', RS bb K loc H σ s ∧ RH K loc H h ∧ t σ h Q' ∧ KxL K loc H Q' Q
def lfG (t : D → Sg → Hh → (Sg → Hh → Prop) → Prop) : TG := fun v s H Q => ∃ loc d σ h Q', RD K loc H d v ∧ RS bb K loc H σ s ∧ RH K loc H h ∧ t d σ h Q' ∧ KxS bb K loc H Q' Q
/-- an iterator that walks what stands -/
structure SnapJ (J : It) (xs : List D) (loc : List Addr) (H : Hp) : Prop where
  stop : ∀ (i : Nat) (loc' : List Addr) (H' : Hp), xs[i]? = none → Xt K loc H loc' H' → J.stop i H'
  go : ∀ (i : Nat) (d : D) (loc' : List Addr) (H' : Hp), xs[i]? = some d → Xt K loc H loc' H' → J.go i H'
  yld : ∀ (i : Nat) (d : D) (loc' : List Addr) (H' : Hp) (x : V) (H2 : Hp) (h : Hh), xs[i]? = some d → Xt K loc H loc' H' → RH K loc' H' h → J.yld i H' x H2 → ∃ loc2, Xt K loc' H' loc2 H2 ∧ RH K loc2 H2 h ∧ RD K loc2 H2 d x
def WkJ (J : It) (loc : List Addr) (H : Hp) : MW → Prop
  | .snap xs => SnapJ K J xs loc H
  | .live n => ∃ a, J = Itl K a ∧ loc[n]? = some a
def KxI (loc : List Addr) (H : Hp) (Q' : MW → Hh → Prop) (R : It → Hp → Prop) : Prop := ∀ w h' J H' loc', Q' w h' → Xt K loc H loc' H' → RH K loc' H' h' → WkJ K J loc' H' w → R J H'
def lfI (t : Sg → Hh → (MW → Hh → Prop) → Prop) : TI := fun s H R => ∃ loc σ h Q', RS bb K loc H σ s ∧ RH K loc H h ∧ t σ h Q' ∧ KxI K loc H Q' R
structure KxR (loc : List Addr) (H : Hp) (R : Es) (E : Ends) : Prop where
  nx : KxS bb K loc H R.nx E.nx
  rt : Kx K loc H R.rt E.rt
  bk : KxS bb K loc H R.bk E.bk
  ct : KxS bb K loc H R.ct E.ct
def lfS (t : Es → Sg → Hh → Prop) : TS := fun E s H => ∃ loc σ h R, RS bb K loc H σ s ∧ RH K loc H h ∧ t R σ h ∧ KxR bb K loc H R E
/-- an error's fields -/
def RXs (loc : List Addr) (H : Hp) (kvs : List (Str × D)) (xd : List (Str × V)) : Prop := ∀ (n : Str) (z : D), lkD kvs n = some z → ∃ v, xd.lookup n = some v ∧ RD K loc H z v
/-- the errors' ends -/
def KxX (mg : Str → Option Value) (loc : List Addr) (H : Hp) (X' : Ex) (E : XK) : Prop := ∀ x kvs h' H1 loc' (d : Addr) (C : Addr) xd, X' x kvs h' → mg x = some (.ref C) → Xt K loc H loc' H1 → RH K loc' H1 h' → RXs K loc' H1 kvs xd → H1 d = none → E (.ref C) (some d) (upd H1 d (.xd xd))
/-- a def's promise -/
def lfP (mg : Str → Option Value) (C : List D → Hh → Kd → Ex → Prop) : Sp := fun vs H Q E => ∃ loc ds h Q' X', RDs K loc H ds vs ∧ RH K loc H h ∧ C ds h Q' X' ∧ Kx K loc H Q' Q ∧ KxX K mg loc H X' E
end
section
variable {bb : BB} {K : KW} {loc loc' : List Addr} {H H' : Hp} {Q' : Kd} {Q : VK}
theorem Kx.mono (k : Kx K loc H Q' Q) (x : Xt K loc H loc' H') : Kx K loc' H' Q' Q := fun d h' v H2 loc2 q y => k d h' v H2 loc2 q (x.trans y)
theorem KxB.mono {Q' : Bool → Hh → Prop} {Q : Bool → Hp → Prop} (k : KxB K loc H Q' Q) (x : Xt K loc H loc' H') : KxB K loc' H' Q' Q := fun d h' H2 loc2 q y => k d h' H2 loc2 q (x.trans y)
theorem KxL.mono {Q' : List D → Hh → Prop} {Q : List V → Hp → Prop} (k : KxL K loc H Q' Q) (x : Xt K loc H loc' H') : KxL K loc' H' Q' Q := fun d h' v H2 loc2 q y => k d h' v H2 loc2 q (x.trans y)
theorem KxS.mono {Q' : Sg → Hh → Prop} {Q : L2.St → Hp → Prop} (k : KxS bb K loc H Q' Q) (x : Xt K loc H loc' H') : KxS bb K loc' H' Q' Q := fun d h' v H2 loc2 q y => k d h' v H2 loc2 q (x.trans y)
theorem KxX.mono {mg : Str → Option Value} {X' : Ex} {E : XK} (k : KxX K mg loc H X' E) (x : Xt K loc H loc' H') : KxX K mg loc' H' X' E := fun y kvs h' H2 loc2 d C xd q m z => k y kvs h' H2 loc2 d C xd q m (x.trans z)
theorem KxR.mono {R : Es} {E : Ends} (k : KxR bb K loc H R E) (x : Xt K loc H loc' H') : KxR bb K loc' H' R E := ⟨k.nx.mono x, k.rt.mono x, k.bk.mono x, k.ct.mono x⟩
end
end Mi

set_option Elab.async false
set_option linter.all false
set_option maxRecDepth 100000
set_option maxHeartbeats 1000000
/-! Mi: its operations are the layer's. -/
namespace Mi
open PySem PySem.Spec PyProof.Rows L2

section
variable {K : KW} {loc : List Addr} {H : Hp} {v : V}
theorem RD.non_ (r : RD K loc H .non v) : v = .non := by rw [RD] at r; exact r
theorem RD.bl_ {b : Bool} (r : RD K loc H (.bl b) v) : v = .bl b := by rw [RD] at r; exact r
theorem RD.int_ {i : Int} (r : RD K loc H (.int i) v) : v = .int i := by rw [RD] at r; exact r
theorem RD.str_ {x : Str} (r : RD K loc H (.str x) v) : v = .str x := by rw [RD] at r; exact r
theorem RD.tupB {ds : List D} (r : RD K loc H (.tup ds) v) : ∃ a vs, v = .ref a ∧ SqT K H a vs ∧ BareT K H a ∧ RDs K loc H ds vs := by rw [RD] at r; exact r
theorem RD.tup_ {ds : List D} (r : RD K loc H (.tup ds) v) : ∃ a vs, v = .ref a ∧ SqT K H a vs ∧ RDs K loc H ds vs := by
  obtain ⟨a, vs, e, s, _, q⟩ := r.tupB
  exact ⟨a, vs, e, s, q⟩
theorem RD.ref_ {n : Nat} (r : RD K loc H (.ref n) v) : ∃ a, v = .ref a ∧ loc[n]? = some a := by rw [RD] at r; exact r
theorem RD.fn_ {a : Addr} (r : RD K loc H (.fn a) v) : v = .ref a := by rw [RD] at r; exact r
theorem rd_fn {a : Addr} : RD K loc H (.fn a) (.ref a) := by rw [RD]
theorem rd_non : RD K loc H .non .non := by rw [RD]
theorem rd_bl {b : Bool} : RD K loc H (.bl b) (.bl b) := by rw [RD]
theorem rd_int {i : Int} : RD K loc H (.int i) (.int i) := by rw [RD]
theorem rd_str {x : Str} : RD K loc H (.str x) (.str x) := by rw [RD]
theorem rd_tup {ds : List D} {a : Addr} {vs : List V} (s : SqT K H a vs) (b : BareT K H a) (r : RDs K loc H ds vs) : RD K loc H (.tup ds) (.ref a) := by rw [RD]; exact ⟨a, vs, rfl, s, b, r⟩
theorem rd_ref {n : Nat} {a : Addr} (l : loc[n]? = some a) : RD K loc H (.ref n) (.ref a) := by rw [RD]; exact ⟨a, rfl, l⟩
end
theorem lenOk_i {n : Nat} (h : lenOk n = true) : n ≤ sizeLine := of_decide_eq_true h

/-! ### two-place operations -/
def lf2 (K : KW) (f : D → D → Hh → Kd → Prop) : R2 := fun x y H Q => ∃ loc h dx dy Q', RH K loc H h ∧ RD K loc H dx x ∧ RD K loc H dy y ∧ f dx dy h Q' ∧ Kx K loc H Q' Q
def lf1 (K : KW) (f : D → Hh → Kd → Prop) : V → Hp → VK → Prop := fun x H Q => ∃ loc h dx Q', RH K loc H h ∧ RD K loc H dx x ∧ f dx h Q' ∧ Kx K loc H Q' Q
def lfC (K : KW) (f : List D → Hh → Kd → Prop) : List V → Hp → VK → Prop := fun xs H Q => ∃ loc h ds Q', RH K loc H h ∧ RDs K loc H ds xs ∧ f ds h Q' ∧ Kx K loc H Q' Q
def lfM (K : KW) (f : D → List D → Hh → Kd → Prop) : V → List V → Hp → VK → Prop := fun x xs H Q => ∃ loc h dx ds Q', RH K loc H h ∧ RD K loc H dx x ∧ RDs K loc H ds xs ∧ f dx ds h Q' ∧ Kx K loc H Q' Q
section
variable {K : KW} {loc : List Addr} {H : Hp} {h : Hh} {Q' : Kd} {Q : VK}
/-- what follows, at the same heap -/
theorem Kx.here (k : Kx K loc H Q' Q) (r : RH K loc H h) {d : D} {v : V} (q : Q' d h) (rd : RD K loc H d v) : Q v H := k d h v H loc q Xt.refl r rd
/-- .. at a new list -/
theorem Kx.new (k : Kx K loc H Q' Q) (r : RH K loc H h) {ds : List D} {vs : List V} (q : new (.lst ds) h Q') (rd : RDs K loc H ds vs) : ∀ p, H p = none → Q (.ref p) (upd H p (.lst vs)) := fun p hp =>
  k _ _ _ _ (loc ++ [p]) (new_e q) (Xt.new hp) (r.new hp rd) (rd_ref (by rw [← r.len]; simp))
/-- .. at a new tuple -/
theorem Kx.tup (k : Kx K loc H Q' Q) (r : RH K loc H h) {ds : List D} {vs : List V} (q : Q' (.tup ds) h) (rd : RDs K loc H ds vs) : TupAt Q H vs := fun p o ho hp =>
  k _ _ _ _ loc q (Xt.hid (.inl hp)) (r.hid hp) (rd_tup (.inl (.inr ⟨o, upd_same⟩)) (.inl ⟨o, _, upd_same, ho⟩) (rd.mono (Xt.hid (.inl hp))))
/-- .. behind a list's change -/
theorem Kx.set (k : Kx K loc H Q' Q) (r : RH K loc H h) {n : Nat} {a : Addr} {old ds : List D} {vs : List V} {d : D} {v : V} (e : h[n]? = some (.lst old)) (l : loc[n]? = some a) (q : Q' d (h.set n (.lst ds))) (rd : RDs K loc H ds vs) (rv : RD K loc H d v) : Q v (upd H a (.lst vs)) :=
  k _ _ _ _ loc q (Xt.hid (.inr (r.mutH e rfl l))) (r.set e l rd) (rv.mono (Xt.hid (.inr (r.mutH e rfl l))))
end
section
variable {K : KW} {loc : List Addr} {H : Hp} {h : Hh} {Q' : Kd} {Q : VK}
theorem Kx.newD (k : Kx K loc H Q' Q) (r : RH K loc H h) {kvs : List (Str × D)} {ks : List (L2.Key × V)} (q : Mi.new (.dic kvs) h Q') (rd : RKs K loc H kvs ks) : ∀ p, H p = none → Q (.ref p) (upd H p (.dK ks)) := fun p hp =>
  k _ _ _ _ (loc ++ [p]) (new_e q) (Xt.new hp) (r.newD hp rd) (rd_ref (by rw [← r.len]; simp))
theorem Kx.setD (k : Kx K loc H Q' Q) (r : RH K loc H h) {n : Nat} {a : Addr} {old kvs : List (Str × D)} {ks : List (L2.Key × V)} {d : D} {v : V} (e : h[n]? = some (.dic old)) (l : loc[n]? = some a) (q : Q' d (h.set n (.dic kvs))) (rd : RKs K loc H kvs ks) (rv : RD K loc H d v) : Q v (upd H a (.dK ks)) :=
  k _ _ _ _ loc q (Xt.hid (.inr (r.mutH e rfl l))) (r.setD e l rd) (rv.mono (Xt.hid (.inr (r.mutH e rfl l))))
end
section
variable {K : KW} {loc : List Addr} {H : Hp} {h : Hh} {Q' : Kd} {Q : VK}
theorem Kx.newT (k : Kx K loc H Q' Q) (r : RH K loc H h) (q : Mi.new (.dtp []) h Q') : ∀ p, H p = none → Q (.ref p) (upd H p (DTO K.P K.w p [])) := fun p hp =>
  k _ _ _ _ (loc ++ [p]) (new_e q) (Xt.new hp) (r.newT hp) (rd_ref (by rw [← r.len]; simp))
theorem opIn_e {x y : D} {Q : Bool → Prop} (w : opIn x y h Q) : (∃ z c, y = .str z ∧ x = .str ⟨#[c]⟩ ∧ Q (sgIn z c)) ∨ (∃ xs, seqOf h y = some xs ∧ isFl x = true ∧ xs.all isFl = true ∧ Q (inFlat x xs)) ∨
    (∃ n kvs z, y = .ref n ∧ h[n]? = some (.dic kvs) ∧ x = .str z ∧ Q (lkD kvs z).isSome) ∨ ∃ n kvs ks, y = .ref n ∧ h[n]? = some (.dtp kvs) ∧ x = .tup ks ∧ ks.all isKy = true ∧ Q (lkT kvs ks).isSome := by
  have two : ∀ {xs : List D}, chk (isFl x && xs.all isFl) (Q (inFlat x xs)) → isFl x = true ∧ xs.all isFl = true ∧ Q (inFlat x xs) := fun w => by
    obtain ⟨c, w⟩ := chk_e w
    obtain ⟨c1, c2⟩ := Bool.and_eq_true_iff.mp c
    exact ⟨c1, c2, w⟩
  cases y with
  | str z =>
    cases x with
    | str c =>
      have w' : sg1 c fun k => Q (sgIn z k) := w
      obtain ⟨⟨l⟩⟩ := c
      unfold sg1 at w'
      match l, w' with
      | [k], w' => exact .inl ⟨z, k, rfl, rfl, w'⟩
      | [], w' => exact w'.elim
      | _ :: _ :: _, w' => exact w'.elim
    | _ => exact w.elim
  | tup xs => exact .inr (.inl ⟨xs, rfl, two w⟩)
  | ref n =>
    obtain ⟨o, e, w⟩ := rdO_e w
    cases o with
    | lst xs => exact .inr (.inl ⟨xs, by simp only [seqOf, e], two w⟩)
    | frz xs => exact .inr (.inl ⟨xs, by simp only [seqOf, e], two w⟩)
    | dic kvs =>
      cases x <;> try exact w.elim
      exact .inr (.inr (.inl ⟨n, kvs, _, rfl, e, rfl, w⟩))
    | dtp kvs =>
      cases x <;> try exact w.elim
      obtain ⟨c, w⟩ := chk_e w
      exact .inr (.inr (.inr ⟨n, kvs, _, rfl, e, rfl, c, w⟩))
  | _ => exact w.elim
end
def bopOf : BOp → Operator
  | .add => .Add | .sub => .Sub | .mul => .Mult | .fdiv => .FloorDiv | .mod => .Mod | .pow => .Pow | .shl => .LShift | .band => .BitAnd
def copOf : COp → CmpOp
  | .eq => .Eq | .ne => .NotEq | .lt => .Lt | .le => .LtE | .gt => .Gt | .ge => .GtE | .is => .Is | .isnot => .IsNot | .isin => .In | .notin => .NotIn
section
variable {X : Cx}
theorem mulOk_i {i j : Int} (h : mulOk i j = true) : CMul i j ∨ CMulW i j := by
  unfold mulOk at h
  rw [Bool.or_eq_true, Bool.or_eq_true, Bool.and_eq_true] at h
  rcases h with h | h | ⟨h1, h2⟩
  · have := of_decide_eq_true h
    exact .inl (.inl (by omega))
  · have := of_decide_eq_true h
    exact .inl (.inr (by omega))
  · exact .inr (wide_mul (of_decide_eq_true h1) (of_decide_eq_true h2) (by decide) (by decide) (by decide))
theorem b3 {a b c : Bool} (h : (a && b && c) = true) : a = true ∧ b = true ∧ c = true := by
  rw [Bool.and_eq_true, Bool.and_eq_true] at h
  exact ⟨h.1.1, h.1.2, h.2⟩
theorem op_bin (op : BOp) : OpR X (binaryOp (bopOf op)) (lf2 X.kw (opBin op)) := by
  intro pins s σ H x y v u Q I rx ry hq
  obtain ⟨loc, h, dx, dy, Q', rh, r1, r2, w, k⟩ := hq
  cases op with
  | add =>
    cases dx <;> cases dy <;> try exact w.elim
    · cases r1.int_
      cases r2.int_
      exact op_add pins s σ H _ _ v u Q I rx ry ⟨_, _, rfl, rfl, k.here rh w rd_int⟩
    · cases r1.str_
      cases r2.str_
      obtain ⟨c, w⟩ := chk_e w
      exact op_add_str pins s σ H _ _ v u Q I rx ry ⟨_, _, rfl, rfl, lenOk_i c, k.here rh w rd_str⟩
    · rename_i xs ys
      obtain ⟨c, w⟩ := chk_e w
      obtain ⟨a, vs, rfl, sa, ba, q1⟩ := r1.tupB
      obtain ⟨b, ws, rfl, sb, bb, q2⟩ := r2.tupB
      have l1 := q1.length
      have l2 := q2.length
      refine op_catF pins s σ H _ _ v u Q I rx ry ⟨a, b, vs, ws, rfl, rfl, sa, sb, by rw [l1, l2]; exact lenOk_i c, fun z => ?_, fun _ z => ?_, fun _ _ => k.tup rh w (q1.append q2)⟩
      · subst z
        have := List.eq_nil_of_length_eq_zero l1.symm
        subst this
        exact k.here rh w (rd_tup sb bb q2)
      · subst z
        have := List.eq_nil_of_length_eq_zero l2.symm
        subst this
        rw [List.append_nil] at w
        exact k.here rh w (rd_tup sa ba q1)
    · rename_i n m
      obtain ⟨xs, hn, w⟩ := rdL_e (show rdL h n _ from w)
      obtain ⟨ys, hm, w⟩ := rdL_e (show rdL h m _ from w)
      obtain ⟨c, w⟩ := chk_e w
      obtain ⟨a, vs, rfl, la, ha, q1⟩ := rh.lst hn r1
      obtain ⟨b, ws, rfl, lb, hb, q2⟩ := rh.lst hm r2
      exact op_cat pins s σ H _ _ v u Q I rx ry ⟨a, b, vs, ws, rfl, rfl, ha, hb, by rw [q1.length, q2.length]; exact lenOk_i c, k.new rh w (q1.append q2)⟩
  | sub =>
    cases dx <;> cases dy <;> try exact w.elim
    cases r1.int_
    cases r2.int_
    exact op_sub pins s σ H _ _ v u Q I rx ry ⟨_, _, rfl, rfl, k.here rh w rd_int⟩
  | mul =>
    cases dx <;> cases dy <;> try exact w.elim
    · cases r1.int_
      cases r2.int_
      obtain ⟨c, w⟩ := chk_e w
      rcases mulOk_i c with c | c
      · exact op_mul pins s σ H _ _ v u Q I rx ry ⟨_, _, rfl, rfl, c, k.here rh w rd_int⟩
      · exact op_mulW pins s σ H _ _ v u Q I rx ry ⟨_, _, rfl, rfl, c, k.here rh w rd_int⟩
    · rename_i n i
      obtain ⟨xs, hn, w⟩ := rdL_e (show rdL h n _ from w)
      obtain ⟨c, w⟩ := chk_e w
      obtain ⟨c1, c2⟩ := Bool.and_eq_true_iff.mp c
      have c1' := of_decide_eq_true c1
      obtain ⟨a, vs, rfl, la, ha, q1⟩ := rh.lst hn r1
      cases r2.int_
      exact op_rep pins s σ H _ _ v u Q I rx ry ⟨a, i, vs, rfl, rfl, ha, by omega, by omega, by rw [q1.length]; exact lenOk_i c2, k.new rh w (q1.rep _)⟩
  | fdiv =>
    cases dx <;> cases dy <;> try exact w.elim
    cases r1.int_
    cases r2.int_
    obtain ⟨c, w⟩ := chk_e w
    obtain ⟨c1, c2⟩ := Bool.and_eq_true_iff.mp c
    exact op_fdivW pins s σ H _ _ v u Q I rx ry ⟨_, _, rfl, rfl, wide_div (of_decide_eq_true c1) (of_decide_eq_true c2) (by decide) (by decide), k.here rh w rd_int⟩
  | mod =>
    cases dx <;> cases dy <;> try exact w.elim
    cases r1.int_
    cases r2.int_
    obtain ⟨c, w⟩ := chk_e w
    exact op_mod pins s σ H _ _ v u Q I rx ry ⟨_, _, rfl, rfl, of_decide_eq_true c, k.here rh w rd_int⟩
  | pow =>
    cases dx <;> cases dy <;> try exact w.elim
    cases r1.int_
    cases r2.int_
    obtain ⟨c, w⟩ := chk_e w
    obtain ⟨c1, c2, c3⟩ := b3 c
    exact op_pow pins s σ H _ _ v u Q I rx ry ⟨_, _, rfl, rfl, ⟨of_decide_eq_true c1, of_decide_eq_true c2, of_decide_eq_true c3⟩, k.here rh w rd_int⟩
  | shl =>
    cases dx <;> cases dy <;> try exact w.elim
    cases r1.int_
    cases r2.int_
    obtain ⟨c, w⟩ := chk_e w
    obtain ⟨c1, c2, c3⟩ := b3 c
    exact op_shl pins s σ H _ _ v u Q I rx ry ⟨_, _, rfl, rfl, ⟨of_decide_eq_true c1, of_decide_eq_true c2, of_decide_eq_true c3⟩, k.here rh w rd_int⟩
  | band =>
    cases dx <;> cases dy <;> try exact w.elim
    cases r1.int_
    cases r2.int_
    exact op_and pins s σ H _ _ v u Q I rx ry ⟨_, _, rfl, rfl, k.here rh w rd_int⟩
theorem op_aug (op : BOp) : OpR X (inplaceOp (bopOf op)) (lf2 X.kw (opAug op)) := by
  intro pins s σ H x y v u Q I rx ry hq
  obtain ⟨loc, h, dx, dy, Q', rh, r1, r2, w, k⟩ := hq
  cases op with
  | add =>
    cases dx <;> cases dy <;> try exact w.elim
    · cases r1.int_
      cases r2.int_
      exact iop_add pins s σ H _ _ v u Q I rx ry ⟨_, _, rfl, rfl, k.here rh w rd_int⟩
    · cases r1.str_
      cases r2.str_
      obtain ⟨c, w⟩ := chk_e w
      exact iop_add_str pins s σ H _ _ v u Q I rx ry ⟨_, _, rfl, rfl, lenOk_i c, k.here rh w rd_str⟩
  | sub =>
    cases dx <;> cases dy <;> try exact w.elim
    cases r1.int_
    cases r2.int_
    exact iop_sub pins s σ H _ _ v u Q I rx ry ⟨_, _, rfl, rfl, k.here rh w rd_int⟩
  | mul =>
    cases dx <;> cases dy <;> try exact w.elim
    cases r1.int_
    cases r2.int_
    obtain ⟨c, w⟩ := chk_e w
    rename_i i j _
    have c' : IntMulOk i j := by
      rcases mulOk_i c with c | c
      · exact c.ok
      · exact c.ok
    obtain ⟨t, rfl⟩ := rx
    obtain ⟨t', rfl⟩ := ry
    exact imul_int ⟨.int _, H, I.tok _, ⟨_, rfl⟩, k.here rh w rd_int⟩ c'
  | fdiv =>
    cases dx <;> cases dy <;> try exact w.elim
    cases r1.int_
    cases r2.int_
    obtain ⟨c, w⟩ := chk_e w
    obtain ⟨c1, c2⟩ := Bool.and_eq_true_iff.mp c
    have c1' := of_decide_eq_true c1
    have cw := (wide_div c1' (of_decide_eq_true c2) (by decide) (by decide) : CDivW 0 _)
    obtain ⟨t, rfl⟩ := rx
    obtain ⟨t', rfl⟩ := ry
    exact ifloordiv_int (by omega) (by rw [Int.fdiv_eq_ediv_of_nonneg _ (by omega)]; exact ⟨.int _, H, I.tok _, ⟨_, rfl⟩, k.here rh w rd_int⟩) (.inl (PyProof.noPylong_of_log2 cw.2))
  | mod =>
    cases dx <;> cases dy <;> try exact w.elim
    cases r1.int_
    cases r2.int_
    obtain ⟨c, w⟩ := chk_e w
    exact iop_mod pins s σ H _ _ v u Q I rx ry ⟨_, _, rfl, rfl, of_decide_eq_true c, k.here rh w rd_int⟩
  | _ => cases dx <;> exact w.elim
/-! ### comparisons -/
theorem RD.isN {loc : List Addr} {H : Hp} {K : KW} {d : D} {v : V} (r : RD K loc H d v) : decide (v = .non) = (match d with | .non => true | _ => false) := by
  cases d with
  | non => cases r.non_; rfl
  | bl b => cases r.bl_; rfl
  | int i => cases r.int_; rfl
  | str x => cases r.str_; rfl
  | tup ds => obtain ⟨a, vs, rfl, _⟩ := r.tup_; rfl
  | ref n => obtain ⟨a, rfl, _⟩ := r.ref_; rfl
  | fn a => cases r.fn_; rfl
theorem eqV_fl {K : KW} {loc : List Addr} {H : Hp} {d e : D} {v w : V} (r1 : RD K loc H d v) (r2 : RD K loc H e w) (f1 : isFl d = true) (f2 : isFl e = true) : eqV v w = eqD d e := by
  cases d <;> cases e <;> try cases f1 <;> try cases f2
  all_goals first
    | (cases r1.non_; cases r2.non_; simp [eqV, eqD])
    | (cases r1.non_; cases r2.bl_; simp [eqV, eqD])
    | (cases r1.non_; cases r2.int_; simp [eqV, eqD])
    | (cases r1.non_; cases r2.str_; simp [eqV, eqD])
    | (cases r1.bl_; cases r2.non_; simp [eqV, eqD])
    | (cases r1.bl_; cases r2.bl_; simp [eqV, eqD])
    | (cases r1.bl_; cases r2.int_; simp [eqV, eqD])
    | (cases r1.bl_; cases r2.str_; simp [eqV, eqD])
    | (cases r1.int_; cases r2.non_; simp [eqV, eqD])
    | (cases r1.int_; cases r2.bl_; simp [eqV, eqD])
    | (cases r1.int_; cases r2.int_; simp [eqV, eqD])
    | (cases r1.int_; cases r2.str_; simp [eqV, eqD])
    | (cases r1.str_; cases r2.non_; simp [eqV, eqD])
    | (cases r1.str_; cases r2.bl_; simp [eqV, eqD])
    | (cases r1.str_; cases r2.int_; simp [eqV, eqD])
    | (cases r1.str_; cases r2.str_; simp only [eqV, eqD, strEq_dec]; rfl)
theorem fl_all {K : KW} {loc : List Addr} {H : Hp} : ∀ {ds : List D} {vs : List V}, RDs K loc H ds vs → ds.all isFl = true → vs.all flatV = true
  | [], vs, r, _ => by rw [RDs] at r; rw [r]; rfl
  | d :: ds, vs, r, h => by
    rw [RDs] at r
    obtain ⟨v, t, rfl, r1, r2⟩ := r
    rw [List.all_cons, Bool.and_eq_true] at h
    rw [List.all_cons, fl_all r2 h.2, Bool.and_true]
    cases d <;> try cases h.1
    · cases r1.non_; rfl
    · cases r1.bl_; rfl
    · cases r1.int_; rfl
    · cases r1.str_; rfl
theorem fl_one {K : KW} {loc : List Addr} {H : Hp} {d : D} {v : V} (r1 : RD K loc H d v) (h : isFl d = true) : flatV v = true := by
  cases d <;> try cases h
  · cases r1.non_; rfl
  · cases r1.bl_; rfl
  · cases r1.int_; rfl
  · cases r1.str_; rfl
theorem inV_fl {K : KW} {loc : List Addr} {H : Hp} {d : D} {v : V} (r : RD K loc H d v) (f : isFl d = true) : ∀ {ds : List D} {vs : List V}, RDs K loc H ds vs → ds.all isFl = true → inV v vs = inFlat d ds
  | [], vs, q, _ => by rw [RDs] at q; rw [q]; rfl
  | e :: ds, vs, q, h => by
    rw [RDs] at q
    obtain ⟨w, t, rfl, q1, q2⟩ := q
    rw [List.all_cons, Bool.and_eq_true] at h
    have ih := inV_fl r f q2 h.2
    unfold inV inFlat at ih ⊢
    rw [List.any_cons, List.any_cons, ih, eqV_fl q1 r h.1 f]
/-! ### == of tuples of tuples -/
theorem notFl {d : D} (f : D.flat d = true) (n : isFl d = false) : ∃ ds, d = .tup ds := by
  cases d with
  | tup ds => exact ⟨ds, rfl⟩
  | ref _ => cases f
  | fn _ => cases f
  | _ => cases n
theorem fl_tup {K : KW} {loc : List Addr} {H : Hp} {A : Around} {s : Shared} {d : D} {v : V} {u : Value} {l : Addr} {items : Array Value} (r : RD K loc H d v) (f : isFl d = true) (rx : RelV v u) (hl : s.heap.IsTuple l items) (hu : A.units < cLine) :
    SeqAt.EqAt A s u (.ref l) false ∧ SeqAt.EqAt A s (.ref l) u false := by
  cases d <;> try cases f
  · cases r.non_
    cases rx
    exact ⟨.none_tuple hl hu, .tuple_none hl hu⟩
  · cases r.bl_
    cases rx
    exact ⟨.bool_tuple _ hl hu, .tuple_bool _ hl hu⟩
  · cases r.int_
    obtain ⟨t, rfl⟩ := rx
    exact ⟨.int_tuple _ _ hl hu, .tuple_int _ _ hl hu⟩
  · cases r.str_
    obtain ⟨t, rfl⟩ := rx
    exact ⟨.str_tuple _ _ hl hu, .tuple_str _ _ hl hu⟩
/-- the items' answers -/
def eqAll : List D → List D → Nat → Bool
  | x :: xs, y :: ys, 0 => eqD x y
  | _ :: xs, _ :: ys, n + 1 => eqAll xs ys n
  | _, _, _ => true
theorem range_all_succ (n : Nat) (e : Nat → Bool) : (List.range (n + 1)).all e = (e 0 && (List.range n).all fun i => e (i + 1)) := by
  rw [List.range_succ_eq_map, List.all_cons, List.all_map]
  rfl
theorem eqAll_sum : ∀ xs ys : List D, (((List.range (min xs.length ys.length)).all (eqAll xs ys)) && xs.length == ys.length) = eqDs xs ys
  | [], [] => rfl
  | [], _ :: _ => rfl
  | _ :: _, [] => rfl
  | x :: xs, y :: ys => by
    have ih := eqAll_sum xs ys
    simp only [List.length_cons, Nat.succ_min_succ]
    rw [range_all_succ]
    show (eqD x y && ((List.range (min xs.length ys.length)).all fun i => eqAll xs ys i) && (xs.length + 1 == ys.length + 1)) = (eqD x y && eqDs xs ys)
    rw [← ih, Bool.and_assoc]
    congr 2
    by_cases h : xs.length = ys.length
    · simp [h]
    · have : ¬ xs.length + 1 = ys.length + 1 := by omega
      simp [h]
section
variable {X : Cx} {pins : List (Addr × Obj)} {σ : L2.St} {H : Hp} {s : Shared} {loc : List Addr}
theorem tup_same {a : Addr} {xs ys : Array Value} (h1 : s.heap.IsTuple a xs) (h2 : s.heap.IsTuple a ys) : xs = ys := by
  obtain ⟨o, e, _, n, d⟩ := h1
  obtain ⟨o2, e2, _, n2, d2⟩ := h2
  rw [e] at e2
  cases e2
  rw [d] at d2
  cases d2
  rfl
theorem fl_same {d e : D} {x y : V} {u : Value} (f1 : isFl d = true) (f2 : D.flat e = true) (r1 : RD X.kw loc H d x) (r2 : RD X.kw loc H e y) (rx : RelV x u) (ry : RelV y u) : eqD d e = true := by
  cases d <;> try cases f1
  · cases r1.non_
    cases rx
    cases e <;> try cases f2
    · rfl
    · cases r2.bl_; cases ry
    · cases r2.int_; obtain ⟨_, z⟩ := ry; cases z
    · cases r2.str_; obtain ⟨_, z⟩ := ry; cases z
    · obtain ⟨_, _, rfl, _⟩ := r2.tup_; cases ry
  · cases r1.bl_
    cases rx
    cases e <;> try cases f2
    · cases r2.non_; cases ry
    · cases r2.bl_; cases ry; simp [eqD]
    · cases r2.int_; obtain ⟨_, z⟩ := ry; cases z
    · cases r2.str_; obtain ⟨_, z⟩ := ry; cases z
    · obtain ⟨_, _, rfl, _⟩ := r2.tup_; cases ry
  · cases r1.int_
    obtain ⟨t, rfl⟩ := rx
    cases e <;> try cases f2
    · cases r2.non_; cases ry
    · cases r2.bl_; cases ry
    · cases r2.int_; obtain ⟨_, z⟩ := ry; cases z; simp [eqD]
    · cases r2.str_; obtain ⟨_, z⟩ := ry; cases z
    · obtain ⟨_, _, rfl, _⟩ := r2.tup_; cases ry
  · cases r1.str_
    obtain ⟨t, rfl⟩ := rx
    cases e <;> try cases f2
    · cases r2.non_; cases ry
    · cases r2.bl_; cases ry
    · cases r2.int_; obtain ⟨_, z⟩ := ry; cases z
    · cases r2.str_; obtain ⟨_, z⟩ := ry; cases z; exact strEq_self _
    · obtain ⟨_, _, rfl, _⟩ := r2.tup_; cases ry
mutual
theorem same_run (I : Inv X pins σ H s) : ∀ (d e : D) (x y : V) (u : Value), D.flat d = true → D.flat e = true → RD X.kw loc H d x → RD X.kw loc H e y → RelV x u → RelV y u → eqD d e = true
  | .tup ds, e, x, y, u, f1, f2, r1, r2, rx, ry => by
    obtain ⟨a, vs, rfl, sa, q1⟩ := r1.tup_
    cases rx
    by_cases fe : isFl e = true
    · cases e <;> try cases fe
      · cases r2.non_; cases ry
      · cases r2.bl_; cases ry
      · cases r2.int_; obtain ⟨_, z⟩ := ry; cases z
      · cases r2.str_; obtain ⟨_, z⟩ := ry; cases z
    · obtain ⟨es, rfl⟩ := notFl f2 (by simpa using fe)
      obtain ⟨b, ws, rfl, sb, q2⟩ := r2.tup_
      cases ry
      obtain ⟨its, rv, pl, hz⟩ := I.tuple sa
      obtain ⟨its2, rv2, pl2, hz2⟩ := I.tuple sb
      have := congrArg Array.toList (tup_same pl pl2)
      simp only at this
      subst this
      exact sames_run I ds es vs ws its f1 f2 q1 q2 rv rv2
  | .non, e, x, y, u, f1, f2, r1, r2, rx, ry => fl_same rfl f2 r1 r2 rx ry
  | .bl b, e, x, y, u, f1, f2, r1, r2, rx, ry => fl_same rfl f2 r1 r2 rx ry
  | .int i, e, x, y, u, f1, f2, r1, r2, rx, ry => fl_same rfl f2 r1 r2 rx ry
  | .str z, e, x, y, u, f1, f2, r1, r2, rx, ry => fl_same rfl f2 r1 r2 rx ry
  | .ref _, _, _, _, _, f1, _, _, _, _, _ => by cases f1
  | .fn _, _, _, _, _, f1, _, _, _, _, _ => by cases f1
theorem sames_run (I : Inv X pins σ H s) : ∀ (ds es : List D) (xs ys : List V) (us : List Value), D.flats ds = true → D.flats es = true → RDs X.kw loc H ds xs → RDs X.kw loc H es ys → Vals xs us → Vals ys us → eqDs ds es = true
  | [], [], _, _, _, _, _, _, _, _, _ => rfl
  | [], e :: es, xs, ys, us, _, _, r1, r2, rx, ry => by
    have e1 : xs.length = 0 := r1.length
    have e2 : ys.length = es.length + 1 := r2.length
    have e3 := rx.length
    have e4 := ry.length
    omega
  | d :: ds, [], xs, ys, us, _, _, r1, r2, rx, ry => by
    have e1 : xs.length = ds.length + 1 := r1.length
    have e2 : ys.length = 0 := r2.length
    have e3 := rx.length
    have e4 := ry.length
    omega
  | d :: ds, e :: es, xs, ys, us, f1, f2, r1, r2, rx, ry => by
    have f1' : (d.flat && D.flats ds) = true := f1
    have f2' : (e.flat && D.flats es) = true := f2
    obtain ⟨a1, a2⟩ := Bool.and_eq_true_iff.mp f1'
    obtain ⟨b1, b2⟩ := Bool.and_eq_true_iff.mp f2'
    rw [RDs] at r1 r2
    obtain ⟨x, xs, rfl, c1, c2⟩ := r1
    obtain ⟨y, ys, rfl, c3, c4⟩ := r2
    cases rx with
    | cons p1 p2 =>
      cases ry with
      | cons p3 p4 =>
        show (eqD d e && eqDs ds es) = true
        rw [same_run I d e x y _ a1 b1 c1 c3 p1 p3, sames_run I ds es xs ys _ a2 b2 c2 c4 p2 p4]
        rfl
end
theorem eqD_fl {A : Around} (I : Inv X pins σ H s) (d e : D) (x y : V) (v u : Value) (f1 : isFl d = true) (f2 : D.flat e = true) (hu : A.units < cLine) (r1 : RD X.kw loc H d x) (r2 : RD X.kw loc H e y) (rx : RelV x v) (ry : RelV y u) : SeqAt.EqAt A s v u (eqD d e) := by
  by_cases fe : isFl e = true
  · rw [← eqV_fl r1 r2 f1 fe]
    exact eqAt_V rx ry (fl_one r1 f1) (fl_one r2 fe)
  · obtain ⟨es, rfl⟩ := notFl f2 (by simpa using fe)
    obtain ⟨b, ws, rfl, sb, q2⟩ := r2.tup_
    cases ry
    obtain ⟨its, rv, pl, hz⟩ := I.tuple sb
    have := (fl_tup (A := A) r1 f1 rx pl hu).1
    cases d <;> first | exact this | cases f1
mutual
theorem eqD_run (I : Inv X pins σ H s) : ∀ (d e : D) (A : Around) (x y : V) (v u : Value), D.flat d = true → D.flat e = true → A.units + D.dep d < cLine → RD X.kw loc H d x → RD X.kw loc H e y → RelV x v → RelV y u → SeqAt.EqAt A s v u (eqD d e)
  | .tup ds, e, A, x, y, v, u, f1, f2, hu, r1, r2, rx, ry => by
    obtain ⟨a, vs, rfl, sa, q1⟩ := r1.tup_
    cases rx
    obtain ⟨its, rv, pl, hz⟩ := I.tuple sa
    have hu0 : A.units < cLine := by omega
    by_cases fe : isFl e = true
    · have := (fl_tup (A := A) r2 fe ry pl hu0).2
      cases e <;> first | exact this | cases fe
    · obtain ⟨es, rfl⟩ := notFl f2 (by simpa using fe)
      obtain ⟨b, ws, rfl, sb, q2⟩ := r2.tup_
      cases ry
      obtain ⟨its2, rv2, pl2, hz2⟩ := I.tuple sb
      by_cases hab : a = b
      · subst hab
        rw [same_run I (.tup ds) (.tup es) (.ref a) (.ref a) (.ref a) f1 f2 r1 r2 rfl rfl]
        exact SeqAt.EqAt.same _
      · refine SeqAt.EqAt.of_refs hab ?_
        have k := SeqAt.RcAt.tuples (A := A) (e := eqAll ds es) pl pl2 hu0 fun j h1 h2 => eqDs_run I ds es A.in1 vs ws its its2 f1 f2 (by show A.units + 1 + D.deps ds < cLine; have : D.dep (.tup ds) = D.deps ds + 1 := rfl; omega) q1 q2 rv rv2 j (by simpa using h1) (by simpa using h2)
        have l1 : its.toArray.size = ds.length := by rw [List.size_toArray, ← rv.length, q1.length]
        have l2 : its2.toArray.size = es.length := by rw [List.size_toArray, ← rv2.length, q2.length]
        rw [l1, l2, eqAll_sum] at k
        exact k
  | .non, e, A, x, y, v, u, f1, f2, hu, r1, r2, rx, ry => eqD_fl I .non e x y v u rfl f2 (by omega) r1 r2 rx ry
  | .bl b, e, A, x, y, v, u, f1, f2, hu, r1, r2, rx, ry => eqD_fl I (.bl b) e x y v u rfl f2 (by omega) r1 r2 rx ry
  | .int i, e, A, x, y, v, u, f1, f2, hu, r1, r2, rx, ry => eqD_fl I (.int i) e x y v u rfl f2 (by omega) r1 r2 rx ry
  | .str z, e, A, x, y, v, u, f1, f2, hu, r1, r2, rx, ry => eqD_fl I (.str z) e x y v u rfl f2 (by omega) r1 r2 rx ry
  | .ref _, _, _, _, _, _, _, f1, _, _, _, _, _, _ => by cases f1
  | .fn _, _, _, _, _, _, _, f1, _, _, _, _, _, _ => by cases f1
theorem eqDs_run (I : Inv X pins σ H s) : ∀ (ds es : List D) (A : Around) (xs ys : List V) (vs us : List Value), D.flats ds = true → D.flats es = true → A.units + D.deps ds < cLine → RDs X.kw loc H ds xs → RDs X.kw loc H es ys → Vals xs vs → Vals ys us → ∀ j (h1 : j < vs.length) (h2 : j < us.length), SeqAt.EqAt A s vs[j] us[j] (eqAll ds es j)
  | [], es, A, xs, ys, vs, us, f1, f2, hu, r1, r2, rx, ry, j, h1, h2 => by
    have e1 : xs.length = 0 := r1.length
    have e2 := rx.length
    exact absurd h1 (by omega)
  | d :: ds, [], A, xs, ys, vs, us, f1, f2, hu, r1, r2, rx, ry, j, h1, h2 => by
    have e1 : ys.length = 0 := r2.length
    have e2 := ry.length
    exact absurd h2 (by omega)
  | d :: ds, e :: es, A, xs, ys, vs, us, f1, f2, hu, r1, r2, rx, ry, j, h1, h2 => by
    have f1' : (d.flat && D.flats ds) = true := f1
    have f2' : (e.flat && D.flats es) = true := f2
    obtain ⟨a1, a2⟩ := Bool.and_eq_true_iff.mp f1'
    obtain ⟨b1, b2⟩ := Bool.and_eq_true_iff.mp f2'
    have hd : D.deps (d :: ds) = max d.dep (D.deps ds) := rfl
    rw [RDs] at r1 r2
    obtain ⟨x, xs, rfl, c1, c2⟩ := r1
    obtain ⟨y, ys, rfl, c3, c4⟩ := r2
    cases rx with
    | cons p1 p2 =>
      cases ry with
      | cons p3 p4 =>
        cases j with
        | zero => exact eqD_run I d e A x y _ _ a1 b1 (by omega) c1 c3 p1 p3
        | succ j => exact eqDs_run I ds es A xs ys _ _ a2 b2 (by omega) c2 c4 p2 p4 j (Nat.lt_of_succ_lt_succ h1) (Nat.lt_of_succ_lt_succ h2)
end
end
def tMix (d e : D) : Prop := (isFl d = true ∧ ∃ b, e = .tup b) ∨ (isFl e = true ∧ ∃ b, d = .tup b)
theorem opEq_ok {K : KW} {loc : List Addr} {H : Hp} {d e : D} {v w : V} {R : Bool → Prop} (r1 : RD K loc H d v) (r2 : RD K loc H e w) (h : opEq d e R) : (scal v w = true ∧ R (decide (v = w))) ∨ (∃ a b, d = .tup a ∧ e = .tup b ∧ D.flats a = true ∧ D.flats b = true ∧ D.deps a ≤ 50 ∧ R (eqDs a b)) ∨ (tMix d e ∧ R false) := by
  by_cases ht : ∃ a b, d = .tup a ∧ e = .tup b
  · obtain ⟨a, b, rfl, rfl⟩ := ht
    obtain ⟨c, h⟩ := chk_e h
    obtain ⟨c1, c2⟩ := Bool.and_eq_true_iff.mp c
    obtain ⟨c2, c3⟩ := Bool.and_eq_true_iff.mp c2
    exact .inr (.inl ⟨a, b, rfl, rfl, c1, c2, of_decide_eq_true c3, h⟩)
  cases d <;> cases e <;> first | exact absurd ⟨_, _, rfl, rfl⟩ ht | exact .inr (.inr ⟨.inl ⟨rfl, _, rfl⟩, h⟩) | exact .inr (.inr ⟨.inr ⟨rfl, _, rfl⟩, h⟩) | skip
  all_goals try exact h.elim
  all_goals refine .inl ?_
  · cases r1.non_; cases r2.non_; exact ⟨rfl, h⟩
  · cases r1.non_; cases r2.bl_; exact ⟨rfl, h⟩
  · cases r1.non_; cases r2.int_; exact ⟨rfl, h⟩
  · cases r1.non_; cases r2.str_; exact ⟨rfl, h⟩
  · cases r1.bl_; cases r2.non_; exact ⟨rfl, h⟩
  · cases r1.bl_; cases r2.bl_; exact ⟨rfl, by rw [dec_bl]; exact h⟩
  · cases r1.bl_; cases r2.str_; exact ⟨rfl, h⟩
  · cases r1.int_; cases r2.non_; exact ⟨rfl, h⟩
  · cases r1.int_; cases r2.int_; exact ⟨rfl, by rw [dec_int]; exact h⟩
  · cases r1.int_; cases r2.str_; exact ⟨rfl, h⟩
  · cases r1.str_; cases r2.non_; exact ⟨rfl, h⟩
  · cases r1.str_; cases r2.bl_; exact ⟨rfl, h⟩
  · cases r1.str_; cases r2.int_; exact ⟨rfl, h⟩
  · cases r1.str_; cases r2.str_; exact ⟨rfl, by rw [dec_str, show ∀ a b : Str, (a == b) = strEq a b from fun a b => (strEq_dec a b).symm]; exact h⟩
theorem op_eqM (hu : X.A.units + 64 < cLine) {loc : List Addr} {d e : D} {pins : List (Addr × Obj)} {s : Shared} {σ : L2.St} {H : Hp} {x y : V} {v u : Value} {Q : VK} (I : Inv X pins σ H s) (rx : RelV x v) (ry : RelV y u) (r1 : RD X.kw loc H d x) (r2 : RD X.kw loc H e y) (m : tMix d e) (q : Q (.bl false) H) :
    wpAny (model X.prog X.w) X.A (compareOp .Eq v u) (EP X pins σ Q) X.xe s := by
  have hu0 : X.A.units < cLine := by omega
  have fin : EP X pins σ Q (.bool false) s := ⟨.bl false, H, I, rfl, q⟩
  rcases m with ⟨f, b, rfl⟩ | ⟨f, b, rfl⟩
  · obtain ⟨l, vs, rfl, sa, q1⟩ := r2.tup_
    cases ry
    obtain ⟨its, rv, pl, hz⟩ := I.tuple sa
    have pl' : s.heap.IsTuple l its.toArray := pl
    cases d <;> try cases f
    · cases r1.non_; cases rx; exact SeqAt.RcAt.none_tuple pl' hu0 _ _ _ _ fin
    · cases r1.bl_; cases rx; exact SeqAt.RcAt.bool_tuple _ pl' hu0 _ _ _ _ fin
    · cases r1.int_; obtain ⟨t, rfl⟩ := rx; exact SeqAt.RcAt.int_tuple _ _ pl' hu0 _ _ _ _ fin
    · cases r1.str_; obtain ⟨t, rfl⟩ := rx; exact SeqAt.RcAt.str_tuple _ _ pl' hu0 _ _ _ _ fin
  · obtain ⟨l, vs, rfl, sa, q1⟩ := r1.tup_
    cases rx
    obtain ⟨its, rv, pl, hz⟩ := I.tuple sa
    have pl' : s.heap.IsTuple l its.toArray := pl
    cases e <;> try cases f
    · cases r2.non_; cases ry; exact SeqAt.RcAt.tuple_none pl' hu0 _ _ _ _ fin
    · cases r2.bl_; cases ry; exact SeqAt.RcAt.tuple_bool _ pl' hu0 _ _ _ _ fin
    · cases r2.int_; obtain ⟨t, rfl⟩ := ry; exact SeqAt.RcAt.tuple_int _ _ pl' hu0 _ _ _ _ fin
    · cases r2.str_; obtain ⟨t, rfl⟩ := ry; exact SeqAt.RcAt.tuple_str _ _ pl' hu0 _ _ _ _ fin
theorem sg1_e {c : Str} {K : Nat → Prop} (w : sg1 c K) : ∃ k, c = ⟨#[k]⟩ ∧ K k := by
  obtain ⟨⟨l⟩⟩ := c
  unfold sg1 at w
  match l, w with
  | [k], w => exact ⟨k, rfl, w⟩
  | [], w => exact w.elim
  | _ :: _ :: _, w => exact w.elim
theorem sgIn_dec (z : Str) (k : Nat) : sgIn z k = decide (k ∈ z.cps.toList) := by
  unfold sgIn
  rw [Bool.eq_iff_iff, List.any_eq_true, decide_eq_true_iff]
  constructor
  · rintro ⟨j, hj, e⟩
    rw [Nat.beq_eq] at e
    rw [e]
    exact hj
  · exact fun h => ⟨k, h, Nat.beq_refl k⟩
theorem op_eqTT (hu : X.A.units + 64 < cLine) {loc : List Addr} {a b : List D} {pins : List (Addr × Obj)} {s : Shared} {σ : L2.St} {H : Hp} {x y : V} {v u : Value} {Q : VK} (I : Inv X pins σ H s) (rx : RelV x v) (ry : RelV y u) (r1 : RD X.kw loc H (.tup a) x) (r2 : RD X.kw loc H (.tup b) y) (f1 : D.flats a = true) (f2 : D.flats b = true) (hd : D.deps a ≤ 50) (q : Q (.bl (eqDs a b)) H) :
    wpAny (model X.prog X.w) X.A (compareOp .Eq v u) (EP X pins σ Q) X.xe s := by
  obtain ⟨l, vs, rfl, sa, q1⟩ := r1.tup_
  obtain ⟨m, ws, rfl, sb, q2⟩ := r2.tup_
  cases rx
  cases ry
  obtain ⟨its, rv, pl, hz⟩ := I.tuple sa
  obtain ⟨its2, rv2, pl2, hz2⟩ := I.tuple sb
  have l1 : its.toArray.size = a.length := by rw [List.size_toArray, ← rv.length, q1.length]
  have l2 : its2.toArray.size = b.length := by rw [List.size_toArray, ← rv2.length, q2.length]
  refine SeqAt.eq_tupleAt (e := eqAll a b) pl pl2 (by omega) (fun j h1 h2 => eqDs_run I a b X.A.in1 vs ws its its2 f1 f2 (by show X.A.units + 1 + D.deps a < cLine; omega) q1 q2 rv rv2 j (by simpa using h1) (by simpa using h2)) ?_
  rw [l1, l2, eqAll_sum]
  exact ⟨.bl _, H, I, rfl, q⟩
theorem op_cmp (hu : X.A.units + 64 < cLine) (op : COp) : OpR X (compareOp (copOf op)) (lf2 X.kw fun x y h Q => opCmp op x y h fun b => Q (.bl b) h) := by
  intro pins s σ H x y v u Q I rx ry hq
  obtain ⟨loc, h, dx, dy, Q', rh, r1, r2, w, k⟩ := hq
  cases op with
  | eq =>
    rcases opEq_ok (R := fun b => Q' (.bl b) h) r1 r2 w with ⟨c, w⟩ | ⟨a, b, rfl, rfl, f1, f2, hd, w⟩ | ⟨m, w⟩
    · exact op_eq pins s σ H _ _ v u Q I rx ry ⟨c, k.here rh w rd_bl⟩
    · exact op_eqTT hu I rx ry r1 r2 f1 f2 hd (k.here rh w rd_bl)
    · exact op_eqM hu I rx ry r1 r2 m (k.here rh w rd_bl)
  | ne =>
    have ht1 : ¬ ∃ a, dx = .tup a := fun ⟨a, e1⟩ => by subst e1; cases dy <;> exact w
    have ht2 : ¬ ∃ a, dy = .tup a := fun ⟨a, e1⟩ => by subst e1; cases dx <;> exact w
    have w : opEq dx dy fun b => Q' (.bl (!b)) h := by
      cases dx <;> cases dy <;> first | exact absurd ⟨_, rfl⟩ ht1 | exact absurd ⟨_, rfl⟩ ht2 | exact w
    rcases opEq_ok (R := fun b => Q' (.bl (!b)) h) r1 r2 w with ⟨c, w⟩ | ⟨a, b, e1, e2, _⟩ | ⟨⟨_, b, e⟩ | ⟨_, b, e⟩, _⟩
    case inr.inl => exact absurd ⟨_, e1⟩ ht1
    case inr.inr.inl => exact absurd ⟨_, e⟩ ht2
    case inr.inr.inr => exact absurd ⟨_, e⟩ ht1
    exact op_ne pins s σ H _ _ v u Q I rx ry ⟨c, k.here rh w rd_bl⟩
  | lt =>
    cases dx <;> cases dy <;> try exact w.elim
    cases r1.int_; cases r2.int_
    exact op_lt pins s σ H _ _ v u Q I rx ry ⟨_, _, rfl, rfl, k.here rh w rd_bl⟩
  | le =>
    cases dx <;> cases dy <;> try exact w.elim
    cases r1.int_; cases r2.int_
    exact op_le pins s σ H _ _ v u Q I rx ry ⟨_, _, rfl, rfl, k.here rh w rd_bl⟩
  | gt =>
    cases dx <;> cases dy <;> try exact w.elim
    cases r1.int_; cases r2.int_
    exact op_gt pins s σ H _ _ v u Q I rx ry ⟨_, _, rfl, rfl, k.here rh w rd_bl⟩
  | ge =>
    cases dx <;> cases dy <;> try exact w.elim
    cases r1.int_; cases r2.int_
    exact op_ge pins s σ H _ _ v u Q I rx ry ⟨_, _, rfl, rfl, k.here rh w rd_bl⟩
  | is =>
    cases dy <;> try exact w.elim
    cases r2.non_
    refine op_isN pins s σ H _ _ v u Q I rx ry ⟨rfl, ?_⟩
    rw [r1.isN]
    cases dx <;> exact k.here rh w rd_bl
  | isnot =>
    cases dy <;> try exact w.elim
    cases r2.non_
    refine op_notN pins s σ H _ _ v u Q I rx ry ⟨rfl, ?_⟩
    rw [r1.isN]
    cases dx <;> exact k.here rh w rd_bl
  | isin =>
    rcases opIn_e (show opIn dx dy h (fun b => Q' (.bl (b)) h) from w) with ⟨z, c, rfl, rfl, w9⟩ | ⟨ds, e, c1, c2, w9⟩ | ⟨n, kvs, z, rfl, hn, rfl, w9⟩ | ⟨n, kvs, ks, rfl, hn, rfl, c, w9⟩
    · cases r1.str_; cases r2.str_
      refine op_in_sign pins s σ H _ _ v u Q I rx ry ⟨c, z, rfl, rfl, ?_⟩
      rw [← sgIn_dec]
      exact k.here rh w9 rd_bl
    · obtain ⟨a, vs, rfl, q, sq⟩ := rh.seq e r2
      refine op_in_seq pins s σ H _ _ v u Q I rx ry ⟨a, vs, rfl, sq.elim (fun z => .inr z.1) (fun z => .inl z.1), fl_one r1 c1, fl_all q c2, ?_⟩
      rw [inV_fl r1 c1 q c2]
      exact k.here rh w9 rd_bl
    · obtain ⟨a, ks, rfl, la, ha, q⟩ := rh.dic hn r2
      cases r1.str_
      cases ry
      refine d_in (by omega) I (o := valV ks (Sum.inr z : L2.Key)) (DGet.k (k := Sum.inr z) ha) rx fun s' I' => ⟨.bl _, H, I', rfl, ?_⟩
      rcases q.val z with ⟨e2, e3⟩ | ⟨d2, v2, e2, e3, _⟩
      · rw [e2] at w9; rw [e3]; exact k.here rh w9 rd_bl
      · rw [e2] at w9; rw [e3]; exact k.here rh w9 rd_bl
    · obtain ⟨a, es, rfl, la, ha, q⟩ := rh.dtp hn r2
      obtain ⟨js, rfl⟩ := kD_of c
      obtain ⟨b, vs, rfl, sq, q1⟩ := r1.tup_
      rw [rds_keys q1] at sq
      cases rx
      cases ry
      refine dto_in (by omega) I ha q.dtk sq fun s' I' => ⟨.bl _, H, I', rfl, ?_⟩
      rcases q.val js with ⟨e2, e3⟩ | ⟨d2, p2, v2, e2, e3, _⟩
      · rw [e2] at w9; rw [e3]; exact k.here rh w9 rd_bl
      · rw [e2] at w9; rw [e3]; exact k.here rh w9 rd_bl
  | notin =>
    rcases opIn_e (show opIn dx dy h (fun b => Q' (.bl (!b)) h) from w) with ⟨z, c, rfl, rfl, w9⟩ | ⟨ds, e, c1, c2, w9⟩ | ⟨n, kvs, z, rfl, hn, rfl, w9⟩ | ⟨n, kvs, ks, rfl, hn, rfl, c, w9⟩
    · cases r1.str_; cases r2.str_
      refine op_notIn_sign pins s σ H _ _ v u Q I rx ry ⟨c, z, rfl, rfl, ?_⟩
      rw [← sgIn_dec]
      exact k.here rh w9 rd_bl
    · obtain ⟨a, vs, rfl, q, sq⟩ := rh.seq e r2
      refine op_notIn_seq pins s σ H _ _ v u Q I rx ry ⟨a, vs, rfl, sq.elim (fun z => .inr z.1) (fun z => .inl z.1), fl_one r1 c1, fl_all q c2, ?_⟩
      rw [inV_fl r1 c1 q c2]
      exact k.here rh w9 rd_bl
    · obtain ⟨a, ks, rfl, la, ha, q⟩ := rh.dic hn r2
      cases r1.str_
      cases ry
      refine d_notIn (by omega) I (o := valV ks (Sum.inr z : L2.Key)) (DGet.k (k := Sum.inr z) ha) rx fun s' I' => ⟨.bl _, H, I', rfl, ?_⟩
      rcases q.val z with ⟨e2, e3⟩ | ⟨d2, v2, e2, e3, _⟩
      · rw [e2] at w9; rw [e3]; exact k.here rh w9 rd_bl
      · rw [e2] at w9; rw [e3]; exact k.here rh w9 rd_bl
    · obtain ⟨a, es, rfl, la, ha, q⟩ := rh.dtp hn r2
      obtain ⟨js, rfl⟩ := kD_of c
      obtain ⟨b, vs, rfl, sq, q1⟩ := r1.tup_
      rw [rds_keys q1] at sq
      cases rx
      cases ry
      refine dto_notin (by omega) I ha q.dtk sq fun s' I' => ⟨.bl _, H, I', rfl, ?_⟩
      rcases q.val js with ⟨e2, e3⟩ | ⟨d2, p2, v2, e2, e3, _⟩
      · rw [e2] at w9; rw [e3]; exact k.here rh w9 rd_bl
      · rw [e2] at w9; rw [e3]; exact k.here rh w9 rd_bl
/-! ### truth -/
theorem truth_ok {K : KW} {loc : List Addr} {H : Hp} {h : Hh} {d : D} {v : V} {R : Bool → Prop} (rh : RH K loc H h) (r : RD K loc H d v) (w : truth d h R) : ∃ k, TruV K v H k ∧ R k := by
  cases d with
  | non => cases r.non_; exact ⟨_, rfl, w⟩
  | bl b => cases r.bl_; exact ⟨_, rfl, w⟩
  | int i => cases r.int_; exact ⟨_, rfl, w⟩
  | str x => exact w.elim
  | fn x => exact w.elim
  | tup ds =>
    obtain ⟨a, vs, rfl, sq, q⟩ := r.tup_
    exact ⟨_, .inr (.inl ⟨vs, sq, rfl⟩), by rw [q.isEmpty]; exact w⟩
  | ref n =>
    obtain ⟨xs, hn, w⟩ := rdL_e (show rdL h n _ from w)
    obtain ⟨a, vs, rfl, la, ha, q⟩ := rh.lst hn r
    exact ⟨_, .inl ⟨vs, SqL.of ha, rfl⟩, by rw [q.isEmpty]; exact w⟩
/-! ### items, slices -/
theorem ixAt_eq (n : Nat) (i : Int) : ixAt n i = ixN n i := rfl
theorem op_ix (hu : X.A.units + 64 < cLine) : IxR X (lf2 X.kw opIx) := by
  intro value slice pins s σ H x y v u Q I rx ry hq hsb
  obtain ⟨loc, h, dx, dy, Q', rh, r1, r2, w, k⟩ := hq
  by_cases hs : ∃ z, dy = .str z
  · obtain ⟨z, rfl⟩ := hs
    cases r2.str_
    cases dx <;> try exact w.elim
    obtain ⟨kvs, hn, w⟩ := rdD_e (show rdD h _ _ from w)
    obtain ⟨d, e, w⟩ := gtD_e w
    obtain ⟨a, ks, rfl, la, ha, q⟩ := rh.dic hn r1
    rcases q.val z with ⟨e2, _⟩ | ⟨d2, v2, e2, e3, rv⟩
    · rw [e] at e2; cases e2
    · rw [e] at e2
      cases e2
      exact ix_dK (by omega) value slice pins s σ H _ _ v u Q I rx ry ⟨a, ks, z, v2, rfl, rfl, ha, e3, k.here rh w rv⟩ hsb
  by_cases ht : ∃ z, dy = .tup z
  · obtain ⟨ks, rfl⟩ := ht
    cases dx <;> try exact w.elim
    obtain ⟨kvs, hn, w⟩ := rdT_e (show rdT h _ _ from w)
    obtain ⟨c, w⟩ := chk_e w
    obtain ⟨d, e, w9⟩ := gtT_e w
    obtain ⟨a, es, rfl, la, ha, q⟩ := rh.dtp hn r1
    obtain ⟨js, rfl⟩ := kD_of c
    obtain ⟨b, vs, rfl, sq, q1⟩ := r2.tup_
    rw [rds_keys q1] at sq
    cases rx
    cases ry
    rcases q.val js with ⟨e2, _⟩ | ⟨d2, p2, v2, e2, e3, rv, rd⟩
    · rw [e] at e2; cases e2
    · rw [e] at e2
      cases e2
      exact tail_any ⟨_, (dto_of I ha).2.choose_spec.choose_spec.choose_spec.1, (dto_of I ha).2.choose_spec.choose_spec.choose_spec.2.1.1⟩ PySem.F.slot_dict_getitem.lookup (dto_get (by omega) I ha q.dtk sq e3 fun s' I' => ⟨_, H, I', rv, k.here rh w9 rd⟩) hsb
  cases dy <;> first | exact absurd ⟨_, rfl⟩ hs | exact absurd ⟨_, rfl⟩ ht | skip
  all_goals try exact w.elim
  cases r2.int_
  rename_i i
  by_cases hz : ∃ z, dx = .str z
  · obtain ⟨z, rfl⟩ := hz
    cases r1.str_
    obtain ⟨c, ec, hl, w⟩ := sgn_e (show sgn z i _ from w)
    refine ix_str value slice pins s σ H _ _ v u Q I rx ry ⟨z, i, c, rfl, rfl, hl, ?_, k.here rh w rd_str⟩ hsb
    unfold atI
    rw [show z.cps.toList.length = z.length by simp [Str.length]]
    exact ec
  replace w : sq h dx fun xs => itm xs i fun d => Q' d h := by
    cases dx <;> first | exact w | exact absurd ⟨_, rfl⟩ hz
  obtain ⟨ds, e, w⟩ := sq_e w
  obtain ⟨d, g, w⟩ := itm_e w
  obtain ⟨a, vs, rfl, q, sq⟩ := rh.seq e r1
  obtain ⟨z, hz, rz⟩ : ∃ z, atI vs i = some z ∧ RD X.kw loc H d z := by
    unfold getAt at g
    unfold atI
    rw [q.length]
    rw [ixAt_eq] at g
    cases j : ixN ds.length i with
    | none => rw [j] at g; cases g
    | some jj =>
      rw [j] at g
      exact q.at_ g
  rcases sq with ⟨sq, _⟩ | ⟨sq, _⟩
  · exact ix_tup value slice pins s σ H _ _ v u Q I rx ry ⟨a, vs, i, z, rfl, rfl, sq, hz, k.here rh w rz⟩ hsb
  · exact ix_list value slice pins s σ H _ _ v u Q I rx ry ⟨a, vs, i, z, rfl, rfl, sq, hz, k.here rh w rz⟩ hsb
theorem RDs.cut {K : KW} {loc : List Addr} {H : Hp} {ds : List D} {vs : List V} (q : RDs K loc H ds vs) (lo hi : Option Int) : RDs K loc H (cutD ds lo hi) (cutV vs lo hi) := by
  unfold cutD cutV
  rw [q.length]
  exact (q.drop _).take _
def lfSl (K : KW) : V → Option Int → Option Int → Hp → VK → Prop := fun x lo hi H Q => ∃ loc h dx Q', RH K loc H h ∧ RD K loc H dx x ∧ opSl dx lo hi h Q' ∧ Kx K loc H Q' Q
theorem op_sl : SlR X (lfSl X.kw) := by
  intro pins s σ H x v vl vu lo hi sl Q I rx hs pl pu hq
  obtain ⟨loc, h, dx, Q', rh, r1, w, k⟩ := hq
  unfold opSl at w
  cases dx <;> try exact w.elim
  · cases r1.str_
    obtain ⟨c, w⟩ := chk_e w
    exact sl_str pins s σ H _ v vl vu lo hi sl Q I rx hs pl pu ⟨_, rfl, lenOk_i c, k.here rh w rd_str⟩
  · rename_i ds
    obtain ⟨a, vs, rfl, sq, ba, q⟩ := r1.tupB
    by_cases hw : HT.sIx vs.length 0 lo = 0 ∧ HT.sIx vs.length vs.length hi = vs.length
    · refine sl_tupA pins s σ H _ v vl vu lo hi sl Q I rx hs pl pu ⟨a, vs, rfl, sq, fun _ => ?_, fun z => absurd hw z⟩
      have e : cutD ds lo hi = ds := by
        unfold cutD
        rw [q.length] at hw
        rw [hw.1, hw.2]
        simp
      have w9 : Q' (.tup (cutD ds lo hi)) h := w
      rw [e] at w9
      exact k.here rh w9 r1
    · exact sl_tupF pins s σ H _ v vl vu lo hi sl Q I rx hs pl pu ⟨a, vs, rfl, sq, hw, k.tup rh w (q.cut lo hi)⟩
  · rename_i n
    obtain ⟨ds, e, w⟩ := sq_e (show sq h (.ref n) _ from w)
    obtain ⟨a, vs, rfl, q, sq⟩ := rh.seq e r1
    rcases sq with ⟨_, z⟩ | ⟨sq, _⟩
    · cases z
    · exact sl_list pins s σ H _ v vl vu lo hi sl Q I rx hs pl pu ⟨a, vs, rfl, sq, k.new rh w (q.cut lo hi)⟩
theorem RDs.reverse {K : KW} {loc : List Addr} {H : Hp} {ds : List D} {vs : List V} (q : RDs K loc H ds vs) : RDs K loc H ds.reverse vs.reverse := by
  have l1 := q.length
  refine RDs.of (by simp [l1]) fun i v d a b => ?_
  have hi : i < ds.length := by have := (List.getElem?_eq_some_iff.mp b).1; simpa using this
  rw [List.getElem?_reverse (by omega)] at a
  rw [List.getElem?_reverse hi] at b
  rw [l1] at a
  exact q.pt a b
theorem rev_ok {loc : List Addr} {h : Hh} {dx : D} {Q' : Kd} {x : V} {H : Hp} {Q : VK} (rh : RH X.kw loc H h) (r : RD X.kw loc H dx x) (w : opRev dx h Q') (k : Kx X.kw loc H Q' Q) : rRevL X.kw x H Q := by
  unfold opRev at w
  cases dx <;> try exact w.elim
  · obtain ⟨a, vs, rfl, sa, q⟩ := r.tup_
    exact ⟨a, vs, rfl, .inr ⟨sa, k.tup rh w q.reverse⟩⟩
  · rename_i n
    obtain ⟨ds, e, w⟩ := sq_e (show sq h (.ref n) _ from w)
    obtain ⟨a, vs, rfl, q, sq⟩ := rh.seq e r
    rcases sq with ⟨_, z⟩ | ⟨sq, _⟩
    · cases z
    · exact ⟨a, vs, rfl, .inl ⟨sq, k.new rh w q.reverse⟩⟩
end
end Mi

set_option Elab.async false
set_option linter.all false
set_option maxRecDepth 100000
set_option maxHeartbeats 1000000
/-! Mi: built-in calls, methods, stores. -/
namespace Mi
open PySem PySem.Spec PyProof.Rows L2

theorem ints_of {K : KW} {loc : List Addr} {H : Hp} : ∀ {ds : List D} {vs : List V} {ns : List Int}, RDs K loc H ds vs → intsOf ds = some ns → vs = ns.map V.int
  | [], vs, ns, q, e => by
    cases e
    rw [RDs] at q
    exact q
  | d :: ds, vs, ns, q, e => by
    rw [RDs] at q
    obtain ⟨v, t, rfl, q1, q2⟩ := q
    cases d <;> try cases e
    simp only [intsOf] at e
    cases z : intsOf ds with
    | none => rw [z] at e; cases e
    | some ms =>
      rw [z] at e
      cases e
      cases q1.int_
      rw [ints_of q2 z]
      rfl
theorem maxI_mem : ∀ (m : Int) (ms : List Int), maxI m ms ∈ m :: ms
  | m, [] => List.mem_cons_self
  | m, x :: xs => by
    unfold maxI
    have h := maxI_mem (if x > m then x else m) xs
    by_cases c : x > m
    · rw [if_pos c] at h ⊢
      rcases List.mem_cons.mp h with e | e
      · rw [e]; simp
      · simp [e]
    · rw [if_neg c] at h ⊢
      rcases List.mem_cons.mp h with e | e
      · rw [e]; simp
      · simp [e]
theorem maxI_le : ∀ (m : Int) (ms : List Int), ∀ y ∈ m :: ms, y ≤ maxI m ms
  | m, [], y, h => by simp at h; subst h; exact Int.le_refl _
  | m, x :: xs, y, h => by
    unfold maxI
    have q := maxI_le (if x > m then x else m) xs
    have q0 := q _ List.mem_cons_self
    generalize maxI (if x > m then x else m) xs = M at q q0 ⊢
    rcases List.mem_cons.mp h with e | h
    · subst e; split at q0 <;> omega
    · rcases List.mem_cons.mp h with e | h
      · subst e; split at q0 <;> omega
      · exact q y (List.mem_cons_of_mem _ h)
theorem minI_mem : ∀ (m : Int) (ms : List Int), minI m ms ∈ m :: ms
  | m, [] => List.mem_cons_self
  | m, x :: xs => by
    unfold minI
    have h := minI_mem (if x < m then x else m) xs
    by_cases c : x < m
    · rw [if_pos c] at h ⊢
      rcases List.mem_cons.mp h with e | e
      · rw [e]; simp
      · simp [e]
    · rw [if_neg c] at h ⊢
      rcases List.mem_cons.mp h with e | e
      · rw [e]; simp
      · simp [e]
theorem minI_le : ∀ (m : Int) (ms : List Int), ∀ y ∈ m :: ms, minI m ms ≤ y
  | m, [], y, h => by simp at h; subst h; exact Int.le_refl _
  | m, x :: xs, y, h => by
    unfold minI
    have q := minI_le (if x < m then x else m) xs
    have q0 := q _ List.mem_cons_self
    generalize minI (if x < m then x else m) xs = M at q q0 ⊢
    rcases List.mem_cons.mp h with e | h
    · subst e; split at q0 <;> omega
    · rcases List.mem_cons.mp h with e | h
      · subst e; split at q0 <;> omega
      · exact q y (List.mem_cons_of_mem _ h)
def bltVal : Blt → Value
  | .len => .builtin "len" | .abs => .builtin "abs" | .max => .builtin "max" | .min => .builtin "min" | .sum => .builtin "sum"
  | .int => .type "int" | .tuple => .type "tuple" | .list => .type "list" | .str => .type "str" | .dict => .type "dict"
def bltStr : Blt → Str
  | .len => "len" | .abs => "abs" | .max => "max" | .min => "min" | .sum => "sum" | .int => "int" | .tuple => "tuple" | .list => "list" | .str => "str" | .dict => "dict"
theorem log_lt {n : Nat} (h : n < 2 ^ 100) : n.log2 < 1920 := by
  by_cases z : n = 0
  · subst z; decide
  · have := (Nat.log2_lt z).mpr h
    omega
theorem nuLt_int (a b : Int) : nuLt (.int a) (.int b) = some (decide (a < b)) := rfl
section
variable {X : Cx}
theorem prs_ok {K : KW} {loc : List Addr} {H : Hp} : ∀ {kvs : List (Str × D)} {vs : List V}, RDs K loc H (kvs.map fun p => D.tup [.str p.1, p.2]) vs → ∃ (ps : List Addr) (ks : List (L2.Key × V)), vs = ps.map V.ref ∧ Paired (fun p kv => SqT K H p [kV kv.1, kv.2]) ps ks ∧ RKs K loc H kvs ks
  | [], vs, r => by
    rw [List.map_nil, RDs] at r
    exact ⟨[], [], r, .nil, rfl⟩
  | p :: kvs, vs, r => by
    rw [List.map_cons, RDs] at r
    obtain ⟨v, t, rfl, q1, q2⟩ := r
    obtain ⟨ps, ks, rfl, e1, e2⟩ := prs_ok q2
    obtain ⟨a, ws, rfl, sa, q⟩ := q1.tup_
    rw [RDs] at q
    obtain ⟨v1, t1, rfl, r1, q⟩ := q
    rw [RDs] at q
    obtain ⟨v2, t2, rfl, r2, q⟩ := q
    rw [RDs] at q
    subst q
    cases r1.str_
    exact ⟨a :: ps, (Sum.inr p.1, v2) :: ks, rfl, .cons sa e1, v2, ks, rfl, r2, e2⟩
theorem call_blt (hc : X.calm = true) (f : Blt) : CallR X (bltVal f) (lfC X.kw (opBlt f)) := by
  intro pins s σ H xs us Q I r hq
  obtain ⟨loc, h, ds, Q', rh, rd, w, k⟩ := hq
  cases ds with
  | nil => cases f <;> exact w.elim
  | cons d1 ds =>
  rw [RDs] at rd
  obtain ⟨v1, t1, rfl, q1, rd⟩ := rd
  cases ds with
  | nil =>
    rw [RDs] at rd
    subst rd
    cases f with
    | len =>
      cases d1 with
      | str x =>
        cases q1.str_
        obtain ⟨c, w⟩ := chk_e w
        exact call_len_str pins s σ H _ us Q I r ⟨x, rfl, lenOk_i c, k.here rh w rd_int⟩
      | tup xs =>
        obtain ⟨ys, e, w⟩ := sq_e (K := fun ys => Q' (.int ys.length) h) (show sq h (.tup xs) _ from w)
        obtain ⟨a, vs, rfl, q, sq⟩ := rh.seq e q1
        refine call_len_seq pins s σ H _ us Q I r ⟨a, vs, rfl, sq.elim (fun z => .inr z.1) (fun z => .inl z.1), ?_⟩
        rw [q.length]
        exact k.here rh w rd_int
      | ref n =>
        obtain ⟨ys, e, w⟩ := sq_e (K := fun ys => Q' (.int ys.length) h) (show sq h (.ref n) _ from w)
        obtain ⟨a, vs, rfl, q, sq⟩ := rh.seq e q1
        refine call_len_seq pins s σ H _ us Q I r ⟨a, vs, rfl, sq.elim (fun z => .inr z.1) (fun z => .inl z.1), ?_⟩
        rw [q.length]
        exact k.here rh w rd_int
      | _ => exact w.elim
    | int =>
      cases d1 <;> try exact w.elim
      · cases q1.bl_
        exact call_int1 pins s σ H _ us Q I r (.inr ⟨_, rfl, k.here rh w rd_int⟩)
      · cases q1.int_
        exact call_int1 pins s σ H _ us Q I r (.inl ⟨_, rfl, k.here rh w rd_int⟩)
    | str =>
      cases d1 <;> try exact w.elim
      cases q1.int_
      obtain ⟨c, w⟩ := chk_e w
      exact call_str_int pins s σ H _ us Q I r ⟨_, rfl, log_lt (of_decide_eq_true c), k.here rh w rd_str⟩
    | abs =>
      cases d1 <;> try exact w.elim
      cases q1.int_
      exact call_abs pins s σ H _ us Q I r ⟨_, rfl, k.here rh w rd_int⟩
    | max =>
      cases d1 <;> try exact w.elim
      obtain ⟨ys, e, w⟩ := rdL_e (show rdL h _ _ from w)
      obtain ⟨ms, e2, w⟩ := iLst_e w
      obtain ⟨a, vs, rfl, la, ha, q⟩ := rh.lst e q1
      have ev := ints_of q e2
      subst ev
      cases ms with
      | nil => exact w.elim
      | cons m ms =>
        refine cr_max hc pins s σ H _ us Q I r ⟨a, m :: ms, rfl, SqL.of ha, by simp, fun z hz hl => ?_⟩
        have : z = maxI m ms := Int.le_antisymm (maxI_le m ms z hz) (hl _ (maxI_mem m ms))
        subst this
        exact k.here rh w rd_int
    | min =>
      cases d1 <;> try exact w.elim
      obtain ⟨ys, e, w⟩ := rdL_e (show rdL h _ _ from w)
      obtain ⟨ms, e2, w⟩ := iLst_e w
      obtain ⟨a, vs, rfl, la, ha, q⟩ := rh.lst e q1
      have ev := ints_of q e2
      subst ev
      cases ms with
      | nil => exact w.elim
      | cons m ms =>
        refine cr_min hc pins s σ H _ us Q I r ⟨a, m :: ms, rfl, SqL.of ha, by simp, fun z hz hl => ?_⟩
        have : z = minI m ms := Int.le_antisymm (hl _ (minI_mem m ms)) (minI_le m ms z hz)
        subst this
        exact k.here rh w rd_int
    | sum =>
      cases d1 <;> try exact w.elim
      obtain ⟨ys, e, w⟩ := rdL_e (show rdL h _ _ from w)
      obtain ⟨ms, e2, w⟩ := iLst_e w
      obtain ⟨a, vs, rfl, la, ha, q⟩ := rh.lst e q1
      have ev := ints_of q e2
      subst ev
      exact cr_sum hc pins s σ H _ us Q I r ⟨a, ms, rfl, SqL.of ha, k.here rh w rd_int⟩
    | tuple =>
      obtain ⟨ys, e, w⟩ := sq_e (show sq h d1 _ from w)
      obtain ⟨a, vs, rfl, q, sq⟩ := rh.seq e q1
      rcases sq with ⟨sq, rfl⟩ | ⟨sq, _⟩
      · cases e
        exact call_tupF pins s σ H _ us Q I r ⟨a, vs, rfl, .inr ⟨sq, k.here rh w q1⟩⟩
      · exact call_tupF pins s σ H _ us Q I r ⟨a, vs, rfl, .inl ⟨sq, k.tup rh w q⟩⟩
    | list =>
      obtain ⟨ys, e, w⟩ := sq_e (show sq h d1 _ from w)
      obtain ⟨a, vs, rfl, q, sq⟩ := rh.seq e q1
      exact call_list_of pins s σ H _ us Q I r ⟨a, vs, rfl, sq.elim (fun z => .inr z.1) (fun z => .inl z.1), k.new rh w q⟩
    | dict =>
      cases d1 <;> try exact w.elim
      · obtain ⟨kvs, rfl, z, w⟩ := prsD_e w
        obtain ⟨a, vs, rfl, sa, ba, q⟩ := q1.tupB
        obtain ⟨ps, ks, e1, e2, e3⟩ := prs_ok q
        subst e1
        exact call_dictT hc pins s σ H _ us Q I r ⟨a, ps, ks, rfl, sa, ba, e2, k.newD rh w (RKs.merge e3 rfl)⟩
      obtain ⟨kvs, hn, w⟩ := rdD_e (show rdD h _ _ from w)
      obtain ⟨a, ks, rfl, la, ha, q⟩ := rh.dic hn q1
      exact call_dictD pins s σ H _ us Q I r ⟨a, ks, rfl, .inl ha, k.newD rh w q⟩
  | cons d2 ds =>
    rw [RDs] at rd
    obtain ⟨v2, t2, rfl, q2, rd⟩ := rd
    cases ds with
    | nil =>
      rw [RDs] at rd
      subst rd
      cases f with
      | max =>
        cases d1 <;> cases d2 <;> try exact w.elim
        cases q1.int_
        cases q2.int_
        exact call_max2 hc pins s σ H _ us Q I r ⟨_, _, rfl, k.here rh w rd_int⟩
      | min =>
        cases d1 <;> cases d2 <;> try exact w.elim
        cases q1.int_
        cases q2.int_
        exact call_min2 hc pins s σ H _ us Q I r ⟨_, _, rfl, k.here rh w rd_int⟩
      | _ => cases d1 <;> exact w.elim
    | cons d3 ds =>
      rw [RDs] at rd
      obtain ⟨v3, t3, rfl, q3, rd⟩ := rd
      cases ds with
      | cons d4 ds => cases f <;> cases d1 <;> cases d2 <;> cases d3 <;> exact w.elim
      | nil =>
        rw [RDs] at rd
        subst rd
        cases f with
        | max =>
          cases d1 <;> cases d2 <;> cases d3 <;> try exact w.elim
          rename_i i j k3
          cases q1.int_
          cases q2.int_
          cases q3.int_
          refine call_max3Nu hc pins s σ H _ us Q I r ⟨_, _, _, .int (if k3 > (if j > i then j else i) then k3 else (if j > i then j else i)), rfl, ?_, k.here rh w rd_int⟩
          by_cases c1 : i < j <;> by_cases c2 : j < k3 <;> by_cases c3 : i < k3 <;> simp [nuMax3, nuMax2, nuLt_int, c1, c2, c3]
        | min =>
          cases d1 <;> cases d2 <;> cases d3 <;> try exact w.elim
          rename_i i j k3
          cases q1.int_
          cases q2.int_
          cases q3.int_
          refine call_min3Nu hc pins s σ H _ us Q I r ⟨_, _, _, .int (if k3 < (if j < i then j else i) then k3 else (if j < i then j else i)), rfl, ?_, k.here rh w rd_int⟩
          by_cases c1 : j < i <;> by_cases c2 : k3 < j <;> by_cases c3 : k3 < i <;> simp [nuMin3, nuMin2, nuLt_int, c1, c2, c3]
        | _ => cases d1 <;> cases d2 <;> cases d3 <;> exact w.elim
/-! ### isinstance -/
def tynStr : Tyn → String
  | .int => "int" | .bool => "bool" | .str => "str" | .tuple => "tuple" | .list => "list"
theorem tyx_of {K : KW} {loc : List Addr} {H : Hp} {d : D} {v : V} {t : Tyn} (r : RD K loc H d v) (e : tyOf d = some t) : TyX K H v (.type (tynStr t)) := by
  cases d with
  | non => cases e
  | bl b => cases e; cases r.bl_; exact .base (.bl _)
  | int i => cases e; cases r.int_; exact .base (.int _)
  | str x => cases e; cases r.str_; exact .base (.str _)
  | tup ds =>
    cases e
    obtain ⟨a, vs, rfl, sq, q⟩ := r.tup_
    rcases sq with (sq | ⟨o, sq⟩) | ⟨o, its, n, sq, hc, _⟩
    · exact .base (.tup sq)
    · exact .fTuple sq
    · exact .kTuple sq hc
  | fn _ => cases e
  | ref n => cases e
theorem kit_tyn {K : PySem.W.Frag} (t u : Tyn) : PySem.W.kitOne K (.type (tynStr t)) (.type (tynStr u)) = some (isTy t u) := by
  cases t <;> cases u <;> rfl
theorem call_isi1 (u : Tyn) : CallR X (.builtin "isinstance") (fun xs H Q => ∃ x, xs = [x, .ty (tynStr u)] ∧ lf1 X.kw (fun d h Q => opIsi d [u] h Q) x H Q) := by
  intro pins s σ H xs us Q I r hq
  obtain ⟨x, rfl, loc, h, dx, Q', rh, rd, w, k⟩ := hq
  cases dx with
  | non =>
    cases rd.non_
    refine call_isi pins s σ H _ us Q I r ⟨.non, .ty (tynStr u), .type "NoneType", .type (tynStr u), false, rfl, .ty _, .base .non, ?_, k.here rh w rd_bl⟩
    cases u <;> rfl
  | ref n =>
    obtain ⟨xs, e, w⟩ := rdL_e (show rdL h n _ from w)
    obtain ⟨a, vs, rfl, la, ha, q⟩ := rh.lst e rd
    refine call_isi pins s σ H _ us Q I r ⟨_, .ty (tynStr u), _, .type (tynStr u), isTy .list u, rfl, .ty _, .base (.lst ha), kit_tyn .list u, ?_⟩
    have e2 : (List.any [u] fun u => isTy .list u) = isTy .list u := by simp
    rw [e2] at w
    exact k.here rh w rd_bl
  | _ =>
    simp only [opIsi] at w
    split at w
    · rename_i t e
      refine call_isi pins s σ H _ us Q I r ⟨x, .ty (tynStr u), _, .type (tynStr u), isTy t u, rfl, .ty _, tyx_of rd e, kit_tyn t u, ?_⟩
      have e2 : (List.any [u] fun u => isTy t u) = isTy t u := by simp
      rw [e2] at w
      exact k.here rh w rd_bl
    · exact w.elim
/-! ### methods -/
def mthId : Mth → String
  | .append => "list.append" | .pop => "list.pop" | .popAt => "list.pop" | .extend => "list.extend" | .update => "dict.update" | .index => "tuple.index" | .count => "list.count" | .lindex => "list.index" | .insert => "list.insert"
def mthStr : Mth → Str
  | .append => "append" | .pop => "pop" | .popAt => "pop" | .extend => "extend" | .update => "update" | .index => "index" | .count => "count" | .lindex => "index" | .insert => "insert"
theorem ixAt_seq {n : Nat} {i : Int} {j : Nat} (h : ixAt n i = some j) : seqIndex? i n = some j := (ixN_seq h).1
section
open PySem PySem.AutoSeq1
set_option maxRecDepth 8000 in
theorem extend_tup (l : Addr) (items : Array Value) (n : Nat) (b : Addr) (items2 : Array Value) (n2 : Nat) (dd : Option Addr) (sl : Array (Option Value)) (hs0 : ¬(!items.isEmpty && Builtin.List.listTooLong (items.size + items2.size)) = true) (hs1 : items.size ≤ sizeLine) (hs2 : items.size + items2.size ≤ sizeLine + 1) :
    Meets (Builtin.«list.extend» ⟨[.ref l, .ref b], []⟩) (fun _ R s => s.heap.get? l = some { cls := .type "list", dict := none, data := .seq items n, slots := #[] } ∧ s.heap.get? b = some { cls := .type "tuple", dict := dd, data := .seq items2 n2, slots := sl } ∧ R (.ok (.ret Value.none)) { s with heap := s.heap.update l (Obj.mapSeq fun x => x ++ items2), toks := s.toks }) :=
  .of_wp fun prog w A R s h => by
    obtain ⟨hp, g, d, tk, os⟩ := s; obtain ⟨hl, hb, h⟩ := h; have f1 := AutoSeq1.idx_int; have f2 := AutoSeq1.sub_tuple_tuple; have f3 := AutoSeq1.sub_list_list; have f4 := AutoSeq1.sub_tuple_list; have f5 := AutoSeq1.sub_list_tuple;
    have hz' : (items ++ items2).size ≤ sizeLine + 1 := by rw [Array.size_append]; exact hs2
    wp_walk using (wpAny_updateSeq hl rfl (hz := hs1) (_hz' := hz')), wpAny_loadPart' hl, wpAny_loadPart' hb; exact ⟨_, rfl, h⟩
end
def rExtendT (K : KW) : V → List V → Hp → VK → Prop := fun x vs H Q => ∃ l b xs zs, x = .ref l ∧ vs = [.ref b] ∧ H l = some (.lst xs) ∧ SqT K H b zs ∧ xs.length + zs.length ≤ sizeLine ∧ Q .non (upd H l (.lst (xs ++ zs)))
theorem mt_extendT : MtM X "list.extend" (rExtendT X.kw) := by
  intro pins s σ H x vs v us Q I rx rv h
  obtain ⟨l, b, xs, zs, rfl, rfl, hH, hB, hz, q⟩ := h
  cases rx
  obtain ⟨u, rfl, ru⟩ := rv.one
  cases ru
  obtain ⟨z, its, n, r, hl, e⟩ := I.lstM hH
  obtain ⟨its2, r2, ⟨o2, e2, c2, n2, d2⟩, z2⟩ := I.tuple hB
  have hl2 := r2.length
  obtain ⟨oc, od, dt, sl⟩ := o2
  simp only at c2 d2
  subst c2 d2
  have hsz : its.toArray.size + its2.toArray.size ≤ sizeLine := by rw [List.size_toArray, List.size_toArray]; omega
  have hlong : ¬ (!its.toArray.isEmpty && Builtin.List.listTooLong (its.toArray.size + its2.toArray.size)) = true := by
    rw [notLongL hsz, Bool.and_false]
    exact Bool.false_ne_true
  refine call_meets F.slot_list_extend ⟨_, e, rfl⟩ F.entry_list_extend (F.args_list_extend_2 _ _)
    (extend_tup l its.toArray n b its2.toArray n2 od sl hlong (by rw [List.size_toArray]; omega) (by omega)) ⟨e, e2, ?_⟩
  refine ⟨.non, _, I.lset (its' := its ++ its2) hH e (by simp) (r.append r2) ?_, rfl, q⟩
  rw [List.length_append]
  omega
theorem getAt_e {xs : List D} {i : Int} {d : D} (g : getAt xs i = some d) : ∃ j, ixAt xs.length i = some j ∧ xs[j]? = some d ∧ (ixAt xs.length i).getD 0 = j := by
  unfold getAt at g
  cases j : ixAt xs.length i with
  | none => rw [j] at g; cases g
  | some jj =>
    rw [j] at g
    exact ⟨jj, rfl, g, rfl⟩
theorem getAt_last {xs : List D} {d : D} (g : getAt xs (-1) = some d) : xs[xs.length - 1]? = some d := by
  obtain ⟨j, hj, e, _⟩ := getAt_e g
  unfold ixAt at hj
  rw [if_neg (by decide)] at hj
  split at hj
  · cases hj
    have : (-1 + (xs.length : Int)).toNat = xs.length - 1 := by omega
    rw [this] at e
    exact e
  · cases hj
theorem rds_strs {K : KW} {loc : List Addr} {H : Hp} : ∀ {ys : List Str} {vs : List V}, RDs K loc H (ys.map D.str) vs → vs = ys.map V.str
  | [], vs, r => by rw [List.map_nil, RDs] at r; exact r
  | y :: ys, vs, r => by
    rw [List.map_cons, RDs] at r
    obtain ⟨v, t, rfl, q1, q2⟩ := r
    cases q1.str_
    rw [rds_strs q2]
    rfl
theorem meth_ok (m : Mth) : MtR X (mthId m) (lfM X.kw (opMeth m)) := by
  intro pins s σ H x xs v us Q I rx rxs hq
  obtain ⟨loc, h, dx, ds, Q', rh, r1, rd, w, k⟩ := hq
  by_cases hm : m = .update
  · subst hm
    cases dx <;> try exact w.elim
    rename_i n
    match ds, rd, w with
    | [], _, w => exact w.elim
    | d :: _ :: _, _, w => cases d <;> exact w.elim
    | [.non], _, w => exact w.elim
    | [.bl _], _, w => exact w.elim
    | [.int _], _, w => exact w.elim
    | [.str _], _, w => exact w.elim
    | [.tup _], _, w => exact w.elim
    | [.fn _], _, w => exact w.elim
    | [.ref m2], rd, w =>
      rw [RDs] at rd
      obtain ⟨v1, t1, rfl, q1, rd⟩ := rd
      rw [RDs] at rd
      subst rd
      obtain ⟨kvs, hn, w⟩ := rdD_e (show rdD h n _ from w)
      obtain ⟨es, hk, w⟩ := rdD_e (show rdD h m2 _ from w)
      obtain ⟨c, w⟩ := chk_e w
      obtain ⟨c1, c2⟩ := Bool.and_eq_true_iff.mp c
      obtain ⟨a, ks, rfl, la, ha, q⟩ := rh.dic hn r1
      obtain ⟨b, ls, rfl, lb, hb, q2⟩ := rh.dic hk q1
      have hab : a ≠ b := by
        rintro rfl
        exact (of_decide_eq_true c1) (rh.inj n m2 a _ _ hn hk rfl rfl la lb)
      exact mt_dupd pins s σ H _ _ v us Q I rx rxs ⟨a, b, ks, ls, rfl, rfl, hab, ha, hb, by rw [q.length, q2.length]; exact lenOk_i c2, k.setD rh hn la (put_e w) (RKs.merge q2 q) rd_non⟩
  by_cases hm2 : m = .index
  · subst hm2
    cases dx <;> try exact w.elim
    rename_i ys
    match ds, rd, w with
    | [], _, w => exact w.elim
    | d :: _ :: _, _, w => cases d <;> exact w.elim
    | [.non], _, w => exact w.elim
    | [.bl _], _, w => exact w.elim
    | [.int _], _, w => exact w.elim
    | [.ref _], _, w => exact w.elim
    | [.tup _], _, w => exact w.elim
    | [.fn _], _, w => exact w.elim
    | [.str z], rd, w =>
      rw [RDs] at rd
      obtain ⟨v1, t1, rfl, q1, rd⟩ := rd
      rw [RDs] at rd
      subst rd
      cases q1.str_
      obtain ⟨zs, j, rfl, hz, no, w⟩ := idx_e (show idx ys z _ from w)
      obtain ⟨a, vs, rfl, sa, q⟩ := r1.tup_
      have ev := rds_strs q
      subst ev
      exact mt_tup_index pins s σ H _ _ v us Q I rx rxs ⟨a, zs, z, j, rfl, rfl, sa, hz, no, k.here rh w rd_int⟩
  obtain ⟨n, rfl⟩ : ∃ n, dx = .ref n := by
    cases m <;> first | exact absurd rfl hm | exact absurd rfl hm2 | skip
    all_goals (cases dx <;> first | exact ⟨_, rfl⟩ | exact w.elim)
  replace w : opMethL m n ds h Q' := by
    cases m <;> first | exact absurd rfl hm | exact absurd rfl hm2 | exact w
  obtain ⟨ys, e, w⟩ := rdL_e (show rdL h n _ from w)
  obtain ⟨a, vs, rfl, la, ha, q⟩ := rh.lst e r1
  cases m with
  | update => exact absurd rfl hm
  | index => exact absurd rfl hm2
  | lindex =>
    match ds, rd, w with
    | [], _, w => exact w.elim
    | _ :: _ :: _, _, w => exact w.elim
    | [.non], _, w => exact w.elim
    | [.bl _], _, w => exact w.elim
    | [.int _], _, w => exact w.elim
    | [.ref _], _, w => exact w.elim
    | [.tup _], _, w => exact w.elim
    | [.fn _], _, w => exact w.elim
    | [.str z], rd, w =>
      rw [RDs] at rd
      obtain ⟨v1, t1, rfl, q1, rd⟩ := rd
      rw [RDs] at rd
      subst rd
      cases q1.str_
      obtain ⟨zs, j, rfl, hz, no, w9⟩ := idx_e (K := fun j => Q' (.int j) h) w
      have ev := rds_strs q
      subst ev
      refine mt_index pins s σ H _ _ v us Q I rx rxs ⟨a, _, .str z, j, .str z, rfl, rfl, SqL.of ha, rfl, flat_strs zs, by rw [List.getElem?_map, hz]; rfl, by show (z == z) = true; exact beq_self_eq_true z, fun m z' hmj e => ?_, k.here rh w9 rd_int⟩
      rw [List.getElem?_map] at e
      cases e2 : zs[m]? with
      | none => rw [e2] at e; cases e
      | some y =>
        rw [e2] at e
        cases e
        show (y == z) = false
        exact beq_eq_false_iff_ne.mpr fun e3 => no m hmj (e3 ▸ e2)
  | count =>
    match ds, rd, w with
    | [], _, w => exact w.elim
    | _ :: _ :: _, _, w => exact w.elim
    | [.non], _, w => exact w.elim
    | [.bl _], _, w => exact w.elim
    | [.int _], _, w => exact w.elim
    | [.ref _], _, w => exact w.elim
    | [.tup _], _, w => exact w.elim
    | [.fn _], _, w => exact w.elim
    | [.str z], rd, w =>
      rw [RDs] at rd
      obtain ⟨v1, t1, rfl, q1, rd⟩ := rd
      rw [RDs] at rd
      subst rd
      cases q1.str_
      obtain ⟨zs, rfl, w9⟩ := cnt_e (K := fun j => Q' (.int j) h) w
      have ev := rds_strs q
      subst ev
      exact mt_countS pins s σ H _ _ v us Q I rx rxs ⟨a, zs, z, rfl, rfl, SqL.of ha, k.here rh w9 rd_int⟩
  | insert =>
    match ds, rd, w with
    | [], _, w => exact w.elim
    | [d], _, w => cases d <;> exact w.elim
    | d :: _ :: _ :: _, _, w => cases d <;> exact w.elim
    | [.non, _], _, w => exact w.elim
    | [.bl _, _], _, w => exact w.elim
    | [.str _, _], _, w => exact w.elim
    | [.ref _, _], _, w => exact w.elim
    | [.tup _, _], _, w => exact w.elim
    | [.fn _, _], _, w => exact w.elim
    | [.int i, d], rd, w =>
      obtain ⟨c, w⟩ := chk_e w
      obtain ⟨c1, c2⟩ := Bool.and_eq_true_iff.mp c
      obtain ⟨c2, c3⟩ := Bool.and_eq_true_iff.mp c2
      rw [RDs] at rd
      obtain ⟨v1, t1, rfl, q1, rd⟩ := rd
      rw [RDs] at rd
      obtain ⟨v2, t2, rfl, q2, rd⟩ := rd
      rw [RDs] at rd
      subst rd
      cases q1.int_
      have c3' := of_decide_eq_true c3
      exact mt_insert pins s σ H _ _ v us Q I rx rxs ⟨a, vs, i, v2, rfl, rfl, ha, by rw [q.length]; exact of_decide_eq_true c1, of_decide_eq_true c2, by omega, k.set rh e la (put_e w) (((q.take _).append (RDs.cons q2 RDs.nil)).append (q.drop _)) rd_non⟩
  | append =>
    match ds, rd, w with
    | [], _, w => exact w.elim
    | _ :: _ :: _, _, w => exact w.elim
    | [d], rd, w =>
      obtain ⟨c, w⟩ := chk_e w
      rw [RDs] at rd
      obtain ⟨v1, t1, rfl, q1, rd⟩ := rd
      rw [RDs] at rd
      subst rd
      exact mt_append pins s σ H _ _ v us Q I rx rxs ⟨a, vs, v1, rfl, rfl, ha, by rw [q.length]; exact of_decide_eq_true c, k.set rh e la (put_e w) (q.append (RDs.cons q1 RDs.nil)) rd_non⟩
  | pop =>
    match ds, rd, w with
    | _ :: _, _, w => exact w.elim
    | [], rd, w =>
      rw [RDs] at rd
      subst rd
      obtain ⟨d, e2, w⟩ := itm_e w
      obtain ⟨z, hz, rz⟩ := q.at_ (getAt_last e2)
      exact mt_pop pins s σ H _ _ v us Q I rx rxs ⟨a, vs, z, rfl, rfl, ha, by rw [q.length]; exact hz, k.set rh e la (put_e w) q.dropLast rz⟩
  | popAt =>
    match ds, rd, w with
    | [], _, w => exact w.elim
    | d :: _ :: _, _, w => cases d <;> exact w.elim
    | [.non], _, w => exact w.elim
    | [.bl _], _, w => exact w.elim
    | [.str _], _, w => exact w.elim
    | [.tup _], _, w => exact w.elim
    | [.ref _], _, w => exact w.elim
    | [.int i], rd, w =>
      rw [RDs] at rd
      obtain ⟨v1, t1, rfl, q1, rd⟩ := rd
      rw [RDs] at rd
      subst rd
      cases q1.int_
      obtain ⟨c, w⟩ := chk_e w
      have c' := of_decide_eq_true c
      obtain ⟨d, e2, w⟩ := itm_e w
      obtain ⟨j, e3, e4, e5⟩ := getAt_e e2
      rw [e5] at w
      obtain ⟨z, hz, rz⟩ := q.at_ e4
      exact mt_popAt pins s σ H _ _ v us Q I rx rxs ⟨a, vs, i, j, z, rfl, rfl, ha, by omega, by omega, by rw [q.length]; exact ixAt_seq e3, hz, k.set rh e la (put_e w) (q.eraseIdx j) rz⟩
  | extend =>
    match ds, rd, w with
    | [], _, w => exact w.elim
    | _ :: _ :: _, _, w => exact w.elim
    | [.non], _, w => exact w.elim
    | [.bl _], _, w => exact w.elim
    | [.int _], _, w => exact w.elim
    | [.str _], _, w => exact w.elim
    | [.tup zs], rd, w =>
      rw [RDs] at rd
      obtain ⟨v1, t1, rfl, q1, rd⟩ := rd
      rw [RDs] at rd
      subst rd
      obtain ⟨c, w⟩ := chk_e w
      obtain ⟨b, ws, rfl, sb, q2⟩ := q1.tup_
      exact mt_extendT pins s σ H _ _ v us Q I rx rxs ⟨a, b, vs, ws, rfl, rfl, ha, sb, by rw [q.length, q2.length]; exact lenOk_i c, k.set rh e la (put_e w) (q.append q2) rd_non⟩
    | [.ref m2], rd, w =>
      rw [RDs] at rd
      obtain ⟨v1, t1, rfl, q1, rd⟩ := rd
      rw [RDs] at rd
      subst rd
      obtain ⟨zs, e2, w⟩ := rdL_e (show rdL h m2 _ from w)
      obtain ⟨c, w⟩ := chk_e w
      obtain ⟨b, ws, rfl, lb, hb, q2⟩ := rh.lst e2 q1
      exact mt_extend pins s σ H _ _ v us Q I rx rxs ⟨a, b, vs, ws, rfl, rfl, ha, hb, by rw [q.length, q2.length]; exact lenOk_i c, k.set rh e la (put_e w) (q.append q2) rd_non⟩
/-! ### stores -/
def lfSet (K : KW) : TSet := fun o i v H Q => ∃ loc h d1 d2 d3 Q', RH K loc H h ∧ RD K loc H d1 o ∧ RD K loc H d2 i ∧ RD K loc H d3 v ∧ opSet d1 d2 d3 h Q' ∧ ∀ h' H' , Q' h' → Xt K loc H loc H' → RH K loc H' h' → Q H'
theorem set_ok (hu : X.A.units + 64 < cLine) : PSet X (lfSet X.kw) := by
  intro pins s σ H o i v ov iv u Q I ro ri rv hq
  obtain ⟨loc, h, d1, d2, d3, Q', rh, r1, r2, r3, w, k⟩ := hq
  cases d1 <;> cases d2 <;> try exact w.elim
  case ref.str n z =>
    cases r2.str_
    obtain ⟨kvs, hn, w⟩ := rdD_e (show rdD h n _ from w)
    obtain ⟨c, w⟩ := chk_e w
    obtain ⟨a, ks, rfl, la, ha, q⟩ := rh.dic hn r1
    have c' := of_decide_eq_true c
    exact set_dict (by omega) pins s σ H _ _ _ ov iv u Q I ro ri rv ⟨a, _, rfl, DPut.k (k := Sum.inr z) ha (by rw [q.length]; exact c'), k _ _ (put_e w) (Xt.hid (.inr (rh.mutH hn rfl la))) (rh.setD hn la (q.put z r3))⟩
  case ref.tup n ks =>
    obtain ⟨kvs, hn, w⟩ := rdT_e (show rdT h n _ from w)
    obtain ⟨c, w⟩ := chk_e w
    obtain ⟨c1, c2⟩ := Bool.and_eq_true_iff.mp c
    obtain ⟨a, es, rfl, la, ha, q⟩ := rh.dtp hn r1
    obtain ⟨js, rfl⟩ := kD_of c1
    obtain ⟨b, vs, rfl, sq, ba, q1⟩ := r2.tupB
    rw [rds_keys q1] at sq
    cases ro
    cases ri
    exact dto_set (by omega) I ha q.dtk sq (by rw [q.length]; exact of_decide_eq_true c2) fun s' I' => ⟨_, I', k _ _ (put_e w) (Xt.hid (.inr (rh.mutH hn rfl la))) (rh.setT hn la (q.put js sq ba rv r3))⟩
  rename_i n j
  cases r2.int_
  obtain ⟨ys, e, w⟩ := rdL_e (show rdL h n _ from w)
  obtain ⟨a, vs, rfl, la, ha, q⟩ := rh.lst e r1
  obtain ⟨d, e2, w⟩ := itm_e w
  obtain ⟨jj, e3, e4, e5⟩ := getAt_e e2
  rw [e5] at w
  exact set_list pins s σ H _ _ _ ov iv u Q I ro ri rv ⟨a, vs, j, jj, rfl, rfl, ha, by rw [q.length]; exact e3, k _ _ (put_e w) (Xt.hid (.inr (rh.mutH e rfl la))) (rh.set e la (q.set jj r3))⟩
end
end Mi

set_option Elab.async false
set_option linter.all false
set_option maxRecDepth 100000
set_option maxHeartbeats 4000000
/-! MiU: sorted of deep values. -/
namespace Mi
open PySem PySem.Spec PyProof.Rows L2
section
variable {X : Cx} {pins : List (Addr × Obj)} {σ : L2.St} {H : Hp} {s : Shared} {loc : List Addr}
mutual
theorem RD.inj (I : Inv X pins σ H s) : ∀ (d e : D) (v : V), D.flat d = true → D.flat e = true → RD X.kw loc H d v → RD X.kw loc H e v → d = e
  | .tup ds, e, v, f1, f2, r1, r2 => by
    obtain ⟨a, vs, rfl, sa, q1⟩ := r1.tup_
    cases e with
    | non => cases r2.non_
    | bl b => cases r2.bl_
    | int j => cases r2.int_
    | str x => cases r2.str_
    | tup es =>
      obtain ⟨b, ws, e, sb, q2⟩ := r2.tup_
      cases e
      have := I.tuple_inj sa sb
      subst this
      rw [RDs.inj I ds es vs f1 f2 q1 q2]
    | ref n => cases f2
    | fn a => cases f2
  | .non, e, v, f1, f2, r1, r2 => by
    cases r1.non_
    cases e with
    | non => rfl
    | bl b => cases r2.bl_
    | int j => cases r2.int_
    | str x => cases r2.str_
    | tup es => obtain ⟨b, ws, e, _⟩ := r2.tup_; cases e
    | ref n => cases f2
    | fn a => cases f2
  | .bl b, e, v, f1, f2, r1, r2 => by
    cases r1.bl_
    cases e with
    | non => cases r2.non_
    | bl b => cases r2.bl_; rfl
    | int j => cases r2.int_
    | str x => cases r2.str_
    | tup es => obtain ⟨b, ws, e, _⟩ := r2.tup_; cases e
    | ref n => cases f2
    | fn a => cases f2
  | .int i, e, v, f1, f2, r1, r2 => by
    cases r1.int_
    cases e with
    | non => cases r2.non_
    | bl b => cases r2.bl_
    | int j => cases r2.int_; rfl
    | str x => cases r2.str_
    | tup es => obtain ⟨b, ws, e, _⟩ := r2.tup_; cases e
    | ref n => cases f2
    | fn a => cases f2
  | .str z, e, v, f1, f2, r1, r2 => by
    cases r1.str_
    cases e with
    | non => cases r2.non_
    | bl b => cases r2.bl_
    | int j => cases r2.int_
    | str x => cases r2.str_; rfl
    | tup es => obtain ⟨b, ws, e, _⟩ := r2.tup_; cases e
    | ref n => cases f2
    | fn a => cases f2
  | .ref _, _, _, f1, _, _, _ => by cases f1
  | .fn _, _, _, f1, _, _, _ => by cases f1
theorem RDs.inj (I : Inv X pins σ H s) : ∀ (ds es : List D) (vs : List V), D.flats ds = true → D.flats es = true → RDs X.kw loc H ds vs → RDs X.kw loc H es vs → ds = es
  | [], es, vs, f1, f2, r1, r2 => by
    rw [RDs] at r1
    subst r1
    have := r2.length
    cases es with
    | nil => rfl
    | cons _ _ => simp at this
  | d :: ds, [], vs, f1, f2, r1, r2 => by
    rw [RDs] at r2
    subst r2
    have := r1.length
    simp at this
  | d :: ds, e :: es, vs, f1, f2, r1, r2 => by
    have f1' : (d.flat && D.flats ds) = true := f1
    have f2' : (e.flat && D.flats es) = true := f2
    obtain ⟨a1, a2⟩ := Bool.and_eq_true_iff.mp f1'
    obtain ⟨b1, b2⟩ := Bool.and_eq_true_iff.mp f2'
    rw [RDs] at r1 r2
    obtain ⟨x, xs, rfl, c1, c2⟩ := r1
    obtain ⟨y, ys, e, c3, c4⟩ := r2
    cases e
    rw [RD.inj I d e x a1 b1 c1 c3, RDs.inj I ds es xs a2 b2 c2 c4]
end
def vOf (u : Value) : V := (absV u).getD .non
theorem vOf_eq {v : V} {u : Value} (r : RelV v u) : vOf u = v := by unfold vOf; rw [r.abs]; rfl
open Classical in
noncomputable def dOf (K : KW) (loc : List Addr) (H : Hp) (u : Value) : D := if h : ∃ d, D.flat d = true ∧ RD K loc H d (vOf u) then h.choose else .non
theorem dOf_eq (I : Inv X pins σ H s) {d : D} {v : V} {u : Value} (f : D.flat d = true) (r : RD X.kw loc H d v) (ru : RelV v u) : dOf X.kw loc H u = d := by
  unfold dOf
  rw [vOf_eq ru]
  have h : ∃ d, D.flat d = true ∧ RD X.kw loc H d v := ⟨d, f, r⟩
  rw [dif_pos h]
  exact RD.inj I _ _ v h.choose_spec.1 f h.choose_spec.2 r
theorem map_dOf (I : Inv X pins σ H s) : ∀ {ds : List D} {zs : List V} {us : List Value}, RDs X.kw loc H ds zs → Vals zs us → (∀ d ∈ ds, D.flat d = true) →
    us.map (dOf X.kw loc H) = ds ∧ ∀ u ∈ us, RelV (vOf u) u ∧ RD X.kw loc H (dOf X.kw loc H u) (vOf u) ∧ dOf X.kw loc H u ∈ ds
  | [], zs, us, r, rv, f => by
    rw [RDs] at r
    subst r
    cases rv
    exact ⟨rfl, fun _ m => absurd m List.not_mem_nil⟩
  | d :: ds, zs, us, r, rv, f => by
    rw [RDs] at r
    obtain ⟨z, zs, rfl, r1, r2⟩ := r
    cases rv with
    | @cons _ u _ us p1 p2 =>
      obtain ⟨h1, h2⟩ := map_dOf I r2 p2 fun d m => f d (List.mem_cons_of_mem _ m)
      have e := dOf_eq I (f d List.mem_cons_self) r1 p1
      refine ⟨by rw [List.map_cons, e, h1], fun w m => ?_⟩
      rcases List.mem_cons.mp m with rfl | m
      · rw [e, vOf_eq p1]
        exact ⟨p1, r1, List.mem_cons_self⟩
      · obtain ⟨a, b, c⟩ := h2 w m
        exact ⟨a, b, List.mem_cons_of_mem _ c⟩
theorem rds_out : ∀ {out : List Value}, (∀ u ∈ out, RD X.kw loc H (dOf X.kw loc H u) (vOf u)) → RDs X.kw loc H (out.map (dOf X.kw loc H)) (out.map vOf)
  | [], _ => by rw [List.map_nil, RDs]; rfl
  | u :: out, h => RDs.cons (h u List.mem_cons_self) (rds_out fun w m => h w (List.mem_cons_of_mem _ m))
theorem vals_out : ∀ {out : List Value}, (∀ u ∈ out, RelV (vOf u) u) → Vals (out.map vOf) out
  | [], _ => .nil
  | u :: out, h => .cons (h u List.mem_cons_self) (vals_out fun w m => h w (List.mem_cons_of_mem _ m))
theorem ltD_swo {α : Type} (k : α → D) : SrtO.Swo fun a b => ltD (k a) (k b) := by
  refine ⟨fun x y h => ?_, fun x y z h1 h2 => ?_⟩
  · cases h2 : ltD (k y) (k x) with
    | false => rfl
    | true =>
      have := lex_trans (O := itemOrd) _ _ _ h h2
      rw [lex_irrefl] at this
      cases this
  · cases h3 : ltD (k z) (k x) with
    | false => rfl
    | true =>
      rcases lex_negTrans (O := itemOrd) _ (keyD (k y)) _ h3 with q | q
      · rw [show ltD (k z) (k y) = true from q] at h2; cases h2
      · rw [show ltD (k y) (k x) = true from q] at h1; cases h1
theorem k1_eq {x y : D} (h : eqD x y = true) : k1 x = k1 y := by
  cases x <;> cases y <;> first | rfl | (simp [eqD] at h; done) | skip
  · rename_i a b
    have : a = b := by simpa [eqD] using h
    rw [this]
  · rename_i a b
    have : (if a then (1 : Int) else 0) = b := by simpa [eqD] using h
    show Sum.inl (if a then (1 : Int) else 0) = Sum.inl b
    rw [this]
  · rename_i a b
    have : a = (if b then (1 : Int) else 0) := by simpa [eqD] using h
    show Sum.inl a = Sum.inl (if b then (1 : Int) else 0)
    rw [this]
  · rename_i a b
    have : a = b := by simpa [eqD] using h
    rw [this]
  · rename_i a b
    have : a = b := strEq_iff.mp h
    rw [this]
theorem kat_ds (I : Inv X pins σ H s) {A : Around} {b fin : Bool} {Q : Bool → Shared → Prop} (hu : A.units + 50 < cLine) : ∀ (xs ys : List D) (vs ws : List V) (ps qs : List Value) (i : Nat), RDs X.kw loc H xs vs → RDs X.kw loc H ys ws → Vals vs ps → Vals ws qs →
    D.flats xs = true → D.flats ys = true → D.deps xs ≤ 49 → cmpDs xs ys = true → fin = decide (ps.length < qs.length) → Q (lexLt itemOrd (xs.map k1) (ys.map k1)) s → PySem.W.KatLex X.prog X.w A b fin Q (ps.zip qs) i s
  | [], [], vs, ws, ps, qs, i, r1, r2, rv, rw', f1, f2, hd, c, hf, q => by
    rw [RDs] at r1 r2
    subst r1 r2
    cases rv
    cases rw'
    subst hf
    exact PySem.W.kat_nil q
  | [], y :: ys, vs, ws, ps, qs, i, r1, r2, rv, rw', f1, f2, hd, c, hf, q => by
    have l2 := r2.length
    have l4 := rw'.length
    rw [RDs] at r1
    subst r1
    cases rv
    simp only [List.length_cons] at l2
    have : fin = true := by rw [hf]; exact decide_eq_true (by simp only [List.length_nil]; omega)
    subst this
    exact PySem.W.kat_nil q
  | x :: xs, [], vs, ws, ps, qs, i, r1, r2, rv, rw', f1, f2, hd, c, hf, q => by
    rw [RDs] at r2
    subst r2
    cases rw'
    have : fin = false := by rw [hf]; exact decide_eq_false (by simp)
    subst this
    rw [List.zip_nil_right]
    exact PySem.W.kat_nil q
  | x :: xs, y :: ys, vs, ws, ps, qs, i, r1, r2, rv, rw', f1, f2, hd, c, hf, q => by
    have f1' : (x.flat && D.flats xs) = true := f1
    have f2' : (y.flat && D.flats ys) = true := f2
    obtain ⟨a1, a2⟩ := Bool.and_eq_true_iff.mp f1'
    obtain ⟨b1, b2⟩ := Bool.and_eq_true_iff.mp f2'
    have hd' : D.deps (x :: xs) = max x.dep (D.deps xs) := rfl
    rw [RDs] at r1 r2
    obtain ⟨v, vs, rfl, c1, c2⟩ := r1
    obtain ⟨w, ws, rfl, c3, c4⟩ := r2
    cases rv with
    | @cons _ p _ ps p1 p2 =>
      cases rw' with
      | @cons _ p' _ qs p3 p4 =>
        have hf' : fin = decide (ps.length < qs.length) := by rw [hf]; simp only [List.length_cons, Nat.add_lt_add_iff_right]
        have c' : (if eqD x y then cmpDs xs ys else (isI x && isI y) || (isS x && isS y)) = true := c
        rw [List.map_cons, List.map_cons] at q
        refine PySem.W.kat_cons (eqD_run I x y A v w p p' a1 b1 (by omega) c1 c3 p1 p3 _ _ _ _ ?_)
        refine PySem.W.kat_go (fun e => PySem.W.kat_yes ?_) (fun e => PySem.W.kat_no ?_)
        · rw [if_pos e] at c'
          rw [k1_eq e, lex_self] at q
          exact kat_ds I hu xs ys vs ws ps qs (i + 1) c2 c4 p2 p4 a2 b2 (by omega) c' hf' q
        · rw [if_neg (by rw [e]; decide)] at c'
          rcases Bool.or_eq_true_iff.mp c' with c' | c'
          · obtain ⟨d1, d2⟩ := Bool.and_eq_true_iff.mp c'
            obtain ⟨n, rfl⟩ : ∃ n, x = .int n := by cases x <;> first | exact ⟨_, rfl⟩ | cases d1
            obtain ⟨m, rfl⟩ : ∃ n, y = .int n := by cases y <;> first | exact ⟨_, rfl⟩ | cases d2
            cases c1.int_
            cases c3.int_
            obtain ⟨t, rfl⟩ := p1
            obtain ⟨u, rfl⟩ := p3
            have hnm : ¬ n = m := by simpa [eqD] using e
            rw [lex_diff (fun z => hnm (Sum.inl.inj z))] at q
            exact oneLt_any_int q
          · obtain ⟨d1, d2⟩ := Bool.and_eq_true_iff.mp c'
            obtain ⟨n, rfl⟩ : ∃ n, x = .str n := by cases x <;> first | exact ⟨_, rfl⟩ | cases d1
            obtain ⟨m, rfl⟩ : ∃ n, y = .str n := by cases y <;> first | exact ⟨_, rfl⟩ | cases d2
            cases c1.str_
            cases c3.str_
            obtain ⟨t, rfl⟩ := p1
            obtain ⟨u, rfl⟩ := p3
            have hnm : ¬ n = m := fun z => by
              have e' : strEq n m = false := e
              rw [strEq_iff.mpr z] at e'
              cases e'
            have hne : n.cps.toList ≠ m.cps.toList := fun hl => hnm (by
              cases n; cases m
              simp only [Str.mk.injEq]
              exact Array.toList_inj.mp hl)
            rw [lex_diff (fun z => hne (Sum.inr.inj z))] at q
            exact oneLt_any_str q
/-- the first of each -/
theorem firsts_d (I : Inv X pins σ H s) {T : Value → Prop} : ∀ {ds : List D} {zs : List V} {us : List Value}, RDs X.kw loc H ds zs → Vals zs us → (∀ d ∈ ds, ∃ x r, d = .tup (x :: r) ∧ ∀ v u, RD X.kw loc H x v → RelV v u → T u) →
    ∃ fs : List Value, PySem.W.KatTups s.heap us fs ∧ fs.length = us.length ∧ ∀ f ∈ fs, T f
  | [], zs, us, r, rv, _ => by
    rw [RDs] at r
    subst r
    cases rv
    exact ⟨[], PySem.W.KatTups.nil, rfl, fun _ m => absurd m List.not_mem_nil⟩
  | d :: ds, zs, us, r, rv, h => by
    rw [RDs] at r
    obtain ⟨z, zs, rfl, r1, r2⟩ := r
    cases rv with
    | @cons _ u _ us p1 p2 =>
      obtain ⟨fs, h1, h2, h3⟩ := firsts_d I r2 p2 fun d m => h d (List.mem_cons_of_mem _ m)
      obtain ⟨x, t, rfl, hT⟩ := h d List.mem_cons_self
      obtain ⟨a, vs, rfl, sa, q1⟩ := r1.tup_
      cases p1
      obtain ⟨its, rv, ⟨o, g1, g2, n, g3⟩, hz⟩ := I.tuple sa
      rw [RDs] at q1
      obtain ⟨v, vs, rfl, q2, q3⟩ := q1
      cases rv with
      | @cons _ w _ ws p3 p4 =>
        refine ⟨w :: fs, PySem.W.KatTups.cons g1 g2 g3 rfl h1, by rw [List.length_cons, List.length_cons, h2], fun f m => ?_⟩
        rcases List.mem_cons.mp m with rfl | m
        · exact hT _ _ q2 p3
        · exact h3 f m
theorem strsare_of : ∀ {ds : List D} {zs : List V} {us : List Value}, RDs X.kw loc H ds zs → Vals zs us → (∀ x ∈ ds, isS x = true) → ∃ ss, StrsAre us ss
  | [], zs, us, r, rv, _ => by
    rw [RDs] at r
    subst r
    cases rv
    exact ⟨[], .nil⟩
  | d :: ds, zs, us, r, rv, z => by
    rw [RDs] at r
    obtain ⟨v, vs, rfl, r1, r2⟩ := r
    cases rv with
    | cons p1 p2 =>
      have hd := z d List.mem_cons_self
      obtain ⟨ss, hs⟩ := strsare_of r2 p2 fun x m => z x (List.mem_cons_of_mem _ m)
      cases d <;> first | cases hd | skip
      cases r1.str_
      obtain ⟨t, rfl⟩ := p1
      exact ⟨_ :: ss, .cons _ _ hs⟩
theorem intsare_of : ∀ {ds : List D} {zs : List V} {us : List Value}, RDs X.kw loc H ds zs → Vals zs us → (∀ x ∈ ds, isI x = true) → ∃ ss, IntsAre us ss
  | [], zs, us, r, rv, _ => by
    rw [RDs] at r
    subst r
    cases rv
    exact ⟨[], .nil⟩
  | d :: ds, zs, us, r, rv, z => by
    rw [RDs] at r
    obtain ⟨v, vs, rfl, r1, r2⟩ := r
    cases rv with
    | cons p1 p2 =>
      have hd := z d List.mem_cons_self
      obtain ⟨ss, hs⟩ := intsare_of r2 p2 fun x m => z x (List.mem_cons_of_mem _ m)
      cases d <;> first | cases hd | skip
      cases r1.int_
      obtain ⟨t, rfl⟩ := p1
      exact ⟨_ :: ss, .cons _ _ hs⟩
theorem srt_run (hu : X.A.units + 64 < cLine) (I : Inv X pins σ H s) {v : Value} {ds : List D} {zs : List V} {Q : VK}
    (hcol : ∀ R : List Value → Shared → Prop, (∀ (vs : List Value) (h' : Heap) (tk : Nat), Vals zs vs → (∀ b o, s.heap.get? b = some o → h'.get? b = some o) → R vs { s with heap := h', toks := tk }) → wpAny (model X.prog X.w) X.A.in1 (collect v) R X.xe s)
    (rd : RDs X.kw loc H ds zs) (ok : SrtOk ds) (len : ds.length ≤ sizeLine) (q : ∀ (ds' : List D) (zs' : List V) (p : Addr), ds'.Perm ds → Srt ds' → RDs X.kw loc H ds' zs' → H p = none → Q (.ref p) (upd H p (.lst zs'))) :
    wpAny (model X.prog X.w) X.A (call (.builtin "sorted") [v]) (EP X pins σ Q) X.xe s := by
  have ll := rd.length
  refine sorted_by (G := fun vs => Vals zs vs) hcol fun us rv => ?_
  have lu := rv.length
  refine ⟨by omega, ?_⟩
  by_cases short : ds.length < 2
  · refine ⟨fun _ _ => false, ⟨fun _ _ h => rfl, fun _ _ _ _ _ => rfl⟩, fun h2 => absurd h2 (by omega), fun h₀ h' tk out hs hb k1 k2 ⟨n, hn⟩ => ?_⟩
    have e : out = us := by
      have hl := hb.perm.length_eq
      match us, out, hb.perm, hl with
      | [], [], _, _ => rfl
      | [u], [w], p, _ => rw [List.singleton_perm_singleton.mp p]
      | _ :: _ :: _, _, _, _ => simp at lu; omega
      | [], _ :: _, _, hl => simp at hl
      | [_], [], _, hl => simp at hl
      | [_], _ :: _ :: _, _, hl => simp at hl
    subst e
    have I1 := I.kept (t' := tk) k1
    refine ⟨.ref h₀.objs.size, upd H h₀.objs.size (.lst zs), I1.laid (t' := tk) k2 (Nat.le_refl _) (show ObjOk X.prog X.w _ _ _ (.lst zs) from ⟨by omega, out, n, rv, hn⟩), rfl, q ds zs _ (List.Perm.refl _) ?_ rd (I1.hok.fresh (Nat.le_refl _))⟩
    unfold Srt
    match ds, short with
    | [], _ => exact List.Pairwise.nil
    | [d], _ => exact List.pairwise_singleton _ _
    | _ :: _ :: _, h => simp at h; omega
  have flat : ∀ d ∈ ds, D.flat d = true := by
    rcases ok with z | z | z | z
    · exact absurd z short
    · intro d m; have := z d m; cases d <;> first | rfl | cases this
    · intro d m; have := z d m; cases d <;> first | rfl | cases this
    · intro d m; exact (z.1 d m).1
  obtain ⟨e1, each⟩ := map_dOf I rd rv flat
  refine ⟨fun a b => ltD (dOf X.kw loc H a) (dOf X.kw loc H b), ltD_swo _, fun h2 h₁ tk a keep => ?_, fun h₀ h' tk out hs hb k1 k2 ⟨n, hn⟩ => ?_⟩
  · intro h' keep2
    have I1 : Inv X pins σ H { s with heap := h', toks := tk } := I.kept (t' := tk) fun b o e => keep2 b o (keep b o e).1 (keep b o e).2
    rcases ok with z | z | z | ⟨z1, z2, z3⟩
    · exact absurd z short
    · obtain ⟨ss, hS⟩ := strsare_of rd rv z
      refine ⟨oneType', fun Q E hq => ?_, fun p q hp hq => ?_⟩
      · match us, hS, h2 with
        | v1 :: v2 :: rest, hS, _ =>
          rw [keyKind_strs hS]
          exact wpAny_pure hq
        | [], _, h => exact absurd h (by decide)
        | [v], _, h => exact absurd h (by simp)
      · obtain ⟨a1, a2, a3⟩ := each _ hp
        obtain ⟨b1, b2, b3⟩ := each _ hq
        show wpAny _ _ (keyLt' oneType' p.1 q.1) (fun r s' => s' = _ ∧ r = ltD (dOf X.kw loc H p.1) (dOf X.kw loc H q.1)) _ _
        generalize p.1 = x at a1 a2 a3 ⊢
        generalize q.1 = y at b1 b2 b3 ⊢
        have c1 := z _ a3
        have c2 := z _ b3
        generalize dOf X.kw loc H x = d1 at a2 c1 ⊢
        generalize dOf X.kw loc H y = d2 at b2 c2 ⊢
        cases d1 <;> first | cases c1 | skip
        cases d2 <;> first | cases c2 | skip
        rw [a2.str_] at a1
        rw [b2.str_] at b1
        obtain ⟨t, rfl⟩ := a1
        obtain ⟨u, rfl⟩ := b1
        rw [keyLt'_oneType]
        refine oneLt_str ⟨rfl, ?_⟩
        rename_i s1 s2
        show _ = (decide (s1.cps.toList < s2.cps.toList) || (!decide (s2.cps.toList < s1.cps.toList) && false))
        rw [Bool.and_false, Bool.or_false]
    · obtain ⟨ss, hS⟩ := intsare_of rd rv z
      refine ⟨oneType', fun Q E hq => ?_, fun p q hp hq => ?_⟩
      · match us, hS, h2 with
        | v1 :: v2 :: rest, hS, _ =>
          rw [keyKind_ints hS]
          exact wpAny_pure hq
        | [], _, h => exact absurd h (by decide)
        | [v], _, h => exact absurd h (by simp)
      · obtain ⟨a1, a2, a3⟩ := each _ hp
        obtain ⟨b1, b2, b3⟩ := each _ hq
        show wpAny _ _ (keyLt' oneType' p.1 q.1) (fun r s' => s' = _ ∧ r = ltD (dOf X.kw loc H p.1) (dOf X.kw loc H q.1)) _ _
        generalize p.1 = x at a1 a2 a3 ⊢
        generalize q.1 = y at b1 b2 b3 ⊢
        have c1 := z _ a3
        have c2 := z _ b3
        generalize dOf X.kw loc H x = d1 at a2 c1 ⊢
        generalize dOf X.kw loc H y = d2 at b2 c2 ⊢
        cases d1 <;> first | cases c1 | skip
        cases d2 <;> first | cases c2 | skip
        rw [a2.int_] at a1
        rw [b2.int_] at b1
        obtain ⟨t, rfl⟩ := a1
        obtain ⟨u, rfl⟩ := b1
        rw [keyLt'_oneType]
        refine oneLt_int ⟨rfl, ?_⟩
        rename_i s1 s2
        show _ = (decide (s1 < s2) || (!decide (s2 < s1) && false))
        rw [Bool.and_false, Bool.or_false]
    · refine ⟨tuples' true, fun Q E hq => ?_, fun p q hp hq => ?_⟩
      · rcases z2 with z2 | z2
        · obtain ⟨fs, f1, f2, f3⟩ := firsts_d I1 (T := fun u => ∃ i t, u = Value.int i t) rd rv fun d m => by
            have := z2 d m
            cases d with
            | tup r =>
              cases r with
              | nil => cases this
              | cons x r =>
                cases x <;> first | cases this | skip
                exact ⟨_, r, rfl, fun v u rv ru => by cases rv.int_; exact ⟨_, ru⟩⟩
            | _ => cases this
          refine PySem.W.kat_kind (T := .type "int") f1 (by omega) (fun f hm => ?_) (by rfl) ?_
          · obtain ⟨x, t, rfl⟩ := f3 f hm
            exact PySem.W.Looks.now
          · have e : (Value.type "int" != Value.type "tuple") = true := by first | decide +kernel | rfl | decide
            rw [e]
            exact hq
        · obtain ⟨fs, f1, f2, f3⟩ := firsts_d I1 (T := fun u => ∃ i t, u = Value.str i t) rd rv fun d m => by
            have := z2 d m
            cases d with
            | tup r =>
              cases r with
              | nil => cases this
              | cons x r =>
                cases x <;> first | cases this | skip
                exact ⟨_, r, rfl, fun v u rv ru => by cases rv.str_; exact ⟨_, ru⟩⟩
            | _ => cases this
          refine PySem.W.kat_kind (T := .type "str") f1 (by omega) (fun f hm => ?_) (by rfl) ?_
          · obtain ⟨x, t, rfl⟩ := f3 f hm
            exact PySem.W.Looks.now
          · have e : (Value.type "str" != Value.type "tuple") = true := by first | decide +kernel | rfl | decide
            rw [e]
            exact hq
      · obtain ⟨a1, a2, a3⟩ := each _ hp
        obtain ⟨b1, b2, b3⟩ := each _ hq
        show wpAny _ _ (keyLt' (tuples' true) p.1 q.1) (fun r s' => s' = _ ∧ r = ltD (dOf X.kw loc H p.1) (dOf X.kw loc H q.1)) _ _
        generalize p.1 = x at a1 a2 a3 ⊢
        generalize q.1 = y at b1 b2 b3 ⊢
        have c1 := z1 _ a3
        have c2 := z1 _ b3
        have c3 := z3 _ a3 _ b3
        generalize dOf X.kw loc H x = d1 at a2 c1 c3 ⊢
        generalize dOf X.kw loc H y = d2 at b2 c2 c3 ⊢
        cases d1 <;> first | cases c3 | skip
        cases d2 <;> first | cases c3 | skip
        rename_i r1 r2
        obtain ⟨a, vs, ea, sa, q1⟩ := a2.tup_
        obtain ⟨b, ws, eb, sb, q2⟩ := b2.tup_
        rw [ea] at a1
        rw [eb] at b1
        cases a1
        cases b1
        obtain ⟨its, rv1, ⟨o1, g1, g2, n1, g3⟩, _⟩ := I1.tuple sa
        obtain ⟨jts, rv2, ⟨o2, g4, g5, n2, g6⟩, _⟩ := I1.tuple sb
        have hd : D.dep (.tup r1) = D.deps r1 + 1 := rfl
        refine PySem.W.kat_lt g1 g3 g4 g6 (kat_ds I1 (by show X.A.units + 1 + 1 + 50 < cLine; omega) r1 r2 vs ws its jts 0 q1 q2 rv1 rv2 c1.1 c2.1 (by omega) c3 (by simp) ⟨rfl, rfl⟩)
  · have sub : ∀ u ∈ out, u ∈ us := fun u m => hb.perm.mem_iff.mp m
    have I1 := I.kept (t' := tk) k1
    have lo := hb.perm.length_eq
    refine ⟨.ref h₀.objs.size, upd H h₀.objs.size (.lst (out.map vOf)), I1.laid (t' := tk) k2 (Nat.le_refl _) (show ObjOk X.prog X.w _ _ _ (.lst (out.map vOf)) from ⟨by rw [List.length_map]; omega, out, n, vals_out fun u m => (each u (sub u m)).1, hn⟩), rfl,
      q (out.map (dOf X.kw loc H)) (out.map vOf) _ (by have := hb.perm.map (dOf X.kw loc H); rw [e1] at this; exact this) (List.pairwise_map.mpr hs) (rds_out fun u m => (each u (sub u m)).2.1) (I1.hok.fresh (Nat.le_refl _))⟩
end

/-! ### what is gathered -/
section
variable {prog : Program} {w : World} {A : Around} {E : Value → Shared → Prop} {s : Shared}
theorem collect_tup {l : Addr} {vs : List Value} {Q : List Value → Shared → Prop} (hl : IsTup s.heap l vs.toArray)
    (h : Q vs { s with heap := (s.heap.push (seqObj "list" #[] 0)).update s.heap.objs.size (Obj.mapSeq (· ++ vs.toArray)) }) (hsz : vs.length ≤ sizeLine) :
    wpAny (model prog w) A (collect (.ref l)) Q E s := by
  obtain ⟨o, ho, hc, n, hd⟩ := id hl
  unfold collect
  refine wpAny_bind (wpAny_runValue (codeAny_builtin entry_proto_collect' ?_))
  show wpAny _ _ (do again (.builtin "list.__iadd__" ⟨[← newList [], .ref l], []⟩)) _ _ s
  refine wpAny_bind (wpAny_newList (wpAny_pure ⟨Code.quiet_builtin _ (by decide +kernel), codeAny_builtin entry_list_iadd' ?_⟩))
  show wpAny _ _ (Builtin.List.listExtendWith (.ref s.heap.objs.size) (.ref l) (.ref s.heap.objs.size)) _ _ { s with heap := s.heap.push (seqObj "list" #[] 0) }
  unfold Builtin.List.listExtendWith
  have ho' : (s.heap.push (seqObj "list" #[] 0)).get? l = some o := Heap.get?_push_of_some _ ho
  refine wpAny_bind (wpAny_typeOf (T := "tuple") ⟨o, ho', hc⟩ ?_)
  have ht : (Value.type "tuple" == Value.type "tuple") = true := by rfl
  rw [if_pos (by rw [ht]; simp)]
  refine wpAny_bind (listItems_at ho' hd ?_)
  refine wpAny_bind (listItems_at (xs := #[]) (n := 0) (Heap.get?_push_size _ rfl) rfl ?_)
  rw [if_neg (by simp)]
  refine wpAny_bind (listUpdate_at (xs := #[]) (n := 0) (Heap.get?_push_size _ rfl) rfl ?_ (Nat.zero_le _) (by show (#[] ++ vs.toArray).size ≤ sizeLine + 1; simp only [Array.size_append, List.size_toArray, List.length_nil]; omega))
  refine wpAny_pure ?_
  show wpAny (model prog w) A (do
      let o ← load s.heap.objs.size
      match o.data with
      | .seq xs _ => pure xs.toList
      | _ => unsupported "internal:collect") Q E { s with heap := (s.heap.push (seqObj "list" #[] 0)).update s.heap.objs.size (Obj.mapSeq (· ++ vs.toArray)) }
  refine wpAny_bind (wpAny_load (get?_update_seq (Heap.get?_push_size _ rfl) _) ?_)
  show wpAny _ _ (pure ((#[] : Array Value) ++ vs.toArray).toList) Q E _
  rw [show ((#[] : Array Value) ++ vs.toArray).toList = vs by simp]
  exact wpAny_pure h
theorem keep_col {h : Heap} {vs : List Value} {b : Addr} {o : Obj} (e : h.get? b = some o) : ((h.push (seqObj "list" #[] 0)).update h.objs.size (Obj.mapSeq (· ++ vs.toArray))).get? b = some o := by
  rw [Heap.get?_update_ne _ _ _ _ (Nat.ne_of_lt (Heap.lt_size e))]
  exact Heap.get?_push_of_some _ e
end
section
variable {X : Cx} {pins : List (Addr × Obj)} {σ : L2.St} {H : Hp} {s : Shared} {loc : List Addr}
theorem rds_dic : ∀ {kvs : List (Str × D)} {ks : List (L2.Key × V)}, RKs X.kw loc H kvs ks → RDs X.kw loc H (kvs.map fun kv => D.str kv.1) (ks.map fun kv => kV kv.1)
  | [], _, r => by rw [show _ = [] from r]; exact RDs.nil
  | e :: r, ks, q => by
    obtain ⟨v, t, rfl, q1, q2⟩ := q
    exact RDs.cons rd_str (rds_dic q2)
theorem rds_dtp : ∀ {kvs : List (List D × D)} {es : List Ent}, RTs X.kw loc H kvs es → RDs X.kw loc H (kvs.map fun kv => D.tup kv.1) ((es.map fun e => e.2.1).map V.ref)
  | [], _, r => by rw [show _ = [] from r]; exact RDs.nil
  | e :: r, es, q => by
    obtain ⟨ks, b, u, t, v, rfl, e2, q1, q2, q3, q4, q5⟩ := q
    refine RDs.cons ?_ (rds_dtp q5)
    show RD X.kw loc H (.tup e.1) (.ref b)
    rw [e2]
    exact rd_tup q1 q2 (rds_kV ks)
theorem srt_ok (hc : X.calm = true) (hu : X.A.units + 64 < cLine) : CallR X (.builtin "sorted") (lfC X.kw fun ds h Q => match ds with
    | [x] => itsOf h x fun xs => srtD xs fun ys => new (.lst ys) h Q
    | _ => False) := by
  intro pins s σ H xs us Q I r hq
  obtain ⟨loc, h, ds, Q', rh, rd, w, k⟩ := hq
  match ds, rd, w with
  | [], _, w => exact w.elim
  | _ :: _ :: _, _, w => exact w.elim
  | [x], rd, w =>
    rw [RDs] at rd
    obtain ⟨v1, t1, rfl, q1, rd⟩ := rd
    rw [RDs] at rd
    subst rd
    obtain ⟨u, rfl, ru⟩ := vals1 r
    have FIN : ∀ {ds : List D} {zs : List V}, srtD ds (fun ys => new (.lst ys) h Q') → RDs X.kw loc H ds zs →
        (∀ R : List Value → Shared → Prop, (∀ (vs : List Value) (h' : Heap) (tk : Nat), Vals zs vs → (∀ b o, s.heap.get? b = some o → h'.get? b = some o) → R vs { s with heap := h', toks := tk }) → wpAny (model X.prog X.w) X.A.in1 (collect u) R X.xe s) →
        wpAny (model X.prog X.w) X.A (call (.builtin "sorted") [u]) (EP X pins σ Q) X.xe s := fun {ds zs} w r hcol => by
      obtain ⟨o, l, w⟩ := srtD_e w
      exact srt_run hu I hcol r o l fun ds' zs' p pm st r' hp => k.new rh (w ds' pm st) r' p hp
    cases x with
    | tup xs =>
      obtain ⟨a, vs, rfl, sq, q⟩ := q1.tup_
      cases ru
      obtain ⟨its, rv, pl, hz⟩ := I.tuple sq
      exact FIN w q fun R hR => collect_tup pl (hR its _ s.toks rv fun b o e => keep_col e) (by rw [← rv.length]; exact hz)
    | ref n =>
      obtain ⟨o, hn, w⟩ := rdO_e (show rdO h n _ from w)
      cases o with
      | lst xs =>
        obtain ⟨a, vs, rfl, la, ha, q⟩ := rh.lst hn q1
        cases ru
        obtain ⟨its, rv, pl, hz⟩ := I.list (SqL.of ha)
        exact FIN w q fun R hR => collect_list pl.isList (hR its _ s.toks rv fun b o e => keep_col e) (by rw [← rv.length]; exact hz)
      | frz xs =>
        obtain ⟨a, vs, rfl, q, sq⟩ := rh.seq (d := .ref n) (ds := xs) (by simp only [seqOf, hn]) q1
        rcases sq with ⟨_, z⟩ | ⟨sq, _⟩
        · cases z
        cases ru
        obtain ⟨its, rv, pl, hz⟩ := I.list sq
        exact FIN w q fun R hR => collect_list pl.isList (hR its _ s.toks rv fun b o e => keep_col e) (by rw [← rv.length]; exact hz)
      | dic kvs =>
        obtain ⟨a, ks, rfl, la, ha, q⟩ := rh.dic hn q1
        cases ru
        refine FIN w (rds_dic q) fun R hR => ?_
        obtain ⟨z, lo, vs, rel, dd⟩ := dk_rd I.hok (.inl ha)
        obtain ⟨ep, hat⟩ := dd.dictAt
        refine PySem.W.kdu_collect (A := X.A.in1) (PySem.W.kdl_dict (knd := mixKind X.prog X.w) (kvs := vs) (ep := ep) lo) (by show X.A.handled = none; exact I.ok.hd hc) hat (by rw [← rel.length]; exact z) fun h' tk acc hk hacc => ?_
        have ek : (ks.map fun kv => kV kv.1) = vs.map fun p => kV p.1 := by
          have e := congrArg (List.map kV) rel.keys
          rw [List.map_map, List.map_map] at e
          exact e
        refine hR acc.toList h' tk ?_ hk
        rw [ek]
        exact keys_at (by rw [Array.length_toList]; exact hacc.1) fun j v e => hacc.2 j v (by rw [← Array.getElem?_toList]; exact e)
      | dtp kvs =>
        obtain ⟨a, es, rfl, la, ha, q⟩ := rh.dtp hn q1
        cases ru
        refine FIN w (rds_dtp q) fun R hR => ?_
        obtain ⟨⟨z, lo⟩, o, es2, ep, ho, hx, hd, he, hnd⟩ := dto_of I ha
        have l1 : es2.size = es.length := size_of_entries he
        refine PySem.W.kdu_collect (A := X.A.in1) (kdl_raw lo hx hd) (by show X.A.handled = none; exact I.ok.hd hc) ho (by omega) fun h' tk acc hk it => ?_
        have ea : acc.toList = es.map fun x => Value.ref x.2.1 := by
          have hl : acc.toList.length = es.length := by rw [Array.length_toList, it.1]; exact l1
          apply List.ext_getElem?
          intro j
          rw [List.getElem?_map]
          cases hj : acc.toList[j]? with
          | none =>
            have h1 := List.getElem?_eq_none_iff.mp hj
            rw [List.getElem?_eq_none (by omega)]
            rfl
          | some v =>
            obtain ⟨en, hen, hv⟩ := it.2 j v (by rw [← Array.getElem?_toList]; exact hj)
            have qe := entry_at he j
            rw [hen] at qe
            cases hb : es[j]? with
            | none =>
              rw [hb] at qe
              exact nomatch (show some en = none from qe)
            | some b =>
              rw [hb] at qe
              have e2 : en = entryOfKey (tupleKind (mixKind X.prog X.w)) b := Option.some.inj qe
              rw [hv, e2]
              rfl
        refine hR acc.toList h' tk ?_ hk
        rw [ea, show (es.map fun x => Value.ref x.2.1) = (es.map fun x => x.2.1).map Value.ref by rw [List.map_map]; rfl]
        exact vals_refs _
    | _ => exact w.elim
end
end Mi

set_option Elab.async false
set_option linter.all false
set_option maxRecDepth 100000
set_option maxHeartbeats 1000000
/-! Mi: loops, comprehensions; readings put together. -/
namespace Mi
open PySem PySem.Spec PyProof.Rows L2

section
variable {bb : BB} {X : Cx} {e : Expr}
theorem pe_imp {t t' : TE} (h : PE X e t) (i : ∀ s H Q, t' s H Q → t s H Q) : PE X e t' := ⟨fun pins s σ H Q I w => h.run pins s σ H Q I (i _ _ _ w)⟩
theorem pt_imp {t t' : TT} (h : PT X e t) (i : ∀ s H Q, t' s H Q → t s H Q) : PT X e t' := ⟨fun pins s σ H Q I w => h.run pins s σ H Q I (i _ _ _ w)⟩
theorem pw_imp {t t' : TT} (h : PW X e t) (i : ∀ s H Q, t' s H Q → t s H Q) : PW X e t' := ⟨fun wh pins s σ H Q I w => h.run wh pins s σ H Q I (i _ _ _ w)⟩
theorem pa_imp {es : List Expr} {t t' : TA} (h : PA X es t) (i : ∀ s H Q, t' s H Q → t s H Q) : PA X es t' := ⟨fun pos pins s σ H Q I w => h.run pos pins s σ H Q I (i _ _ _ w)⟩
theorem pg_imp {t t' : TG} (h : PG X e t) (i : ∀ v s H Q, t' v s H Q → t v s H Q) : PG X e t' := ⟨fun pins s σ H v u Q I r w => h.run pins s σ H v u Q I r (i _ _ _ _ w)⟩
theorem pi_imp {tg : Expr} {t t' : TI} (h : PI X tg e t) (i : ∀ s H Q, t' s H Q → t s H Q) : PI X tg e t' := ⟨fun pins s σ H Q I w => h.run pins s σ H Q I (i _ _ _ w)⟩
theorem ps_imp {st : Stmt} {t t' : TS} (h : PS X st t) (i : ∀ E s H, t' E s H → t E s H) : PS X st t' := ⟨fun pins s σ H D I w => h.run pins s σ H D I (i _ _ _ w)⟩
theorem pss_imp {st : List Stmt} {t t' : TS} (h : PSs X st t) (i : ∀ E s H, t' E s H → t E s H) : PSs X st t' := ⟨fun pins s σ H D I w => h.run pins s σ H D I (i _ _ _ w)⟩

/-! ### what is walked -/
def iSeq (K : KW) (tl : TE) : TI := fun σ H R => tl σ H fun x H1 => ∃ a, x = .ref a ∧ (((∃ xs, SqL K H1 a xs) ∧ R (Itl K a) H1) ∨ ((∃ xs, SqT K H1 a xs) ∧ R (Itt K a) H1))
theorem pi_seq {tg l : Expr} {tl : TE} (hl : PE X l tl) : PI X tg l (iSeq X.kw tl) := by
  refine ⟨fun pins s σ H R I h => ?_⟩
  refine thn (hl.run pins s σ H _ I h) fun v s1 ⟨x, H1, I1, r1, q1⟩ => ?_
  obtain ⟨a, e, q⟩ := q1
  subst e
  cases r1
  rcases q with ⟨⟨xs, hq⟩, q⟩ | ⟨⟨xs, hq⟩, q⟩
  · obtain ⟨its, rv, p, hz⟩ := I1.list hq
    refine wpAny_pyIter_list p.isList ?_
    refine ⟨s1.heap.objs.size, [s1.heap.objs.size], _, _, H1, rfl, I1.kept (t' := s1.toks) fun b o e => Heap.get?_push_of_some _ e, turn_list a _, ⟨_, Heap.get?_push_size _ rfl, rfl, rfl⟩, fun b hb => ?_, q⟩
    have e : b = s1.heap.objs.size := by simpa using hb
    subst e
    exact I1.fpOk (Nat.le_refl _) (I1.hok.fresh (Nat.le_refl _))
  · obtain ⟨its, rv, p, hz⟩ := I1.tuple hq
    refine wpAny_pyIter_tuple (show s1.heap.IsTuple a its.toArray from p) ?_
    refine ⟨s1.heap.objs.size, [s1.heap.objs.size], _, _, H1, rfl, I1.kept (t' := s1.toks) fun b o e => Heap.get?_push_of_some _ e, turn_tuple a _, ⟨_, Heap.get?_push_size _ rfl, rfl, rfl⟩, fun b hb => ?_, q⟩
    have e : b = s1.heap.objs.size := by simpa using hb
    subst e
    exact I1.fpOk (Nat.le_refl _) (I1.hok.fresh (Nat.le_refl _))
/-- what is walked: a list, a tuple, a text -/
def iAny (K : KW) (te : TE) : TI := fun σ H R => te σ H fun v H1 => (∃ x, v = .str x ∧ R (Its x) H1) ∨ ∃ a : Addr, v = .ref a ∧ (((∃ xs, SqL K H1 a xs) ∧ R (Itl K a) H1) ∨ (∃ xs, SqT K H1 a xs) ∧ R (Itt K a) H1)
theorem pi_any {tg l : Expr} {tl : TE} (hl : PE X l tl) : PI X tg l (iAny X.kw tl) := by
  refine ⟨fun pins s σ H R I h => ?_⟩
  refine thn (hl.run pins s σ H _ I h) fun v s1 ⟨x, H1, I1, r1, q1⟩ => ?_
  rcases q1 with ⟨x, ex, q⟩ | ⟨a, e, q⟩
  · subst ex
    obtain ⟨t, rfl⟩ := r1
    cases ha : x.cps.all (· < 128)
    · exact wpAny_pyIter_wide ha (pi_one (tk := s1.toks) I1 _ (turn_str _ x t "str_iterator" (.inr rfl)) ⟨_, Heap.get?_push_size _ rfl, rfl, rfl⟩ q)
    · exact wpAny_pyIter_ascii ha (pi_one (tk := s1.toks) I1 _ (turn_str _ x t "str_ascii_iterator" (.inl rfl)) ⟨_, Heap.get?_push_size _ rfl, rfl, rfl⟩ q)
  subst e
  cases r1
  rcases q with ⟨⟨xs, hq⟩, q⟩ | ⟨⟨xs, hq⟩, q⟩
  · obtain ⟨its, rv, p, hz⟩ := I1.list hq
    refine wpAny_pyIter_list p.isList ?_
    refine ⟨s1.heap.objs.size, [s1.heap.objs.size], _, _, H1, rfl, I1.kept (t' := s1.toks) fun b o e => Heap.get?_push_of_some _ e, turn_list a _, ⟨_, Heap.get?_push_size _ rfl, rfl, rfl⟩, fun b hb => ?_, q⟩
    have e : b = s1.heap.objs.size := by simpa using hb
    subst e
    exact I1.fpOk (Nat.le_refl _) (I1.hok.fresh (Nat.le_refl _))
  · obtain ⟨its, rv, p, hz⟩ := I1.tuple hq
    refine wpAny_pyIter_tuple (show s1.heap.IsTuple a its.toArray from p) ?_
    refine ⟨s1.heap.objs.size, [s1.heap.objs.size], _, _, H1, rfl, I1.kept (t' := s1.toks) fun b o e => Heap.get?_push_of_some _ e, turn_tuple a _, ⟨_, Heap.get?_push_size _ rfl, rfl, rfl⟩, fun b hb => ?_, q⟩
    have e : b = s1.heap.objs.size := by simpa using hb
    subst e
    exact I1.fpOk (Nat.le_refl _) (I1.hok.fresh (Nat.le_refl _))
end
section
variable {bb : BB} {K : KW} {loc : List Addr} {H : Hp}
theorem sqt_inj {a : Addr} {xs ys : List V} (h : SqT K H a xs) (h' : ∀ zs, SqT K H a zs → zs = xs) (q : SqT K H a ys) : ys = xs := h' _ q
theorem snap_str {z : Str} : SnapJ K (Its z) (sgs z) loc H where
  stop := fun i loc' H' e x => by
    have h := List.getElem?_eq_none_iff.mp e
    unfold sgs at h
    rw [List.length_map] at h
    show z.cps.size ≤ i
    simpa using h
  go := fun i d loc' H' e x => by
    have h := (List.getElem?_eq_some_iff.mp e).1
    unfold sgs at h
    rw [List.length_map] at h
    show i < z.cps.size
    simpa using h
  yld := fun i d loc' H' x H2 h e xt rh ⟨e1, c, e2, e3⟩ => by
    unfold sgs at e
    rw [List.getElem?_map, Array.getElem?_toList, e2] at e
    cases e
    subst e1 e3
    exact ⟨loc', Xt.refl, rh, rd_str⟩
theorem snap_tup {a : Addr} {vs : List V} {ds : List D} (s : SqT K H a vs) (r : RDs K loc H ds vs) : SnapJ K (Itt K a) ds loc H where
  stop := fun i loc' H' e x => ⟨vs, x.tp _ _ s, by rw [r.length]; exact List.getElem?_eq_none_iff.mp e⟩
  go := fun i d loc' H' e x => by
    obtain ⟨v, hv, _⟩ := r.at_ e
    exact ⟨vs, v, x.tp _ _ s, hv⟩
  yld := fun i d loc' H' z H2 h e x rh y => by
    obtain ⟨rfl, y⟩ := y
    have hz := y vs (x.tp _ _ s)
    exact ⟨loc', Xt.refl, rh, (r.pt hz e).mono x⟩
theorem snap_frz {a : Addr} {vs : List V} {ds : List D} (s : Fz K H a vs) (r : RDs K loc H ds vs) : SnapJ K (Itl K a) ds loc H where
  stop := fun i loc' H' e x => ⟨vs, (x.fz _ _ s).sq, by rw [r.length]; exact List.getElem?_eq_none_iff.mp e⟩
  go := fun i d loc' H' e x => by
    obtain ⟨v, hv, _⟩ := r.at_ e
    exact ⟨vs, v, (x.fz _ _ s).sq, hv⟩
  yld := fun i d loc' H' z H2 h e x rh y => by
    obtain ⟨rfl, y⟩ := y
    have hz := y vs (x.fz _ _ s).sq
    exact ⟨loc', Xt.refl, rh, (r.pt hz e).mono x⟩
theorem range_at : ∀ (n : Nat) (lo : Int) (k i : Nat), (range n lo k)[i]? = if i < n then some (.int (lo + (k + i : Nat))) else none
  | 0, lo, k, i => by simp [range]
  | n + 1, lo, k, 0 => by simp [range]
  | n + 1, lo, k, i + 1 => by
    have h := range_at n lo (k + 1) i
    show (range n lo (k + 1))[i]? = _
    rw [h]
    by_cases c : i < n
    · rw [if_pos c, if_pos (by omega)]
      have : k + 1 + i = k + (i + 1) := by omega
      rw [this]
    · rw [if_neg c, if_neg (by omega)]
theorem snap_rng {lo : Int} {n : Nat} : SnapJ K (Itr lo n) (range n lo 0) loc H where
  stop := fun i loc' H' e x => by
    rw [range_at] at e
    split at e
    · cases e
    · show n ≤ i
      omega
  go := fun i d loc' H' e x => by
    rw [range_at] at e
    split at e
    · assumption
    · cases e
  yld := fun i d loc' H' z H2 h e x rh y => by
    obtain ⟨rfl, rfl⟩ := y
    rw [range_at] at e
    split at e
    · cases e
      rw [Nat.zero_add]
      exact ⟨loc', Xt.refl, rh, rd_int⟩
    · cases e
end

section
variable {bb : BB} {X : Cx}
/-! ### loops -/
def wFor (wi : Sg → Hh → (MW → Hh → Prop) → Prop) (g : D → Sg → Hh → (Sg → Hh → Prop) → Prop) (b : Es → Sg → Hh → Prop) : Es → Sg → Hh → Prop := fun R σ h => wi σ h fun w h1 => (match w with
  | .snap xs => loopS g b R xs σ h1
  | .live n => loopL g b R n fuel 0 σ h1)
theorem for_ok {wi : Sg → Hh → (MW → Hh → Prop) → Prop} {g : D → Sg → Hh → (Sg → Hh → Prop) → Prop} {b : Es → Sg → Hh → Prop} {E : Ends} {s : L2.St} {H : Hp} (h : lfS bb X.kw (wFor wi g b) E s H) :
    tFor (lfI bb X.kw wi) (lfG bb X.kw g) (lfS bb X.kw b) E s H := by
  obtain ⟨loc, σ, hh, R, rs, rh, w, k⟩ := h
  refine ⟨loc, σ, hh, _, rs, rh, w, fun wk h' J H' loc' q x rh' wj => ?_⟩
  have rs' := rs.mono x
  have k' := k.mono x
  cases wk with
  | snap xs =>
    have wj' : SnapJ X.kw J xs loc' H' := wj
    refine ⟨fun i m s2 H2 => ∃ loc2 σ2 h2, Xt X.kw loc' H' loc2 H2 ∧ m = (xs.drop i).length ∧ RS bb X.kw loc2 H2 σ2 s2 ∧ RH X.kw loc2 H2 h2 ∧ loopS g b R (xs.drop i) σ2 h2, ⟨_, loc', σ, h', Xt.refl, rfl, rs', rh', q⟩, ?_⟩
    rintro i m s2 H2 ⟨loc2, σ2, h2, x2, rfl, rs2, rh2, q2⟩
    cases hx : xs[i]? with
    | none =>
      have e : xs.drop i = [] := List.drop_eq_nil_of_le (List.getElem?_eq_none_iff.mp hx)
      rw [e] at q2
      exact .inl ⟨wj'.stop i loc2 H2 hx x2, k'.nx _ _ _ _ loc2 q2 x2 rh2 rs2⟩
    | some d =>
      obtain ⟨hl, hd⟩ := List.getElem?_eq_some_iff.mp hx
      have e : xs.drop i = d :: xs.drop (i + 1) := by rw [List.drop_eq_getElem_cons hl, hd]
      rw [e] at q2
      refine .inr ⟨wj'.go i d loc2 H2 hx x2, fun s3 H3 => ∃ loc3 σ3 h3, Xt X.kw loc' H' loc3 H3 ∧ RS bb X.kw loc3 H3 σ3 s3 ∧ RH X.kw loc3 H3 h3 ∧ loopS g b R (xs.drop (i + 1)) σ3 h3, fun s3 H3 ⟨loc3, σ3, h3, x3, rs3, rh3, q3⟩ => ⟨_, by rw [e]; exact Nat.lt_succ_self _, loc3, σ3, h3, x3, rfl, rs3, rh3, q3⟩, fun v H3 y => ?_⟩
      obtain ⟨loc3, x3, rh3, rd⟩ := wj'.yld i d loc2 H2 v H3 h2 hx x2 rh2 y
      refine ⟨loc3, d, σ2, h2, _, rd, rs2.mono x3, rh3, q2, fun σ4 h4 s4 H4 loc4 q4 x4 rh4 rs4 => ?_⟩
      have xx := x2.trans (x3.trans x4)
      refine ⟨loc4, σ4, h4, _, rs4, rh4, q4, ⟨fun σ5 h5 s5 H5 loc5 q5 x5 rh5 rs5 => ⟨loc5, σ5, h5, xx.trans x5, rs5, rh5, q5⟩, (k'.mono xx).rt, (k'.mono xx).nx, fun σ5 h5 s5 H5 loc5 q5 x5 rh5 rs5 => ⟨loc5, σ5, h5, xx.trans x5, rs5, rh5, q5⟩⟩⟩
  | live n =>
    obtain ⟨a, rfl, la⟩ := (show ∃ a, J = Itl X.kw a ∧ loc'[n]? = some a from wj)
    refine ⟨fun i m s2 H2 => ∃ loc2 σ2 h2, Xt X.kw loc' H' loc2 H2 ∧ RS bb X.kw loc2 H2 σ2 s2 ∧ RH X.kw loc2 H2 h2 ∧ loopL g b R n m i σ2 h2, ⟨fuel, loc', σ, h', Xt.refl, rs', rh', q⟩, ?_⟩
    rintro i m s2 H2 ⟨loc2, σ2, h2, x2, rs2, rh2, q2⟩
    cases m with
    | zero => exact q2.elim
    | succ m =>
      unfold loopL at q2
      split at q2
      · rename_i xs hn
        obtain ⟨a2, la2, vs, ha, rr⟩ := rh2.ob n _ hn
        have e2 : a2 = a := Option.some.inj (la2.symm.trans (x2.lc _ _ la))
        subst e2
        split at q2
        · rename_i hx
          exact .inl ⟨⟨vs, SqL.of ha, by rw [rr.length]; exact List.getElem?_eq_none_iff.mp hx⟩, k'.nx _ _ _ _ loc2 q2 x2 rh2 rs2⟩
        · rename_i d hx
          obtain ⟨v0, hv0, rd⟩ := rr.at_ hx
          refine .inr ⟨⟨vs, v0, SqL.of ha, hv0⟩, fun s3 H3 => ∃ loc3 σ3 h3, Xt X.kw loc' H' loc3 H3 ∧ RS bb X.kw loc3 H3 σ3 s3 ∧ RH X.kw loc3 H3 h3 ∧ loopL g b R n m (i + 1) σ3 h3, fun s3 H3 ⟨loc3, σ3, h3, x3, rs3, rh3, q3⟩ => ⟨m, Nat.lt_succ_self _, loc3, σ3, h3, x3, rs3, rh3, q3⟩, fun v H3 y => ?_⟩
          obtain ⟨rfl, y⟩ := y
          have ev : vs[i]? = some v := y vs (SqL.of ha)
          have e3 : v0 = v := Option.some.inj (hv0.symm.trans ev)
          subst e3
          refine ⟨loc2, d, σ2, h2, _, rd, rs2, rh2, q2, fun σ4 h4 s4 H4 loc4 q4 x4 rh4 rs4 => ?_⟩
          have xx := x2.trans x4
          refine ⟨loc4, σ4, h4, _, rs4, rh4, q4, ⟨fun σ5 h5 s5 H5 loc5 q5 x5 rh5 rs5 => ⟨loc5, σ5, h5, xx.trans x5, rs5, rh5, q5⟩, (k'.mono xx).rt, (k'.mono xx).nx, fun σ5 h5 s5 H5 loc5 q5 x5 rh5 rs5 => ⟨loc5, σ5, h5, xx.trans x5, rs5, rh5, q5⟩⟩⟩
      · exact q2.elim
theorem while_ok {c : Sg → Hh → (Bool → Hh → Prop) → Prop} {b : Es → Sg → Hh → Prop} {E : Ends} {s : L2.St} {H : Hp} {n : Nat} (h : lfS bb X.kw (fun R σ h => loopW c b R n σ h) E s H) : tWhile (lfT bb X.kw c) (lfS bb X.kw b) E s H := by
  obtain ⟨loc, σ, hh, R, rs, rh, w, k⟩ := h
  refine ⟨fun m s2 H2 => ∃ loc2 σ2 h2, Xt X.kw loc H loc2 H2 ∧ RS bb X.kw loc2 H2 σ2 s2 ∧ RH X.kw loc2 H2 h2 ∧ loopW c b R m σ2 h2, ⟨n, loc, σ, hh, Xt.refl, rs, rh, w⟩, ?_⟩
  rintro m s2 H2 ⟨loc2, σ2, h2, x2, rs2, rh2, q2⟩
  cases m with
  | zero => exact q2.elim
  | succ m =>
    refine ⟨loc2, σ2, h2, _, rs2, rh2, q2, fun d h3 H3 loc3 q3 x3 rh3 => ?_⟩
    have xx := x2.trans x3
    rcases br_e q3 with ⟨rfl, q3'⟩ | ⟨rfl, q3'⟩
    · refine L2.iteT ?_
      refine ⟨fun s5 H5 => ∃ loc5 σ5 h5, Xt X.kw loc H loc5 H5 ∧ RS bb X.kw loc5 H5 σ5 s5 ∧ RH X.kw loc5 H5 h5 ∧ loopW c b R m σ5 h5, fun s5 H5 q5 => ⟨m, Nat.lt_succ_self _, q5⟩, loc3, σ2, h3, _, rs2.mono x3, rh3, q3', ?_⟩
      exact ⟨fun σ5 h5 s5 H5 loc5 q5 x5 rh5 rs5 => ⟨loc5, σ5, h5, xx.trans x5, rs5, rh5, q5⟩, (k.mono xx).rt, (k.mono xx).nx, fun σ5 h5 s5 H5 loc5 q5 x5 rh5 rs5 => ⟨loc5, σ5, h5, xx.trans x5, rs5, rh5, q5⟩⟩
    · refine L2.iteF ?_
      exact k.nx _ _ _ _ loc3 q3' xx rh3 (rs2.mono x3)
/-! ### comprehensions -/
def wLc (wi : Sg → Hh → (MW → Hh → Prop) → Prop) (g : D → Sg → Hh → (Sg → Hh → Prop) → Prop) (c : Sg → Hh → (Bool → Hh → Prop) → Prop) (e : Sg → Hh → Kd → Prop) (vs : List Nat) : Sg → Hh → Kd → Prop := fun σ h Q => wi σ h fun w h1 => new (.lst []) h1 fun r h2 => (match r with
  | .ref p => (match w with
    | .snap xs => compS g c e (wipes σ vs) p Q xs h2
    | .live n => compL g c e (wipes σ vs) p Q n fuel 0 h2)
  | _ => False)
/-- a target that stores the slots vs alone -/
def OwnG (bb : BB) (K : KW) (g : D → Sg → Hh → (Sg → Hh → Prop) → Prop) (tg : TG) (vs : List Nat) : Prop := ∀ (loc : List Addr) (d : D) (v : V) (σ : Sg) (s : L2.St) (h : Hh) (H : Hp) (Q : Sg → Hh → Prop) (R : L2.St → Hp → Prop), RD K loc H d v → RS bb K loc H σ s → RH K loc H h → g d σ h Q →
  (∀ s2 σ2, L2.wipe s2 vs = L2.wipe s vs → RS bb K loc H σ2 s2 → Q σ2 h → R s2 H) → tg v s H R
theorem wipe_wipe (s : L2.St) (vs : List Nat) : L2.wipe (L2.wipe s vs) vs = L2.wipe s vs := by
  refine List.ext_getElem? fun i => ?_
  by_cases hi : i ∈ vs
  · have key : ∀ (t : L2.St) (us : List Nat), i ∈ us → (L2.wipe t us)[i]? = if i < t.length then some none else none := by
      intro t us
      induction us with
      | nil => intro h; cases h
      | cons u us ih =>
        intro h
        show ((L2.wipe t us).set u none)[i]? = _
        rw [List.getElem?_set, L2.wipe_length]
        by_cases hu : u = i
        · rw [if_pos hu]
          subst hu
          rfl
        · rw [if_neg hu]
          exact ih (by rcases List.mem_cons.mp h with e | e; exact absurd e.symm hu; exact e)
    rw [key _ _ hi, key _ _ hi, L2.wipe_length]
  · rw [L2.wipe_out hi]
theorem lc_ok {wi : Sg → Hh → (MW → Hh → Prop) → Prop} {g : D → Sg → Hh → (Sg → Hh → Prop) → Prop} {c : Sg → Hh → (Bool → Hh → Prop) → Prop} {e : Sg → Hh → Kd → Prop} {tg : TG} {vs : List Nat} {s : L2.St} {H : Hp} {Q : VK} (og : OwnG bb X.kw g tg vs)
    (h : lfE bb X.kw (wLc wi g c e vs) s H Q) : tLc (lfI bb X.kw wi) tg (lfT bb X.kw c) (lfE bb X.kw e) vs s H Q := by
  obtain ⟨loc, σ, hh, Q', rs, rh, w, k⟩ := h
  refine ⟨loc, σ, hh, _, rs, rh, w, fun wk h' J H' loc' q x rh' wj p hp => ?_⟩
  replace q := new_e q
  have rs' := (rs.mono x).mono (Xt.new (K := X.kw) (u := .lst []) hp)
  have x1 : Xt X.kw loc' H' (loc' ++ [p]) (upd H' p (.lst [])) := Xt.new hp
  have rh1 : RH X.kw (loc' ++ [p]) (upd H' p (.lst [])) (h' ++ [.lst []]) := rh'.new hp RDs.nil
  have lp : (loc' ++ [p])[h'.length]? = some p := by rw [← rh'.len]; simp
  -- the element's store
  have fin : ∀ {loc4 : List Addr} {H4 : Hp} {y : V} {dy : D} {h4 : Hh} {P : Hh → Prop} {N : Hp → Prop}, Xt X.kw (loc' ++ [p]) (upd H' p (.lst [])) loc4 H4 → RH X.kw loc4 H4 h4 → RD X.kw loc4 H4 dy y →
      (rdL h4 h'.length fun acc => chk (decide (acc.length < sizeLine)) (put h4 h'.length (.lst (acc ++ [dy])) P)) → (∀ h5 H5, P h5 → Xt X.kw loc4 H4 loc4 H5 → RH X.kw loc4 H5 h5 → N H5) → ∃ acc, H4 p = some (.lst acc) ∧ acc.length < sizeLine ∧ N (upd H4 p (.lst (acc ++ [y]))) := by
    intro loc4 H4 y dy h4 P N x4 rh4 rd4 m nn
    · obtain ⟨acc, hn, m⟩ := rdL_e m
      obtain ⟨c, m⟩ := chk_e m
      obtain ⟨a2, la2, vs2, ha, rr⟩ := rh4.ob _ _ hn
      have e2 : a2 = p := Option.some.inj (la2.symm.trans (x4.lc _ _ lp))
      subst e2
      exact ⟨vs2, ha, by rw [rr.length]; exact of_decide_eq_true c, nn _ _ (put_e m) (Xt.hid (.inr (.inl ⟨_, ha⟩))) (rh4.set hn la2 (rr.append (RDs.cons rd4 RDs.nil)))⟩
  cases wk with
  | snap xs =>
    have wj' : SnapJ X.kw J xs loc' H' := wj
    refine ⟨fun i m H2 => ∃ loc2 h2, Xt X.kw (loc' ++ [p]) (upd H' p (.lst [])) loc2 H2 ∧ m = (xs.drop i).length ∧ RH X.kw loc2 H2 h2 ∧ compS g c e (wipes σ vs) h'.length Q' (xs.drop i) h2, ⟨_, _, _, Xt.refl, rfl, rh1, q⟩, ?_⟩
    rintro i m H2 ⟨loc2, h2, x2, rfl, rh2, q2⟩
    cases hx : xs[i]? with
    | none =>
      have e : xs.drop i = [] := List.drop_eq_nil_of_le (List.getElem?_eq_none_iff.mp hx)
      rw [e] at q2
      exact .inl ⟨wj'.stop i loc2 H2 hx (x1.trans x2), k _ _ _ _ loc2 q2 (x.trans (x1.trans x2)) rh2 (rd_ref (x2.lc _ _ lp))⟩
    | some d =>
      obtain ⟨hl, hd⟩ := List.getElem?_eq_some_iff.mp hx
      have ee : xs.drop i = d :: xs.drop (i + 1) := by rw [List.drop_eq_getElem_cons hl, hd]
      rw [ee] at q2
      refine .inr ⟨wj'.go i d loc2 H2 hx (x1.trans x2), fun H3 => ∃ loc3 h3, Xt X.kw (loc' ++ [p]) (upd H' p (.lst [])) loc3 H3 ∧ RH X.kw loc3 H3 h3 ∧ compS g c e (wipes σ vs) h'.length Q' (xs.drop (i + 1)) h3, fun H3 ⟨loc3, h3, x3, rh3, q3⟩ => ⟨_, by rw [ee]; exact Nat.lt_succ_self _, loc3, h3, x3, rfl, rh3, q3⟩, fun v H3 y => ?_⟩
      obtain ⟨loc3, x3, rh3, rd⟩ := wj'.yld i d loc2 H2 v H3 h2 hx (x1.trans x2) rh2 y
      have rsw : RS bb X.kw loc3 H3 (wipes σ vs) (L2.wipe s vs) := ((rs'.mono x2).mono x3).wipe vs
      refine og loc3 d v _ _ h2 H3 _ _ rd rsw rh3 q2 fun s4 σ4 ws rs4 q4 => ⟨ws.trans (wipe_wipe s vs), loc3, σ4, h2, _, rs4, rh3, q4, fun b h5 H5 loc5 q5 x5 rh5 => ?_⟩
      rcases br_e q5 with ⟨rfl, q5'⟩ | ⟨rfl, q5'⟩
      · refine L2.iteT ?_
        refine ⟨loc5, σ4, h5, _, rs4.mono x5, rh5, q5', fun dy h6 y6 H6 loc6 q6 x6 rh6 rd6 => ?_⟩
        have xx := x2.trans (x3.trans (x5.trans x6))
        exact fin (N := fun H3 => ∃ loc3 h3, Xt X.kw (loc' ++ [p]) (upd H' p (.lst [])) loc3 H3 ∧ RH X.kw loc3 H3 h3 ∧ compS g c e (wipes σ vs) h'.length Q' (xs.drop (i + 1)) h3) xx rh6 rd6 q6 fun h7 H7 q7 x7 rh7 => ⟨loc6, h7, xx.trans x7, rh7, q7⟩
      · refine L2.iteF ?_
        exact ⟨loc5, h5, x2.trans (x3.trans x5), rh5, q5'⟩
  | live n =>
    obtain ⟨a, rfl, la⟩ := (show ∃ a, J = Itl X.kw a ∧ loc'[n]? = some a from wj)
    refine ⟨fun i m H2 => ∃ loc2 h2, Xt X.kw (loc' ++ [p]) (upd H' p (.lst [])) loc2 H2 ∧ RH X.kw loc2 H2 h2 ∧ compL g c e (wipes σ vs) h'.length Q' n m i h2, ⟨fuel, _, _, Xt.refl, rh1, q⟩, ?_⟩
    rintro i m H2 ⟨loc2, h2, x2, rh2, q2⟩
    cases m with
    | zero => exact q2.elim
    | succ m =>
      unfold compL at q2
      split at q2
      · rename_i xs hn
        obtain ⟨a2, la2, ws, ha, rr⟩ := rh2.ob n _ hn
        have e2 : a2 = a := Option.some.inj (la2.symm.trans ((x1.trans x2).lc _ _ la))
        subst e2
        split at q2
        · rename_i hx
          exact .inl ⟨⟨ws, SqL.of ha, by rw [rr.length]; exact List.getElem?_eq_none_iff.mp hx⟩, k _ _ _ _ loc2 q2 (x.trans (x1.trans x2)) rh2 (rd_ref (x2.lc _ _ lp))⟩
        · rename_i d hx
          obtain ⟨v0, hv0, rd⟩ := rr.at_ hx
          refine .inr ⟨⟨ws, v0, SqL.of ha, hv0⟩, fun H3 => ∃ loc3 h3, Xt X.kw (loc' ++ [p]) (upd H' p (.lst [])) loc3 H3 ∧ RH X.kw loc3 H3 h3 ∧ compL g c e (wipes σ vs) h'.length Q' n m (i + 1) h3, fun H3 ⟨loc3, h3, x3, rh3, q3⟩ => ⟨m, Nat.lt_succ_self _, loc3, h3, x3, rh3, q3⟩, fun v H3 y => ?_⟩
          obtain ⟨rfl, y⟩ := y
          have ev : ws[i]? = some v := y ws (SqL.of ha)
          have e3 : v0 = v := Option.some.inj (hv0.symm.trans ev)
          subst e3
          have rsw : RS bb X.kw loc2 H3 (wipes σ vs) (L2.wipe s vs) := (rs'.mono x2).wipe vs
          refine og loc2 d v0 _ _ h2 H3 _ _ rd rsw rh2 q2 fun s4 σ4 ws rs4 q4 => ⟨ws.trans (wipe_wipe s vs), loc2, σ4, h2, _, rs4, rh2, q4, fun b h5 H5 loc5 q5 x5 rh5 => ?_⟩
          rcases br_e q5 with ⟨rfl, q5'⟩ | ⟨rfl, q5'⟩
          · refine L2.iteT ?_
            refine ⟨loc5, σ4, h5, _, rs4.mono x5, rh5, q5', fun dy h6 y6 H6 loc6 q6 x6 rh6 rd6 => ?_⟩
            have xx := x2.trans (x5.trans x6)
            exact fin (N := fun H3 => ∃ loc3 h3, Xt X.kw (loc' ++ [p]) (upd H' p (.lst [])) loc3 H3 ∧ RH X.kw loc3 H3 h3 ∧ compL g c e (wipes σ vs) h'.length Q' n m (i + 1) h3) xx rh6 rd6 q6 fun h7 H7 q7 x7 rh7 => ⟨loc6, h7, xx.trans x7, rh7, q7⟩
          · refine L2.iteF ?_
            exact ⟨loc5, h5, x2.trans x5, rh5, q5'⟩
      · exact q2.elim
end
end Mi

set_option Elab.async false
set_option linter.all false
set_option maxRecDepth 100000
set_option maxHeartbeats 1000000
/-! Mi: its words, one by one, are the layer's. -/
namespace Mi
open PySem PySem.Spec PyProof.Rows L2

abbrev TwE := Sg → Hh → Kd → Prop
abbrev TwT := Sg → Hh → (Bool → Hh → Prop) → Prop
abbrev TwA := Sg → Hh → (List D → Hh → Prop) → Prop
abbrev TwG := D → Sg → Hh → (Sg → Hh → Prop) → Prop
abbrev TwI := Sg → Hh → (MW → Hh → Prop) → Prop
abbrev TwS := Es → Sg → Hh → Prop
section
variable {bb : BB} {X : Cx} {a b c e : Expr} {ta tb tc te : TwE} {tt : TwT} {pos p apos : Pos} {es : List Expr} {as : TwA}
theorem s_cst {d : D} {v : V} (h : PE X e (tC v)) (r : ∀ loc H, RD X.kw loc H d v) : PE X e (lfE bb X.kw fun _ h Q => Q d h) :=
  pe_imp h fun s H Q ⟨loc, σ, hh, Q', rs, rh, w, k⟩ => k.here rh w (r _ _)
theorem s_var {i : Nat} (h : PE X e (tVar i)) : PE X e (lfE bb X.kw fun σ h Q => look σ i fun d => Q d h) :=
  pe_imp h fun s H Q ⟨loc, σ, hh, Q', rs, rh, w, k⟩ => by
    have w' : look σ i fun d => Q' d hh := w
    unfold look at w'
    split at w'
    · rename_i d hd
      obtain ⟨v, hv, r⟩ := rs.2.1 i d hd
      exact ⟨v, hv, k.here rh w' r⟩
    · exact w'.elim
theorem s_bin (op : BOp) (ha : PE X a (lfE bb X.kw ta)) (hb : PE X b (lfE bb X.kw tb)) : PE X (.BinOp a (bopOf op) b pos) (lfE bb X.kw fun σ h Q => ta σ h fun x h1 => tb σ h1 fun y h2 => opBin op x y h2 Q) :=
  pe_imp (pe_op (op_bin op) ha hb) fun s H Q ⟨loc, σ, h, Q', rs, rh, w, k⟩ => ⟨loc, σ, h, _, rs, rh, w, fun x h1 vx H1 loc1 q1 x1 rh1 r1 => ⟨loc1, σ, h1, _, rs.mono x1, rh1, q1, fun y h2 vy H2 loc2 q2 x2 rh2 r2 =>
    ⟨loc2, h2, x, y, Q', rh2, r1.mono x2, r2, q2, k.mono (x1.trans x2)⟩⟩⟩
theorem s_neg (ha : PE X a (lfE bb X.kw ta)) : PE X (.UnaryOp .USub a pos) (lfE bb X.kw fun σ h Q => ta σ h fun x h1 => (match x with | .int i => Q (.int (-i)) h1 | _ => False)) :=
  pe_imp (pe_un un_neg ha) fun s H Q ⟨loc, σ, h, Q', rs, rh, w, k⟩ => ⟨loc, σ, h, _, rs, rh, w, fun x h1 vx H1 loc1 q1 x1 rh1 r1 => by
    cases x <;> try exact q1.elim
    cases r1.int_
    exact ⟨_, rfl, (k.mono x1).here rh1 q1 rd_int⟩⟩
theorem s_not (ha : PE X a (lfE bb X.kw ta)) : PE X (.UnaryOp .Not a pos) (lfE bb X.kw fun σ h Q => ta σ h fun x h1 => truth x h1 fun b => Q (.bl (!b)) h1) :=
  pe_imp (pe_notT ha) fun s H Q ⟨loc, σ, h, Q', rs, rh, w, k⟩ => ⟨loc, σ, h, _, rs, rh, w, fun x h1 vx H1 loc1 q1 x1 rh1 r1 => by
    obtain ⟨kk, e, q⟩ := truth_ok rh1 r1 q1
    exact ⟨kk, e, (k.mono x1).here rh1 q rd_bl⟩⟩
theorem s_cmp (hu64 : X.A.units + 64 < cLine) (op : COp) (ha : PE X a (lfE bb X.kw ta)) (hb : PE X b (lfE bb X.kw tb)) (hm : behindInMarks (copOf op) b = false) : PE X (.Compare a [copOf op] [b] pos) (lfE bb X.kw fun σ h Q => ta σ h fun x h1 => tb σ h1 fun y h2 => opCmp op x y h2 fun r => Q (.bl r) h2) :=
  pe_imp (pe_cmpR (op_cmp hu64 op) ha hb hm) fun s H Q ⟨loc, σ, h, Q', rs, rh, w, k⟩ => ⟨loc, σ, h, _, rs, rh, w, fun x h1 vx H1 loc1 q1 x1 rh1 r1 => ⟨loc1, σ, h1, _, rs.mono x1, rh1, q1, fun y h2 vy H2 loc2 q2 x2 rh2 r2 =>
    ⟨loc2, h2, x, y, Q', rh2, r1.mono x2, r2, q2, k.mono (x1.trans x2)⟩⟩⟩
theorem sg1_mono {c : Str} {K K' : Nat → Prop} (i : ∀ k, K k → K' k) (w : sg1 c K) : sg1 c K' := by
  obtain ⟨k, rfl, w⟩ := sg1_e w
  exact i k w
theorem opIn_mono {x y : D} {h : Hh} {R R' : Bool → Prop} (i : ∀ r, R r → R' r) (z : opIn x y h R) : opIn x y h R' := by
  cases y with
  | str s => cases x <;> first | exact z.elim | exact sg1_mono (fun k q => i _ q) z
  | tup xs =>
    obtain ⟨z1, z2⟩ := chk_e z
    exact chk_i z1 (i _ z2)
  | ref n =>
    obtain ⟨o, e, z⟩ := rdO_e z
    refine rdO_i e ?_
    cases o with
    | lst xs =>
      obtain ⟨z1, z2⟩ := chk_e z
      exact chk_i z1 (i _ z2)
    | frz xs =>
      obtain ⟨z1, z2⟩ := chk_e z
      exact chk_i z1 (i _ z2)
    | dic kvs => cases x <;> first | exact z.elim | exact i _ z
    | dtp kvs =>
      cases x <;> first | exact z.elim | skip
      obtain ⟨z1, z2⟩ := chk_e z
      exact chk_i z1 (i _ z2)
  | _ => exact z.elim
theorem opCmp_mono {op : COp} {x y : D} {h : Hh} {R R' : Bool → Prop} (i : ∀ r, R r → R' r) (z : opCmp op x y h R) : opCmp op x y h R' := by
  cases op with
  | isin => exact opIn_mono i z
  | notin => exact opIn_mono (fun r q => i _ q) z
  | eq =>
    cases x <;> cases y <;> first | exact i _ z | exact z.elim | skip
    obtain ⟨z1, z2⟩ := chk_e z
    exact chk_i z1 (i _ z2)
  | _ => cases x <;> cases y <;> first | exact i _ z | exact z.elim
theorem b_cmp (hu64 : X.A.units + 64 < cLine) (op : COp) (ha : PE X a (lfE bb X.kw ta)) (hb : PE X b (lfE bb X.kw tb)) (hm : behindInMarks (copOf op) b = false) : PT X (.Compare a [copOf op] [b] pos) (lfT bb X.kw fun σ h Q => ta σ h fun x h1 => tb σ h1 fun y h2 => opCmp op x y h2 fun r => Q r h2) :=
  pt_imp (pt_cmpR (op_cmp hu64 op) ha hb hm) fun s H Q ⟨loc, σ, h, Q', rs, rh, w, k⟩ => ⟨loc, σ, h, _, rs, rh, w, fun x h1 vx H1 loc1 q1 x1 rh1 r1 => ⟨loc1, σ, h1, _, rs.mono x1, rh1, q1, fun y h2 vy H2 loc2 q2 x2 rh2 r2 =>
    ⟨loc2, h2, x, y, fun d h3 => h3 = h2 ∧ ∃ r, d = .bl r ∧ Q' r h2, rh2, r1.mono x2, r2, opCmp_mono (fun r z => ⟨rfl, r, rfl, z⟩) q2, fun d h3 v3 H3 loc3 q3 x3 rh3 r3 => by
        obtain ⟨rfl, r, rfl, q⟩ := q3
        cases r3.bl_
        exact ⟨r, rfl, k r h3 H3 loc3 q (x1.trans (x2.trans x3)) rh3⟩⟩⟩⟩
theorem s_chain (hu64 : X.A.units + 64 < cLine) (op op' : COp) (ha : PE X a (lfE bb X.kw ta)) (hb : PE X b (lfE bb X.kw tb)) (hc : PE X c (lfE bb X.kw tc)) (hm : lastMarks [copOf op, copOf op'] [b, c] = false) :
    PE X (.Compare a [copOf op, copOf op'] [b, c] pos) (lfE bb X.kw fun σ h Q => ta σ h fun x h1 => tb σ h1 fun y h2 => opCmp op x y h2 fun r => br r (tc σ h2 fun z h3 => opCmp op' y z h3 fun r' => Q (.bl r') h3) (Q (.bl false) h2)) :=
  pe_imp (pe_chain (op_cmp hu64 op) (op_cmp hu64 op') ha hb hc hm) fun s H Q ⟨loc, σ, h, Q', rs, rh, w, k⟩ => ⟨loc, σ, h, _, rs, rh, w, fun x h1 vx H1 loc1 q1 x1 rh1 r1 => ⟨loc1, σ, h1, _, rs.mono x1, rh1, q1, fun y h2 vy H2 loc2 q2 x2 rh2 r2 =>
    ⟨loc2, h2, x, y, fun d h3 => h3 = h2 ∧ ∃ r, d = .bl r ∧ br r (tc σ h2 fun z h3 => opCmp op' y z h3 fun r' => Q' (.bl r') h3) (Q' (.bl false) h2), rh2, r1.mono x2, r2, opCmp_mono (fun r z => ⟨rfl, r, rfl, z⟩) q2, fun d h3 v3 H3 loc3 q3 x3 rh3 r3 => by
      obtain ⟨rfl, r, rfl, q⟩ := q3
      cases r3.bl_
      refine ⟨r, rfl, ?_⟩
      rcases br_e q with ⟨rfl, q'⟩ | ⟨rfl, q'⟩
      · exact L2.iteT ⟨loc3, σ, h3, _, ((rs.mono x1).mono x2).mono x3, rh3, q', fun z h4 vz H4 loc4 q4 x4 rh4 r4 => ⟨loc4, h4, y, z, Q', rh4, (r2.mono x3).mono x4, r4, q4, k.mono (x1.trans (x2.trans (x3.trans x4)))⟩⟩
      · exact L2.iteF ((k.mono (x1.trans (x2.trans x3))).here rh3 q' rd_bl)⟩⟩⟩
theorem b_chain (hu64 : X.A.units + 64 < cLine) (op op' : COp) (ha : PE X a (lfE bb X.kw ta)) (hb : PE X b (lfE bb X.kw tb)) (hc : PE X c (lfE bb X.kw tc)) (hm : lastMarks [copOf op, copOf op'] [b, c] = false) :
    PT X (.Compare a [copOf op, copOf op'] [b, c] pos) (lfT bb X.kw fun σ h Q => ta σ h fun x h1 => tb σ h1 fun y h2 => opCmp op x y h2 fun r => br r (tc σ h2 fun z h3 => opCmp op' y z h3 fun r' => Q r' h3) (Q false h2)) :=
  pt_imp (pt_chain (op_cmp hu64 op) (op_cmp hu64 op') ha hb hc hm) fun s H Q ⟨loc, σ, h, Q', rs, rh, w, k⟩ => ⟨loc, σ, h, _, rs, rh, w, fun x h1 vx H1 loc1 q1 x1 rh1 r1 => ⟨loc1, σ, h1, _, rs.mono x1, rh1, q1, fun y h2 vy H2 loc2 q2 x2 rh2 r2 =>
    ⟨loc2, h2, x, y, fun d h3 => h3 = h2 ∧ ∃ r, d = .bl r ∧ br r (tc σ h2 fun z h3 => opCmp op' y z h3 fun r' => Q' r' h3) (Q' false h2), rh2, r1.mono x2, r2, opCmp_mono (fun r z => ⟨rfl, r, rfl, z⟩) q2, fun d h3 v3 H3 loc3 q3 x3 rh3 r3 => by
      obtain ⟨rfl, r, rfl, q⟩ := q3
      cases r3.bl_
      refine ⟨r, rfl, ?_⟩
      rcases br_e q with ⟨rfl, q'⟩ | ⟨rfl, q'⟩
      · refine L2.iteT ⟨loc3, σ, h3, _, ((rs.mono x1).mono x2).mono x3, rh3, q', fun z h4 vz H4 loc4 q4 x4 rh4 r4 => ⟨loc4, h4, y, z, fun d h5 => h5 = h4 ∧ ∃ r, d = .bl r ∧ Q' r h4, rh4, (r2.mono x3).mono x4, r4, opCmp_mono (fun r z => ⟨rfl, r, rfl, z⟩) q4, fun d h5 v5 H5 loc5 q5 x5 rh5 r5 => ?_⟩⟩
        obtain ⟨rfl, r, rfl, q⟩ := q5
        cases r5.bl_
        exact ⟨r, rfl, k r h5 H5 loc5 q (x1.trans (x2.trans (x3.trans (x4.trans x5)))) rh5⟩
      · exact L2.iteF ⟨false, rfl, k false h3 H3 loc3 q' (x1.trans (x2.trans x3)) rh3⟩⟩⟩⟩
theorem s_and {rest : List Expr} (ha : PE X a (lfE bb X.kw ta)) (hb : PE X (.BoolOp .And (b :: rest) pos) (lfE bb X.kw tb)) : PE X (.BoolOp .And (a :: b :: rest) pos) (lfE bb X.kw fun σ h Q => ta σ h fun x h1 => (match x with | .bl r => br r (tb σ h1 Q) (Q (.bl false) h1) | _ => False)) :=
  pe_imp (pe_and ha hb) fun s H Q ⟨loc, σ, h, Q', rs, rh, w, k⟩ => ⟨loc, σ, h, _, rs, rh, w, fun x h1 vx H1 loc1 q1 x1 rh1 r1 => by
    cases x <;> try exact q1.elim
    cases r1.bl_
    refine ⟨_, rfl, ?_⟩
    rcases br_e q1 with ⟨rfl, q1'⟩ | ⟨rfl, q1'⟩
    · exact L2.iteT ⟨loc1, σ, h1, Q', rs.mono x1, rh1, q1', k.mono x1⟩
    · exact L2.iteF ((k.mono x1).here rh1 q1' rd_bl)⟩
theorem s_or {rest : List Expr} (ha : PE X a (lfE bb X.kw ta)) (hb : PE X (.BoolOp .Or (b :: rest) pos) (lfE bb X.kw tb)) : PE X (.BoolOp .Or (a :: b :: rest) pos) (lfE bb X.kw fun σ h Q => ta σ h fun x h1 => (match x with | .bl r => br r (Q (.bl true) h1) (tb σ h1 Q) | _ => False)) :=
  pe_imp (pe_or ha hb) fun s H Q ⟨loc, σ, h, Q', rs, rh, w, k⟩ => ⟨loc, σ, h, _, rs, rh, w, fun x h1 vx H1 loc1 q1 x1 rh1 r1 => by
    cases x <;> try exact q1.elim
    cases r1.bl_
    refine ⟨_, rfl, ?_⟩
    rcases br_e q1 with ⟨rfl, q1'⟩ | ⟨rfl, q1'⟩
    · exact L2.iteT ((k.mono x1).here rh1 q1' rd_bl)
    · exact L2.iteF ⟨loc1, σ, h1, Q', rs.mono x1, rh1, q1', k.mono x1⟩⟩
theorem s_ife (ht : PT X c (lfT bb X.kw tt)) (ha : PE X a (lfE bb X.kw ta)) (hb : PE X b (lfE bb X.kw tb)) : PE X (.IfExp c a b pos) (lfE bb X.kw fun σ h Q => tt σ h fun r h1 => br r (ta σ h1 Q) (tb σ h1 Q)) :=
  pe_imp (pe_ifExp ht ha hb) fun s H Q ⟨loc, σ, h, Q', rs, rh, w, k⟩ => ⟨loc, σ, h, _, rs, rh, w, fun r h1 H1 loc1 q1 x1 rh1 => by
    rcases br_e q1 with ⟨rfl, q1'⟩ | ⟨rfl, q1'⟩
    · exact L2.iteT ⟨loc1, σ, h1, Q', rs.mono x1, rh1, q1', k.mono x1⟩
    · exact L2.iteF ⟨loc1, σ, h1, Q', rs.mono x1, rh1, q1', k.mono x1⟩⟩
/-! ### tests -/
theorem b_not (ha : PT X a (lfT bb X.kw tt)) : PT X (.UnaryOp .Not a pos) (lfT bb X.kw fun σ h Q => tt σ h fun b h1 => Q (!b) h1) :=
  pt_imp (pt_not ha) fun s H Q ⟨loc, σ, h, Q', rs, rh, w, k⟩ => ⟨loc, σ, h, _, rs, rh, w, fun r h1 H1 loc1 q1 x1 rh1 => k _ _ _ _ q1 x1 rh1⟩
theorem b_and {rest : List Expr} {t2 : TwT} (ha : PT X a (lfT bb X.kw tt)) (hb : PW X (.BoolOp .And (b :: rest) pos) (lfT bb X.kw t2)) : PW X (.BoolOp .And (a :: b :: rest) pos) (lfT bb X.kw fun σ h Q => tt σ h fun r h1 => br r (t2 σ h1 Q) (Q false h1)) :=
  pw_imp (pw_and ha hb) fun s H Q ⟨loc, σ, h, Q', rs, rh, w, k⟩ => ⟨loc, σ, h, _, rs, rh, w, fun r h1 H1 loc1 q1 x1 rh1 => by
    rcases br_e q1 with ⟨rfl, q1'⟩ | ⟨rfl, q1'⟩
    · exact L2.iteT ⟨loc1, σ, h1, Q', rs.mono x1, rh1, q1', k.mono x1⟩
    · exact L2.iteF (k _ _ _ _ q1' x1 rh1)⟩
theorem b_or {rest : List Expr} {t2 : TwT} (ha : PT X a (lfT bb X.kw tt)) (hb : PW X (.BoolOp .Or (b :: rest) pos) (lfT bb X.kw t2)) : PW X (.BoolOp .Or (a :: b :: rest) pos) (lfT bb X.kw fun σ h Q => tt σ h fun r h1 => br r (Q true h1) (t2 σ h1 Q)) :=
  pw_imp (pw_or ha hb) fun s H Q ⟨loc, σ, h, Q', rs, rh, w, k⟩ => ⟨loc, σ, h, _, rs, rh, w, fun r h1 H1 loc1 q1 x1 rh1 => by
    rcases br_e q1 with ⟨rfl, q1'⟩ | ⟨rfl, q1'⟩
    · exact L2.iteT (k _ _ _ _ q1' x1 rh1)
    · exact L2.iteF ⟨loc1, σ, h1, Q', rs.mono x1, rh1, q1', k.mono x1⟩⟩
theorem b_val (ha : PE X a (lfE bb X.kw ta)) (he : ∀ whole, isTrue a X.env whole = (do let v ← whole; standAt a.pos; holding [v] (truthy v))) : PT X a (lfT bb X.kw fun σ h Q => ta σ h fun d h1 => truth d h1 fun b => Q b h1) :=
  pt_imp (pt_truth ha he) fun s H Q ⟨loc, σ, h, Q', rs, rh, w, k⟩ => ⟨loc, σ, h, _, rs, rh, w, fun x h1 vx H1 loc1 q1 x1 rh1 r1 => by
    obtain ⟨kk, e, q⟩ := truth_ok rh1 r1 q1
    exact ⟨kk, e, k _ _ _ _ q x1 rh1⟩⟩
/-! ### arguments, displays, calls -/
theorem a_nil : PA X [] (lfA bb X.kw fun _ h Q => Q [] h) := pa_imp pa_nil fun s H Q ⟨loc, σ, h, Q', rs, rh, w, k⟩ => k _ _ _ _ loc w Xt.refl rh RDs.nil
theorem a_cons (he : PE X e (lfE bb X.kw te)) (hs : PA X es (lfA bb X.kw as)) (hst : starEach (e :: es) X.env = (false, eval e X.env) :: starEach es X.env) : PA X (e :: es) (lfA bb X.kw fun σ h Q => te σ h fun x h1 => as σ h1 fun xs h2 => Q (x :: xs) h2) :=
  pa_imp (pa_cons he hs hst) fun s H Q ⟨loc, σ, h, Q', rs, rh, w, k⟩ => ⟨loc, σ, h, _, rs, rh, w, fun x h1 vx H1 loc1 q1 x1 rh1 r1 => ⟨loc1, σ, h1, _, rs.mono x1, rh1, q1, fun y h2 vy H2 loc2 q2 x2 rh2 r2 =>
    k _ _ _ _ loc2 q2 (x1.trans x2) rh2 (RDs.cons (r1.mono x2) r2)⟩⟩
theorem s_tup {k1 : Nat} (hs : PA X es (lfA bb X.kw as)) : PE X (.Tuple es k1 pos) (lfE bb X.kw fun σ h Q => as σ h fun ds h1 => chk (lenOk ds.length) (Q (.tup ds) h1)) :=
  pe_imp (pe_tupF hs) fun s H Q ⟨loc, σ, h, Q', rs, rh, w, k⟩ => ⟨loc, σ, h, _, rs, rh, w, fun x h1 vx H1 loc1 q1 x1 rh1 r1 => by
    obtain ⟨c, q1⟩ := chk_e q1
    exact ⟨by rw [r1.length]; exact lenOk_i c, (k.mono x1).tup rh1 q1 r1⟩⟩
theorem s_lst (hs : PA X es (lfA bb X.kw as)) : PE X (.List es pos) (lfE bb X.kw fun σ h Q => as σ h fun ds h1 => chk (lenOk ds.length) (new (.lst ds) h1 Q)) :=
  pe_imp (pe_lst hs) fun s H Q ⟨loc, σ, h, Q', rs, rh, w, k⟩ => ⟨loc, σ, h, _, rs, rh, w, fun x h1 vx H1 loc1 q1 x1 rh1 r1 => by
    obtain ⟨c, q1⟩ := chk_e q1
    exact ⟨by rw [r1.length]; exact lenOk_i c, (k.mono x1).new rh1 q1 r1⟩⟩
theorem s_ix (hu64 : X.A.units + 64 < cLine) (ha : PE X a (lfE bb X.kw ta)) (hb : PE X b (lfE bb X.kw tb)) (hs : PlainIx b) : PE X (.Subscript a b pos) (lfE bb X.kw fun σ h Q => ta σ h fun x h1 => tb σ h1 fun y h2 => opIx x y h2 Q) :=
  pe_imp (pe_ix (op_ix hu64) ha hb hs) fun s H Q ⟨loc, σ, h, Q', rs, rh, w, k⟩ => ⟨loc, σ, h, _, rs, rh, w, fun x h1 vx H1 loc1 q1 x1 rh1 r1 => ⟨loc1, σ, h1, _, rs.mono x1, rh1, q1, fun y h2 vy H2 loc2 q2 x2 rh2 r2 =>
    ⟨loc2, h2, x, y, Q', rh2, r1.mono x2, r2, q2, k.mono (x1.trans x2)⟩⟩⟩
/-- what an error may leave, wished for at every slots -/
def XW (K : KW) (mg : Str → Option Value) (bb : BB) (EX : Ex) (W : WX) : Prop := ∀ σ, σ.length = bb.n → KxX K mg bb.loc bb.H EX (WE W σ)
theorem passN {X : Cx} : Passes (L2.CX X.prog X.w) X E0 := fun _ _ _ _ _ _ _ h => by
  obtain ⟨_, _, _, _, _, _, _, _, _, _, _, _, z⟩ := h
  exact z.elim
theorem takesN {X : Cx} : Takes X (fun _ _ _ _ => False) := fun _ _ ⟨_, _, _, _, _, _, _, _, _, _, _, _, _, _, _, _, w⟩ => w.elim
theorem pe_callS0 {CX : CXT} {k : Nat} {f : Addr} {fd : FuncData} {ps : List Str} {sp : Sp} {E : L2.St → XK} {x : Str} (F : FnOk X.prog X.w X.kw X.mg X.base CX k f fd ps sp) (hr : Room k X.A) (hg : Gl X x) (hm : X.mg x = some (.ref f)) (hk : PySem.W.keepIn X.kw (.ref f) = true) (hb : Binds X.kw fd ps []) (hx : ∀ σ, PassesAt CX X σ (E σ))
    (hdb : (x == ("__debug__" : Str)) = false) : PE X (.Call (.Name x p) [] [] pos) (tCallS sp E tNil) := by
  refine ⟨fun pins s σ H Q I h => ?_⟩
  refine wpAny_Call_Name_kw (ld_glob I hg hm ?_ hdb)
  exact PySem.W.callWith_K0 I.kIn hk (run_fnS (us := []) F hr hb (hx σ) I .nil h)
theorem s_call {W : WX} {EX : Ex} (tk : Takes X W) (xw : XW X.kw X.mg bb EX W) {id : Str} {f : Addr} {fd : FuncData} {ps : List Str} {k : Nat} {C : List D → Hh → Kd → Ex → Prop} (F : FnOk X.prog X.w X.kw X.mg X.base (L2.CX X.prog X.w) k f fd ps (lfP X.kw X.mg C)) (hr : Room k X.A) (hg : Gl X id) (hm : X.mg id = some (.ref f)) (hk : PySem.W.keepIn X.kw (.ref f) = true)
    (hb : Binds X.kw fd ps []) (hs : PA X (e :: es) (lfA bb X.kw as)) (hdb : (id == ("__debug__" : Str)) = false) (he : starEach (e :: es) X.env = (false, eval e X.env) :: starEach es X.env) (hpl : (backTo pos (starEach es X.env)).any (·.1) = false) :
    PE X (.Call (.Name id p) (e :: es) [] pos) (lfE bb X.kw fun σ h Q => as σ h fun ds h1 => C ds h1 Q EX) :=
  pe_imp (pe_callS F hr hg hm hk hb (fun σ => passAt tk σ) hs hdb he hpl) fun s H Q ⟨loc, σ, h, Q', rs, rh, w, k⟩ => ⟨loc, σ, h, _, rs, rh, w, fun x h1 vx H1 loc1 q1 x1 rh1 r1 =>
    ⟨loc1, x, h1, Q', EX, r1, rh1, q1, k.mono x1, (xw s (rs.1.trans rs.2.2.2)).mono (rs.2.2.1.trans x1)⟩⟩
theorem s_call0 {W : WX} {EX : Ex} (tk : Takes X W) (xw : XW X.kw X.mg bb EX W) {id : Str} {f : Addr} {fd : FuncData} {ps : List Str} {k : Nat} {C : List D → Hh → Kd → Ex → Prop} (F : FnOk X.prog X.w X.kw X.mg X.base (L2.CX X.prog X.w) k f fd ps (lfP X.kw X.mg C)) (hr : Room k X.A) (hg : Gl X id) (hm : X.mg id = some (.ref f)) (hk : PySem.W.keepIn X.kw (.ref f) = true)
    (hb : Binds X.kw fd ps []) (hdb : (id == ("__debug__" : Str)) = false) :
    PE X (.Call (.Name id p) [] [] pos) (lfE bb X.kw fun σ h Q => C [] h Q EX) :=
  pe_imp (pe_callS0 F hr hg hm hk hb (fun σ => passAt tk σ) hdb) fun s H Q ⟨loc, σ, h, Q', rs, rh, w, k⟩ => ⟨loc, [], h, Q', EX, RDs.nil, rh, w, k, (xw s (rs.1.trans rs.2.2.2)).mono rs.2.2.1⟩
/-! a call by keywords -/
theorem pk_imp {kws : List Keyword} {t t' : TA} (h : PK X kws t) (w : ∀ s H Q, t' s H Q → t s H Q) : PK X kws t' := ⟨fun pos pins s σ H Q I q => h.run pos pins s σ H Q I (w _ _ _ q)⟩
theorem k_nil : PK X [] (lfA bb X.kw fun _ h Q => Q [] h) := pk_imp pk_nil fun s H Q ⟨loc, σ, h, Q', rs, rh, w, k⟩ => k _ _ _ _ loc w Xt.refl rh RDs.nil
theorem k_cons {nm : Option Str} {kpos : Pos} {kws : List Keyword} (he : PE X e (lfE bb X.kw te)) (hs : PK X kws (lfA bb X.kw as)) : PK X (⟨nm, e, kpos⟩ :: kws) (lfA bb X.kw fun σ h Q => te σ h fun x h1 => as σ h1 fun xs h2 => Q (x :: xs) h2) :=
  pk_imp (pk_cons he hs) fun s H Q ⟨loc, σ, h, Q', rs, rh, w, k⟩ => ⟨loc, σ, h, _, rs, rh, w, fun x h1 vx H1 loc1 q1 x1 rh1 r1 => ⟨loc1, σ, h1, _, rs.mono x1, rh1, q1, fun y h2 vy H2 loc2 q2 x2 rh2 r2 =>
    k _ _ _ _ loc2 q2 (x1.trans x2) rh2 (RDs.cons (r1.mono x2) r2)⟩⟩
theorem kw_names (pos : Pos) (env : Env) : ∀ kws : List Keyword, (backToKw pos (keywordEach kws env)).map (·.1) = kws.map (·.arg)
  | [] => rfl
  | ⟨nm, v, p⟩ :: kws => congrArg (nm :: ·) (kw_names pos env kws)
theorem kw_all {l : List (Option Str × Sem Value)} {ks : List Str} (h : l.map (·.1) = ks.map some) : l.all (·.1.isSome) = true ∧ l.filterMap (·.1) = ks ∧ l.any (·.1.isNone) = false := by
  induction l generalizing ks with
  | nil => cases ks with
    | nil => exact ⟨rfl, rfl, rfl⟩
    | cons _ _ => cases h
  | cons a l ih => cases ks with
    | nil => cases h
    | cons k ks =>
      obtain ⟨h1, h2⟩ := (List.cons.injEq ..).mp h
      obtain ⟨i1, i2, i3⟩ := ih h2
      have h1 : a.1 = some k := h1
      simp [h1, i1, i2, i3]
theorem pe_callK0 {CX : CXT} {E : L2.St → XK} {sp : Sp} {tk : TA} {id : Str} {f : Addr} {fd : FuncData} {ks : List Str} {kws : List Keyword} {k : Nat} (F : FnOk X.prog X.w X.kw X.mg X.base CX k f fd ks sp) (hr : Room k X.A) (hg : Gl X id) (hm : X.mg id = some (.ref f)) (hk : PySem.W.keepIn X.kw (.ref f) = true)
    (hb : ∀ (s : Shared) (ws : List Value), ws.length = ks.length → BindsTo s fd ⟨[], ks.zip ws⟩ (ks.zip ws)) (hx : ∀ σ, PassesAt CX X σ (E σ)) (hkw : PK X kws tk) (hn : kws.map (·.arg) = ks.map some) (hdb : (id == ("__debug__" : Str)) = false) :
    PE X (.Call (.Name id p) [] kws pos) (fun σ H Q => tk σ H fun zs H2 => sp zs H2 Q (E σ)) := by
  refine ⟨fun pins s σ H Q I h => ?_⟩
  obtain ⟨a1, a2, a3⟩ := kw_all ((kw_names pos X.env kws).trans hn)
  refine wpAny_Call_Name_kw (ld_glob I hg hm ?_ hdb)
  refine PySem.W.callWith_KW0 (h₀ := X.base) I.ok.mod.kin hk a1 (thn (hkw.run pos pins s σ H _ I h) fun ws s2 ⟨zs, H2, I2, rz, q2⟩ => ⟨I2.kIn, ?_⟩) (by rw [a3]; rfl)
  rw [a2]
  refine wpAny_call (codeAny_mono (F.run X.A X.stack s2 H2 ⟨[], ks.zip ws⟩ ws zs Q _ hr I2.env0 (hb s2 ws (rz.length.symm.trans (F.len _ _ _ _ q2))) rz q2) fun r s' hq => ?_)
  cases r with
  | error e => exact hx σ pins H2 s2 e s' I2 hq
  | ok fl =>
    cases fl with
    | ret u => exact I2.after hq
    | next => exact False.elim hq
    | brk => exact False.elim hq
    | cont => exact False.elim hq
theorem s_callk {W : WX} {EX : Ex} (tk : Takes X W) (xw : XW X.kw X.mg bb EX W) {id : Str} {f : Addr} {fd : FuncData} {ks : List Str} {kws : List Keyword} {k : Nat} {C : List D → Hh → Kd → Ex → Prop} (F : FnOk X.prog X.w X.kw X.mg X.base (L2.CX X.prog X.w) k f fd ks (lfP X.kw X.mg C)) (hr : Room k X.A) (hg : Gl X id) (hm : X.mg id = some (.ref f)) (hk : PySem.W.keepIn X.kw (.ref f) = true)
    (hb : ∀ (s : Shared) (ws : List Value), ws.length = ks.length → BindsTo s fd ⟨[], ks.zip ws⟩ (ks.zip ws)) (hs : PK X kws (lfA bb X.kw as)) (hn : kws.map (·.arg) = ks.map some) (hdb : (id == ("__debug__" : Str)) = false) :
    PE X (.Call (.Name id p) [] kws pos) (lfE bb X.kw fun σ h Q => as σ h fun ds h1 => C ds h1 Q EX) :=
  pe_imp (pe_callK0 F hr hg hm hk hb (fun σ => passAt tk σ) hs hn hdb) fun s H Q ⟨loc, σ, h, Q', rs, rh, w, k⟩ => ⟨loc, σ, h, _, rs, rh, w, fun x h1 vx H1 loc1 q1 x1 rh1 r1 =>
    ⟨loc1, x, h1, Q', EX, r1, rh1, q1, k.mono x1, (xw s (rs.1.trans rs.2.2.2)).mono (rs.2.2.1.trans x1)⟩⟩
/-- a call of a def that a variable holds -/
theorem s_callv {i : Nat} {x : Str} {f : Addr} {fd : FuncData} {ps : List Str} {k : Nat} {C : List D → Hh → Kd → Ex → Prop} {b : Addr → Bool} (F : FnOk X.prog X.w X.kw X.mg X.base (L2.CX X.prog X.w) k f fd ps (lfP X.kw X.mg C)) (hr : Room k X.A) (hk : PySem.W.keepIn X.kw (.ref f) = true)
    (hb : Binds X.kw fd ps []) (hN : X.N[i]? = some x) (hv : Vis X.env.scope x) (hs : PA X (e :: es) (lfA bb X.kw as)) (hd : (x == ("__debug__" : Str)) = false) (hcd : (x == ("__classdict__" : Str)) = false) (he : starEach (e :: es) X.env = (false, eval e X.env) :: starEach es X.env) (hpl : (backTo pos (starEach es X.env)).any (·.1) = false)
    (hB : ∀ a, b a = true → a = f) :
    PE X (.Call (.Name x p) (e :: es) [] pos) (lfE bb X.kw fun σ h Q => look σ i fun d => (match d with | .fn a => chk (b a) (as σ h fun ds h1 => C ds h1 Q EX0) | _ => False)) :=
  pe_imp (ItX.pe_callV (F.raw hb .nil) hr hk passN hN hv hs hd hcd he hpl) fun s H Q ⟨loc, σ, h, Q', rs, rh, w0, k⟩ => by
    have w : look σ i fun d => (match d with | .fn a => chk (b a) (as σ h fun ds h1 => C ds h1 Q' EX0) | _ => False) := w0
    unfold look at w
    split at w
    · rename_i d hd
      cases d <;> try exact w.elim
      obtain ⟨c, w⟩ := chk_e w
      have := hB _ c
      subst this
      obtain ⟨v, hv, r⟩ := rs.2.1 i _ hd
      cases r.fn_
      exact ⟨hv, loc, σ, h, _, rs, rh, w, fun x h1 vx H1 loc1 q1 x1 rh1 r1 => ⟨loc1, x, h1, Q', EX0, by rw [List.append_nil]; exact r1, rh1, q1, k.mono x1, fun _ _ _ _ _ _ _ _ z => z.elim⟩⟩
    · exact w.elim
/-! ### slices -/
abbrev TwO := Sg → Hh → (Option Int → Hh → Prop) → Prop
def lfO (bb : BB) (K : KW) (t : TwO) : TO := fun s H Q => ∃ loc σ h Q', RS bb K loc H σ s ∧ RH K loc H h ∧ t σ h Q' ∧ ∀ o h' H' loc', Q' o h' → Xt K loc H loc' H' → RH K loc' H' h' → Q o H'
theorem o_none : PO X none (lfO bb X.kw fun _ h Q => Q none h) := ⟨fun pins s σ H Q I ⟨loc, σ', h, Q', rs, rh, w, k⟩ => po_none.run pins s σ H Q I (k _ _ _ _ w Xt.refl rh)⟩
theorem o_some (he : PE X e (lfE bb X.kw te)) : PO X (some e) (lfO bb X.kw fun σ h Q => te σ h fun x h1 => (match x with | .int i => Q (some i) h1 | _ => False)) := ⟨fun pins s σ H Q I ⟨loc, σ', h, Q', rs, rh, w, k⟩ =>
  (po_some he).run pins s σ H Q I ⟨loc, σ', h, _, rs, rh, w, fun x h1 vx H1 loc1 q1 x1 rh1 r1 => by
    cases x <;> try exact q1.elim
    cases r1.int_
    exact ⟨_, rfl, k _ _ _ _ q1 x1 rh1⟩⟩⟩
theorem s_sl {lo hi : Option Expr} {p2 : Pos} {tl th : TwO} (he : PE X e (lfE bb X.kw te)) (hl : PO X lo (lfO bb X.kw tl)) (hu : PO X hi (lfO bb X.kw th)) : PE X (.Subscript e (.Slice lo hi none p2) pos) (lfE bb X.kw fun σ h Q => te σ h fun x h1 => tl σ h1 fun l h2 => th σ h2 fun u h3 => opSl x l u h3 Q) :=
  pe_imp (pe_slice op_sl he hl hu) fun s H Q ⟨loc, σ, h, Q', rs, rh, w, k⟩ => ⟨loc, σ, h, _, rs, rh, w, fun x h1 vx H1 loc1 q1 x1 rh1 r1 => ⟨loc1, σ, h1, _, rs.mono x1, rh1, q1, fun l h2 H2 loc2 q2 x2 rh2 => ⟨loc2, σ, h2, _, (rs.mono x1).mono x2, rh2, q2, fun u h3 H3 loc3 q3 x3 rh3 =>
    ⟨loc3, h3, x, Q', rh3, (r1.mono x2).mono x3, q3, k.mono (x1.trans (x2.trans x3))⟩⟩⟩⟩
/-! ### built-ins, methods -/
theorem s_blt (f : Blt) {id : Str} {v : Value} (hc : X.calm = true) (hg : Gl X id) (hid : id = bltStr f) (hm : X.mg id = none) (hs : PA X (e :: es) (lfA bb X.kw as)) (he : starEach (e :: es) X.env = (false, eval e X.env) :: starEach es X.env) (hpl : (backTo pos (starEach es X.env)).any (·.1) = false) :
    PE X (.Call (.Name id p) (e :: es) [] pos) (lfE bb X.kw fun σ h Q => as σ h fun ds h1 => opBlt f ds h1 Q) := by
  have fin : ∀ {s : L2.St} {H : Hp} {Q : VK}, lfE bb X.kw (fun σ h Q => as σ h fun ds h1 => opBlt f ds h1 Q) s H Q → tCB (lfC X.kw (opBlt f)) (lfA bb X.kw as) s H Q := fun {s H Q} ⟨loc, σ, h, Q', rs, rh, w, k⟩ => ⟨loc, σ, h, _, rs, rh, w, fun x h1 vx H1 loc1 q1 x1 rh1 r1 => ⟨loc1, h1, x, Q', rh1, r1, q1, k.mono x1⟩⟩
  subst hid
  cases f
  · exact pe_imp (pe_callB (call_blt hc .len) hg hm (by decide +kernel) hs (by decide +kernel) (by decide +kernel) he hpl) fun _ _ _ => fin
  · exact pe_imp (pe_callTy (call_blt hc .int) hg hm (by decide +kernel) hs (by decide +kernel) (by decide +kernel) he hpl) fun _ _ _ => fin
  · exact pe_imp (pe_callB (call_blt hc .abs) hg hm (by decide +kernel) hs (by decide +kernel) (by decide +kernel) he hpl) fun _ _ _ => fin
  · exact pe_imp (pe_callB (call_blt hc .max) hg hm (by decide +kernel) hs (by decide +kernel) (by decide +kernel) he hpl) fun _ _ _ => fin
  · exact pe_imp (pe_callB (call_blt hc .min) hg hm (by decide +kernel) hs (by decide +kernel) (by decide +kernel) he hpl) fun _ _ _ => fin
  · exact pe_imp (pe_callTy (call_blt hc .tuple) hg hm (by decide +kernel) hs (by decide +kernel) (by decide +kernel) he hpl) fun _ _ _ => fin
  · exact pe_imp (pe_callTy (call_blt hc .list) hg hm (by decide +kernel) hs (by decide +kernel) (by decide +kernel) he hpl) fun _ _ _ => fin
  · exact pe_imp (pe_callB (call_blt hc .sum) hg hm (by decide +kernel) hs (by decide +kernel) (by decide +kernel) he hpl) fun _ _ _ => fin
  · exact pe_imp (pe_callTy (call_blt hc .str) hg hm (by decide +kernel) hs (by decide +kernel) (by decide +kernel) he hpl) fun _ _ _ => fin
  · exact pe_imp (pe_callTy (call_blt hc .dict) hg hm (by decide +kernel) hs (by decide +kernel) (by decide +kernel) he hpl) fun _ _ _ => fin
theorem s_srt (hu64 : X.A.units + 64 < cLine) (hc : X.calm = true) (hg : Gl X "sorted") (hm : X.mg "sorted" = none) (he : PE X e (lfE bb X.kw te)) (na : starEach [e] X.env = (false, eval e X.env) :: starEach [] X.env) :
    PE X (.Call (.Name "sorted" p) [e] [] pos) (lfE bb X.kw fun σ h Q => te σ h fun x h1 => itsOf h1 x fun xs => srtD xs fun ys => new (.lst ys) h1 Q) :=
  pe_imp (pe_callB (srt_ok hc hu64) hg hm (by decide +kernel) (a_cons he a_nil na) (by decide +kernel) (by decide +kernel) na rfl) fun s H Q ⟨loc, σ, h, Q', rs, rh, w, k⟩ => ⟨loc, σ, h, (fun xs h2 => match xs with
    | [x] => itsOf h2 x fun xs => srtD xs fun ys => new (.lst ys) h2 Q'
    | _ => False), rs, rh, w, fun x h1 vx H1 loc1 q1 x1 rh1 r1 => ⟨loc1, h1, x, Q', rh1, r1, q1, k.mono x1⟩⟩
theorem s_dnewt : PE X (.Dict [] [] pos) (lfE bb X.kw fun _ h Q => new (.dtp []) h Q) :=
  pe_imp pe_dnewTO fun s H Q ⟨loc, σ, h, Q', rs, rh, w, k⟩ => k.newT rh w
theorem s_lset {q : Pos} (hc : X.calm = true) (g1 : Gl X "len") (m1 : X.mg "len" = none) (g2 : Gl X "set") (m2 : X.mg "set" = none) (he : PE X e (lfE bb X.kw te)) (na : starEach [e] X.env = (false, eval e X.env) :: starEach [] X.env) :
    PE X (.Call (.Name "len" p) [.Call (.Name "set" p2) [e] [] q] [] pos) (lfE bb X.kw fun σ h Q => te σ h fun x h1 => (match x with | .ref n => rdL h1 n fun ys => lsetN ys fun j => Q (.int j) h1 | _ => False)) :=
  pe_imp (pe_lset hc g1 m1 g2 m2 he na) fun s H Q ⟨loc, σ, h, Q', rs, rh, w, k⟩ => ⟨loc, σ, h, _, rs, rh, w, fun x h1 vx H1 loc1 q1 x1 rh1 r1 => by
    cases x <;> try exact q1.elim
    obtain ⟨ds, en, q1⟩ := rdL_e q1
    obtain ⟨ys, rfl, few, q1⟩ := lsetN_e q1
    obtain ⟨a, vs, rfl, la, ha, q⟩ := rh1.lst en r1
    obtain rfl := rds_strs q
    exact ⟨a, ys, rfl, SqL.of ha, few, (k.mono x1).here rh1 q1 rd_int⟩⟩
theorem s_rev {st : Expr} {p2 : Pos} (he : PE X e (lfE bb X.kw te)) (hs : PE X st (lfE bb X.kw fun _ h Q => Q (.int (-1)) h)) : PE X (.Subscript e (.Slice none none (some st) p2) pos) (lfE bb X.kw fun σ h Q => te σ h fun x h1 => opRev x h1 Q) :=
  pe_imp (pe_rev he hs) fun s H Q ⟨loc, σ, h, Q', rs, rh, w, k⟩ => ⟨loc, σ, h, _, rs, rh, w, fun x h1 vx H1 loc1 q1 x1 rh1 r1 => ⟨loc1, σ, h1, fun y h2 => y = .int (-1) ∧ opRev x h2 Q', rs.mono x1, rh1, ⟨rfl, q1⟩, fun y h2 vy H2 loc2 ⟨ey, q2⟩ x2 rh2 r2 => ⟨by subst ey; exact r2.int_, rev_ok rh2 (r1.mono x2) q2 (k.mono (x1.trans x2))⟩⟩⟩
theorem s_isi (u : Tyn) {ty : Expr} (hg : Gl X "isinstance") (hm : X.mg "isinstance" = none) (ha : PE X a (lfE bb X.kw ta)) (ht : PE X ty (tC (.ty (tynStr u)))) (hs : PA X [a, ty] (tCons (lfE bb X.kw ta) (tCons (tC (.ty (tynStr u))) tNil)))
    (he : starEach [a, ty] X.env = (false, eval a X.env) :: starEach [ty] X.env) (hpl : (backTo pos (starEach [ty] X.env)).any (·.1) = false) :
    PE X (.Call (.Name "isinstance" p) [a, ty] [] pos) (lfE bb X.kw fun σ h Q => ta σ h fun x h1 => opIsi x [u] h1 Q) :=
  pe_imp (pe_callB (call_isi1 u) hg hm (by decide +kernel) hs (by decide +kernel) (by decide +kernel) he hpl) fun s H Q ⟨loc, σ, h, Q', rs, rh, w, k⟩ => ⟨loc, σ, h, _, rs, rh, w, fun x h1 vx H1 loc1 q1 x1 rh1 r1 =>
    ⟨vx, rfl, loc1, h1, x, Q', rh1, r1, q1, k.mono x1⟩⟩
theorem s_dnew : PE X (.Dict [] [] pos) (lfE bb X.kw fun _ h Q => new (.dic []) h Q) :=
  pe_imp pe_dnewK fun s H Q ⟨loc, σ, h, Q', rs, rh, w, k⟩ => k.newD rh w rfl
theorem s_dlit (ha : PE X a (lfE bb X.kw ta)) (hb : PE X b (lfE bb X.kw tb)) : PE X (.Dict [some a] [b] pos) (lfE bb X.kw fun σ h Q => new (.dic []) h fun r h0 => (match r with
    | .ref p => ta σ h0 fun y h1 => tb σ h1 fun z h2 => (match y with
      | .str s => rdD h2 p fun kvs => chk kvs.isEmpty (put h2 p (.dic [(s, z)]) fun h3 => Q (.ref p) h3)
      | _ => False)
    | _ => False)) :=
  pe_imp (pe_disp (pps_cons ha hb pps_nil) rfl rfl (by simp) (by simp)) fun s H Q ⟨loc, σ, h, Q', rs, rh, w, k⟩ => fun p hp => by
    have w' := new_e w
    have x0 : Xt X.kw loc H (loc ++ [p]) (upd H p (.dK [])) := Xt.new hp
    have rh0 : RH X.kw (loc ++ [p]) (upd H p (.dK [])) (h ++ [.dic []]) := rh.newD hp rfl
    refine ⟨loc ++ [p], σ, h ++ [.dic []], _, rs.mono x0, rh0, w', fun y h1 vy H1 loc1 q1 x1 rh1 r1 => ⟨loc1, σ, h1, _, (rs.mono x0).mono x1, rh1, q1, fun z h2 vz H2 loc2 q2 x2 rh2 r2 => ?_⟩⟩
    obtain ⟨sx, rfl⟩ : ∃ sx, y = .str sx := by cases y <;> first | exact ⟨_, rfl⟩ | exact q2.elim
    cases (r1.mono x2).str_
    obtain ⟨kvs, hn, q2⟩ := rdD_e (show rdD h2 _ _ from q2)
    obtain ⟨c, q3⟩ := chk_e q2
    have ek : kvs = [] := by cases kvs with | nil => rfl | cons _ _ => cases c
    subst ek
    have lp : (loc ++ [p])[h.length]? = some p := by rw [← rh.len]; simp
    have lp2 := x2.lc _ _ (x1.lc _ _ lp)
    obtain ⟨a', ks, ea, la, ha', rk⟩ := rh2.dic hn (rd_ref lp2)
    cases ea
    obtain rfl : ks = [] := rk
    have x3 : Xt X.kw loc2 H2 loc2 (upd H2 p (.dK [((Sum.inr sx : L2.Key), vz)])) := Xt.hid (.inr (.inr (.inl ⟨_, ha'⟩)))
    have q4 : Q' (.ref h.length) (h2.set h.length (.dic [(sx, z)])) := put_e q3
    have rk2 : RKs X.kw loc2 H2 [(sx, z)] [((Sum.inr sx : L2.Key), vz)] := ⟨vz, [], rfl, r2, rfl⟩
    have em : mergeK [] [((Sum.inr sx : L2.Key), vz)] = [((Sum.inr sx : L2.Key), vz)] := by
      show putK [] (Sum.inr sx : L2.Key) vz = _
      unfold putK
      simp
    have g : Q (.ref p) (upd H2 p (.dK (mergeK [] [((Sum.inr sx : L2.Key), vz)]))) := by
      rw [em]
      exact k _ _ _ _ loc2 q4 (((x0.trans x1).trans x2).trans x3) (rh2.setD hn la rk2) (rd_ref lp2)
    exact ⟨ha', [((Sum.inr sx : L2.Key), vz)], rfl, by simp, g⟩
theorem s_dget {cpos : Pos} (hu64 : X.A.units + 64 < cLine) (ha : PE X a (lfE bb X.kw ta)) (hb : PE X b (lfE bb X.kw tb)) (hc : PE X c (lfE bb X.kw tc)) (m : M2 X a "get" apos b c cpos) :
    PE X (.Call (.Attribute a "get" apos) [b, c] [] cpos) (lfE bb X.kw fun σ h Q => ta σ h fun d h1 => (match d with
    | .ref n => rdD h1 n fun _ => tb σ h1 fun y h2 => tc σ h2 fun z h3 => (match y with
      | .str s => rdD h3 n fun kvs => Q ((lkD kvs s).getD z) h3
      | _ => False)
    | _ => False)) :=
  pe_imp (pe_dget2 (by omega) ha hb hc m) fun s H Q ⟨loc, σ, h, Q', rs, rh, w, k⟩ => ⟨loc, σ, h, _, rs, rh, w, fun x h1 vx H1 loc1 q1 x1 rh1 r1 => by
    cases x <;> try exact q1.elim
    obtain ⟨k0, hn0, q1⟩ := rdD_e (show rdD h1 _ _ from q1)
    obtain ⟨a, ks0, rfl, la0, ha0, q0⟩ := rh1.dic hn0 r1
    refine ⟨a, rfl, .inl ⟨ks0, .inl ha0⟩, loc1, σ, h1, _, rs.mono x1, rh1, q1, fun y h2 vy H2 loc2 q2 x2 rh2 r2 => ⟨loc2, σ, h2, _, (rs.mono x1).mono x2, rh2, q2, fun z h3 vz H3 loc3 q3 x3 rh3 r3 => ?_⟩⟩
    obtain ⟨sx, rfl⟩ : ∃ sx, y = .str sx := by cases y <;> first | exact ⟨_, rfl⟩ | exact q3.elim
    cases r2.str_
    obtain ⟨kvs, hn, q3⟩ := rdD_e (show rdD h3 _ _ from q3)
    obtain ⟨a2, ks, ea, la, ha, q⟩ := rh3.dic hn (r1.mono (x2.trans x3))
    cases ea
    rcases q.val sx with ⟨e1, e2⟩ | ⟨d, v, e1, e2, rv⟩
    · rw [e1] at q3
      refine ⟨none, by rw [← e2]; exact DGet.k (k := Sum.inr sx) ha, ?_⟩
      exact (k.mono (x1.trans (x2.trans x3))).here rh3 q3 r3
    · rw [e1] at q3
      refine ⟨some v, by rw [← e2]; exact DGet.k (k := Sum.inr sx) ha, ?_⟩
      exact (k.mono (x1.trans (x2.trans x3))).here rh3 q3 rv⟩
def mthT : Mth → String | .update => "dict" | .index => "tuple" | _ => "list"
theorem rcv_ok {K : KW} {loc : List Addr} {H : Hp} {h : Hh} {m : Mth} {x : D} {v : V} {P : Prop} (hmi : m ≠ .index) (rh : RH K loc H h) (r : RD K loc H x v) (e : rcv m x h P) : tyV K (mthT m) v H ∧ P := by
  cases m
  case update =>
    cases x <;> try exact e.elim
    obtain ⟨ys, hn, e⟩ := rdD_e (show rdD h _ _ from e)
    obtain ⟨a, vs, rfl, la, ha, q⟩ := rh.dic hn r
    exact ⟨.inr (.inr (.inl ⟨rfl, .inl ⟨vs, ha⟩⟩)), e⟩
  case index => exact absurd rfl hmi
  all_goals
    cases x <;> try exact e.elim
    obtain ⟨ys, hn, e⟩ := rdL_e (show rdL h _ _ from e)
    obtain ⟨a, vs, rfl, la, ha, q⟩ := rh.lst hn r
    exact ⟨.inl ⟨rfl, _, SqL.of ha⟩, e⟩
theorem s_meth (m : Mth) (hmi : m ≠ .index) {nm : Str} {cpos : Pos} (hn : nm = mthStr m) (ha : PE X a (lfE bb X.kw ta)) (hs : PA X (e :: es) (lfA bb X.kw as)) (hbase : attributeBase a nm X.env (eval a X.env) = eval a X.env)
    (hfew : ((backTo cpos (starEach (e :: es) X.env)).all (fun x => !x.1) && (backToKw cpos (keywordEach [] X.env)).all (fun x => x.1.isSome)
      && decide ((e :: es).length + ([] : List Keyword).length + (if ([] : List Keyword).isEmpty then 0 else 1) < 30)) = true)
    (hline : (apos.endLine == cpos.line) = true) (he : starEach (e :: es) X.env = (false, eval e X.env) :: starEach es X.env) (hpl : (backTo cpos (starEach es X.env)).any (·.1) = false) :
    PE X (.Call (.Attribute a nm apos) (e :: es) [] cpos) (lfE bb X.kw fun σ h Q => ta σ h fun x h1 => rcv m x h1 (as σ h1 fun ds h2 => opMeth m x ds h2 Q)) := by
  have fin : ∀ {s : L2.St} {H : Hp} {Q : VK}, lfE bb X.kw (fun σ h Q => ta σ h fun x h1 => rcv m x h1 (as σ h1 fun ds h2 => opMeth m x ds h2 Q)) s H Q → tBM X.kw (mthT m) (lfM X.kw (opMeth m)) (lfE bb X.kw ta) (lfA bb X.kw as) s H Q :=
    fun {s H Q} ⟨loc, σ, h, Q', rs, rh, w, k⟩ => ⟨loc, σ, h, _, rs, rh, w, fun x h1 vx H1 loc1 q1 x1 rh1 r1 => by
      obtain ⟨c, q1⟩ := rcv_ok hmi rh1 r1 q1
      exact ⟨c, loc1, σ, h1, _, rs.mono x1, rh1, q1, fun y h2 vy H2 loc2 q2 x2 rh2 r2 => ⟨loc2, h2, x, y, Q', rh2, r1.mono x2, r2, q2, k.mono (x1.trans x2)⟩⟩⟩
  subst hn
  cases m
  · exact pe_imp (pe_bm PySem.F.plainAttrs_list PySem.F.slot_list_append PySem.F.type_list_append (meth_ok .append) ha hs hbase hfew hline he hpl) fun _ _ _ => fin
  · exact pe_imp (pe_bm PySem.F.plainAttrs_list PySem.F.slot_list_pop PySem.F.type_list_pop (meth_ok .pop) ha hs hbase hfew hline he hpl) fun _ _ _ => fin
  · exact pe_imp (pe_bm PySem.F.plainAttrs_list PySem.F.slot_list_pop PySem.F.type_list_pop (meth_ok .popAt) ha hs hbase hfew hline he hpl) fun _ _ _ => fin
  · exact pe_imp (pe_bm PySem.F.plainAttrs_list PySem.F.slot_list_extend PySem.F.type_list_extend (meth_ok .extend) ha hs hbase hfew hline he hpl) fun _ _ _ => fin
  · exact pe_imp (pe_bm PySem.F.plainAttrs_dict PySem.F.slot_dict_update PySem.F.type_dict_update (meth_ok .update) ha hs hbase hfew hline he hpl) fun _ _ _ => fin
  · exact absurd rfl hmi
  · exact pe_imp (pe_bm PySem.F.plainAttrs_list PySem.F.slot_list_count PySem.F.type_list_count (meth_ok .count) ha hs hbase hfew hline he hpl) fun _ _ _ => fin
  · exact pe_imp (pe_bm PySem.F.plainAttrs_list PySem.F.slot_list_index PySem.F.type_list_index (meth_ok .lindex) ha hs hbase hfew hline he hpl) fun _ _ _ => fin
  · exact pe_imp (pe_bm PySem.F.plainAttrs_list PySem.F.slot_list_insert PySem.F.type_list_insert (meth_ok .insert) ha hs hbase hfew hline he hpl) fun _ _ _ => fin
theorem s_meth0 (m : Mth) (hmi : m ≠ .index) {nm : Str} {cpos : Pos} (hn : nm = mthStr m) (ha : PE X a (lfE bb X.kw ta)) (hbase : attributeBase a nm X.env (eval a X.env) = eval a X.env) (hline : (apos.endLine == cpos.line) = true) :
    PE X (.Call (.Attribute a nm apos) [] [] cpos) (lfE bb X.kw fun σ h Q => ta σ h fun x h1 => rcv m x h1 (opMeth m x [] h1 Q)) := by
  have fin : ∀ {s : L2.St} {H : Hp} {Q : VK}, lfE bb X.kw (fun σ h Q => ta σ h fun x h1 => rcv m x h1 (opMeth m x [] h1 Q)) s H Q → tBM0 X.kw (mthT m) (lfM X.kw (opMeth m)) (lfE bb X.kw ta) s H Q :=
    fun {s H Q} ⟨loc, σ, h, Q', rs, rh, w, k⟩ => ⟨loc, σ, h, _, rs, rh, w, fun x h1 vx H1 loc1 q1 x1 rh1 r1 => by
      obtain ⟨c, q1⟩ := rcv_ok hmi rh1 r1 q1
      exact ⟨c, loc1, h1, x, [], Q', rh1, r1, RDs.nil, q1, k.mono x1⟩⟩
  subst hn
  cases m
  · exact pe_imp (pe_bm0 PySem.F.plainAttrs_list PySem.F.slot_list_append PySem.F.type_list_append (meth_ok .append) ha hbase hline) fun _ _ _ => fin
  · exact pe_imp (pe_bm0 PySem.F.plainAttrs_list PySem.F.slot_list_pop PySem.F.type_list_pop (meth_ok .pop) ha hbase hline) fun _ _ _ => fin
  · exact pe_imp (pe_bm0 PySem.F.plainAttrs_list PySem.F.slot_list_pop PySem.F.type_list_pop (meth_ok .popAt) ha hbase hline) fun _ _ _ => fin
  · exact pe_imp (pe_bm0 PySem.F.plainAttrs_list PySem.F.slot_list_extend PySem.F.type_list_extend (meth_ok .extend) ha hbase hline) fun _ _ _ => fin
  · exact pe_imp (pe_bm0 PySem.F.plainAttrs_dict PySem.F.slot_dict_update PySem.F.type_dict_update (meth_ok .update) ha hbase hline) fun _ _ _ => fin
  · exact absurd rfl hmi
  · exact pe_imp (pe_bm0 PySem.F.plainAttrs_list PySem.F.slot_list_count PySem.F.type_list_count (meth_ok .count) ha hbase hline) fun _ _ _ => fin
  · exact pe_imp (pe_bm0 PySem.F.plainAttrs_list PySem.F.slot_list_index PySem.F.type_list_index (meth_ok .lindex) ha hbase hline) fun _ _ _ => fin
  · exact pe_imp (pe_bm0 PySem.F.plainAttrs_list PySem.F.slot_list_insert PySem.F.type_list_insert (meth_ok .insert) ha hbase hline) fun _ _ _ => fin
theorem s_methT {nm : Str} {cpos : Pos} (hn : nm = mthStr .index) (ha : PE X a (lfE bb X.kw ta)) (hs : PA X (e :: es) (lfA bb X.kw as)) (hbase : attributeBase a nm X.env (eval a X.env) = eval a X.env)
    (hfew : ((backTo cpos (starEach (e :: es) X.env)).all (fun x => !x.1) && (backToKw cpos (keywordEach [] X.env)).all (fun x => x.1.isSome)
      && decide ((e :: es).length + ([] : List Keyword).length + (if ([] : List Keyword).isEmpty then 0 else 1) < 30)) = true)
    (hline : (apos.endLine == cpos.line) = true) (he : starEach (e :: es) X.env = (false, eval e X.env) :: starEach es X.env) (hpl : (backTo cpos (starEach es X.env)).any (·.1) = false) :
    PE X (.Call (.Attribute a nm apos) (e :: es) [] cpos) (lfE bb X.kw fun σ h Q => ta σ h fun x h1 => rcv .index x h1 (as σ h1 fun ys h2 => opMeth .index x ys h2 Q)) := by
  subst hn
  exact pe_imp (pe_tM PySem.F.slot_tuple_index PySem.F.type_tuple_index (meth_ok .index) ha hs hbase hfew hline he hpl) fun s H Q ⟨loc, σ, h, Q', rs, rh, w, k⟩ => ⟨loc, σ, h, _, rs, rh, w, fun x h1 vx H1 loc1 q1 x1 rh1 r1 => by
    cases x <;> try exact q1.elim
    obtain ⟨a, vs, rfl, sa, ba, q⟩ := r1.tupB
    exact ⟨⟨a, vs, rfl, sa, ba⟩, loc1, σ, h1, _, rs.mono x1, rh1, q1, fun y h2 vy H2 loc2 q2 x2 rh2 r2 => ⟨loc2, h2, .tup _, y, Q', rh2, r1.mono x2, r2, q2, k.mono (x1.trans x2)⟩⟩⟩
/-! ### targets -/
theorem puts_ok {K : KW} {loc : List Addr} {H : Hp} : ∀ {is : List Nat} {ds : List D} {vs : List V} {σ : Sg} {s : L2.St} {Q : Sg → Prop}, RDs K loc H ds vs → RS bb K loc H σ s → puts is ds σ Q → is.length = vs.length ∧ ∃ σ', RS bb K loc H σ' ((is.zip vs).foldl (fun s p => s.set p.1 (some p.2)) s) ∧ Q σ'
  | [], [], vs, σ, s, Q, r, rs, w => by
    rw [RDs] at r
    subst r
    exact ⟨rfl, σ, rs, w⟩
  | i :: is, d :: ds, vs, σ, s, Q, r, rs, w => by
    rw [RDs] at r
    obtain ⟨v, t, rfl, r1, r2⟩ := r
    obtain ⟨hl, σ', rs', q⟩ := puts_ok (is := is) r2 (rs.set i r1) w
    exact ⟨by simp [hl], σ', rs', q⟩
  | [], _ :: _, _, _, _, _, _, _, w => w.elim
  | _ :: _, [], _, _, _, _, _, _, w => w.elim
theorem g_name {i : Nat} {tg : Expr} (hg : PG X tg (gName i)) : PG X tg (lfG bb X.kw fun d σ h Q => Q (σ.set i (some d)) h) :=
  pg_imp hg fun v s H Q ⟨loc, d, σ, h, Q', rd, rs, rh, w, k⟩ => k _ _ _ _ loc w Xt.refl rh (rs.set i rd)
/-- the names' targets, one by one -/
def gNames : List Nat → TGs
  | [] => gNil
  | i :: is => gCons (gName i) (gNames is)
theorem gNames_ok : ∀ {is : List Nat} {vs : List V} {s : L2.St} {H : Hp} {Q : L2.St → Hp → Prop}, is.length = vs.length → Q ((is.zip vs).foldl (fun s p => s.set p.1 (some p.2)) s) H → gNames is vs s H Q
  | [], [], _, _, _, _, q => ⟨rfl, q⟩
  | i :: is, v :: vs, s, H, Q, e, q => ⟨v, vs, rfl, gNames_ok (by simpa using e) q⟩
  | [], _ :: _, _, _, _, e, _ => by cases e
  | _ :: _, [], _, _, _, e, _ => by cases e
theorem g_tup {is : List Nat} {ts : List Expr} {k1 : Nat} (hc : X.calm = true) (hg : PGs X ts (gNames is)) (hn : (assignEach ts X.env).length = is.length) (hst : (assignEach ts X.env).findIdx? (·.1) = none) :
    PG X (.Tuple ts k1 pos) (lfG bb X.kw fun d σ h Q => (match d with
      | .tup ds => puts is ds σ fun σ1 => Q σ1 h
      | _ => False)) :=
  pg_imp (pg_tup hc hg hn hst) fun v s H Q ⟨loc, d, σ, h, Q', rd, rs, rh, w, k⟩ => by
    cases d <;> try exact w.elim
    obtain ⟨a, vs, rfl, sq, r⟩ := rd.tup_
    obtain ⟨hl, σ', rs', q⟩ := puts_ok r rs w
    exact ⟨a, vs, rfl, sq, hl.symm, gNames_ok hl (k _ _ _ _ loc q Xt.refl rh rs')⟩
theorem g_sub {o i : Expr} (hu64 : X.A.units + 64 < cLine) (ho : PE X o (lfE bb X.kw ta)) (hi : PE X i (lfE bb X.kw tb)) (hass : ∀ v, assign (.Subscript o i pos) X.env v = (do
      let ov ← holding [v] (eval o X.env)
      let iv ← holding [v, ov] (eval i X.env)
      standAt pos
      holding [v, ov, iv] (setItem ov iv v)
      release [v, ov, iv] [])) : PG X (.Subscript o i pos) (lfG bb X.kw fun d σ h Q => ta σ h fun o h1 => tb σ h1 fun k h2 => opSet o k d h2 fun h3 => Q σ h3) :=
  pg_imp (pg_sub ho hi (set_ok hu64) hass) fun v s H Q ⟨loc, d, σ, h, Q', rd, rs, rh, w, k⟩ => ⟨loc, σ, h, _, rs, rh, w, fun x h1 vx H1 loc1 q1 x1 rh1 r1 => ⟨loc1, σ, h1, _, rs.mono x1, rh1, q1, fun y h2 vy H2 loc2 q2 x2 rh2 r2 =>
    ⟨loc2, h2, x, y, d, _, rh2, r1.mono x2, r2, (rd.mono x1).mono x2, q2, fun h3 H3 q3 x3 rh3 => k _ _ _ _ loc2 q3 (x1.trans (x2.trans x3)) rh3 (((rs.mono x1).mono x2).mono x3)⟩⟩⟩
theorem wipe_at (s : L2.St) (j : Nat) : ∀ vs : List Nat, (L2.wipe s vs)[j]? = if j ∈ vs then (if j < s.length then some none else none) else s[j]?
  | [] => by simp [L2.wipe]
  | v :: vs => by
    have ih := wipe_at s j vs
    show ((L2.wipe s vs).set v none)[j]? = _
    rw [List.getElem?_set, L2.wipe_length]
    by_cases hv : v = j
    · subst hv
      simp
    · rw [if_neg hv, ih]
      have e : (j ∈ v :: vs) = (j ∈ vs) := by
        simp only [List.mem_cons, eq_iff_iff]
        exact ⟨fun h => h.resolve_left fun z => hv z.symm, .inr⟩
      simp only [e]
theorem wipe_set {s : L2.St} {i : Nat} {v : Option V} {vs : List Nat} (hi : i ∈ vs) : L2.wipe (s.set i v) vs = L2.wipe s vs := by
  refine List.ext_getElem? fun j => ?_
  rw [wipe_at, wipe_at]
  by_cases hj : j ∈ vs
  · rw [if_pos hj, if_pos hj, List.length_set]
  · rw [if_neg hj, if_neg hj]
    have : i ≠ j := fun e => hj (e ▸ hi)
    rw [List.getElem?_set_ne this]
theorem wipe_sets {vs : List Nat} : ∀ {is : List Nat} {ws : List V} {s : L2.St}, (∀ i ∈ is, i ∈ vs) → L2.wipe ((is.zip ws).foldl (fun s p => s.set p.1 (some p.2)) s) vs = L2.wipe s vs
  | [], _, _, _ => rfl
  | _ :: _, [], _, _ => rfl
  | i :: is, w :: ws, s, h => by
    show L2.wipe ((is.zip ws).foldl _ (s.set i (some w))) vs = _
    rw [wipe_sets fun j hj => h j (List.mem_cons_of_mem _ hj), wipe_set (h i List.mem_cons_self)]
theorem own_name {K : KW} {i : Nat} {vs : List Nat} (hi : i ∈ vs) : OwnG bb K (fun d σ h Q => Q (σ.set i (some d)) h) (gName i) vs := fun loc d v σ s h H Q R rd rs rh w k =>
  k _ _ (wipe_set hi) (rs.set i rd) w
theorem own_tup {K : KW} {is vs : List Nat} (hi : ∀ i ∈ is, i ∈ vs) : OwnG bb K (fun d σ h Q => (match d with
      | .tup ds => puts is ds σ fun σ1 => Q σ1 h
      | _ => False)) (gTup K is.length (gNames is)) vs := fun loc d v σ s h H Q R rd rs rh w k => by
  cases d <;> try exact w.elim
  obtain ⟨a, ws, rfl, sq, r⟩ := rd.tup_
  obtain ⟨hl, σ', rs', q⟩ := puts_ok r rs w
  exact ⟨a, ws, rfl, sq, hl.symm, gNames_ok hl (k _ _ (wipe_sets hi) rs' q)⟩
/-! ### what is walked -/
theorem i_seq {tg : Expr} (he : PE X e (lfE bb X.kw te)) : PI X tg e (lfI bb X.kw fun σ h Q => te σ h fun d h1 => walkOf h1 d fun w => Q w h1) :=
  pi_imp (pi_any he) fun s H R ⟨loc, σ, h, Q', rs, rh, w, k⟩ => ⟨loc, σ, h, _, rs, rh, w, fun x h1 vx H1 loc1 q1 x1 rh1 r1 => by
    cases x <;> try exact q1.elim
    · cases r1.str_
      exact .inl ⟨_, rfl, k _ _ _ _ loc1 q1 x1 rh1 snap_str⟩
    · obtain ⟨a, vs, rfl, sq, r⟩ := r1.tup_
      exact .inr ⟨a, rfl, .inr ⟨⟨vs, sq⟩, k _ _ _ _ loc1 q1 x1 rh1 (snap_tup sq r)⟩⟩
    · rename_i n
      obtain ⟨o, hn, q1⟩ := rdO_e (show rdO h1 n _ from q1)
      cases o with
      | lst ys =>
        obtain ⟨a, vs, rfl, la, ha, q⟩ := rh1.lst hn r1
        exact .inr ⟨a, rfl, .inl ⟨⟨vs, SqL.of ha⟩, k _ _ _ _ loc1 q1 x1 rh1 ⟨a, rfl, la⟩⟩⟩
      | frz ys =>
        obtain ⟨a, rfl, la⟩ := r1.ref_
        obtain ⟨b, lb, vs, fz, r⟩ := rh1.ob n _ hn
        cases la.symm.trans lb
        exact .inr ⟨a, rfl, .inl ⟨⟨vs, fz.sq⟩, k _ _ _ _ loc1 q1 x1 rh1 (snap_frz fz r)⟩⟩
      | dic _ => exact q1.elim
      | dtp _ => exact q1.elim⟩
theorem i_rng1 {tg : Expr} (hg : Gl X "range") (hm : X.mg "range" = none) (ha : PE X a (lfE bb X.kw ta)) (hs : starEach [a] X.env = [(false, eval a X.env)]) : PI X tg (.Call (.Name "range" p) [a] [] pos) (lfI bb X.kw fun σ h Q => ta σ h fun d h1 => (match d with
    | .int n => chk (decide (n.natAbs < 2 ^ 62)) (Q (.snap (range n.toNat 0 0)) h1)
    | _ => False)) :=
  pi_imp (pi_range1 hg hm (pa_cons ha pa_nil hs) hs) fun s H R ⟨loc, σ, h, Q', rs, rh, w, k⟩ => ⟨loc, σ, h, _, rs, rh, w, fun x h1 vx H1 loc1 q1 x1 rh1 r1 => by
    cases x <;> try exact q1.elim
    cases r1.int_
    obtain ⟨c, q1⟩ := chk_e q1
    have c' := of_decide_eq_true c
    exact ⟨_, rfl, by omega, by omega, k _ _ _ _ loc1 q1 x1 rh1 snap_rng⟩⟩
theorem i_rng2 {tg : Expr} (hg : Gl X "range") (hm : X.mg "range" = none) (ha : PE X a (lfE bb X.kw ta)) (hb : PE X b (lfE bb X.kw tb)) (hs : starEach [a, b] X.env = [(false, eval a X.env), (false, eval b X.env)]) (hs2 : starEach [b] X.env = [(false, eval b X.env)]) :
    PI X tg (.Call (.Name "range" p) [a, b] [] pos) (lfI bb X.kw fun σ h Q => ta σ h fun d h1 => tb σ h1 fun e h2 => (match d, e with
    | .int lo, .int hi => chk (decide (lo.natAbs < 2 ^ 62) && decide (hi.natAbs < 2 ^ 62)) (Q (.snap (range (hi - lo).toNat lo 0)) h2)
    | _, _ => False)) :=
  pi_imp (pi_range2 hg hm (pa_cons ha (pa_cons hb pa_nil hs2) (by rw [hs, hs2])) hs hs2) fun s H R ⟨loc, σ, h, Q', rs, rh, w, k⟩ => ⟨loc, σ, h, _, rs, rh, w, fun x h1 vx H1 loc1 q1 x1 rh1 r1 => ⟨loc1, σ, h1, _, rs.mono x1, rh1, q1, fun y h2 vy H2 loc2 q2 x2 rh2 r2 => by
    cases x <;> cases y <;> try exact q2.elim
    cases r1.int_
    cases r2.int_
    obtain ⟨c, q2⟩ := chk_e q2
    obtain ⟨c1, c2⟩ := Bool.and_eq_true_iff.mp c
    have c1' := of_decide_eq_true c1
    have c2' := of_decide_eq_true c2
    exact ⟨_, _, rfl, ⟨by omega, by omega, by omega, by omega⟩, k _ _ _ _ loc2 q2 (x1.trans x2) rh2 snap_rng⟩⟩⟩
/-! ### statements -/
variable {st : Stmt} {bl : List Stmt} {t u : TwS} {tg : Expr} {wg : TwG} {wi : TwI}
theorem t_expr (he : PE X e (lfE bb X.kw te)) (hs : swapsWith e none pos.line X.env = pure false) : PS X (.Expr e pos) (lfS bb X.kw fun R σ h => te σ h fun _ h1 => R.nx σ h1) :=
  ps_imp (ps_expr he hs) fun E s H ⟨loc, σ, h, R, rs, rh, w, k⟩ => ⟨loc, σ, h, _, rs, rh, w, fun x h1 vx H1 loc1 q1 x1 rh1 r1 => k.nx _ _ _ _ loc1 q1 x1 rh1 (rs.mono x1)⟩
theorem asg_ok {E : Ends} {s : L2.St} {H : Hp} (w : lfS bb X.kw (fun R σ h => te σ h fun d h1 => wg d σ h1 R.nx) E s H) : tAsg (lfE bb X.kw te) (lfG bb X.kw wg) E s H := by
  obtain ⟨loc, σ, h, R, rs, rh, w, k⟩ := w
  exact ⟨loc, σ, h, _, rs, rh, w, fun x h1 vx H1 loc1 q1 x1 rh1 r1 => ⟨loc1, x, σ, h1, R.nx, r1, rs.mono x1, rh1, q1, k.nx.mono x1⟩⟩
theorem t_asg (he : PE X e (lfE bb X.kw te)) (hg : PG X tg (lfG bb X.kw wg)) (hs : swapsWithSole [tg] e pos.line X.env = pure false) (hw : swappedStores [tg] e X.env = pure none) (h1 : (assignEach [tg] X.env).map (·.2) = [assign tg X.env]) :
    PS X (.Assign [tg] e pos) (lfS bb X.kw fun R σ h => te σ h fun d h1 => wg d σ h1 R.nx) := ps_imp (ps_asg he hg hs hw h1) fun E s H w => asg_ok w
theorem t_set {i : Nat} {y : Str} {py : Pos} (hN : X.N.Nodup) (hi : X.N[i]? = some y) (hx : Loc X.env.scope y) (he : PE X e (lfE bb X.kw te)) (hs : swapsWith e (some (.Name y py)) pos.line X.env = pure false) (hf : X.fn y = true ∨ X.env.scope.names.lookup y = some .local) :
    PS X (.Assign [.Name y py] e pos) (lfS bb X.kw fun R σ h => te σ h fun d h1 => R.nx (σ.set i (some d)) h1) :=
  ps_imp (ps_set hN hi hx he hs hf) fun E s H ⟨loc, σ, h, R, rs, rh, w, k⟩ => ⟨loc, σ, h, _, rs, rh, w, fun x h1 vx H1 loc1 q1 x1 rh1 r1 => k.nx _ _ _ _ loc1 q1 x1 rh1 ((rs.mono x1).set i r1)⟩
theorem t_par {i j : Nat} {x y : Str} {a b : Expr} {px py pt : Pos} {kt k2 pt2} (hc : X.calm = true) (hN : X.N.Nodup) (hi : X.N[i]? = some x) (hj : X.N[j]? = some y) (hij : i ≠ j)
    (hx : X.env.scope.names.lookup x = some .local) (hy : X.env.scope.names.lookup y = some .local) (ha : PA X [a, b] (lfA bb X.kw as))
    (hw : swappedStores [.Tuple [.Name x px, .Name y py] kt pt] (.Tuple [a, b] k2 pt2) X.env = pure (some [x, y]))
    (hs : swapsWithSole [.Tuple [.Name x px, .Name y py] kt pt] (.Tuple [a, b] k2 pt2) pos.line X.env = pure false) :
    PS X (.Assign [.Tuple [.Name x px, .Name y py] kt pt] (.Tuple [a, b] k2 pt2) pos) (lfS bb X.kw fun R σ h => as σ h fun ds h1 => chk (lenOk ds.length) (puts [i, j] ds σ fun σ1 => R.nx σ1 h1)) :=
  ps_imp (ps_par hc hN hi hj hij hx hy ha hw hs) fun E s H ⟨loc, σ, h, R, rs, rh, w, k⟩ => ⟨loc, σ, h, _, rs, rh, w, fun ds h1 vs H1 loc1 q1 x1 rh1 r1 => by
    obtain ⟨c, q1⟩ := chk_e q1
    obtain ⟨hl, σ', rs', q⟩ := puts_ok r1 (rs.mono x1) q1
    match vs, hl with
    | [v, w'], _ => exact ⟨v, w', rfl, k.nx _ _ _ _ loc1 q x1 rh1 rs'⟩⟩
theorem t_aug (op : BOp) {i : Nat} {y : Str} {py : Pos} (hN : X.N.Nodup) (hi : X.N[i]? = some y) (hx : Loc X.env.scope y) (he : PE X e (lfE bb X.kw te)) (hf : X.fn y = true ∨ X.env.scope.names.lookup y = some .local) :
    PS X (.AugAssign (.Name y py) (bopOf op) e pos) (lfS bb X.kw fun R σ h => look σ i fun d => te σ h fun y h1 => opAug op d y h1 fun z h2 => R.nx (σ.set i (some z)) h2) :=
  ps_imp (ps_aug hN hi hx he (op_aug op) hf) fun E s H ⟨loc, σ, h, R, rs, rh, w, k⟩ => by
    have w' : look σ i fun d => te σ h fun y h1 => opAug op d y h1 fun z h2 => R.nx (σ.set i (some z)) h2 := w
    unfold look at w'
    split at w'
    · rename_i d hd
      obtain ⟨v, hv, r⟩ := rs.2.1 i d hd
      exact ⟨v, hv, loc, σ, h, _, rs, rh, w', fun x h1 vx H1 loc1 q1 x1 rh1 r1 => ⟨loc1, h1, d, x, _, rh1, r.mono x1, r1, q1, fun z h2 vz H2 loc2 q2 x2 rh2 r2 => k.nx _ _ _ _ loc2 q2 (x1.trans x2) rh2 (((rs.mono x1).mono x2).set i r2)⟩⟩
    · exact w'.elim
theorem t_ret (he : PE X e (lfE bb X.kw te)) : PS X (.Return (some e) pos) (lfS bb X.kw fun R σ h => te σ h R.rt) :=
  ps_imp (ps_ret he) fun E s H ⟨loc, σ, h, R, rs, rh, w, k⟩ => ⟨loc, σ, h, _, rs, rh, w, k.rt⟩
theorem t_retN : PS X (.Return none pos) (lfS bb X.kw fun R _ h => R.rt .non h) := ps_imp ps_retN fun E s H ⟨loc, σ, h, R, rs, rh, w, k⟩ => k.rt.here rh w rd_non
theorem t_pass : PS X (.Pass pos) (lfS bb X.kw fun R σ h => R.nx σ h) := ps_imp ps_pass fun E s H ⟨loc, σ, h, R, rs, rh, w, k⟩ => k.nx _ _ _ _ loc w Xt.refl rh rs
theorem t_brk : PS X (.Break pos) (lfS bb X.kw fun R σ h => R.bk σ h) := ps_imp ps_break fun E s H ⟨loc, σ, h, R, rs, rh, w, k⟩ => k.bk _ _ _ _ loc w Xt.refl rh rs
theorem t_cnt : PS X (.Continue pos) (lfS bb X.kw fun R σ h => R.ct σ h) := ps_imp ps_continue fun E s H ⟨loc, σ, h, R, rs, rh, w, k⟩ => k.ct _ _ _ _ loc w Xt.refl rh rs
theorem t_ife {sa sb : List Stmt} (ht : PT X c (lfT bb X.kw tt)) (ha : PSs X sa (lfS bb X.kw t)) (hb : PSs X sb (lfS bb X.kw u)) : PS X (.If c sa sb pos) (lfS bb X.kw fun R σ h => tt σ h fun r h1 => br r (t R σ h1) (u R σ h1)) :=
  ps_imp (ps_if ht ha hb) fun E s H ⟨loc, σ, h, R, rs, rh, w, k⟩ => ⟨loc, σ, h, _, rs, rh, w, fun r h1 H1 loc1 q1 x1 rh1 => by
    rcases br_e q1 with ⟨rfl, q1'⟩ | ⟨rfl, q1'⟩
    · exact L2.iteT ⟨loc1, σ, h1, R, rs.mono x1, rh1, q1', k.mono x1⟩
    · exact L2.iteF ⟨loc1, σ, h1, R, rs.mono x1, rh1, q1', k.mono x1⟩⟩
theorem t_whl {sb : List Stmt} (hp : PassesOwn (model X.prog X.w) X.A X.env X.xe) (ht : PT X c (lfT bb X.kw tt)) (hb : PSs X sb (lfS bb X.kw u)) : PS X (.While c sb [] pos) (lfS bb X.kw fun R σ h => loopW tt u R fuel σ h) :=
  ps_imp (ps_while hp ht hb) fun E s H w => while_ok w
theorem t_for {sb : List Stmt} (hp : PassesOwn (model X.prog X.w) X.A X.env X.xe) (hc : X.calm = true) (hi : PI X tg e (lfI bb X.kw wi)) (hg : PG X tg (lfG bb X.kw wg)) (hb : PSs X sb (lfS bb X.kw u)) (hs : ∀ x, foldedSetIterable e X.env x = pure x) :
    PS X (.For tg e sb [] pos) (lfS bb X.kw (wFor wi wg u)) := ps_imp (ps_for hp hc hi hg hb hs) fun E s H w => for_ok w
theorem b_nil : PSs X [] (lfS bb X.kw fun R σ h => R.nx σ h) := pss_imp pss_nil fun E s H ⟨loc, σ, h, R, rs, rh, w, k⟩ => k.nx _ _ _ _ loc w Xt.refl rh rs
theorem b_cons (h1 : PS X st (lfS bb X.kw t)) (h2 : PSs X bl (lfS bb X.kw u)) : PSs X (st :: bl) (lfS bb X.kw fun R σ h => t { R with nx := u R } σ h) :=
  pss_imp (pss_cons h1 h2) fun E s H ⟨loc, σ, h, R, rs, rh, w, k⟩ => ⟨loc, σ, h, _, rs, rh, w, ⟨fun σ' h' s' H' loc' q x rh' rs' => ⟨loc', σ', h', R, rs', rh', q, k.mono x⟩, k.rt, k.bk, k.ct⟩⟩
end
end Mi

set_option Elab.async false
set_option linter.all false
set_option maxRecDepth 100000
set_option maxHeartbeats 1000000
/-! Mi: errors: raise C(e, ..), try .. except C as x: return .. -/
namespace Mi
open PySem PySem.Spec PyProof.Rows L2
/-- the promise of an __init__ that stores its parameters -/
def spI (K : PySem.W.Frag) (fs : List Str) : Sp := fun vs H Q _ => ∃ (a C : Addr) (ws : List V), vs = .ref a :: ws ∧ ws.length = fs.length ∧ OexC K C ∧ H a = some (exo a C none) ∧ (∀ f ∈ fs, PySem.W.findIn K (.ref C) f = some none) ∧
  (∀ (dx : Addr) (H' : Hp), H dx = none → dx ≠ a → H' dx = some (exd dx (fs.zip ws).reverse) → H' a = some (exo a C (some dx)) → (∀ b, b ≠ dx → b ≠ a → H' b = H b) → Q .non H')
/-- what the written part says of an error's class x with the fields fs -/
structure XCls (P : Program) (w : World) (K : PySem.W.Frag) (mg : Str → Option Value) (base : Heap) (x : Str) (fs : List Str) (C : Addr) : Prop where
  gC : mg x = some (.ref C)
  oe : OexC K C
  xf : XfC K C
  no : ∀ f ∈ fs, PySem.W.findIn K (.ref C) f = some none
  nf : fs.length ≤ 90
  ini : ∃ (fI : Addr) (fd : FuncData), PySem.W.findIn K (.ref C) "__init__" = some (some (.ref fI)) ∧ PySem.W.typeIn K (.ref fI) = some (.type "function") ∧ Binds K fd ("self" :: fs) [] ∧ FnOk P w K mg base CX0 1 fI fd ("self" :: fs) (spI K fs)
section
variable {K : KW} {loc loc' : List Addr} {H H' : Hp}
theorem RXs.mono (x : Xt K loc H loc' H') {kvs : List (Str × D)} {xd : List (Str × V)} (r : RXs K loc H kvs xd) : RXs K loc' H' kvs xd := fun n z e => by
  obtain ⟨v, e1, q⟩ := r n z e
  exact ⟨v, e1, q.mono x⟩
theorem RXs.cons {f : Str} {d : D} {v : V} {kvs : List (Str × D)} {xd : List (Str × V)} (q : RD K loc H d v) (r : RXs K loc H kvs xd) : RXs K loc H ((f, d) :: kvs) ((f, v) :: xd) := fun n z e => by
  have e' : (if strEq f n then some d else lkD kvs n) = some z := e
  rw [lookup_put]
  by_cases h : f = n
  · rw [if_pos (strEq_iff.mpr h)] at e'
    cases e'
    rw [if_pos h.symm]
    exact ⟨v, rfl, q⟩
  · rw [if_neg (fun y => h (strEq_iff.mp y))] at e'
    rw [if_neg (fun y => h y.symm)]
    exact r n z e'
theorem rxs_zip : ∀ (fs : List Str) {ds : List D} {vs : List V} {kvs : List (Str × D)} {xd : List (Str × V)}, RDs K loc H ds vs → RXs K loc H kvs xd → RXs K loc H ((fs.zip ds).reverse ++ kvs) ((fs.zip vs).reverse ++ xd)
  | [], ds, vs, kvs, xd, r, q => by simpa using q
  | f :: fs, [], vs, kvs, xd, r, q => by
    rw [RDs] at r
    subst r
    simpa using q
  | f :: fs, d :: ds, vs, kvs, xd, r, q => by
    rw [RDs] at r
    obtain ⟨v, t, rfl, r1, r2⟩ := r
    have := rxs_zip fs r2 (q.cons (f := f) r1)
    simpa using this
end
section
variable {bb : BB} {X : Cx} {e : Expr} {es : List Expr} {as : TwA} {pos p pos2 : Pos}
theorem t_rse {W : WX} {EX : Ex} {x : Str} {fs : List Str} {C : Addr} (hc : X.calm = true) (tk : Takes X W) (xw : XW X.kw X.mg bb EX W) (T : XCls X.prog X.w X.K X.mg X.base x fs C) (hr : Room 2 X.A) (hg : Gl X x) (hdb : (x == ("__debug__" : Str)) = false)
    (hs : PA X (e :: es) (lfA bb X.kw as)) (he : starEach (e :: es) X.env = (false, eval e X.env) :: starEach es X.env) (hpl : (backTo pos (starEach es X.env)).any (·.1) = false) :
    PS X (.Raise (some (.Call (.Name x p) (e :: es) [] pos)) none pos2) (lfS bb X.kw fun R σ h => as σ h fun ds h1 => chk (decide (ds.length = fs.length)) (EX x (fs.zip ds).reverse h1)) := by
  obtain ⟨fI, fd, iC, tI, hb, F1⟩ := T.ini
  refine ps_imp (ps_raise hc tk (pmk_oex T.oe iC tI F1 hr hb .nil (fun _ _ _ _ _ _ _ z => z.elim) hg T.gC hs hdb he hpl)) fun D s H ⟨loc, σ, h, R, rs, rh, w, k⟩ => ?_
  refine ⟨loc, σ, h, _, rs, rh, w, fun ds h1 vs H1 loc1 q1 x1 rh1 r1 => ?_⟩
  obtain ⟨c, q⟩ := chk_e q1
  have hl : ds.length = fs.length := of_decide_eq_true c
  have hv : vs.length = fs.length := r1.length.trans hl
  have nf := T.nf
  refine ⟨by omega, fun a ha => ⟨a, C, vs, by rw [List.append_nil], hv, T.oe, upd_same, T.no, fun dx H' hd hda e1 e2 e3 => ?_⟩⟩
  have hd1 : H1 dx = none := by
    rw [upd_ne hda] at hd
    exact hd
  refine ⟨rfl, dx, (fs.zip vs).reverse, e2, e1, hd1, ?_⟩
  have eu : upd (del H' a) dx (.xd (fs.zip vs).reverse) = upd H1 dx (.xd (fs.zip vs).reverse) := by
    funext b
    by_cases hb : b = dx
    · rw [hb, upd_same, upd_same]
    · rw [upd_ne hb, upd_ne hb]
      by_cases hba : b = a
      · rw [hba, del_same, ha]
      · rw [del_ne hba, e3 b hb hba, upd_ne hba]
  rw [eu]
  have rx : RXs X.kw loc1 H1 (fs.zip ds).reverse (fs.zip vs).reverse := by
    have := rxs_zip (K := X.kw) (loc := loc1) (H := H1) fs (kvs := []) (xd := []) r1 (fun n z e => by cases e)
    simpa using this
  exact xw s (rs.1.trans rs.2.2.2) x _ h1 H1 loc1 dx C _ q T.gC (rs.2.2.1.trans x1) rh1 rx hd1
end
/-! ### the except suite -/
def haB (y : Option Str) (ns : List Str) : HA → Expr → Bool
  | .non, e => (match e with | .Constant .none _ _ => true | _ => false)
  | .bl b, e => (match e with | .Constant (.bool c) _ _ => decide (b = c) | _ => false)
  | .int i, e => (match e with | .Constant (.int j) _ _ => decide (i = j) | _ => false)
  | .str x, e => (match e with | .Constant (.str z) _ _ => decide (x = z) | _ => false)
  | .fld n, e => (match e with | .Attribute (.Name x _) n' _ => decide (n = n') && (decide (y = some x) && ns.any fun m => strEq n m) | _ => false)
def hasB (y : Option Str) (ns : List Str) : List HA → List Expr → Bool
  | [], es => (match es with | [] => true | _ => false)
  | a :: as, es => (match es with | e :: es => haB y ns a e && hasB y ns as es | _ => false)
def heB (y : Option Str) (ns : List Str) : HE → Expr → Bool
  | .one a, e => haB y ns a e
  | .tup as, e => (match e with | .Tuple es _ _ => hasB y ns as es | _ => false)
/-- what is known in the suite: the error at a, its class, its dict; slot i holds it -/
structure InH (K : KW) (i : Option Nat) (ns : List Str) (a : Addr) (cls : Value) (d : Option Addr) (σ : L2.St) (H : Hp) (loc : List Addr) (kvs : List (Str × D)) : Prop where
  sl : ∀ j, i = some j → σ[j]? = some (some (.ref a))
  ex : ∃ (dd C : Addr) (xd : List (Str × V)), cls = .ref C ∧ XfC K C ∧ (∀ n ∈ ns, PySem.W.findIn K (.ref C) n = some none) ∧ d = some dd ∧ H dd = some (.xd xd) ∧ RXs K loc H kvs xd
section
variable {X : Cx} {a : Addr} {oe : Obj} {cls : Value} {d : Option Addr} {pn : List (Addr × Obj)} {i : Option Nat} {y : Option Str} {ns : List Str} {e : Expr} {es : List Expr} {pos : Pos}
/-- an atom: the heap stays -/
def lfHa (K : KW) (i : Option Nat) (ns : List Str) (a : Addr) (cls : Value) (d : Option Addr) (A : HA) : TE := fun σ H Q => ∃ loc kvs z, InH K i ns a cls d σ H loc kvs ∧ A.val kvs = some z ∧ ∀ v, RD K loc H z v → Q v H
def lfHas (K : KW) (i : Option Nat) (ns : List Str) (a : Addr) (cls : Value) (d : Option Addr) (As : List HA) : TA := fun σ H Q => ∃ loc kvs zs, InH K i ns a cls d σ H loc kvs ∧ HA.vals kvs As = some zs ∧ ∀ vs, RDs K loc H zs vs → Q vs H
def lfH (K : KW) (i : Option Nat) (ns : List Str) (a : Addr) (cls : Value) (d : Option Addr) (E : HE) : TE := fun σ H Q => ∃ loc h kvs z, InH K i ns a cls d σ H loc kvs ∧ RH K loc H h ∧ E.val kvs = some z ∧ ∀ v H' loc', Xt K loc H loc' H' → RH K loc' H' h → RD K loc' H' z v → Q v H'
theorem ha_ok (hi : ∀ j x, i = some j → y = some x → X.N[j]? = some x ∧ Vis X.env.scope x ∧ (x == ("__debug__" : Str)) = false ∧ (x == ("__classdict__" : Str)) = false) (hiy : ∀ x, y = some x → ∃ j, i = some j) (hz : Zc cls d oe) (hf : ∃ vs, oe.data = .fields vs) :
    ∀ (A : HA) (e : Expr), haB y ns A e = true → PE (X.suite a ((a, oe) :: pn)) e (lfHa X.kw i ns a cls d A)
  | .non, e, h => by
    cases e <;> first | exact Bool.noConfusion (show false = true from h) | skip
    rename_i v _ _
    cases v <;> first | exact Bool.noConfusion (show false = true from h) | exact pe_imp pe_non fun s H Q ⟨loc, kvs, z, hh, ez, w⟩ => by cases ez; exact w _ rd_non
  | .bl b, e, h => by
    cases e <;> first | exact Bool.noConfusion (show false = true from h) | skip
    rename_i v _ _
    cases v <;> first | exact Bool.noConfusion (show false = true from h) | skip
    obtain rfl := of_decide_eq_true h
    exact pe_imp pe_bl fun s H Q ⟨loc, kvs, z, hh, ez, w⟩ => by cases ez; exact w _ rd_bl
  | .int b, e, h => by
    cases e <;> first | exact Bool.noConfusion (show false = true from h) | skip
    rename_i v _ _
    cases v <;> first | exact Bool.noConfusion (show false = true from h) | skip
    obtain rfl := of_decide_eq_true h
    exact pe_imp pe_int fun s H Q ⟨loc, kvs, z, hh, ez, w⟩ => by cases ez; exact w _ rd_int
  | .str b, e, h => by
    cases e <;> first | exact Bool.noConfusion (show false = true from h) | skip
    rename_i v _ _
    cases v <;> first | exact Bool.noConfusion (show false = true from h) | skip
    obtain rfl := of_decide_eq_true h
    exact pe_imp pe_str fun s H Q ⟨loc, kvs, z, hh, ez, w⟩ => by cases ez; exact w _ rd_str
  | .fld n, e, h => by
    cases e <;> first | exact Bool.noConfusion (show false = true from h) | skip
    rename_i eo n' ap
    cases eo <;> first | exact Bool.noConfusion (show false = true from h) | skip
    rename_i x xp
    obtain ⟨h1, h2⟩ := Bool.and_eq_true_iff.mp (show (decide (n = n') && (decide (y = some x) && ns.any fun m => strEq n m)) = true from h)
    obtain ⟨h2, h3⟩ := Bool.and_eq_true_iff.mp h2
    obtain rfl := of_decide_eq_true h1
    have hy := of_decide_eq_true h2
    obtain ⟨m, hm, em⟩ := List.any_eq_true.mp h3
    obtain rfl := strEq_iff.mp em
    obtain ⟨j, hj⟩ := hiy x hy
    obtain ⟨q1, q2, q3, q4⟩ := hi j x hj hy
    refine ⟨fun pins s σ H Q I ⟨loc, kvs, z, hh, ez, w⟩ => ?_⟩
    obtain ⟨dd, C, xd, ec, T, no, ed, eh, rx⟩ := hh.ex
    obtain ⟨v, ev, rv⟩ := rx n z ez
    exact (pe_xf T (no n hm) hz hf (pe_var (X := X.suite a ((a, oe) :: pn)) q1 q2 q3 q4)).run pins s σ H Q I ⟨_, hh.sl j hj, rfl, ec, dd, xd, v, ed, eh, ev, w v rv⟩
def nst : Expr → Bool
  | .Starred _ _ => false
  | _ => true
theorem star_of {e : Expr} {env : Env} (h : nst e = true) : starEach (e :: es) env = (false, eval e env) :: starEach es env := by
  cases e <;> first | exact Bool.noConfusion (show false = true from h) | rfl
theorem haB_star {A : HA} (h : haB y ns A e = true) : nst e = true := by
  cases A <;> (cases e <;> first | rfl | exact Bool.noConfusion (show false = true from h))
theorem has_ok (hi : ∀ j x, i = some j → y = some x → X.N[j]? = some x ∧ Vis X.env.scope x ∧ (x == ("__debug__" : Str)) = false ∧ (x == ("__classdict__" : Str)) = false) (hiy : ∀ x, y = some x → ∃ j, i = some j) (hz : Zc cls d oe) (hf : ∃ vs, oe.data = .fields vs) :
    ∀ (As : List HA) (es : List Expr), hasB y ns As es = true → PA (X.suite a ((a, oe) :: pn)) es (lfHas X.kw i ns a cls d As)
  | [], [], _ => pa_imp pa_nil fun s H Q ⟨loc, kvs, zs, hh, ez, w⟩ => by cases ez; exact w _ RDs.nil
  | [], _ :: _, h => Bool.noConfusion (show false = true from h)
  | _ :: _, [], h => Bool.noConfusion (show false = true from h)
  | A :: As, e :: es, h => by
    obtain ⟨h1, h2⟩ := Bool.and_eq_true_iff.mp (show (haB y ns A e && hasB y ns As es) = true from h)
    refine pa_imp (pa_cons (ha_ok hi hiy hz hf A e h1) (has_ok hi hiy hz hf As es h2) (star_of (haB_star h1))) fun s H Q ⟨loc, kvs, zs, hh, ez, w⟩ => ?_
    have ez' : (match A.val kvs with
      | some d => (match HA.vals kvs As with
        | some ds => some (d :: ds)
        | none => none)
      | none => none) = some zs := ez
    cases e1 : A.val kvs with
    | none => rw [e1] at ez'; cases ez'
    | some z =>
      cases e2 : HA.vals kvs As with
      | none => rw [e1, e2] at ez'; cases ez'
      | some zs2 =>
        rw [e1, e2] at ez'
        cases ez'
        exact ⟨loc, kvs, z, hh, e1, fun v rv => ⟨loc, kvs, zs2, hh, e2, fun vs rvs => w _ (RDs.cons rv rvs)⟩⟩
theorem h_ok (hi : ∀ j x, i = some j → y = some x → X.N[j]? = some x ∧ Vis X.env.scope x ∧ (x == ("__debug__" : Str)) = false ∧ (x == ("__classdict__" : Str)) = false) (hiy : ∀ x, y = some x → ∃ j, i = some j) (hz : Zc cls d oe) (hf : ∃ vs, oe.data = .fields vs) (E : HE) (e : Expr) (h : heB y ns E e = true) :
    PE (X.suite a ((a, oe) :: pn)) e (lfH X.kw i ns a cls d E) := by
  cases E with
  | one A => exact pe_imp (ha_ok hi hiy hz hf A e h) fun s H Q ⟨loc, hs, kvs, z, hh, rh, ez, w⟩ => ⟨loc, kvs, z, hh, ez, fun v rv => w v H loc Xt.refl rh rv⟩
  | tup As =>
    cases e <;> first | exact Bool.noConfusion (show false = true from h) | skip
    refine pe_imp (pe_tupF (has_ok hi hiy hz hf As _ h)) fun s H Q ⟨loc, hs, kvs, z, hh, rh, ez, w⟩ => ?_
    have ez' : (match HA.vals kvs As with
      | some ds => if lenOk ds.length then some (D.tup ds) else none
      | none => none) = some z := ez
    cases e2 : HA.vals kvs As with
    | none => rw [e2] at ez'; cases ez'
    | some zs =>
      rw [e2] at ez'
      have ez2 : (if lenOk zs.length then some (D.tup zs) else none) = some z := ez'
      split at ez2
      · rename_i hl
        cases ez2
        refine ⟨loc, kvs, zs, hh, e2, fun vs rvs => ⟨by rw [rvs.length]; exact lenOk_i hl, ?_⟩⟩
        exact Kx.tup (K := X.kw) (Q' := fun z' h' => z' = .tup zs ∧ h' = hs) (fun z' h' v H' loc' q x rh' rd => by
          obtain ⟨rfl, rfl⟩ := q
          exact w v H' loc' x rh' rd) rh ⟨rfl, rfl⟩ rvs
      · cases ez2
end
section
variable {bb : BB} {X : Cx} {body : List Stmt} {t : Ex → TwS} {e : Expr} {y : Str} {c : Value} {ys zs : List Str} {E : HE} {ns : List Str} {pos pos' rp np : Pos} {W : WX} {EX : Ex}
/-- what the tables say of the except clause's class c -/
structure HdOk (X : Cx) (c : Value) (ys zs ns : List Str) : Prop where
  yes : ∀ x ∈ ys, ∃ C : Addr, X.mg x = some (.ref C) ∧ PySem.W.exmOne X.kw (.ref C) c = some true ∧ XfC X.kw C ∧ ∀ n ∈ ns, PySem.W.findIn X.kw (.ref C) n = some none
  no : ∀ x ∈ zs, ∃ C : Addr, X.mg x = some (.ref C) ∧ PySem.W.exmOne X.kw (.ref C) c = some false
theorem any_mem {x : Str} {ys : List Str} (h : (ys.any fun y => strEq x y) = true) : x ∈ ys := by
  obtain ⟨y, hy, e⟩ := List.any_eq_true.mp h
  rw [strEq_iff.mp e]
  exact hy
def tHan (K : KW) (i : Option Nat) (ns : List Str) (E : HE) (a : Addr) (cls : Value) (d : Option Addr) : TS := tSeq (tRet (lfH K i ns a cls d E)) tNext
/-- what the body's errors find -/
theorem xw_of {i : Option Nat} {DD : Ends} {s : L2.St} {H : Hp} {loc : List Addr} {σ : Sg} {R : Es} (hd : HdOk X c ys zs ns) (xw : XW X.kw X.mg bb EX W) (rs : RS bb X.kw loc H σ s) (k : KxR bb X.kw loc H R DD) (hi : ∀ j, i = some j → j < bb.n)
    {x : Str} {kvs : List (Str × D)} {h' : Hh} {H1 : Hp} {loc' : List Addr} {d C : Addr} {xd : List (Str × V)} {s2 : L2.St} (hs2 : s2.length = bb.n)
    (q : exT ys zs E R EX x kvs h') (gC : X.mg x = some (.ref C)) (xt : Xt X.kw loc H loc' H1) (rh : RH X.kw loc' H1 h') (rx : RXs X.kw loc' H1 kvs xd) (hd1 : H1 d = none) :
    ∃ b, PySem.W.exmOne X.kw (.ref C) c = some b ∧ (b = true → ∀ (a : Addr) (s3 : L2.St) (D3 : Ends), D3.rt = DD.rt → (∀ j, i = some j → s3[j]? = some (some (.ref a))) → tHan X.kw i ns E a (.ref C) (some d) D3 s3 (upd H1 d (.xd xd))) ∧ (b = false → W (.ref C) (some d) s2 (upd H1 d (.xd xd))) := by
  unfold exT at q
  have x0 : Xt X.kw loc' H1 loc' (upd H1 d (.xd xd)) := Xt.hid (.inl hd1)
  split at q
  · rename_i hy
    obtain ⟨C', g', e', T, no⟩ := hd.yes x (any_mem hy)
    rw [gC] at g'
    cases g'
    refine ⟨true, e', fun _ a s3 D3 e3 hs3 => ?_, fun z => (by cases z)⟩
    cases ev : E.val kvs with
    | none => rw [ev] at q; exact q.elim
    | some z =>
      rw [ev] at q
      refine ⟨loc', h', kvs, z, ⟨hs3, d, C, xd, rfl, T, no, rfl, upd_same, rx.mono x0⟩, rh.hid hd1, ev, fun v H' loc2 x2 rh2 rd => ?_⟩
      show D3.rt v H'
      rw [e3]
      exact k.rt z h' v H' loc2 q ((xt.trans x0).trans x2) rh2 rd
  · split at q
    · rename_i hy hz
      obtain ⟨C', g', e'⟩ := hd.no x (any_mem hz)
      rw [gC] at g'
      cases g'
      exact ⟨false, e', fun z => (by cases z), fun _ => xw s2 hs2 x kvs h' H1 loc' d C xd q gC (rs.2.2.1.trans xt) rh rx hd1⟩
    · exact q.elim
theorem KxR.rebase {DD : Ends} {s : L2.St} {H : Hp} {loc : List Addr} {σ : Sg} {R : Es} (rs : RS bb X.kw loc H σ s) (k : KxR bb X.kw loc H R DD) : KxR ⟨bb.n, loc, H⟩ X.kw loc H R DD :=
  ⟨fun σ' h' s' H' loc' q x rh r => k.nx σ' h' s' H' loc' q x rh ⟨r.1, r.2.1, rs.2.2.1.trans r.2.2.1, r.2.2.2⟩, k.rt,
   fun σ' h' s' H' loc' q x rh r => k.bk σ' h' s' H' loc' q x rh ⟨r.1, r.2.1, rs.2.2.1.trans r.2.2.1, r.2.2.2⟩, fun σ' h' s' H' loc' q x rh r => k.ct σ' h' s' H' loc' q x rh ⟨r.1, r.2.1, rs.2.2.1.trans r.2.2.1, r.2.2.2⟩⟩
theorem t_tr0 (hs : X.stack = X.env :: X.outer) (hf : X.env.frame = some X.env.locals) (hc : Names X y c) (tk : Takes X W) (xw : XW X.kw X.mg bb EX W) (hd : HdOk X c ys zs ns) (he : heB none ns E e = true)
    (hb : ∀ (b1 : BB) (E1 : Ex) (W : WX) (pn : List (Addr × Obj)) (xe : Value → Shared → Prop), b1.n = bb.n → Takes (X.tr pn xe) W → XW X.kw X.mg b1 E1 W → PassesOwn (model X.prog X.w) X.A X.env xe → PSs (X.tr pn xe) body (lfS b1 X.kw (t E1))) :
    PS X (.Try body [.ExceptHandler (some (.Name y np)) none [.Return (some e) rp] pos'] [] [] pos) (lfS bb X.kw fun R σ h => t (exT ys zs E R EX) R σ h) := by
  refine ps_imp (ps_try_only (ts := tHan X.kw none ns E) (tb := fun W D σ H => ∃ b1 E1, b1.n = bb.n ∧ XW X.kw X.mg b1 E1 W ∧ lfS b1 X.kw (t E1) D σ H) hs hf hc tk (fun W pn xe tk po => ⟨fun pins s σ H D I ⟨b1, E1, en, xw, hh⟩ => (hb b1 E1 W pn xe en tk xw po).run pins s σ H D I hh⟩) fun a oe cls d pn hz hfl => ?_) fun D s H ⟨loc, σ, h, R, rs, rh, w, k⟩ => ?_
  · exact pss_cons (ps_ret (h_ok (i := none) (fun _ _ z => by cases z) (fun _ z => by cases z) hz hfl E e he)) pss_nil
  · refine ⟨⟨bb.n, loc, H⟩, exT ys zs E R EX, rfl, fun s2 hs2 x kvs h' H1 loc' d C xd q gC xt rh1 rx hd1 => ?_, loc, σ, h, R, ⟨rs.1, rs.2.1, Xt.refl, rs.2.2.2⟩, rh, w, KxR.rebase rs k⟩
    obtain ⟨b, e1, e2, e3⟩ := xw_of (i := none) hd xw rs k (fun _ z => by cases z) (s2 := s2) hs2 q gC xt rh1 rx hd1
    exact ⟨b, e1, fun z a _ => e2 z a _ _ rfl fun _ z => (by cases z), e3⟩
theorem t_tr1 {j : Nat} {n : Str} (hs : X.stack = X.env :: X.outer) (hf : X.env.frame = some X.env.locals) (hN : X.N.Nodup) (hi : X.N[j]? = some n) (hln : X.env.kindOf n = some .local) (hvi : Vis X.env.scope n) (n1 : (n == ("__debug__" : Str)) = false) (n2 : (n == ("__classdict__" : Str)) = false) (hj : j < bb.n)
    (hc : Names X y c) (tk : Takes X W) (xw : XW X.kw X.mg bb EX W) (hd : HdOk X c ys zs ns) (he : heB (some n) ns E e = true)
    (hb : ∀ (b1 : BB) (E1 : Ex) (W : WX) (pn : List (Addr × Obj)) (xe : Value → Shared → Prop), b1.n = bb.n → Takes (X.tr pn xe) W → XW X.kw X.mg b1 E1 W → PassesOwn (model X.prog X.w) X.A X.env xe → PSs (X.tr pn xe) body (lfS b1 X.kw (t E1))) :
    PS X (.Try body [.ExceptHandler (some (.Name y np)) (some n) [.Return (some e) rp] pos'] [] [] pos) (lfS bb X.kw fun R σ h => t (exT ys zs E R EX) R σ h) := by
  refine ps_imp (ps_try_as (i := j) (ts := tHan X.kw (some j) ns E) (tb := fun W D σ H => ∃ b1 E1, b1.n = bb.n ∧ XW X.kw X.mg b1 E1 W ∧ lfS b1 X.kw (t E1) D σ H) hs hf hN hi hln hc tk (fun W pn xe tk po => ⟨fun pins s σ H D I ⟨b1, E1, en, xw, hh⟩ => (hb b1 E1 W pn xe en tk xw po).run pins s σ H D I hh⟩) fun a oe cls d pn hz hfl => ?_) fun D s H ⟨loc, σ, h, R, rs, rh, w, k⟩ => ?_
  · exact pss_cons (ps_ret (h_ok (i := some j) (y := some n) (fun j' x e1 e2 => by cases e1; cases e2; exact ⟨hi, hvi, n1, n2⟩) (fun _ _ => ⟨j, rfl⟩) hz hfl E e he)) pss_nil
  · refine ⟨⟨bb.n, loc, H⟩, exT ys zs E R EX, rfl, fun s2 hs2 x kvs h' H1 loc' d C xd q gC xt rh1 rx hd1 => ?_, loc, σ, h, R, ⟨rs.1, rs.2.1, Xt.refl, rs.2.2.2⟩, rh, w, KxR.rebase rs k⟩
    obtain ⟨b, e1, e2, e3⟩ := xw_of (i := some j) hd xw rs k (fun j' z => by cases z; exact hj) (s2 := s2) hs2 q gC xt rh1 rx hd1
    exact ⟨b, e1, fun z a _ => e2 z a _ _ rfl fun j' z => (by cases z; exact List.getElem?_set_self (by rw [hs2]; exact hj)), e3⟩
end
end Mi

set_option Elab.async false
set_option linter.all false
set_option maxRecDepth 100000
set_option maxHeartbeats 1000000
/-! Mi: a look that holds a text of the program beside the words of Mi, and what follows where they agree. -/
namespace Mi
open PySem PySem.Spec PyProof.Rows L2

/-- the program's names: defs, error classes with their fields, what an except clause of a class takes -/
structure Fns where
  ds : List (Str × List Str)
  xs : List (Str × List Str) := []
  hs : List (Str × Str × Bool) := []
/-! ### the look -/
def isK (sc : Scope) (x : Str) (k : NameKind) : Bool := decide (sc.names.lookup x = some k)
def visB (sc : Scope) (x : Str) : Bool := isK sc x .local || (isK sc x .cell || isK sc x .free)
def glB (sc : Scope) (x : Str) : Bool := isK sc x .globalImplicit
def locB (d : Bool) (sc : Scope) (x : Str) : Bool := isK sc x .local || (d && isK sc x .cell)
def nmB (x : Str) : Bool := !(x == ("__debug__" : Str)) && !(x == ("__classdict__" : Str))
def noStar : Expr → Bool
  | .Starred _ _ => false
  | _ => true
def noSet : Expr → Bool
  | .Set _ _ _ => false
  | _ => true
def noSlice : Expr → Bool
  | .Slice _ _ _ _ => false
  | _ => true
def noComp : Expr → Bool
  | .ListComp _ _ _ _ => false
  | .SetComp _ _ _ _ => false
  | .DictComp _ _ _ _ _ => false
  | _ => true
/-- an expression of the plain kinds -/
def plainE (e : Expr) : Bool := noStar e && (noSet e && noSlice e)
def tyName : Tyn → Str
  | .int => "int" | .bool => "bool" | .str => "str" | .tuple => "tuple" | .list => "list"
def relB (scope sc : Scope) : Scope := relS scope sc
def baseB : Expr → Bool
  | .Call _ _ _ _ => false
  | _ => true
def chkNs (N : List Str) (sc : Scope) (d : Bool) : List Nat → List Expr → Bool
  | [], es => (match es with | [] => true | _ => false)
  | i :: is, es => (match es with | .Name x _ :: ts => decide (N[i]? = some x) && (locB d sc x && chkNs N sc d is ts) | _ => false)
section
variable (fn : Fns) (gn : List Str)
mutual
def chkE (N : List Str) (sc : Scope) (d : Bool) : ME → Expr → Bool
  | .non, e => (match e with | .Constant .none _ _ => true | _ => false)
  | .bl b, e => (match e with | .Constant (.bool c) _ _ => decide (b = c) | _ => false)
  | .int i, e => (match e with | .Constant (.int j) _ _ => decide (i = j) | _ => false)
  | .str x, e => (match e with | .Constant (.str y) _ _ => decide (x = y) | _ => false)
  | .var i, e => (match e with | .Name x _ => decide (N[i]? = some x) && (visB sc x && nmB x) | _ => false)
  | .gl i, e => (match e with | .Name x _ => decide (gn[i]? = some x) && (glB sc x && nmB x) | _ => false)
  | .bin op a b, e => (match e with | .BinOp ea o eb _ => decide (o = bopOf op) && (chkE N sc d a ea && chkE N sc d b eb) | _ => false)
  | .neg a, e => (match e with | .UnaryOp .USub ea _ => chkE N sc d a ea | _ => false)
  | .not a, e => (match e with | .UnaryOp .Not ea _ => chkE N sc d a ea | _ => false)
  | .cmp op a b, e => (match e with | .Compare ea [o] [eb] _ => decide (o = copOf op) && (chkE N sc d a ea && chkE N sc d b eb) | _ => false)
  | .chain op op' a b c, e => (match e with | .Compare ea [o, o'] [eb, ec] _ => decide (o = copOf op) && (decide (o' = copOf op') && (chkE N sc d a ea && (chkE N sc d b eb && chkE N sc d c ec))) | _ => false)
  | .and a b, e => (match e with
    | .BoolOp .And [ea, eb] _ => chkE N sc d a ea && chkE N sc d b eb
    | .BoolOp .And (ea :: eb :: ec :: r) pos => chkE N sc d a ea && chkE N sc d b (.BoolOp .And (eb :: ec :: r) pos)
    | _ => false)
  | .or a b, e => (match e with
    | .BoolOp .Or [ea, eb] _ => chkE N sc d a ea && chkE N sc d b eb
    | .BoolOp .Or (ea :: eb :: ec :: r) pos => chkE N sc d a ea && chkE N sc d b (.BoolOp .Or (eb :: ec :: r) pos)
    | _ => false)
  | .ife t a b, e => (match e with | .IfExp et ea eb _ => chkT N sc d t et && (chkE N sc d a ea && chkE N sc d b eb) | _ => false)
  | .call f es, e => (match e with | .Call (.Name x _) es' [] _ => decide ((fn.ds[f]?).map (·.1) = some x) && (glB sc x && (nmB x && chkEs N sc d es es')) | _ => false)
  | .blt f es, e => (match e with | .Call (.Name x _) (e1 :: es') [] _ => decide (x = bltStr f) && (glB sc x && chkEs N sc d es (e1 :: es')) | _ => false)
  | .isi a ts, e => (match e with
    | .Call (.Name x _) [ea, .Name ty _] [] _ => (match ts with
      | [u] => decide (x = ("isinstance" : Str)) && (glB sc x && (decide (ty = tyName u) && (glB sc ty && chkE N sc d a ea)))
      | _ => false)
    | _ => false)
  | .meth m o es, e => (match e with
    | .Call (.Attribute eo nm apos) es' [] cpos => decide (nm = mthStr m) && ((match m with | .index => (match es' with | _ :: _ => true | _ => false) | _ => true) && (decide (es'.length < 20) && (baseB eo && (decide (apos.endLine = cpos.line) && (chkE N sc d o eo && chkEs N sc d es es')))))
    | _ => false)
  | .ix a i, e => (match e with | .Subscript ea ei _ => chkE N sc d a ea && chkE N sc d i ei | _ => false)
  | .sl a lo hi, e => (match e with | .Subscript ea (.Slice l u none _) _ => chkE N sc d a ea && (chkEo N sc d lo l && chkEo N sc d hi u) | _ => false)
  | .callk f es, e => (match e with | .Call (.Name x _) [] (k1 :: kws) _ => (match fn.ds[f]? with | some y => decide (y.1 = x) && decide ((k1 :: kws).map (·.arg) = y.2.map some) | none => false) && (glB sc x && (nmB x && chkEs N sc d es ((k1 :: kws).map (·.value)))) | _ => false)
  | .dnew, e => (match e with | .Dict [] [] _ => true | _ => false)
  | .dlit k x, e => (match e with | .Dict [some ek] [ex] _ => chkE N sc d k ek && chkE N sc d x ex | _ => false)
  | .dget o k x, e => (match e with
    | .Call (.Attribute eo nm apos) [ek, ex] [] cpos => decide (nm = ("get" : Str)) && (baseB eo && (decide (apos.endLine = cpos.line) && (chkE N sc d o eo && (chkE N sc d k ek && chkE N sc d x ex))))
    | _ => false)
  | .dnewt, e => (match e with | .Dict [] [] _ => true | _ => false)
  | .srt a, e => (match e with | .Call (.Name x _) [ea] [] _ => decide (x = ("sorted" : Str)) && (glB sc x && chkE N sc d a ea) | _ => false)
  | .lset a, e => (match e with | .Call (.Name x _) [.Call (.Name y _) [ea] [] _] [] _ => decide (x = ("len" : Str)) && (decide (y = ("set" : Str)) && (glB sc x && (glB sc y && chkE N sc d a ea))) | _ => false)
  | .rev a, e => (match e with | .Subscript ea (.Slice none none (some (.UnaryOp .USub (.Constant (.int j) _ _) _)) _) _ => decide (j = 1) && chkE N sc d a ea | _ => false)
  | .callv i f g es, e => (match e with | .Call (.Name x _) (e1 :: es') [] _ => decide (N[i]? = some x) && ((visB sc x && nmB x) && ((match fn.ds[f]?, gn[g]? with | some y, some z => decide (y.1 = z) | _, _ => false) && chkEs N sc d es (e1 :: es'))) | _ => false)
  | .tup es, e => (match e with | .Tuple es' _ _ => chkEs N sc d es es' | _ => false)
  | .lst es, e => (match e with | .List es' _ => chkEs N sc d es es' | _ => false)
  | .lc elt t it c, e => (match e with
    | .ListComp el [⟨tg, iter, ifs, asy⟩] scope _ => decide (asy = 0) && (chkI N sc d it iter && (blkC N sc scope ((slotsOf t).map fun i => (N.getD i Str.empty, i)) && (chkGc N (relS scope sc) t tg && (chkC N (relS scope sc) false c ifs && chkE N (relS scope sc) false elt el))))
    | _ => false)
def chkT (N : List Str) (sc : Scope) (d : Bool) : ME → Expr → Bool
  | .not a, e => (match e with | .UnaryOp .Not ea _ => chkT N sc d a ea | _ => false)
  | .and a b, e => (match e with
    | .BoolOp .And [ea, eb] _ => chkT N sc d a ea && chkT N sc d b eb
    | .BoolOp .And (ea :: eb :: ec :: r) pos => chkT N sc d a ea && chkT N sc d b (.BoolOp .And (eb :: ec :: r) pos)
    | _ => false)
  | .or a b, e => (match e with
    | .BoolOp .Or [ea, eb] _ => chkT N sc d a ea && chkT N sc d b eb
    | .BoolOp .Or (ea :: eb :: ec :: r) pos => chkT N sc d a ea && chkT N sc d b (.BoolOp .Or (eb :: ec :: r) pos)
    | _ => false)
  | .cmp op a b, e => (match e with | .Compare ea [o] [eb] _ => decide (o = copOf op) && (chkE N sc d a ea && chkE N sc d b eb) | _ => false)
  | .chain op op' a b c, e => (match e with | .Compare ea [o, o'] [eb, ec] _ => decide (o = copOf op) && (decide (o' = copOf op') && (chkE N sc d a ea && (chkE N sc d b eb && chkE N sc d c ec))) | _ => false)
  | .bl b, e => (match e with | .Constant (.bool c) _ _ => decide (b = c) | _ => false)
  | .var i, e => (match e with | .Name x _ => decide (N[i]? = some x) && (visB sc x && nmB x) | _ => false)
  | .call f es, e => (match e with | .Call (.Name x _) es' [] _ => decide ((fn.ds[f]?).map (·.1) = some x) && (glB sc x && (nmB x && chkEs N sc d es es')) | _ => false)
  | .callk f es, e => (match e with | .Call (.Name x _) [] (k1 :: kws) _ => (match fn.ds[f]? with | some y => decide (y.1 = x) && decide ((k1 :: kws).map (·.arg) = y.2.map some) | none => false) && (glB sc x && (nmB x && chkEs N sc d es ((k1 :: kws).map (·.value)))) | _ => false)
  | .isi a ts, e => (match e with
    | .Call (.Name x _) [ea, .Name ty _] [] _ => (match ts with
      | [u] => decide (x = ("isinstance" : Str)) && (glB sc x && (decide (ty = tyName u) && (glB sc ty && chkE N sc d a ea)))
      | _ => false)
    | _ => false)
  | .ix a i, e => (match e with | .Subscript ea ei _ => chkE N sc d a ea && chkE N sc d i ei | _ => false)
  | _, _ => false
def chkEs (N : List Str) (sc : Scope) (d : Bool) : MEs → List Expr → Bool
  | .nil, es => (match es with | [] => true | _ => false)
  | .cons m ms, es => (match es with | e :: es => chkE N sc d m e && chkEs N sc d ms es | _ => false)
def chkEo (N : List Str) (sc : Scope) (d : Bool) : MEo → Option Expr → Bool
  | .none, o => (match o with | none => true | _ => false)
  | .some m, o => (match o with | some e => chkE N sc d m e | _ => false)
def chkC (N : List Str) (sc : Scope) (d : Bool) : MEo → List Expr → Bool
  | .none, es => (match es with | [] => true | _ => false)
  | .some m, es => (match es with | [e] => chkT N sc d m e | _ => false)
def chkG (N : List Str) (sc : Scope) (d : Bool) : MT → Expr → Bool
  | .name i, e => (match e with | .Name x _ => decide (N[i]? = some x) && locB d sc x | _ => false)
  | .tup is, e => (match e with | .Tuple ts _ _ => chkNs N sc d is ts | _ => false)
  | .sub a i, e => (match e with | .Subscript ea ei _ => chkE N sc d a ea && chkE N sc d i ei | _ => false)
/-- a comprehension's target -/
def chkGc (N : List Str) (sc : Scope) : MT → Expr → Bool
  | .name i, e => (match e with | .Name x _ => decide (N[i]? = some x) && locB false sc x | _ => false)
  | .tup is, e => (match e with | .Tuple ts _ _ => chkNs N sc false is ts | _ => false)
  | .sub _ _, _ => false
def chkI (N : List Str) (sc : Scope) (d : Bool) : MI → Expr → Bool
  | .seq m, e => chkE N sc d m e
  | .rng1 a, e => (match e with | .Call (.Name x _) [ea] [] _ => decide (x = ("range" : Str)) && (glB sc x && chkE N sc d a ea) | _ => false)
  | .rng2 a b, e => (match e with | .Call (.Name x _) [ea, eb] [] _ => decide (x = ("range" : Str)) && (glB sc x && (chkE N sc d a ea && chkE N sc d b eb)) | _ => false)
end
end
/-- may the target be stored so? -/
def asgB (sc : Scope) (tg e : Expr) : Bool := match tg with
  | .Name y py => (match e with
    | .ListComp _ _ scope pos => isK sc y .cell || (isK sc y .local && ((py.line == pos.line) && !(scope.names.any fun (n, k) => n == y && (k == .local || k == .cell))))
    | _ => noComp e)
  | .Tuple ts _ _ => (match e with
    | .Tuple vs _ _ => (match ts, vs with
      | [.Name x px, .Name y py], [_, _] => isK sc x .local && (isK sc y .local && ((py.line == px.line) && (!(x == y) && (!(vs.all (foldedForSure 8)) && !(vs.all (constantsAlone 8))))))
      | _, _ => false)
    | _ => true)
  | .Subscript _ _ _ => true
  | _ => false
section
variable (fn : Fns) (gn : List Str)
/-- the fields that all the classes have -/
def nsOf (ys : List Str) : List Str := match ys with
  | [] => []
  | x :: _ => ((fn.xs.lookup x).getD []).filter fun n => ys.all fun y => ((fn.xs.lookup y).getD []).any fun m => strEq n m
def slB (N : List Str) (sc : Scope) (i : Option Nat) (nm : Option Str) : Bool := match i with
  | none => nm.isNone
  | some j => (match nm with | some n => decide (N[j]? = some n) && (isK sc n .local && nmB n) | none => false)
mutual
def chkS (N : List Str) (sc : Scope) : MS → Stmt → Bool
  | .expr m, s => (match s with | .Expr e _ => noComp e && chkE fn gn N sc true m e | _ => false)
  | .asg t m, s => (match s with | .Assign [tg] e _ => asgB sc tg e && (chkG fn gn N sc true t tg && chkE fn gn N sc true m e) | _ => false)
  | .aug i op m, s => (match s with | .AugAssign (.Name x _) o e _ => decide (o = bopOf op) && (decide (N[i]? = some x) && (locB true sc x && chkE fn gn N sc true m e)) | _ => false)
  | .ret m, s => (match s with | .Return (some e) _ => chkE fn gn N sc true m e | _ => false)
  | .retN, s => (match s with | .Return none _ => true | _ => false)
  | .pass, s => (match s with | .Pass _ => true | _ => false)
  | .brk, s => (match s with | .Break _ => true | _ => false)
  | .cnt, s => (match s with | .Continue _ => true | _ => false)
  | .ife t a b, s => (match s with | .If e sa sb _ => chkT fn gn N sc true t e && (chkB N sc a sa && chkB N sc b sb) | _ => false)
  | .whl t b, s => (match s with | .While e sb [] _ => chkT fn gn N sc true t e && chkB N sc b sb | _ => false)
  | .forr t it b, s => (match s with | .For tg e sb [] _ => noSet e && (chkG fn gn N sc true t tg && (chkI fn gn N sc true it e && chkB N sc b sb)) | _ => false)
  | .rse x fs es, s => (match s with | .Raise (some (.Call (.Name x' _) (e1 :: es') [] _)) none _ => decide (x = x') && (decide (fn.xs.lookup x = some fs) && (glB sc x && (nmB x && chkEs fn gn N sc true es (e1 :: es')))) | _ => false)
  | .tr b y ys zs i he, s => (match s with
    | .Try body [.ExceptHandler (some (.Name y' _)) nm [.Return (some e) _] _] [] [] _ => decide (y = y') && (glB sc y && (nmB y && (slB N sc i nm && (heB nm (nsOf fn ys) he e && (!ys.isEmpty && (ys.all (fun x => (fn.xs.lookup x).isSome && fn.hs.any (fun q => strEq q.1 x && (strEq q.2.1 y && q.2.2))) && (zs.all (fun x => fn.hs.any (fun q => strEq q.1 x && (strEq q.2.1 y && !q.2.2))) && chkB N sc b body)))))))
    | _ => false)
def chkB (N : List Str) (sc : Scope) : MB → List Stmt → Bool
  | .nil, ss => (match ss with | [] => true | _ => false)
  | .cons m ms, ss => (match ss with | s :: ss => chkS N sc m s && chkB N sc ms ss | _ => false)
end
end
example : chkE ⟨[], [], []⟩ [] [] { kind := .function, names := [], isGenerator := false, isCoroutine := false } true (.bin .add (.int 1) (.int 2)) (.BinOp (.Constant (.int 1) 0 ⟨0,0,0,0⟩) .Add (.Constant (.int 2) 0 ⟨0,0,0,0⟩) ⟨0,0,0,0⟩) = true := rfl
end Mi

set_option Elab.async false
set_option linter.all false
set_option maxRecDepth 100000
set_option maxHeartbeats 4000000
/-! Mi: where the look is passed, the text does what the words say. -/
namespace Mi
open PySem PySem.Spec PyProof.Rows L2

def bltNames : List Str := ["len", "int", "abs", "max", "min", "tuple", "list", "sum", "isinstance", "range", "bool", "str", "dict", "set", "sorted"]
structure Gok (fn : Fns) (gn : List Str) (gls : List D) (tb : List MF) (P : Program) (w : World) (K : PySem.W.Frag) (mg : Str → Option Value) (base : Heap) (k : Nat) : Prop where
  blt : ∀ x ∈ bltNames, mg x = none
  fns : ∀ (f : Nat) (x : Str) (ps : List Str), fn.ds[f]? = some (x, ps) → ∃ a fd, mg x = some (.ref a) ∧ PySem.W.keepIn K (.ref a) = true ∧ Binds K fd ps [] ∧ (∀ (s : Shared) (ws : List Value), ws.length = ps.length → BindsTo s fd ⟨[], ps.zip ws⟩ (ps.zip ws)) ∧ FnOk P w K mg base (L2.CX P w) (k + 2) a fd ps (lfP ⟨K, P, w⟩ mg (run gls tb k f))
  cns : ∀ (i : Nat) (x : Str) (d : D), gn[i]? = some x → gls[i]? = some d → ∃ u v, mg x = some u ∧ RelV v u ∧ ∀ loc H, RD ⟨K, P, w⟩ loc H d v
  exs : ∀ (x : Str) (fs : List Str), fn.xs.lookup x = some fs → ∃ C, XCls P w K mg base x fs C
  exm : ∀ (x y : Str) (b : Bool), (x, y, b) ∈ fn.hs → ∃ (C : Addr) (c : Value), mg x = some (.ref C) ∧ mg y = some c ∧ PySem.W.exmOne K (.ref C) c = some b
structure Cok (fn : Fns) (gn : List Str) (gls : List D) (tb : List MF) (k : Nat) (N : List Str) (sc : Scope) (d : Bool) (X : Cx) (bb : BB) (EX : Ex) : Prop where
  calm : X.calm = true
  hN : X.N = N
  nd : N.Nodup
  hsc : X.env.scope = sc
  kd : sc.kind = .function
  fnc : d = true → ∀ x, X.fn x = true
  room : Room (k + 2) X.A
  bn : bb.n = N.length
  stk : d = true → X.stack = X.env :: X.outer ∧ X.env.frame = some X.env.locals
  ex : ∃ W, Takes X W ∧ XW X.kw X.mg bb EX W
  po : PassesOwn (model X.prog X.w) X.A X.env X.xe
  gb : Gok fn gn gls tb X.prog X.w X.kw X.mg X.base k
section
variable {fn : Fns} {gn : List Str} {gls : List D} {tb : List MF} {k : Nat} {N : List Str} {sc : Scope} {d : Bool} {X : Cx} {bb : BB} {EX : Ex}
theorem ba {a b : Bool} (h : (a && b) = true) : a = true ∧ b = true := Bool.and_eq_true_iff.mp h
theorem Cok.gl (c : Cok fn gn gls tb k N sc d X bb EX) {x : Str} (h : glB sc x = true) : Gl X x := by
  show X.env.scope.names.lookup x = some .globalImplicit
  rw [c.hsc]
  exact of_decide_eq_true h
theorem Cok.vis (c : Cok fn gn gls tb k N sc d X bb EX) {x : Str} (h : visB sc x = true) : Vis X.env.scope x := by
  rw [c.hsc]
  unfold visB at h
  rw [Bool.or_eq_true, Bool.or_eq_true] at h
  rcases h with h | h | h
  · exact .inl (of_decide_eq_true h)
  · exact .inr (.inl (of_decide_eq_true h))
  · exact .inr (.inr (of_decide_eq_true h))
theorem Cok.loc (c : Cok fn gn gls tb k N sc d X bb EX) {x : Str} (h : locB d sc x = true) : Loc X.env.scope x ∧ (X.fn x = true ∨ X.env.scope.names.lookup x = some .local) := by
  rw [c.hsc]
  unfold locB at h
  rw [Bool.or_eq_true] at h
  rcases h with h | h
  · exact ⟨.inl (of_decide_eq_true h), .inr (of_decide_eq_true h)⟩
  · obtain ⟨h1, h2⟩ := ba h
    exact ⟨.inr (of_decide_eq_true h2), .inl (c.fnc h1 x)⟩
theorem nm1 {x : Str} (h : nmB x = true) : (x == ("__debug__" : Str)) = false := by
  obtain ⟨h1, _⟩ := ba h
  simpa using h1
theorem nm2 {x : Str} (h : nmB x = true) : (x == ("__classdict__" : Str)) = false := by
  obtain ⟨_, h2⟩ := ba h
  simpa using h2
theorem Cok.at_ (c : Cok fn gn gls tb k N sc d X bb EX) {i : Nat} {x : Str} (h : decide (N[i]? = some x) = true) : X.N[i]? = some x := by
  rw [c.hN]
  exact of_decide_eq_true h
/-- an expression that passes the look is of a plain kind -/
theorem plain_of {m : ME} {e : Expr} (h : chkE fn gn N sc d m e = true) : plainE e = true := by
  cases e <;> first | rfl | (cases m <;> exact Bool.noConfusion (show false = true from h))
theorem plain_star {e : Expr} {es : List Expr} (h : plainE e = true) : starEach (e :: es) X.env = (false, eval e X.env) :: starEach es X.env := by
  obtain ⟨h1, _⟩ := ba h
  cases e <;> first | rfl | cases h1
theorem plain_mark {e : Expr} {op : CmpOp} (h : plainE e = true) : behindInMarks op e = false := by
  obtain ⟨_, h2⟩ := ba h
  obtain ⟨h3, _⟩ := ba h2
  cases e <;> first | rfl | cases h3
theorem plain_fold {e : Expr} (h : plainE e = true) : ∀ x, foldedSetIterable e X.env x = pure x := by
  obtain ⟨_, h2⟩ := ba h
  obtain ⟨h3, _⟩ := ba h2
  intro x
  cases e <;> first | rfl | cases h3
theorem plain_ix {e : Expr} (h : plainE e = true) : PlainIx e := by
  obtain ⟨_, h2⟩ := ba h
  obtain ⟨_, h4⟩ := ba h2
  intro o i
  cases e <;> first | rfl | cases h4
/-- arguments: none is starred -/
theorem nostar_of : ∀ {ms : MEs} {es : List Expr}, chkEs fn gn N sc d ms es = true → ∀ e ∈ es, plainE e = true
  | .nil, [], _, e, he => by cases he
  | .nil, _ :: _, h, _, _ => Bool.noConfusion (show false = true from h)
  | .cons m ms, [], h, _, _ => Bool.noConfusion (show false = true from h)
  | .cons m ms, e1 :: es, h, e, he => by
    obtain ⟨h1, h2⟩ := ba (a := chkE fn gn N sc d m e1) (b := chkEs fn gn N sc d ms es) h
    rcases List.mem_cons.mp he with rfl | he
    · exact plain_of h1
    · exact nostar_of h2 e he
theorem star_all (X : Cx) : ∀ {es : List Expr}, (∀ e ∈ es, plainE e = true) → (starEach es X.env).any (·.1) = false
  | [], _ => rfl
  | e :: es, h => by
    rw [plain_star (h e List.mem_cons_self)]
    simpa using star_all X fun e he => h e (List.mem_cons_of_mem _ he)
theorem star_back {pos : Pos} {es : List Expr} (h : ∀ e ∈ es, plainE e = true) : (backTo pos (starEach es X.env)).any (·.1) = false := by
  have q := star_all X h
  unfold backTo
  rw [List.any_map]
  exact q
theorem star_len (X : Cx) : ∀ {es : List Expr}, (starEach es X.env).length = es.length
  | [] => rfl
  | e :: es => by
    have q := star_len X (es := es)
    cases e <;> simp [starEach, q]
theorem M2_trees {cpos : Pos} {e f : Expr} (h1 : plainE e = true) (h2 : plainE f = true) : backTo cpos (starEach [e, f] X.env) = [(false, eval e X.env), (false, eval f X.env)] := by
  rw [plain_star h1, plain_star h2]
  rfl
theorem hu64_of (c : Cok fn gn gls tb k N sc d X bb EX) : X.A.units + 64 < cLine := by
  have := c.room.un
  omega
theorem few_of {cpos : Pos} {e : Expr} {es : List Expr} (h : ∀ z ∈ e :: es, plainE z = true) (hl : (e :: es).length < 20) : ((backTo cpos (starEach (e :: es) X.env)).all (fun x => !x.1) && (backToKw cpos (keywordEach [] X.env)).all (fun x => x.1.isSome)
      && decide ((e :: es).length + ([] : List Keyword).length + (if ([] : List Keyword).isEmpty then 0 else 1) < 30)) = true := by
  have q := star_back (X := X) (pos := cpos) h
  rw [Bool.and_eq_true, Bool.and_eq_true]
  refine ⟨⟨?_, rfl⟩, decide_eq_true (by show (e :: es).length + 0 + 0 < 30; omega)⟩
  rw [List.all_eq_true]
  intro x hx
  have : (backTo cpos (starEach (e :: es) X.env)).any (·.1) = false := q
  rw [List.any_eq_false] at this
  simpa using this x hx
theorem base_of {e : Expr} {nm : Str} (h : baseB e = true) : attributeBase e nm X.env (eval e X.env) = eval e X.env := by
  cases e <;> first | rfl | cases h
end
end Mi

set_option Elab.async false
set_option linter.all false
set_option maxRecDepth 100000
set_option maxHeartbeats 4000000
namespace Mi
open PySem PySem.Spec PyProof.Rows L2
section
variable {fn : Fns} {gn : List Str} {gls : List D} {tb : List MF} {k : Nat} {N : List Str} {sc : Scope} {d : Bool} {X : Cx} {bb : BB} {EX : Ex}
theorem nc {P : Prop} (h : false = true) : P := Bool.noConfusion h
theorem pgs_of (c : Cok fn gn gls tb k N sc d X bb EX) : ∀ {is : List Nat} {ts : List Expr}, chkNs N sc d is ts = true → PGs X ts (gNames is) ∧ (assignEach ts X.env).length = is.length ∧ (assignEach ts X.env).findIdx? (·.1) = none
  | [], [], _ => ⟨pgs_nil, rfl, rfl⟩
  | [], _ :: _, h => nc h
  | i :: is, [], h => nc h
  | i :: is, t :: ts, h => by
    cases t <;> first | exact nc h | skip
    rename_i x p
    obtain ⟨h1, h2⟩ := ba (show (decide (N[i]? = some x) && (locB d sc x && chkNs N sc d is ts)) = true from h)
    obtain ⟨h2, h3⟩ := ba h2
    obtain ⟨q1, q2, q3⟩ := pgs_of c h3
    obtain ⟨l1, l2⟩ := c.loc h2
    refine ⟨pgs_cons (pg_name (by rw [c.hN]; exact c.nd) (c.at_ h1) l1 l2) q1 rfl, ?_, ?_⟩
    · show ((assignEach ts X.env).length + 1) = is.length + 1
      rw [q2]
    · show (List.findIdx? (·.1) ((false, _) :: assignEach ts X.env)) = none
      rw [List.findIdx?_cons]
      simp [q3]
theorem blk_ok {scope : Scope} {s : Shared} {H : Hp} {C : Addr} {cl : List (Str × Addr)} {fp : List Addr} (c : Cok fn gn gls tb k N sc d X bb EX) (hk : scope.kind = .function) :
    Cok fn gn gls tb k N (relS scope sc) false (X.blk s H scope (compEnvC scope cl C X.env) fp) bb EX0 where
  calm := c.calm
  hN := c.hN
  nd := c.nd
  hsc := by
    show relabel scope X.env = relS scope sc
    rw [← c.hsc]
    rfl
  kd := hk
  fnc := fun h => nc h
  room := c.room
  bn := c.bn
  stk := fun h => nc h
  ex := ⟨_, takesN, fun _ _ _ _ _ _ _ _ _ _ z => z.elim⟩
  po := PassesOwn.never
  gb := c.gb
theorem sw_cell {elt : Expr} {gs : List Comprehension} {scope : Scope} {pos py : Pos} {y : Str} {l : Nat} {env : Env} (hy : env.scope.names.lookup y = some .cell) : swapsWith (.ListComp elt gs scope pos) (some (.Name y py)) l env = pure false := by
  have ky : env.kindOf y = some .cell := hy
  unfold swapsWith
  simp only [ky]
  have z : (some NameKind.cell == some NameKind.local) = false := by decide
  rw [z]
  simp
theorem sw_plain {e : Expr} {t : Option Expr} {l : Nat} {env : Env} (h : noComp e = true) : swapsWith e t l env = pure false := by
  cases e <;> first | exact nc h | rfl
theorem sw_other {e : Expr} {t : Expr} {l : Nat} {env : Env} (h : (match t with | .Name _ _ => false | _ => true) = true) : swapsWith e (some t) l env = pure false := by
  cases t <;> first | exact nc h | (cases e <;> rfl)
theorem stores_swap {x y : Str} {a b : Expr} {px py pt : Pos} {kt k2 pt2} (hk : X.env.scope.kind = .function) (hx : X.env.scope.names.lookup x = some .local) (hy : X.env.scope.names.lookup y = some .local) (hl : (py.line == px.line) = true) (hne : (x == y) = false)
    (h1 : noStar a = true) (h2 : noStar b = true) (hf : ([a, b].all (foldedForSure 8)) = false) (hc : ([a, b].all (constantsAlone 8)) = false) :
    swappedStores [.Tuple [.Name x px, .Name y py] kt pt] (.Tuple [a, b] k2 pt2) X.env = pure (some [x, y]) := by
  have kx : X.env.kindOf x = some .local := hx
  have ky : X.env.kindOf y = some .local := hy
  have hb : X.env.blockKind = .function := by unfold Env.blockKind; rw [hk]; rfl
  have hyx : (y == x) = false := by
    rw [beq_eq_false_iff_ne] at hne ⊢
    exact hne.symm
  unfold swappedStores
  have s1 : (match a with | .Starred .. => true | _ => false) = false := by cases a <;> first | rfl | exact nc h1
  have s2 : (match b with | .Starred .. => true | _ => false) = false := by cases b <;> first | rfl | exact nc h2
  have hl' : py.line = px.line := by simpa using hl
  have e1 : [x, y].eraseDups.length = 2 := by simp [List.eraseDups_cons, hyx]
  simp only [hb, kx, ky, Expr.pos, List.length_cons, List.length_nil, List.any_cons, List.any_nil, s1, s2, List.head?_cons, Option.map_some, Option.getD_some, List.filterMap_cons, List.filterMap_nil, hl', hf, hc, BEq.rfl, Bool.and_self, if_true]
  simp [e1, hb, hf, hc]
  intro h
  exfalso
  rcases h with h | h
  · cases a <;> first | exact nc h1 | exact nc h
  · cases b <;> first | exact nc h2 | exact nc h
theorem ty_name (u : Tyn) : bootBuiltins (tyName u) = some (.type (tynStr u)) ∧ tyName u ∈ bltNames ∧ tyName u ≠ "__name__" ∧ (tyName u == ("__debug__" : Str)) = false := by
  cases u <;> exact ⟨by decide +kernel, by decide +kernel, by decide +kernel, by decide +kernel⟩
theorem blt_in (f : Blt) : bltStr f ∈ bltNames := by cases f <;> decide +kernel
theorem isi_in : ("isinstance" : Str) ∈ bltNames := by decide +kernel
theorem rng_in : ("range" : Str) ∈ bltNames := by decide +kernel
theorem pts_none {X : Cx} : PTs X [] (lfT bb X.kw fun _ h Q => Q true h) := ⟨fun pins s σ H Q I ⟨loc, σ', h, Q', rs, rh, w, k⟩ => pts_nil.run pins s σ H Q I (k _ _ _ _ w Xt.refl rh)⟩
theorem fn_at1 {fn : List (Str × List Str)} {f : Nat} {x : Str} (h : (fn[f]?).map (·.1) = some x) : ∃ ps, fn[f]? = some (x, ps) := by
  cases g : fn[f]? with
  | none => rw [g] at h; cases h
  | some y => rw [g] at h; cases h; exact ⟨y.2, rfl⟩
theorem pe_non_any {e : Expr} : PE X e (fun _ _ _ => False) := ⟨fun _ _ _ _ _ _ h => h.elim⟩
theorem lc_parts {a b1 b2 b3 b4 b5 : Bool} (h : (a && (b1 && (b2 && (b3 && (b4 && b5))))) = true) : a = true ∧ b1 = true ∧ b2 = true ∧ b3 = true ∧ b4 = true ∧ b5 = true := by
  simpa [Bool.and_eq_true] using h
/-- a comprehension's target -/
theorem lc_goal (gls : List D) (tb : List MF) {scope : Scope} {t : MT} {tg : Expr} (c : Cok fn gn gls tb k N sc d X bb EX) (hb : blkC N sc scope ((slotsOf t).map fun i => (N.getD i Str.empty, i)) = true) (hG : chkGc fn gn N (relS scope sc) t tg = true) :
    ∃ g : TG, OwnG bb X.kw (wG gls (run gls tb k) EX0 t) g (slotsOf t) ∧ (∀ (s : Shared) (H : Hp) (C : Addr) (cl : List (Str × Addr)) (fp : List Addr), PG (X.blk s H scope (compEnvC scope cl C X.env) fp) tg g) ∧
      BlkOk X.N X.env.scope scope ((slotsOf t).map fun i => (N.getD i Str.empty, i)) ∧ ((slotsOf t).map fun i => (N.getD i Str.empty, i)).map (·.2) = slotsOf t := by
  have ok : BlkOk X.N X.env.scope scope ((slotsOf t).map fun i => (N.getD i Str.empty, i)) := by rw [c.hN, c.hsc]; exact blkOk_by hb
  have ei : ((slotsOf t).map fun i => (N.getD i Str.empty, i)).map (·.2) = slotsOf t := by rw [List.map_map]; exact List.map_id' _
  cases t with
  | name i =>
    cases tg <;> first | exact nc hG | skip
    rename_i x p
    obtain ⟨h1, h2⟩ := ba hG
    refine ⟨gName i, own_name (by simp [slotsOf]), fun s H C cl fp => ?_, ok, ei⟩
    have c' := blk_ok (s := s) (H := H) (C := C) (cl := cl) (fp := fp) c ok.kind
    obtain ⟨l1, l2⟩ := c'.loc h2
    exact pg_name (by rw [c'.hN]; exact c.nd) (c'.at_ h1) l1 l2
  | tup is =>
    cases tg <;> first | exact nc hG | skip
    refine ⟨gTup X.kw is.length (gNames is), own_tup (fun i hi => hi), fun s H C cl fp => ?_, ok, ei⟩
    have c' := blk_ok (s := s) (H := H) (C := C) (cl := cl) (fp := fp) c ok.kind
    obtain ⟨q1, q2, q3⟩ := pgs_of c' hG
    exact pg_tup c'.calm q1 q2 q3
  | sub a i => exact nc hG
variable (gls tb)
mutual
theorem sndB : ∀ (m : ME), (∀ (N : List Str) (sc : Scope) (d : Bool) (X : Cx) (bb : BB) (EX : Ex) (e : Expr), Cok fn gn gls tb k N sc d X bb EX → chkE fn gn N sc d m e = true → PE X e (lfE bb X.kw (wE gls (run gls tb k) EX m))) ∧
    (∀ (N : List Str) (sc : Scope) (d : Bool) (X : Cx) (bb : BB) (EX : Ex) (e : Expr), Cok fn gn gls tb k N sc d X bb EX → chkT fn gn N sc d m e = true → PT X e (lfT bb X.kw (wT gls (run gls tb k) EX m))) ∧
    (∀ (N : List Str) (sc : Scope) (d : Bool) (X : Cx) (bb : BB) (EX : Ex) (op : BoolOp) (vs : List Expr) (pos : Pos), Cok fn gn gls tb k N sc d X bb EX → chkT fn gn N sc d m (.BoolOp op vs pos) = true → PW X (.BoolOp op vs pos) (lfT bb X.kw (wT gls (run gls tb k) EX m)))
  | .non => by
    refine ⟨?_, ?_, fun N sc d X bb EX op vs pos c h => nc h⟩
    · exact fun N sc d X bb EX e c h => by
        cases e <;> first | exact nc h | skip
        rename_i v _ _
        cases v <;> first | exact nc h | exact s_cst pe_non fun _ _ => rd_non
    · exact fun N sc d X bb EX e c h => nc h
  | .bl b => by
    refine ⟨?_, ?_, fun N sc d X bb EX op vs pos c h => nc h⟩
    · exact fun N sc d X bb EX e c h => by
        cases e <;> first | exact nc h | skip
        rename_i v _ _
        cases v <;> first | exact nc h | skip
        obtain rfl := of_decide_eq_true h
        exact s_cst pe_bl fun _ _ => rd_bl
    · exact fun N sc d X bb EX e c h => by
        cases e <;> first | exact nc h | skip
        rename_i v _ _
        cases v <;> first | exact nc h | skip
        obtain rfl := of_decide_eq_true h
        exact pt_imp (b_val (X := X) (s_cst (d := .bl b) (v := .bl b) pe_bl fun _ _ => rd_bl) fun _ => rfl) fun _ _ _ w => w
  | .int i => by
    refine ⟨?_, ?_, fun N sc d X bb EX op vs pos c h => nc h⟩
    · exact fun N sc d X bb EX e c h => by
        cases e <;> first | exact nc h | skip
        rename_i v _ _
        cases v <;> first | exact nc h | skip
        obtain rfl := of_decide_eq_true h
        exact s_cst pe_int fun _ _ => rd_int
    · exact fun N sc d X bb EX e c h => nc h
  | .str x => by
    refine ⟨?_, ?_, fun N sc d X bb EX op vs pos c h => nc h⟩
    · exact fun N sc d X bb EX e c h => by
        cases e <;> first | exact nc h | skip
        rename_i v _ _
        cases v <;> first | exact nc h | skip
        obtain rfl := of_decide_eq_true h
        exact s_cst pe_str fun _ _ => rd_str
    · exact fun N sc d X bb EX e c h => nc h
  | .var i => by
    refine ⟨?_, ?_, fun N sc d X bb EX op vs pos c h => nc h⟩
    · exact fun N sc d X bb EX e c h => by
        cases e <;> first | exact nc h | skip
        obtain ⟨h1, h2⟩ := ba h
        obtain ⟨h2, h3⟩ := ba h2
        exact s_var (pe_var (c.at_ h1) (c.vis h2) (nm1 h3) (nm2 h3))
    · exact fun N sc d X bb EX e c h => by
        cases e <;> first | exact nc h | skip
        obtain ⟨h1, g1⟩ := ba h
        obtain ⟨h2, h3⟩ := ba g1
        exact b_val (s_var (pe_var (c.at_ h1) (c.vis h2) (nm1 h3) (nm2 h3))) fun _ => rfl
  | .gl i => by
    refine ⟨?_, ?_, fun N sc d X bb EX op vs pos c h => nc h⟩
    · exact fun N sc d X bb EX e c h => by
        cases e <;> first | exact nc h | skip
        rename_i x _
        obtain ⟨h1, h2⟩ := ba h
        obtain ⟨h2, h3⟩ := ba h2
        cases g : gls[i]? with
        | none =>
          refine pe_imp (pe_non_any : PE X _ fun _ _ _ => False) fun s H Q w => ?_
          obtain ⟨loc, σ, hh, Q', rs, rh, w, _⟩ := w
          have w' : (match gls[i]? with
              | some d => Q' d hh
              | none => False) := w
          rw [g] at w'
          exact w'
        | some dd =>
          obtain ⟨u, v, hm, r, rd⟩ := c.gb.cns i x dd (of_decide_eq_true h1) g
          refine pe_imp (s_cst (pe_glob (c.gl h2) hm r (nm1 h3)) rd) fun s H Q ⟨loc, σ, hh, Q', rs, rh, w, kk⟩ => ⟨loc, σ, hh, Q', rs, rh, ?_, kk⟩
          have w' : (match gls[i]? with
              | some d => Q' d hh
              | none => False) := w
          rw [g] at w'
          exact w'
    · exact fun N sc d X bb EX e c h => nc h
  | .bin op a b => by
    refine ⟨?_, ?_, fun N sc d X bb EX op vs pos c h => nc h⟩
    · exact fun N sc d X bb EX e c h => by
        cases e <;> first | exact nc h | skip
        obtain ⟨h1, h2⟩ := ba h
        obtain ⟨h2, h3⟩ := ba h2
        rw [of_decide_eq_true h1]
        exact s_bin op ((sndB a).1 N sc d X bb EX _ c h2) ((sndB b).1 N sc d X bb EX _ c h3)
    · exact fun N sc d X bb EX e c h => nc h
  | .neg a => by
    refine ⟨?_, ?_, fun N sc d X bb EX op vs pos c h => nc h⟩
    · exact fun N sc d X bb EX e c h => by
        cases e <;> first | exact nc h | skip
        rename_i o ea _
        cases o <;> first | exact nc h | exact s_neg ((sndB a).1 N sc d X bb EX _ c h)
    · exact fun N sc d X bb EX e c h => nc h
  | .not a => by
    refine ⟨?_, ?_, fun N sc d X bb EX op vs pos c h => nc h⟩
    · exact fun N sc d X bb EX e c h => by
        cases e <;> first | exact nc h | skip
        rename_i o ea _
        cases o <;> first | exact nc h | exact s_not ((sndB a).1 N sc d X bb EX _ c h)
    · exact fun N sc d X bb EX e c h => by
        cases e <;> first | exact nc h | skip
        rename_i o ea _
        cases o <;> first | exact nc h | exact b_not ((sndB a).2.1 N sc d X bb EX _ c h)
  | .cmp op a b => by
    refine ⟨?_, ?_, fun N sc d X bb EX op vs pos c h => nc h⟩
    · exact fun N sc d X bb EX e c h => by
        cases e <;> first | exact nc h | skip
        rename_i ea ops cs _
        match ops, cs, h with
        | [o], [eb], h =>
          obtain ⟨h1, h2⟩ := ba (show (decide (o = copOf op) && (chkE fn gn N sc d a ea && chkE fn gn N sc d b eb)) = true from h)
          obtain ⟨h2, h3⟩ := ba h2
          rw [of_decide_eq_true h1]
          exact s_cmp (hu64_of c) op ((sndB a).1 N sc d X bb EX _ c h2) ((sndB b).1 N sc d X bb EX _ c h3) (plain_mark (plain_of h3))
        | [], _, h => exact nc h
        | [_], [], h => exact nc h
        | [_], _ :: _ :: _, h => exact nc h
        | _ :: _ :: _, [], h => exact nc h
        | _ :: _ :: _, [_], h => exact nc h
        | [_, _], _ :: _ :: _, h => exact nc h
        | _ :: _ :: _ :: _, _ :: _ :: _, h => exact nc h
    · exact fun N sc d X bb EX e c h => by
        cases e <;> first | exact nc h | skip
        rename_i ea ops cs _
        match ops, cs, h with
        | [o], [eb], h =>
          obtain ⟨h1, h2⟩ := ba (show (decide (o = copOf op) && (chkE fn gn N sc d a ea && chkE fn gn N sc d b eb)) = true from h)
          obtain ⟨h2, h3⟩ := ba h2
          rw [of_decide_eq_true h1]
          exact b_cmp (hu64_of c) op ((sndB a).1 N sc d X bb EX _ c h2) ((sndB b).1 N sc d X bb EX _ c h3) (plain_mark (plain_of h3))
        | [], _, h => exact nc h
        | [_], [], h => exact nc h
        | [_], _ :: _ :: _, h => exact nc h
        | _ :: _ :: _, [], h => exact nc h
        | _ :: _ :: _, [_], h => exact nc h
        | [_, _], _ :: _ :: _, h => exact nc h
        | _ :: _ :: _ :: _, _ :: _ :: _, h => exact nc h
  | .chain op op' a b cc => by
    refine ⟨?_, ?_, fun N sc d X bb EX op vs pos c h => nc h⟩
    · exact fun N sc d X bb EX e c h => by
        cases e <;> first | exact nc h | skip
        rename_i ea ops cs _
        match ops, cs, h with
        | [o, o'], [eb, ec], h =>
          obtain ⟨h1, h2⟩ := ba (show (decide (o = copOf op) && (decide (o' = copOf op') && (chkE fn gn N sc d a ea && (chkE fn gn N sc d b eb && chkE fn gn N sc d cc ec)))) = true from h)
          obtain ⟨h2, h3⟩ := ba h2
          obtain ⟨h3, h4⟩ := ba h3
          obtain ⟨h4, h5⟩ := ba h4
          rw [of_decide_eq_true h1, of_decide_eq_true h2]
          exact s_chain (hu64_of c) op op' ((sndB a).1 N sc d X bb EX _ c h3) ((sndB b).1 N sc d X bb EX _ c h4) ((sndB cc).1 N sc d X bb EX _ c h5) (plain_mark (plain_of h5))
        | [], _, h => exact nc h
        | [_], _, h => exact nc h
        | [_, _], [], h => exact nc h
        | [_, _], [_], h => exact nc h
        | [_, _], _ :: _ :: _ :: _, h => exact nc h
        | _ :: _ :: _ :: _, _, h => exact nc h
    · exact fun N sc d X bb EX e c h => by
        cases e <;> first | exact nc h | skip
        rename_i ea ops cs _
        match ops, cs, h with
        | [o, o'], [eb, ec], h =>
          obtain ⟨h1, h2⟩ := ba (show (decide (o = copOf op) && (decide (o' = copOf op') && (chkE fn gn N sc d a ea && (chkE fn gn N sc d b eb && chkE fn gn N sc d cc ec)))) = true from h)
          obtain ⟨h2, h3⟩ := ba h2
          obtain ⟨h3, h4⟩ := ba h3
          obtain ⟨h4, h5⟩ := ba h4
          rw [of_decide_eq_true h1, of_decide_eq_true h2]
          exact b_chain (hu64_of c) op op' ((sndB a).1 N sc d X bb EX _ c h3) ((sndB b).1 N sc d X bb EX _ c h4) ((sndB cc).1 N sc d X bb EX _ c h5) (plain_mark (plain_of h5))
        | [], _, h => exact nc h
        | [_], _, h => exact nc h
        | [_, _], [], h => exact nc h
        | [_, _], [_], h => exact nc h
        | [_, _], _ :: _ :: _ :: _, h => exact nc h
        | _ :: _ :: _ :: _, _, h => exact nc h
  | .and a b => by
    have E : ∀ (N : List Str) (sc : Scope) (d : Bool) (X : Cx) (bb : BB) (EX : Ex) (e : Expr), Cok fn gn gls tb k N sc d X bb EX → chkE fn gn N sc d (.and a b) e = true → PE X e (lfE bb X.kw (wE gls (run gls tb k) EX (.and a b))) := fun N sc d X bb EX e c h => by
      cases e <;> first | exact nc h | skip
      rename_i o vs pos
      cases o <;> first | exact nc h | skip
      match vs, h with
      | [ea, eb], h =>
        obtain ⟨h1, h2⟩ := ba (show (chkE fn gn N sc d a ea && chkE fn gn N sc d b eb) = true from h)
        exact s_and ((sndB a).1 N sc d X bb EX _ c h1) (pe_one ((sndB b).1 N sc d X bb EX _ c h2))
      | ea :: eb :: ec :: r, h =>
        obtain ⟨h1, h2⟩ := ba (show (chkE fn gn N sc d a ea && chkE fn gn N sc d b (.BoolOp .And (eb :: ec :: r) pos)) = true from h)
        exact s_and ((sndB a).1 N sc d X bb EX _ c h1) ((sndB b).1 N sc d X bb EX _ c h2)
      | [], h => exact nc h
      | [_], h => exact nc h
    have W : ∀ (N : List Str) (sc : Scope) (d : Bool) (X : Cx) (bb : BB) (EX : Ex) (op : BoolOp) (vs : List Expr) (pos : Pos), Cok fn gn gls tb k N sc d X bb EX → chkT fn gn N sc d (.and a b) (.BoolOp op vs pos) = true → PW X (.BoolOp op vs pos) (lfT bb X.kw (wT gls (run gls tb k) EX (.and a b))) := fun N sc d X bb EX op vs pos c h => by
      cases op <;> first | exact nc h | skip
      match vs, h with
      | [ea, eb], h =>
        obtain ⟨h1, h2⟩ := ba (show (chkT fn gn N sc d a ea && chkT fn gn N sc d b eb) = true from h)
        exact b_and ((sndB a).2.1 N sc d X bb EX _ c h1) (pw_and1 ((sndB b).2.1 N sc d X bb EX _ c h2))
      | ea :: eb :: ec :: r, h =>
        obtain ⟨h1, h2⟩ := ba (show (chkT fn gn N sc d a ea && chkT fn gn N sc d b (.BoolOp .And (eb :: ec :: r) pos)) = true from h)
        exact b_and ((sndB a).2.1 N sc d X bb EX _ c h1) ((sndB b).2.2 N sc d X bb EX _ _ pos c h2)
      | [], h => exact nc h
      | [_], h => exact nc h
    refine ⟨E, fun N sc d X bb EX e c h => ?_, W⟩
    cases e <;> first | exact nc h | exact (W N sc d X bb EX _ _ _ c h).pt
  | .or a b => by
    have E : ∀ (N : List Str) (sc : Scope) (d : Bool) (X : Cx) (bb : BB) (EX : Ex) (e : Expr), Cok fn gn gls tb k N sc d X bb EX → chkE fn gn N sc d (.or a b) e = true → PE X e (lfE bb X.kw (wE gls (run gls tb k) EX (.or a b))) := fun N sc d X bb EX e c h => by
      cases e <;> first | exact nc h | skip
      rename_i o vs pos
      cases o <;> first | exact nc h | skip
      match vs, h with
      | [ea, eb], h =>
        obtain ⟨h1, h2⟩ := ba (show (chkE fn gn N sc d a ea && chkE fn gn N sc d b eb) = true from h)
        exact s_or ((sndB a).1 N sc d X bb EX _ c h1) (pe_one ((sndB b).1 N sc d X bb EX _ c h2))
      | ea :: eb :: ec :: r, h =>
        obtain ⟨h1, h2⟩ := ba (show (chkE fn gn N sc d a ea && chkE fn gn N sc d b (.BoolOp .Or (eb :: ec :: r) pos)) = true from h)
        exact s_or ((sndB a).1 N sc d X bb EX _ c h1) ((sndB b).1 N sc d X bb EX _ c h2)
      | [], h => exact nc h
      | [_], h => exact nc h
    have W : ∀ (N : List Str) (sc : Scope) (d : Bool) (X : Cx) (bb : BB) (EX : Ex) (op : BoolOp) (vs : List Expr) (pos : Pos), Cok fn gn gls tb k N sc d X bb EX → chkT fn gn N sc d (.or a b) (.BoolOp op vs pos) = true → PW X (.BoolOp op vs pos) (lfT bb X.kw (wT gls (run gls tb k) EX (.or a b))) := fun N sc d X bb EX op vs pos c h => by
      cases op <;> first | exact nc h | skip
      match vs, h with
      | [ea, eb], h =>
        obtain ⟨h1, h2⟩ := ba (show (chkT fn gn N sc d a ea && chkT fn gn N sc d b eb) = true from h)
        exact b_or ((sndB a).2.1 N sc d X bb EX _ c h1) (pw_or1 ((sndB b).2.1 N sc d X bb EX _ c h2))
      | ea :: eb :: ec :: r, h =>
        obtain ⟨h1, h2⟩ := ba (show (chkT fn gn N sc d a ea && chkT fn gn N sc d b (.BoolOp .Or (eb :: ec :: r) pos)) = true from h)
        exact b_or ((sndB a).2.1 N sc d X bb EX _ c h1) ((sndB b).2.2 N sc d X bb EX _ _ pos c h2)
      | [], h => exact nc h
      | [_], h => exact nc h
    refine ⟨E, fun N sc d X bb EX e c h => ?_, W⟩
    cases e <;> first | exact nc h | exact (W N sc d X bb EX _ _ _ c h).pt
  | .ife t a b => by
    refine ⟨?_, ?_, fun N sc d X bb EX op vs pos c h => nc h⟩
    · exact fun N sc d X bb EX e c h => by
        cases e <;> first | exact nc h | skip
        obtain ⟨h1, h2⟩ := ba h
        obtain ⟨h2, h3⟩ := ba h2
        exact s_ife ((sndB t).2.1 N sc d X bb EX _ c h1) ((sndB a).1 N sc d X bb EX _ c h2) ((sndB b).1 N sc d X bb EX _ c h3)
    · exact fun N sc d X bb EX e c h => nc h
  | .call f es => by
    have E : ∀ (N : List Str) (sc : Scope) (d : Bool) (X : Cx) (bb : BB) (EX : Ex) (e : Expr), Cok fn gn gls tb k N sc d X bb EX → chkE fn gn N sc d (.call f es) e = true → PE X e (lfE bb X.kw (wE gls (run gls tb k) EX (.call f es))) := fun N sc d X bb EX e c h => by
      cases e <;> first | exact nc h | skip
      rename_i fe as kw pos
      cases fe <;> first | exact nc h | skip
      rename_i x px
      cases kw <;> first | exact nc h | skip
      obtain ⟨h1, g1⟩ := ba h
      obtain ⟨h2, g2⟩ := ba g1
      obtain ⟨h3, h4⟩ := ba g2
      obtain ⟨ps, hps⟩ := fn_at1 (of_decide_eq_true h1)
      obtain ⟨a, fd, hm, hk, hb, _, F⟩ := c.gb.fns f x ps hps
      obtain ⟨W, tk, xw⟩ := c.ex
      have pl := nostar_of h4
      cases as with
      | nil =>
        cases es <;> first | exact nc h4 | skip
        exact s_call0 tk xw F c.room (c.gl h2) hm hk hb (nm1 h3)
      | cons e1 as => exact s_call tk xw F c.room (c.gl h2) hm hk hb (sndEs es N sc d X bb EX _ c h4) (nm1 h3) (plain_star (pl _ List.mem_cons_self)) (star_back fun z hz => pl z (List.mem_cons_of_mem _ hz))
    refine ⟨E, fun N sc d X bb EX e c h => ?_, fun N sc d X bb EX op vs pos c h => nc h⟩
    have q := E N sc d X bb EX e c h
    cases e <;> first | exact nc h | exact b_val q fun _ => rfl
  | .blt f es => by
    refine ⟨?_, ?_, fun N sc d X bb EX op vs pos c h => nc h⟩
    · exact fun N sc d X bb EX e c h => by
        cases e <;> first | exact nc h | skip
        rename_i fe as kw pos
        cases fe <;> first | exact nc h | skip
        rename_i x px
        cases kw <;> cases as <;> first | exact nc h | skip
        obtain ⟨h1, h2⟩ := ba h
        obtain ⟨h2, h3⟩ := ba h2
        have pl := nostar_of h3
        have hx := of_decide_eq_true h1
        exact s_blt f (v := .none) c.calm (c.gl h2) hx (by rw [hx]; exact c.gb.blt _ (blt_in f)) (sndEs es N sc d X bb EX _ c h3) (plain_star (pl _ List.mem_cons_self)) (star_back fun z hz => pl z (List.mem_cons_of_mem _ hz))
    · exact fun N sc d X bb EX e c h => nc h
  | .isi a ts => by
    have E : ∀ (N : List Str) (sc : Scope) (d : Bool) (X : Cx) (bb : BB) (EX : Ex) (e : Expr), Cok fn gn gls tb k N sc d X bb EX → chkE fn gn N sc d (.isi a ts) e = true → PE X e (lfE bb X.kw (wE gls (run gls tb k) EX (.isi a ts))) := fun N sc d X bb EX e c h => by
      obtain ⟨u, ea, ty, x, p1, p2, p3, rfl, rfl, rfl, hty, g1, g2, hc⟩ : ∃ u ea ty x p1 p2 p3, ts = [u] ∧ e = .Call (.Name x p1) [ea, .Name ty p2] [] p3 ∧ x = ("isinstance" : Str) ∧ ty = tyName u ∧ glB sc x = true ∧ glB sc ty = true ∧ chkE fn gn N sc d a ea = true := by
        cases e <;> first | exact nc h | skip
        rename_i fe as kw pos
        cases fe <;> first | exact nc h | skip
        rename_i x px
        match as, h with
        | [], h => exact nc h
        | [_], h => exact nc h
        | _ :: et :: _ :: _, h => cases et <;> exact nc h
        | [ea, et], h =>
          cases et <;> first | exact nc h | skip
          rename_i ty p2
          cases kw <;> first | exact nc h | skip
          match ts, h with
          | [], h => exact nc h
          | _ :: _ :: _, h => exact nc h
          | [u], h =>
            obtain ⟨h1, g1⟩ := ba (show (decide (x = ("isinstance" : Str)) && (glB sc x && (decide (ty = tyName u) && (glB sc ty && chkE fn gn N sc d a ea)))) = true from h)
            obtain ⟨h2, g2⟩ := ba g1
            obtain ⟨h3, g3⟩ := ba g2
            obtain ⟨h4, h5⟩ := ba g3
            exact ⟨u, ea, ty, x, _, _, _, rfl, rfl, of_decide_eq_true h1, of_decide_eq_true h3, h2, h4, h5⟩
      subst hty
      obtain ⟨t1, t2, t3, t4⟩ := ty_name u
      have ht : PE X (.Name (tyName u) p2) (tC (.ty (tynStr u))) := pe_bltn (c.gl g2) (c.gb.blt _ t2) t1 rfl t3 t4
      have ha := (sndB a).1 N sc d X bb EX ea c hc
      have st1 : starEach [ea, Expr.Name (tyName u) p2] X.env = (false, eval ea X.env) :: starEach [Expr.Name (tyName u) p2] X.env := plain_star (plain_of hc)
      exact s_isi u (c.gl g1) (c.gb.blt _ isi_in) ha ht (pa_cons ha (pa_cons ht pa_nil rfl) st1) st1 rfl
    refine ⟨E, fun N sc d X bb EX e c h => ?_, fun N sc d X bb EX op vs pos c h => nc h⟩
    have q := E N sc d X bb EX e c h
    cases e <;> first | exact nc h | exact b_val q fun _ => rfl
  | .meth m o es => by
    refine ⟨?_, ?_, fun N sc d X bb EX op vs pos c h => nc h⟩
    · exact fun N sc d X bb EX e c h => by
        cases e <;> first | exact nc h | skip
        rename_i fe as kw cpos
        cases fe <;> first | exact nc h | skip
        rename_i eo nm apos
        cases kw <;> first | exact nc h | skip
        obtain ⟨h1, g1⟩ := ba h
        obtain ⟨h0, g1⟩ := ba g1
        obtain ⟨h2, g2⟩ := ba g1
        obtain ⟨h3, g3⟩ := ba g2
        obtain ⟨h4, g4⟩ := ba g3
        obtain ⟨h5, h6⟩ := ba g4
        have hl : (apos.endLine == cpos.line) = true := by rw [of_decide_eq_true h4]; simp
        have pl := nostar_of h6
        by_cases hmi : m = .index
        · subst hmi
          cases as with
          | nil => exact nc h0
          | cons e1 as =>
            exact s_methT (of_decide_eq_true h1) ((sndB o).1 N sc d X bb EX _ c h5) (sndEs es N sc d X bb EX _ c h6) (base_of h3) (few_of pl (of_decide_eq_true h2)) hl (plain_star (pl _ List.mem_cons_self)) (star_back fun z hz => pl z (List.mem_cons_of_mem _ hz))
        cases as with
        | nil =>
          cases es <;> first | exact nc h6 | skip
          exact s_meth0 m hmi (of_decide_eq_true h1) ((sndB o).1 N sc d X bb EX _ c h5) (base_of h3) hl
        | cons e1 as => exact s_meth m hmi (of_decide_eq_true h1) ((sndB o).1 N sc d X bb EX _ c h5) (sndEs es N sc d X bb EX _ c h6) (base_of h3) (few_of pl (of_decide_eq_true h2)) hl (plain_star (pl _ List.mem_cons_self)) (star_back fun z hz => pl z (List.mem_cons_of_mem _ hz))
    · exact fun N sc d X bb EX e c h => nc h
  | .dnew => by
    refine ⟨?_, ?_, fun N sc d X bb EX op vs pos c h => nc h⟩
    · exact fun N sc d X bb EX e c h => by
        cases e <;> first | exact nc h | skip
        rename_i ks vs _
        cases ks <;> cases vs <;> first | exact nc h | exact s_dnew
    · exact fun N sc d X bb EX e c h => nc h
  | .dnewt => by
    refine ⟨?_, ?_, fun N sc d X bb EX op vs pos c h => nc h⟩
    · exact fun N sc d X bb EX e c h => by
        cases e <;> first | exact nc h | skip
        rename_i ks vs _
        cases ks <;> cases vs <;> first | exact nc h | exact s_dnewt
    · exact fun N sc d X bb EX e c h => nc h
  | .dget o k0 x => by
    refine ⟨?_, ?_, fun N sc d X bb EX op vs pos c h => nc h⟩
    · exact fun N sc d X bb EX e c h => by
        cases e <;> first | exact nc h | skip
        rename_i fe as kw cpos
        cases fe <;> first | exact nc h | skip
        rename_i eo nm apos
        match as, kw, h with
        | [], _, h => exact nc h
        | [_], _, h => exact nc h
        | _ :: _ :: _ :: _, _, h => exact nc h
        | [_, _], _ :: _, h => exact nc h
        | [ek, ex], [], h =>
          obtain ⟨h1, g1⟩ := ba (show (decide (nm = ("get" : Str)) && (baseB eo && (decide (apos.endLine = cpos.line) && (chkE fn gn N sc d o eo && (chkE fn gn N sc d k0 ek && chkE fn gn N sc d x ex))))) = true from h)
          obtain ⟨h3, g3⟩ := ba g1
          obtain ⟨h4, g4⟩ := ba g3
          obtain ⟨h5, g5⟩ := ba g4
          obtain ⟨h6, h7⟩ := ba g5
          obtain rfl := of_decide_eq_true h1
          have hl : (apos.endLine == cpos.line) = true := by rw [of_decide_eq_true h4]; simp
          have pa := plain_of h6
          have pb := plain_of h7
          have pl : ∀ z ∈ [ek, ex], plainE z = true := fun z hz => by
            simp only [List.mem_cons, List.not_mem_nil, or_false] at hz
            rcases hz with rfl | rfl
            · exact pa
            · exact pb
          exact s_dget (hu64_of c) ((sndB o).1 N sc d X bb EX _ c h5) ((sndB k0).1 N sc d X bb EX _ c h6) ((sndB x).1 N sc d X bb EX _ c h7) ⟨base_of h3, few_of pl (by simp), hl, M2_trees pa pb⟩
    · exact fun N sc d X bb EX e c h => nc h
  | .ix a i => by
    have E : ∀ (N : List Str) (sc : Scope) (d : Bool) (X : Cx) (bb : BB) (EX : Ex) (e : Expr), Cok fn gn gls tb k N sc d X bb EX → chkE fn gn N sc d (.ix a i) e = true → PE X e (lfE bb X.kw (wE gls (run gls tb k) EX (.ix a i))) := fun N sc d X bb EX e c h => by
      cases e <;> first | exact nc h | skip
      obtain ⟨h1, h2⟩ := ba h
      exact s_ix (hu64_of c) ((sndB a).1 N sc d X bb EX _ c h1) ((sndB i).1 N sc d X bb EX _ c h2) (plain_ix (plain_of h2))
    refine ⟨E, fun N sc d X bb EX e c h => ?_, fun N sc d X bb EX op vs pos c h => nc h⟩
    have q := E N sc d X bb EX e c h
    cases e <;> first | exact nc h | exact b_val q fun _ => rfl
  | .sl a lo hi => by
    refine ⟨?_, ?_, fun N sc d X bb EX op vs pos c h => nc h⟩
    · exact fun N sc d X bb EX e c h => by
        cases e <;> first | exact nc h | skip
        rename_i ea sl _
        cases sl <;> first | exact nc h | skip
        rename_i l u st _
        cases st <;> first | exact nc h | skip
        obtain ⟨h1, h2⟩ := ba h
        obtain ⟨h2, h3⟩ := ba h2
        exact s_sl ((sndB a).1 N sc d X bb EX _ c h1) (sndEo lo N sc d X bb EX _ c h2) (sndEo hi N sc d X bb EX _ c h3)
    · exact fun N sc d X bb EX e c h => nc h
  | .callk f es => by
    have E : ∀ (N : List Str) (sc : Scope) (d : Bool) (X : Cx) (bb : BB) (EX : Ex) (e : Expr), Cok fn gn gls tb k N sc d X bb EX → chkE fn gn N sc d (.callk f es) e = true → PE X e (lfE bb X.kw (wE gls (run gls tb k) EX (.callk f es))) := fun N sc d X bb EX e c h => by
      cases e <;> first | exact nc h | skip
      rename_i fe as kw pos
      cases fe <;> first | exact nc h | skip
      rename_i x px
      cases as <;> cases kw <;> first | exact nc h | skip
      rename_i k1 kws
      obtain ⟨h1, g1⟩ := ba h
      obtain ⟨h2, g2⟩ := ba g1
      obtain ⟨h3, h4⟩ := ba g2
      split at h1
      · rename_i y ef
        obtain ⟨y, ps⟩ := y
        obtain ⟨h5, h6⟩ := ba h1
        obtain rfl : y = x := of_decide_eq_true h5
        obtain ⟨a, fd, hm, hk, _, hb, F⟩ := c.gb.fns f y ps ef
        obtain ⟨W, tk, xw⟩ := c.ex
        exact s_callk tk xw F c.room (c.gl h2) hm hk hb (sndKs es N sc d X bb EX (k1 :: kws) c h4) (of_decide_eq_true h6) (nm1 h3)
      · cases h1
    refine ⟨E, fun N sc d X bb EX e c h => ?_, fun N sc d X bb EX op vs pos c h => nc h⟩
    have q := E N sc d X bb EX e c h
    cases e <;> first | exact nc h | exact b_val q fun _ => rfl
  | .dlit k x => by
    refine ⟨?_, ?_, fun N sc d X bb EX op vs pos c h => nc h⟩
    · exact fun N sc d X bb EX e c h => by
        cases e <;> first | exact nc h | skip
        rename_i ks vs _
        cases ks <;> first | exact nc h | skip
        rename_i k0 ks
        cases k0 <;> first | exact nc h | skip
        cases ks <;> first | exact nc h | skip
        cases vs <;> first | exact nc h | skip
        rename_i v0 vs
        cases vs <;> first | exact nc h | skip
        obtain ⟨h1, h2⟩ := ba h
        exact s_dlit ((sndB k).1 N sc d X bb EX _ c h1) ((sndB x).1 N sc d X bb EX _ c h2)
    · exact fun N sc d X bb EX e c h => nc h
  | .srt a => by
    refine ⟨?_, ?_, fun N sc d X bb EX op vs pos c h => nc h⟩
    · exact fun N sc d X bb EX e c h => by
        cases e <;> first | exact nc h | skip
        rename_i fe as kw pos
        cases fe <;> first | exact nc h | skip
        rename_i x px
        cases as <;> first | exact nc h | skip
        rename_i e1 as
        cases as <;> first | exact nc h | skip
        cases kw <;> first | exact nc h | skip
        obtain ⟨h1, g⟩ := ba h
        obtain ⟨h2, h5⟩ := ba g
        obtain rfl := of_decide_eq_true h1
        exact s_srt (hu64_of c) c.calm (c.gl h2) (c.gb.blt _ (by decide +kernel)) ((sndB a).1 N sc d X bb EX _ c h5) (plain_star (plain_of h5))
    · exact fun N sc d X bb EX e c h => nc h
  | .lset a => by
    refine ⟨?_, ?_, fun N sc d X bb EX op vs pos c h => nc h⟩
    · exact fun N sc d X bb EX e c h => by
        cases e <;> first | exact nc h | skip
        rename_i fe as kw pos
        cases fe <;> first | exact nc h | skip
        rename_i x px
        cases as <;> first | exact nc h | skip
        rename_i e1 as
        cases e1 <;> first | exact nc h | skip
        rename_i fe2 as2 kw2 pos2
        cases fe2 <;> first | exact nc h | skip
        rename_i y py
        cases as2 <;> first | exact nc h | skip
        rename_i ea as2
        cases as2 <;> first | exact nc h | skip
        cases kw2 <;> first | exact nc h | skip
        cases as <;> first | exact nc h | skip
        cases kw <;> first | exact nc h | skip
        obtain ⟨h1, g⟩ := ba h
        obtain ⟨h2, g⟩ := ba g
        obtain ⟨h3, g⟩ := ba g
        obtain ⟨h4, h5⟩ := ba g
        obtain rfl := of_decide_eq_true h1
        obtain rfl := of_decide_eq_true h2
        exact s_lset c.calm (c.gl h3) (c.gb.blt _ (by decide +kernel)) (c.gl h4) (c.gb.blt _ (by decide +kernel)) ((sndB a).1 N sc d X bb EX _ c h5) (plain_star (plain_of h5))
    · exact fun N sc d X bb EX e c h => nc h
  | .rev a => by
    refine ⟨?_, ?_, fun N sc d X bb EX op vs pos c h => nc h⟩
    · exact fun N sc d X bb EX e c h => by
        cases e <;> first | exact nc h | skip
        rename_i ea sl _
        cases sl <;> first | exact nc h | skip
        rename_i l u st _
        cases l <;> cases u <;> cases st <;> first | exact nc h | skip
        rename_i st
        cases st <;> first | exact nc h | skip
        rename_i op ec _
        cases op <;> cases ec <;> first | exact nc h | skip
        rename_i cv _ _
        cases cv <;> first | exact nc h | skip
        obtain ⟨h1, h2⟩ := ba h
        obtain rfl := of_decide_eq_true h1
        exact s_rev ((sndB a).1 N sc d X bb EX _ c h2) (pe_imp (s_neg (s_cst (d := .int 1) (v := .int 1) pe_int fun _ _ => rd_int)) fun _ _ _ w => w)
    · exact fun N sc d X bb EX e c h => nc h
  | .callv i f g es => by
    refine ⟨?_, ?_, fun N sc d X bb EX op vs pos c h => nc h⟩
    · exact fun N sc d X bb EX e c h => by
        cases e <;> first | exact nc h | skip
        rename_i fe as kw pos
        cases fe <;> first | exact nc h | skip
        rename_i x px
        cases kw <;> cases as <;> first | exact nc h | skip
        obtain ⟨h1, h2⟩ := ba h
        obtain ⟨h2, h3⟩ := ba h2
        obtain ⟨h2, h5⟩ := ba h2
        obtain ⟨h3, h4⟩ := ba h3
        have pl := nostar_of h4
        split at h3
        · rename_i y z ef eg
          obtain rfl := of_decide_eq_true h3
          obtain ⟨y, ps⟩ := y
          obtain ⟨a, fd, hm, hk, hb, _, F⟩ := c.gb.fns f y ps ef
          refine s_callv F c.room hk hb (c.at_ h1) (c.vis h2) (sndEs es N sc d X bb EX _ c h4) (nm1 h5) (nm2 h5) (plain_star (pl _ List.mem_cons_self)) (star_back fun z hz => pl z (List.mem_cons_of_mem _ hz)) fun a' hb' => ?_
          split at hb'
          · rename_i b eb
            obtain rfl := of_decide_eq_true hb'
            obtain ⟨u, v, hm2, ru, rv⟩ := c.gb.cns g y _ eg eb
            cases (rv [] (fun _ => none)).fn_
            cases ru
            rw [hm] at hm2
            cases hm2
            rfl
          · cases hb'
        · cases h3
    · exact fun N sc d X bb EX e c h => nc h
  | .tup es => by
    refine ⟨?_, ?_, fun N sc d X bb EX op vs pos c h => nc h⟩
    · exact fun N sc d X bb EX e c h => by
        cases e <;> first | exact nc h | skip
        exact s_tup (sndEs es N sc d X bb EX _ c h)
    · exact fun N sc d X bb EX e c h => nc h
  | .lst es => by
    refine ⟨?_, ?_, fun N sc d X bb EX op vs pos c h => nc h⟩
    · exact fun N sc d X bb EX e c h => by
        cases e <;> first | exact nc h | skip
        exact s_lst (sndEs es N sc d X bb EX _ c h)
    · exact fun N sc d X bb EX e c h => nc h
  | .lc elt t it cd => by
    refine ⟨?_, ?_, fun N sc d X bb EX op vs pos c h => nc h⟩
    · exact fun N sc d X bb EX e c h => by
        cases e <;> first | exact nc h | skip
        rename_i el gs scope pos
        match gs, h with
        | [⟨tg, iter, ifs, asy⟩], h =>
          obtain ⟨hz, hI, hb, hG, hC, hE⟩ := lc_parts (show (decide (asy = 0) && (chkI fn gn N sc d it iter && (blkC N sc scope ((slotsOf t).map fun i => (N.getD i Str.empty, i)) && (chkGc fn gn N (relS scope sc) t tg && (chkC fn gn N (relS scope sc) false cd ifs && chkE fn gn N (relS scope sc) false elt el))))) = true from h)
          obtain rfl := of_decide_eq_true hz
          obtain ⟨g, og, hg, ok, ei⟩ := lc_goal gls tb c hb hG
          refine pe_imp (pe_lc (tt := lfT bb X.kw (wC gls (run gls tb k) EX0 cd)) (te := lfE bb X.kw (wE gls (run gls tb k) EX0 elt)) c.calm (by rw [c.hN]; exact c.nd) (sndI it N sc d X bb EX tg iter c hI).1 ok hg (fun s H C cl fp => sndC cd N _ false _ _ _ _ (blk_ok c ok.kind) hC) (fun s H C cl fp => (sndB elt).1 N _ false _ _ _ _ (blk_ok c ok.kind) hE) (sndI it N sc d X bb EX tg iter c hI).2) fun s H Q w => ?_
          rw [ei]
          exact lc_ok og w
        | [], h => exact nc h
        | ⟨_, _, _, _⟩ :: _ :: _, h => exact nc h
    · exact fun N sc d X bb EX e c h => nc h
theorem sndEs : ∀ (m : MEs) (N : List Str) (sc : Scope) (d : Bool) (X : Cx) (bb : BB) (EX : Ex) (es : List Expr), Cok fn gn gls tb k N sc d X bb EX → chkEs fn gn N sc d m es = true → PA X es (lfA bb X.kw (wEs gls (run gls tb k) EX m))
  | .nil, N, sc, d, X, bb, EX, [], c, h => a_nil
  | .nil, N, sc, d, X, bb, EX, _ :: _, c, h => nc h
  | .cons m ms, N, sc, d, X, bb, EX, [], c, h => nc h
  | .cons m ms, N, sc, d, X, bb, EX, e :: es, c, h => by
    obtain ⟨h1, h2⟩ := ba (show (chkE fn gn N sc d m e && chkEs fn gn N sc d ms es) = true from h)
    exact a_cons ((sndB m).1 N sc d X bb EX e c h1) (sndEs ms N sc d X bb EX es c h2) (plain_star (plain_of h1))
theorem sndKs : ∀ (m : MEs) (N : List Str) (sc : Scope) (d : Bool) (X : Cx) (bb : BB) (EX : Ex) (es : List Keyword), Cok fn gn gls tb k N sc d X bb EX → chkEs fn gn N sc d m (es.map (·.value)) = true → PK X es (lfA bb X.kw (wEs gls (run gls tb k) EX m))
  | .nil, N, sc, d, X, bb, EX, [], c, h => k_nil
  | .nil, N, sc, d, X, bb, EX, _ :: _, c, h => nc h
  | .cons m ms, N, sc, d, X, bb, EX, [], c, h => nc h
  | .cons m ms, N, sc, d, X, bb, EX, ⟨nm, e, kp⟩ :: es, c, h => by
    obtain ⟨h1, h2⟩ := ba (show (chkE fn gn N sc d m e && chkEs fn gn N sc d ms (es.map (·.value))) = true from h)
    exact k_cons ((sndB m).1 N sc d X bb EX e c h1) (sndKs ms N sc d X bb EX es c h2)
theorem sndEo : ∀ (m : MEo) (N : List Str) (sc : Scope) (d : Bool) (X : Cx) (bb : BB) (EX : Ex) (o : Option Expr), Cok fn gn gls tb k N sc d X bb EX → chkEo fn gn N sc d m o = true → PO X o (lfO bb X.kw (wEo gls (run gls tb k) EX m))
  | .none, N, sc, d, X, bb, EX, none, c, h => o_none
  | .none, N, sc, d, X, bb, EX, some _, c, h => nc h
  | .some m, N, sc, d, X, bb, EX, none, c, h => nc h
  | .some m, N, sc, d, X, bb, EX, some e, c, h => o_some ((sndB m).1 N sc d X bb EX e c h)
theorem sndC : ∀ (m : MEo) (N : List Str) (sc : Scope) (d : Bool) (X : Cx) (bb : BB) (EX : Ex) (es : List Expr), Cok fn gn gls tb k N sc d X bb EX → chkC fn gn N sc d m es = true → PTs X es (lfT bb X.kw (wC gls (run gls tb k) EX m))
  | .none, N, sc, d, X, bb, EX, [], c, h => pts_none
  | .none, N, sc, d, X, bb, EX, _ :: _, c, h => nc h
  | .some m, N, sc, d, X, bb, EX, [], c, h => nc h
  | .some m, N, sc, d, X, bb, EX, [e], c, h => pts_one ((sndB m).2.1 N sc d X bb EX e c h)
  | .some m, N, sc, d, X, bb, EX, _ :: _ :: _, c, h => nc h
theorem sndI : ∀ (m : MI) (N : List Str) (sc : Scope) (d : Bool) (X : Cx) (bb : BB) (EX : Ex) (tg e : Expr), Cok fn gn gls tb k N sc d X bb EX → chkI fn gn N sc d m e = true → PI X tg e (lfI bb X.kw (wI gls (run gls tb k) EX m)) ∧ ∀ x, foldedSetIterable e X.env x = pure x
  | .seq m, N, sc, d, X, bb, EX, tg, e, c, h => ⟨i_seq ((sndB m).1 N sc d X bb EX e c h), plain_fold (plain_of (m := m) h)⟩
  | .rng1 a, N, sc, d, X, bb, EX, tg, e, c, h => by
    cases e <;> first | exact nc h | skip
    rename_i fe as kw pos
    cases fe <;> first | exact nc h | skip
    rename_i x px
    match as, h with
    | [], h => exact nc h
    | _ :: _ :: _, h => exact nc h
    | [ea], h =>
      cases kw <;> first | exact nc h | skip
      obtain ⟨h1, g1⟩ := ba (show (decide (x = ("range" : Str)) && (glB sc x && chkE fn gn N sc d a ea)) = true from h)
      obtain ⟨h2, h3⟩ := ba g1
      obtain rfl := of_decide_eq_true h1
      have st : starEach [ea] X.env = [(false, eval ea X.env)] := plain_star (plain_of h3)
      exact ⟨i_rng1 (c.gl h2) (c.gb.blt _ rng_in) ((sndB a).1 N sc d X bb EX _ c h3) st, fun _ => rfl⟩
  | .rng2 a b, N, sc, d, X, bb, EX, tg, e, c, h => by
    cases e <;> first | exact nc h | skip
    rename_i fe as kw pos
    cases fe <;> first | exact nc h | skip
    rename_i x px
    match as, h with
    | [], h => exact nc h
    | [_], h => exact nc h
    | _ :: _ :: _ :: _, h => exact nc h
    | [ea, eb], h =>
      cases kw <;> first | exact nc h | skip
      obtain ⟨h1, g1⟩ := ba (show (decide (x = ("range" : Str)) && (glB sc x && (chkE fn gn N sc d a ea && chkE fn gn N sc d b eb))) = true from h)
      obtain ⟨h2, g2⟩ := ba g1
      obtain ⟨h3, h4⟩ := ba g2
      obtain rfl := of_decide_eq_true h1
      have st2 : starEach [eb] X.env = [(false, eval eb X.env)] := plain_star (plain_of h4)
      have st : starEach [ea, eb] X.env = [(false, eval ea X.env), (false, eval eb X.env)] := by rw [plain_star (plain_of h3), st2]
      exact ⟨i_rng2 (c.gl h2) (c.gb.blt _ rng_in) ((sndB a).1 N sc d X bb EX _ c h3) ((sndB b).1 N sc d X bb EX _ c h4) st st2, fun _ => rfl⟩
end
end
end Mi

set_option Elab.async false
set_option linter.all false
set_option maxRecDepth 100000
set_option maxHeartbeats 4000000
namespace Mi
open PySem PySem.Spec PyProof.Rows L2
section
variable {fn : Fns} {gn : List Str} (gls : List D) (tb : List MF) {k : Nat}
theorem sndG : ∀ (m : MT) (N : List Str) (sc : Scope) (d : Bool) (X : Cx) (bb : BB) (EX : Ex) (e : Expr), Cok fn gn gls tb k N sc d X bb EX → chkG fn gn N sc d m e = true → PG X e (lfG bb X.kw (wG gls (run gls tb k) EX m))
  | .name i, N, sc, d, X, bb, EX, e, c, h => by
    cases e <;> first | exact nc h | skip
    obtain ⟨h1, h2⟩ := ba h
    obtain ⟨l1, l2⟩ := c.loc h2
    exact g_name (pg_name (by rw [c.hN]; exact c.nd) (c.at_ h1) l1 l2)
  | .tup is, N, sc, d, X, bb, EX, e, c, h => by
    cases e <;> first | exact nc h | skip
    obtain ⟨q1, q2, q3⟩ := pgs_of c h
    exact g_tup c.calm q1 q2 q3
  | .sub a i, N, sc, d, X, bb, EX, e, c, h => by
    cases e <;> first | exact nc h | skip
    rename_i ea ei pos
    obtain ⟨h1, h2⟩ := ba (show (chkE fn gn N sc d a ea && chkE fn gn N sc d i ei) = true from h)
    refine g_sub (hu64_of c) ((sndB gls tb a).1 N sc d X bb EX _ c h1) ((sndB gls tb i).1 N sc d X bb EX _ c h2) fun v => ?_
    have hp := plain_of h2
    cases ei <;> first | rfl | exact nc hp
theorem sw_sole {e : Expr} {t : Expr} {l : Nat} {env : Env} (h : (match t with | .Name _ _ => false | _ => true) = true) : swapsWithSole [t] e l env = pure false := sw_other h
theorem st_none1 {e : Expr} {tg : Expr} {X : Cx} (h : (match tg with | .Tuple _ _ _ => false | .List _ _ => false | _ => true) = true) : swappedStores [tg] e X.env = pure none := by
  cases tg <;> first | exact nc h | rfl
def noTup : Expr → Bool
  | .Tuple _ _ _ => false
  | _ => true
theorem nt {b : Bool} (h : (!b) = true) : b = false := by cases b; rfl; cases h
theorem st_none2 {e : Expr} {ts : List Expr} {k1 : Nat} {p : Pos} {X : Cx} (h : noTup e = true) : swappedStores [.Tuple ts k1 p] e X.env = pure none := by
  cases e <;> first | exact nc h | rfl
theorem asg_of {t : MT} {m : ME} {N : List Str} {sc : Scope} {X : Cx} {bb : BB} {EX : Ex} {tg e : Expr} {pos : Pos} (c : Cok fn gn gls tb k N sc true X bb EX) (h1 : asgB sc tg e = true) (h2 : chkG fn gn N sc true t tg = true) (h3 : chkE fn gn N sc true m e = true) :
    PS X (.Assign [tg] e pos) (lfS bb X.kw (wS gls (run gls tb k) EX (.asg t m))) := by
  have G := sndG gls tb t N sc true X bb EX tg c h2
  have V := (sndB gls tb m).1 N sc true X bb EX e c h3
  cases tg <;> first | exact nc h1 | skip
  · -- o[i]
    exact t_asg V G (sw_sole rfl) (st_none1 rfl) rfl
  · -- a name
    rename_i y py
    cases t <;> first | exact nc h2 | skip
    rename_i i
    obtain ⟨g1, g2⟩ := ba (show (decide (N[i]? = some y) && locB true sc y) = true from h2)
    obtain ⟨l1, l2⟩ := c.loc g2
    have nd : X.N.Nodup := by rw [c.hN]; exact c.nd
    by_cases hp : noComp e = true
    · exact t_set nd (c.at_ g1) l1 V (sw_plain hp) l2
    · cases e <;> first | exact absurd rfl hp | exact nc h1 | skip
      rename_i el gs scope lpos
      have h1' : (isK sc y .cell || (isK sc y .local && ((py.line == lpos.line) && !(scope.names.any fun (n, k) => n == y && (k == .local || k == .cell))))) = true := h1
      rw [Bool.or_eq_true] at h1'
      rcases h1' with z | z
      · exact t_set nd (c.at_ g1) l1 V (sw_cell (by rw [c.hsc]; exact of_decide_eq_true z)) l2
      · obtain ⟨z1, z2⟩ := ba z
        obtain ⟨z2, z3⟩ := ba z2
        have hy : X.env.scope.names.lookup y = some .local := by rw [c.hsc]; exact of_decide_eq_true z1
        cases m <;> first | exact nc h3 | skip
        rename_i elt t2 it cd
        match gs, h3 with
        | [], h => exact nc h
        | ⟨_, _, _, _⟩ :: _ :: _, h => exact nc h
        | [⟨tg, iter, ifs, asy⟩], h =>
          obtain ⟨hz, hI, hb, hG, hC, hE⟩ := lc_parts (show (decide (asy = 0) && (chkI fn gn N sc true it iter && (blkC N sc scope ((slotsOf t2).map fun i => (N.getD i Str.empty, i)) && (chkGc fn gn N (relS scope sc) t2 tg && (chkC fn gn N (relS scope sc) false cd ifs && chkE fn gn N (relS scope sc) false elt el))))) = true from h)
          obtain rfl := of_decide_eq_true hz
          obtain ⟨g, og, hg, ok, ei⟩ := lc_goal gls tb c hb hG
          have sw : swapsWith (.ListComp el [⟨tg, iter, ifs, 0⟩] scope lpos) (some (.Name y py)) pos.line X.env = pure true := sw_true (by rw [c.hsc]; exact c.kd) hy z2 (by simpa using z3)
          refine ps_imp (ps_setLc (tt := lfT bb X.kw (wC gls (run gls tb k) EX0 cd)) (te := lfE bb X.kw (wE gls (run gls tb k) EX0 elt)) c.calm nd (c.at_ g1) hy sw (sndI gls tb it N sc true X bb EX tg iter c hI).1 ok hg (fun s H C cl fp => sndC gls tb cd N _ false _ _ _ _ (blk_ok c ok.kind) hC) (fun s H C cl fp => (sndB gls tb elt).1 N _ false _ _ _ _ (blk_ok c ok.kind) hE) (sndI gls tb it N sc true X bb EX tg iter c hI).2) fun E s H w => ?_
          rw [ei]
          obtain ⟨loc, σ, hh, R, rs, rh, w, kk⟩ := w
          exact lc_ok og ⟨loc, σ, hh, _, rs, rh, w, fun dd h1 v H1 loc1 q1 x1 rh1 r1 => kk.nx _ _ _ _ loc1 q1 x1 rh1 ((rs.mono x1).set i r1)⟩
  · -- a tuple of names
    rename_i ts k1 tp
    by_cases ht : noTup e = true
    · exact t_asg V G (sw_sole rfl) (st_none2 ht) rfl
    · cases e <;> first | exact absurd rfl ht | skip
      rename_i vs k2 pt2
      cases t <;> first | exact nc h2 | skip
      rename_i is
      cases m <;> first | exact nc h3 | skip
      rename_i es
      match ts, vs, h1 with
      | [], _, h => exact nc h
      | [t1], _, h => cases t1 <;> exact nc h
      | t1 :: t2 :: _ :: _, _, h => cases t1 <;> first | exact nc h | (cases t2 <;> exact nc h)
      | [t1, t2], [], h => cases t1 <;> first | exact nc h | (cases t2 <;> exact nc h)
      | [t1, t2], [_], h => cases t1 <;> first | exact nc h | (cases t2 <;> exact nc h)
      | [t1, t2], _ :: _ :: _ :: _, h => cases t1 <;> first | exact nc h | (cases t2 <;> exact nc h)
      | [t1, t2], [a, b], h =>
        cases t1 <;> first | exact nc h | skip
        cases t2 <;> first | exact nc h | skip
        rename_i x px y py
        obtain ⟨a1, b1⟩ := ba (show (isK sc x .local && (isK sc y .local && ((py.line == px.line) && (!(x == y) && (!([a, b].all (foldedForSure 8)) && !([a, b].all (constantsAlone 8))))))) = true from h)
        obtain ⟨a2, b2⟩ := ba b1
        obtain ⟨a3, b3⟩ := ba b2
        obtain ⟨a4, b4⟩ := ba b3
        obtain ⟨a5, a6⟩ := ba b4
        match is, h2 with
        | [], h => exact nc h
        | [_], h =>
          have h' : chkNs N sc true [_] [Expr.Name x px, Expr.Name y py] = true := h
          obtain ⟨_, z⟩ := ba h'
          obtain ⟨_, z⟩ := ba z
          exact nc z
        | _ :: _ :: _ :: _, h =>
          have h' : chkNs N sc true (_ :: _ :: _ :: _) [Expr.Name x px, Expr.Name y py] = true := h
          obtain ⟨_, z⟩ := ba h'
          obtain ⟨_, z⟩ := ba z
          obtain ⟨_, z⟩ := ba z
          obtain ⟨_, z⟩ := ba z
          exact nc z
        | [i, j], h =>
          obtain ⟨q1, q2⟩ := ba (show (decide (N[i]? = some x) && (locB true sc x && (decide (N[j]? = some y) && (locB true sc y && true)))) = true from h)
          obtain ⟨_, q3⟩ := ba q2
          obtain ⟨q4, _⟩ := ba q3
          have hx : X.env.scope.names.lookup x = some .local := by rw [c.hsc]; exact of_decide_eq_true a1
          have hy : X.env.scope.names.lookup y = some .local := by rw [c.hsc]; exact of_decide_eq_true a2
          have nxy : (x == y) = false := by simpa using a4
          have hij : i ≠ j := by
            rintro rfl
            have e1 := of_decide_eq_true q1
            have e2 := of_decide_eq_true q4
            rw [e1] at e2
            cases e2
            simp at nxy
          have pl := nostar_of h3
          have pa := pl a List.mem_cons_self
          have pb := pl b (List.mem_cons_of_mem _ List.mem_cons_self)
          have nd : X.N.Nodup := by rw [c.hN]; exact c.nd
          refine ps_imp (t_par c.calm nd (c.at_ q1) (c.at_ q4) hij hx hy (sndEs gls tb es N sc true X bb EX _ c h3) (stores_swap (by rw [c.hsc]; exact c.kd) hx hy a3 nxy (ba pa).1 (ba pb).1 (nt a5) (nt a6)) rfl) fun E s H w => w
mutual
theorem sndS : ∀ (m : MS) (N : List Str) (sc : Scope) (X : Cx) (bb : BB) (EX : Ex) (s : Stmt), Cok fn gn gls tb k N sc true X bb EX → chkS fn gn N sc m s = true → PS X s (lfS bb X.kw (wS gls (run gls tb k) EX m))
  | .expr m, N, sc, X, bb, EX, s, c, h => by
    cases s <;> first | exact nc h | skip
    obtain ⟨h1, h2⟩ := ba h
    exact t_expr ((sndB gls tb m).1 N sc true X bb EX _ c h2) (sw_plain h1)
  | .asg t m, N, sc, X, bb, EX, s, c, h => by
    cases s <;> first | exact nc h | skip
    rename_i tgs e pos
    match tgs, h with
    | [], h => exact nc h
    | _ :: _ :: _, h => exact nc h
    | [tg], h =>
      obtain ⟨h1, g1⟩ := ba (show (asgB sc tg e && (chkG fn gn N sc true t tg && chkE fn gn N sc true m e)) = true from h)
      obtain ⟨h2, h3⟩ := ba g1
      exact asg_of gls tb c h1 h2 h3
  | .aug i op m, N, sc, X, bb, EX, s, c, h => by
    cases s <;> first | exact nc h | skip
    rename_i tg o e pos
    cases tg <;> first | exact nc h | skip
    obtain ⟨h1, g1⟩ := ba h
    obtain ⟨h2, g2⟩ := ba g1
    obtain ⟨h3, h4⟩ := ba g2
    obtain rfl := of_decide_eq_true h1
    obtain ⟨l1, l2⟩ := c.loc h3
    exact t_aug op (by rw [c.hN]; exact c.nd) (c.at_ h2) l1 ((sndB gls tb m).1 N sc true X bb EX _ c h4) l2
  | .ret m, N, sc, X, bb, EX, s, c, h => by
    cases s <;> first | exact nc h | skip
    rename_i o _
    cases o <;> first | exact nc h | skip
    exact t_ret ((sndB gls tb m).1 N sc true X bb EX _ c h)
  | .retN, N, sc, X, bb, EX, s, c, h => by
    cases s <;> first | exact nc h | skip
    rename_i o _
    cases o <;> first | exact nc h | exact t_retN
  | .pass, N, sc, X, bb, EX, s, c, h => by
    cases s <;> first | exact nc h | exact t_pass
  | .brk, N, sc, X, bb, EX, s, c, h => by
    cases s <;> first | exact nc h | exact t_brk
  | .cnt, N, sc, X, bb, EX, s, c, h => by
    cases s <;> first | exact nc h | exact t_cnt
  | .ife t a b, N, sc, X, bb, EX, s, c, h => by
    cases s <;> first | exact nc h | skip
    obtain ⟨h1, g1⟩ := ba h
    obtain ⟨h2, h3⟩ := ba g1
    exact t_ife ((sndB gls tb t).2.1 N sc true X bb EX _ c h1) (sndBl a N sc X bb EX _ c h2) (sndBl b N sc X bb EX _ c h3)
  | .whl t b, N, sc, X, bb, EX, s, c, h => by
    cases s <;> first | exact nc h | skip
    rename_i e bd els pos
    cases els <;> first | exact nc h | skip
    obtain ⟨h1, h2⟩ := ba h
    exact t_whl c.po ((sndB gls tb t).2.1 N sc true X bb EX _ c h1) (sndBl b N sc X bb EX _ c h2)
  | .forr t it b, N, sc, X, bb, EX, s, c, h => by
    cases s <;> first | exact nc h | skip
    rename_i tg e bd els pos
    cases els <;> first | exact nc h | skip
    obtain ⟨h1, g1⟩ := ba h
    obtain ⟨h2, g2⟩ := ba g1
    obtain ⟨h3, h4⟩ := ba g2
    obtain ⟨I, hs⟩ := sndI gls tb it N sc true X bb EX tg e c h3
    exact t_for c.po c.calm I (sndG gls tb t N sc true X bb EX tg c h2) (sndBl b N sc X bb EX _ c h4) hs
  | .rse x fs es, N, sc, X, bb, EX, s, c, h => by
    cases s <;> first | exact nc h | skip
    rename_i eo co pos
    cases eo <;> first | exact nc h | skip
    rename_i ec
    cases ec <;> first | exact nc h | skip
    rename_i fe as kw cpos
    cases fe <;> first | exact nc h | skip
    rename_i x' px
    cases kw <;> cases as <;> cases co <;> first | exact nc h | skip
    rename_i e1 as
    obtain ⟨h1, g1⟩ := ba (show (decide (x = x') && (decide (fn.xs.lookup x = some fs) && (glB sc x && (nmB x && chkEs fn gn N sc true es (e1 :: as))))) = true from h)
    obtain ⟨h2, g2⟩ := ba g1
    obtain ⟨h3, g3⟩ := ba g2
    obtain ⟨h4, h5⟩ := ba g3
    obtain rfl := of_decide_eq_true h1
    obtain ⟨C, T⟩ := c.gb.exs x fs (of_decide_eq_true h2)
    obtain ⟨W, tk, xw⟩ := c.ex
    have pl := nostar_of h5
    exact t_rse c.calm tk xw T (c.room.mono (by omega)) (c.gl h3) (nm1 h4) (sndEs gls tb es N sc true X bb EX _ c h5) (plain_star (pl _ List.mem_cons_self)) (star_back fun z hz => pl z (List.mem_cons_of_mem _ hz))
  | .tr b y ys zs i he, N, sc, X, bb, EX, s, c, h => by
    cases s <;> first | exact nc h | skip
    rename_i body hds els fin pos
    cases hds <;> first | exact nc h | skip
    rename_i hd hds
    cases hd
    rename_i ty nm su pos'
    cases ty <;> first | exact nc h | skip
    rename_i ty
    cases ty <;> first | exact nc h | skip
    rename_i y' np
    cases su <;> first | exact nc h | skip
    rename_i st su
    cases st <;> first | exact nc h | skip
    rename_i e rp
    cases e <;> first | exact nc h | skip
    rename_i e
    cases su <;> first | exact nc h | skip
    cases hds <;> first | exact nc h | skip
    cases els <;> first | exact nc h | skip
    cases fin <;> first | exact nc h | skip
    · 
      obtain ⟨h1, g1⟩ := ba (show (decide (y = y') && (glB sc y && (nmB y && (slB N sc i nm && (heB nm (nsOf fn ys) he e && (!ys.isEmpty && (ys.all (fun x => (fn.xs.lookup x).isSome && fn.hs.any (fun q => strEq q.1 x && (strEq q.2.1 y && q.2.2))) && (zs.all (fun x => fn.hs.any (fun q => strEq q.1 x && (strEq q.2.1 y && !q.2.2))) && chkB fn gn N sc b body)))))))) = true from h)
      obtain ⟨h2, g2⟩ := ba g1
      obtain ⟨h3, g3⟩ := ba g2
      obtain ⟨h4, g4⟩ := ba g3
      obtain ⟨h5, g5⟩ := ba g4
      obtain ⟨h6, g6⟩ := ba g5
      obtain ⟨h7, g7⟩ := ba g6
      obtain ⟨h8, h9⟩ := ba g7
      obtain rfl := of_decide_eq_true h1
      obtain ⟨W, tk, xw⟩ := c.ex
      obtain ⟨s1, s2⟩ := c.stk rfl
      have hq : ∀ (x : Str) (bo : Bool), (fn.hs.any fun q => strEq q.1 x && (strEq q.2.1 y && (q.2.2 == bo))) = true → (x, y, bo) ∈ fn.hs := fun x bo z => by
        obtain ⟨q, hq, e⟩ := List.any_eq_true.mp z
        obtain ⟨q1, q2, q3⟩ := q
        obtain ⟨e1, e2⟩ := ba e
        obtain ⟨e2, e3⟩ := ba e2
        obtain rfl := strEq_iff.mp e1
        obtain rfl := strEq_iff.mp e2
        obtain rfl : q3 = bo := by simpa using e3
        exact hq
      have hy : ∀ x ∈ ys, (fn.xs.lookup x).isSome = true ∧ (x, y, true) ∈ fn.hs := fun x hx => by
        obtain ⟨z1, z2⟩ := ba (List.all_eq_true.mp h7 x hx)
        exact ⟨z1, hq x true (by simpa using z2)⟩
      have hz : ∀ x ∈ zs, (x, y, false) ∈ fn.hs := fun x hx => hq x false (by simpa using List.all_eq_true.mp h8 x hx)
      cases ys with
      | nil => cases h6
      | cons x0 yr =>
        obtain ⟨C0, cv, m1, m2, m3⟩ := c.gb.exm x0 y true (hy x0 List.mem_cons_self).2
        have HD : HdOk X cv (x0 :: yr) zs (nsOf fn (x0 :: yr)) := by
          refine ⟨fun x hx => ?_, fun x hx => ?_⟩
          · obtain ⟨z1, z2⟩ := hy x hx
            obtain ⟨C, cv2, q1, q2, q3⟩ := c.gb.exm x y true z2
            rw [m2] at q2
            cases q2
            obtain ⟨fs, efs⟩ := Option.isSome_iff_exists.mp z1
            obtain ⟨C2, T⟩ := c.gb.exs x fs efs
            have := T.gC
            rw [q1] at this
            cases this
            refine ⟨C, q1, q3, T.xf, fun n hn => T.no n ?_⟩
            have hn' : n ∈ ((fn.xs.lookup x0).getD []).filter (fun n => (x0 :: yr).all fun y => ((fn.xs.lookup y).getD []).any fun m => strEq n m) := hn
            have z := List.all_eq_true.mp (List.mem_filter.mp hn').2 x hx
            rw [efs] at z
            obtain ⟨m, hm, em⟩ := List.any_eq_true.mp z
            rw [strEq_iff.mp em]
            exact hm
          · obtain ⟨C, cv2, q1, q2, q3⟩ := c.gb.exm x y false (hz x hx)
            rw [m2] at q2
            cases q2
            exact ⟨C, q1, q3⟩
        have HB : ∀ (b1 : BB) (E1 : Ex) (W : WX) (pn : List (Addr × Obj)) (xe : Value → Shared → Prop), b1.n = bb.n → Takes (X.tr pn xe) W → XW X.kw X.mg b1 E1 W → PassesOwn (model X.prog X.w) X.A X.env xe → PSs (X.tr pn xe) body (lfS b1 X.kw (wB gls (run gls tb k) E1 b)) := fun b1 E1 W pn xe en tk xw po =>
          sndBl b N sc (X.tr pn xe) b1 E1 body ⟨c.calm, c.hN, c.nd, c.hsc, c.kd, c.fnc, c.room, en.trans c.bn, fun _ => ⟨s1, s2⟩, ⟨W, tk, xw⟩, po, c.gb⟩ h9
        have NM : Names X y cv := ⟨c.gl h2, nm1 h3, .inl m2⟩
        cases i with
        | none =>
          cases nm with
          | some _ => cases h4
          | none => exact t_tr0 (t := fun E1 => wB gls (run gls tb k) E1 b) s1 s2 NM tk xw HD h5 HB
        | some j =>
          cases nm with
          | none => cases h4
          | some n =>
            obtain ⟨n1, n2⟩ := ba (show (decide (N[j]? = some n) && (isK sc n .local && nmB n)) = true from h4)
            obtain ⟨n2, n3⟩ := ba n2
            have hl : X.env.scope.names.lookup n = some .local := by rw [c.hsc]; exact of_decide_eq_true n2
            exact t_tr1 (t := fun E1 => wB gls (run gls tb k) E1 b) s1 s2 (by rw [c.hN]; exact c.nd) (c.at_ n1) hl (.inl hl) (nm1 n3) (nm2 n3) (by rw [c.bn]; exact (List.getElem?_eq_some_iff.mp (of_decide_eq_true n1)).1) NM tk xw HD h5 HB
theorem sndBl : ∀ (m : MB) (N : List Str) (sc : Scope) (X : Cx) (bb : BB) (EX : Ex) (ss : List Stmt), Cok fn gn gls tb k N sc true X bb EX → chkB fn gn N sc m ss = true → PSs X ss (lfS bb X.kw (wB gls (run gls tb k) EX m))
  | .nil, N, sc, X, bb, EX, [], c, h => b_nil
  | .nil, N, sc, X, bb, EX, _ :: _, c, h => nc h
  | .cons m ms, N, sc, X, bb, EX, [], c, h => nc h
  | .cons m ms, N, sc, X, bb, EX, s :: ss, c, h => by
    obtain ⟨h1, h2⟩ := ba (show (chkS fn gn N sc m s && chkB fn gn N sc ms ss) = true from h)
    have q := b_cons (sndS m N sc X bb EX s c h1) (sndBl ms N sc X bb EX ss c h2)
    exact q
end
end
end Mi

set_option Elab.async false
set_option linter.all false
set_option maxRecDepth 100000
set_option maxHeartbeats 1000000
/-! Mi: an error class of the program: its __init__ stores its parameters. -/
namespace Mi
open PySem PySem.Spec PyProof.Rows L2
/-- the text of such an __init__ -/
def iniB (N : List Str) (sc : Scope) : Nat → List Str → List Stmt → Bool
  | _, [], ss => (match ss with | [] => true | _ => false)
  | i, f :: fs, ss => (match ss with
    | .Assign [.Attribute (.Name s _) g _] (.Name y _) _ :: r => decide (N[0]? = some s) && (decide (N[i]? = some y) && (decide (g = f) && ((visB sc s && nmB s) && ((visB sc y && nmB y) && iniB N sc (i + 1) fs r))))
    | _ => false)
def tIr (K : PySem.W.Frag) (i : Nat) (fs : List Str) : TS := fun DD σ H => ∃ (a C dx : Addr) (acc : List (Str × V)) (ws : List V), σ[0]? = some (some (.ref a)) ∧ OexC K C ∧ H a = some (exo a C (some dx)) ∧ H dx = some (exd dx acc) ∧ dx ≠ a ∧ acc.length + fs.length ≤ 900 ∧ (∀ f ∈ fs, PySem.W.findIn K (.ref C) f = some none) ∧ ws.length = fs.length ∧
  (∀ (j : Nat) (w : V), ws[j]? = some w → σ[i + j]? = some (some w)) ∧ ∀ H', H' dx = some (exd dx ((fs.zip ws).reverse ++ acc)) → H' a = some (exo a C (some dx)) → (∀ b, b ≠ dx → b ≠ a → H' b = H b) → DD.nx σ H'
def tI0 (K : PySem.W.Frag) (fs : List Str) : TS := fun DD σ H => ∃ (a C : Addr) (ws : List V), σ[0]? = some (some (.ref a)) ∧ OexC K C ∧ H a = some (exo a C none) ∧ fs.length ≤ 90 ∧ (∀ f ∈ fs, PySem.W.findIn K (.ref C) f = some none) ∧ ws.length = fs.length ∧
  (∀ (j : Nat) (w : V), ws[j]? = some w → σ[1 + j]? = some (some w)) ∧ ∀ dx H', H dx = none → dx ≠ a → H' dx = some (exd dx (fs.zip ws).reverse) → H' a = some (exo a C (some dx)) → (∀ b, b ≠ dx → b ≠ a → H' b = H b) → DD.nx σ H'
section
variable {X : Cx} {N : List Str} {sc : Scope}
theorem vis_of {x : Str} (hsc : X.env.scope = sc) (h : visB sc x = true) : Vis X.env.scope x := by
  rw [hsc]
  unfold visB at h
  rw [Bool.or_eq_true, Bool.or_eq_true] at h
  rcases h with h | h | h
  · exact .inl (of_decide_eq_true h)
  · exact .inr (.inl (of_decide_eq_true h))
  · exact .inr (.inr (of_decide_eq_true h))
theorem ini_rest (hsc : X.env.scope = sc) (hN : X.N = N) : ∀ (fs : List Str) (i : Nat) (body : List Stmt), iniB N sc i fs body = true → PSs X body (tIr X.K i fs)
  | [], i, [], _ => pss_imp pss_nil fun DD s H ⟨a, C, dx, acc, ws, h0, T, ea, ed, hne, hl, no, lw, hw, k⟩ => by
    cases ws with
    | cons _ _ => cases lw
    | nil => exact k H (by simpa using ed) ea fun b _ _ => rfl
  | [], i, _ :: _, h => Bool.noConfusion (show false = true from h)
  | f :: fs, i, body, h => by
    cases body <;> first | exact Bool.noConfusion (show false = true from h) | skip
    rename_i st r
    cases st <;> first | exact Bool.noConfusion (show false = true from h) | skip
    rename_i tgs ev p4
    cases tgs <;> first | exact Bool.noConfusion (show false = true from h) | skip
    rename_i tg tgs
    cases tg <;> first | exact Bool.noConfusion (show false = true from h) | skip
    rename_i eo g p2
    cases eo <;> first | exact Bool.noConfusion (show false = true from h) | skip
    rename_i s' p1
    cases tgs <;> first | exact Bool.noConfusion (show false = true from h) | skip
    cases ev <;> first | exact Bool.noConfusion (show false = true from h) | skip
    rename_i y p3
    · 
      obtain ⟨h1, g1⟩ := ba (show (decide (N[0]? = some s') && (decide (N[i]? = some y) && (decide (g = f) && ((visB sc s' && nmB s') && ((visB sc y && nmB y) && iniB N sc (i + 1) fs r))))) = true from h)
      obtain ⟨h2, g2⟩ := ba g1
      obtain ⟨h3, g3⟩ := ba g2
      obtain ⟨h4, g4⟩ := ba g3
      obtain ⟨h5, h6⟩ := ba g4
      obtain ⟨a1, a2⟩ := ba h4
      obtain ⟨b1, b2⟩ := ba h5
      obtain rfl := of_decide_eq_true h3
      have ih := ini_rest hsc hN fs (i + 1) r h6
      refine pss_imp (pss_cons (ps_ost (pe_var (i := 0) (by rw [hN]; exact of_decide_eq_true h1) (vis_of hsc a1) (nm1 a2) (nm2 a2)) (pe_var (i := i) (by rw [hN]; exact of_decide_eq_true h2) (vis_of hsc b1) (nm1 b2) (nm2 b2)) rfl) ih) fun DD s H ⟨a, C, dx, acc, ws, h0, T, ea, ed, hne, hl, no, lw, hw, k⟩ => ?_
      cases ws with
      | nil => cases lw
      | cons w ws =>
        simp only [List.length_cons] at hl lw
        refine ⟨w, hw 0 w rfl, .ref a, h0, a, C, rfl, T, no _ List.mem_cons_self, .inr ⟨dx, acc, ea, ed, by omega, ?_⟩⟩
        refine ⟨a, C, dx, (g, w) :: acc, ws, h0, T, by rw [upd_ne (Ne.symm hne)]; exact ea, upd_same, hne, by simp only [List.length_cons]; omega, fun f hf => no f (List.mem_cons_of_mem _ hf), by omega, fun j v hv => ?_, fun H' e1 e2 e3 => ?_⟩
        · have := hw (j + 1) v (by simpa using hv)
          rw [show i + 1 + j = i + (j + 1) by omega]
          exact this
        · refine k H' (by rw [e1]; simp) e2 fun b hb hb2 => ?_
          rw [e3 b hb hb2, upd_ne hb]
theorem ini_all (hsc : X.env.scope = sc) (hN : X.N = N) : ∀ (fs : List Str) (body : List Stmt), fs ≠ [] → iniB N sc 1 fs body = true → PSs X body (tI0 X.K fs)
  | [], body, hne, _ => absurd rfl hne
  | f :: fs, body, _, h => by
    cases body <;> first | exact Bool.noConfusion (show false = true from h) | skip
    rename_i st r
    cases st <;> first | exact Bool.noConfusion (show false = true from h) | skip
    rename_i tgs ev p4
    cases tgs <;> first | exact Bool.noConfusion (show false = true from h) | skip
    rename_i tg tgs
    cases tg <;> first | exact Bool.noConfusion (show false = true from h) | skip
    rename_i eo g p2
    cases eo <;> first | exact Bool.noConfusion (show false = true from h) | skip
    rename_i s' p1
    cases tgs <;> first | exact Bool.noConfusion (show false = true from h) | skip
    cases ev <;> first | exact Bool.noConfusion (show false = true from h) | skip
    rename_i y p3
    · 
      obtain ⟨h1, g1⟩ := ba (show (decide (N[0]? = some s') && (decide (N[1]? = some y) && (decide (g = f) && ((visB sc s' && nmB s') && ((visB sc y && nmB y) && iniB N sc (1 + 1) fs r))))) = true from h)
      obtain ⟨h2, g2⟩ := ba g1
      obtain ⟨h3, g3⟩ := ba g2
      obtain ⟨h4, g4⟩ := ba g3
      obtain ⟨h5, h6⟩ := ba g4
      obtain ⟨a1, a2⟩ := ba h4
      obtain ⟨b1, b2⟩ := ba h5
      obtain rfl := of_decide_eq_true h3
      have ih := ini_rest hsc hN fs (1 + 1) r h6
      refine pss_imp (pss_cons (ps_ost (pe_var (i := 0) (by rw [hN]; exact of_decide_eq_true h1) (vis_of hsc a1) (nm1 a2) (nm2 a2)) (pe_var (i := 1) (by rw [hN]; exact of_decide_eq_true h2) (vis_of hsc b1) (nm1 b2) (nm2 b2)) rfl) ih) fun DD s H ⟨a, C, ws, h0, T, ea, hl, no, lw, hw, k⟩ => ?_
      cases ws with
      | nil => cases lw
      | cons w ws =>
        simp only [List.length_cons] at hl lw
        refine ⟨w, hw 0 w rfl, .ref a, h0, a, C, rfl, T, no _ List.mem_cons_self, .inl ⟨ea, fun dx hd hda => ?_⟩⟩
        refine ⟨a, C, dx, [(g, w)], ws, h0, T, upd_same, by rw [upd_ne hda]; exact upd_same, hda, by simp only [List.length_cons, List.length_nil]; omega, fun f hf => no f (List.mem_cons_of_mem _ hf), by omega, fun j v hv => ?_, fun H' e1 e2 e3 => ?_⟩
        · have := hw (j + 1) v (by simpa using hv)
          rw [show 1 + 1 + j = 1 + (j + 1) by omega]
          exact this
        · refine k dx H' hd hda (by rw [e1]; simp) e2 fun b hb hb2 => ?_
          rw [e3 b hb hb2, upd_ne hb2, upd_ne hb]
end
/-- an error class: its name, its __init__'s text, names, fields -/
structure XD where
  x : Str
  q : Str
  st : Stmt
  fs : List Str
def XD.N (d : XD) : List Str := "self" :: d.fs
def XD.dd (d : XD) : He.DefD := ⟨(d.x, some "__init__"), "__init__", d.q, defArgs d.st, defBody d.st, defScope d.st, [], []⟩
def excB (K : PySem.W.Frag) (C : Addr) : Bool := match K.lookup C with
  | some ⟨.type "type", _, .cls cd, sl⟩ => (match cd.mro, sl.toList with
    | .ref C' :: bm, [_, _, _, _, some (.builtin n), _] => C' == C && n == "ValueError.__new__" && !cd.hasDel && cd.hasDict && PySem.HandSPX.refsVE bm
    | _, _ => false)
  | _ => false
theorem excB_ok {K : PySem.W.Frag} {C : Addr} (q : excB K C = true) : ∃ nm q N bs bm sn sub ab col dd k0 k1 k2 k3 k5, K.lookup C = some (excClassObj nm q C N bs bm true sn sub ab col dd k0 k1 k2 k3 k5 "ValueError.__new__") ∧ PySem.HandSPX.refsVE bm = true := by
  unfold excB at q
  split at q
  · rename_i dd cd sl ho
    split at q
    · rename_i C' bm k0 k1 k2 k3 n k5 hm hs
      simp only [Bool.and_eq_true, beq_iff_eq, Bool.not_eq_true'] at q
      obtain ⟨⟨⟨⟨rfl, rfl⟩, hdel⟩, hdct⟩, ht⟩ := q
      obtain ⟨nm, bs, mro, ns, qn, hd, sn, sub, ab, col, del⟩ := cd
      dsimp only at hm hdel hdct
      subst hm hdel hdct
      have hsl : sl = #[k0, k1, k2, k3, some (.builtin "ValueError.__new__"), k5] := by
        obtain ⟨l⟩ := sl
        simp only at hs
        rw [hs]
      subst hsl
      exact ⟨nm, qn, ns, bs, bm, sn, sub, ab, col, dd, k0, k1, k2, k3, k5, ho, ht⟩
    · cases q
  · cases q
/-- what is looked at in the written part -/
def XD.okK (K : PySem.W.Frag) (d : XD) : Bool := (He.Fa.glo d.x).ok K && (excB K (He.ga K d.x) && (He.eqO (PySem.W.findIn K (.ref (He.ga K d.x)) "__setattr__") (some (some (.builtin "object.__setattr__"))) &&
  (decide (PySem.W.subIn K (.ref (He.ga K d.x)) (.type "BaseException") = some true) && (decide (PySem.W.typeIn K (.ref (He.ga K d.x)) = some (.type "type")) && (PySem.W.keepIn K (.ref (He.ga K d.x)) && (xfB K (He.ga K d.x) &&
  (d.fs.all (fun f => He.eqO (PySem.W.findIn K (.ref (He.ga K d.x)) f) (some none)) && (He.eqO (PySem.W.findIn K (.ref (He.ga K d.x)) "__init__") (some (some (.ref (He.ma K (He.ga K d.x) "__init__")))) && (decide (PySem.W.typeIn K (.ref (He.ma K (He.ga K d.x) "__init__")) = some (.type "function")) && d.dd.ok K)))))))))
end Mi

set_option Elab.async false
set_option linter.all false
set_option maxRecDepth 100000
set_option maxHeartbeats 4000000
/-! Mi: a program's defs, all at once; the head's facts; the law. -/
namespace Mi
open PySem PySem.Spec PyProof.Rows L2
theorem zip_look : ∀ {ps : List Str} {us : List Value} {x : Str}, us.length = ps.length → x ∈ ps → ((ps.zip us).lookup x).isNone = false
  | p :: ps, u :: us, x, e, h => by
    show (List.lookup x ((p, u) :: ps.zip us)).isNone = false
    rw [List.lookup_cons]
    by_cases c : (x == p) = true
    · rw [c]; rfl
    · have c' : (x == p) = false := by simpa using c
      rw [c']
      rcases List.mem_cons.mp h with rfl | h
      · simp at c
      · exact zip_look (by simpa using e) h
  | [], _, x, _, h => by cases h
  | _ :: _, [], _, e, _ => by cases e
theorem zip_map : ∀ {ps : List Str} {us : List Value}, us.length = ps.length → ps.Nodup → ps.filterMap (fun n => ((ps.zip us).lookup n).map (n, ·)) = ps.zip us
  | [], _, _, _ => rfl
  | _ :: _, [], e, _ => by cases e
  | p :: ps, u :: us, e, nd => by
    have h1 := (List.nodup_cons.mp nd).1
    have ih := zip_map (ps := ps) (us := us) (by simpa using e) (List.nodup_cons.mp nd).2
    rw [List.filterMap_cons]
    have e0 : Option.map (fun x => (p, x)) (List.lookup p ((p :: ps).zip (u :: us))) = some (p, u) := by simp
    rw [e0]
    show (p, u) :: _ = (p, u) :: ps.zip us
    congr 1
    have key : ∀ l : List Str, (∀ n ∈ l, n ≠ p) → l.filterMap (fun n => Option.map (fun x => (n, x)) (List.lookup n ((p :: ps).zip (u :: us)))) = l.filterMap (fun n => Option.map (fun x => (n, x)) (List.lookup n (ps.zip us))) := by
      intro l
      induction l with
      | nil => intro _; rfl
      | cons n l ihl =>
        intro hn
        have e1 : (n == p) = false := beq_eq_false_iff_ne.mpr (hn n List.mem_cons_self)
        rw [List.filterMap_cons, List.filterMap_cons, ihl fun m hm => hn m (List.mem_cons_of_mem _ hm)]
        simp only [List.zip_cons_cons, List.lookup_cons, e1]
    have := key ps fun n hn => by
      rintro rfl
      exact h1 hn
    rw [this, ih]
theorem bind_all {x qual : Str} {params : Arguments} {body : List Stmt} {scope : Scope} (kV doc pm : Value) (an : Option Addr) (cdv ct : Value) (us : List Value) (ps : List Str)
    (h1 : params.posonlyargs = []) (h2 : params.args.map (·.arg) = ps) (h3 : params.vararg = none) (h4 : params.kwonlyargs = []) (h5 : params.kwarg = none) (nd : ps.Nodup) (hl : us.length = ps.length) :
    bindArgs (PySem.W.fnOf x qual params body scope .none kV doc pm an cdv ct) ⟨us, []⟩ = pure (ps.zip us) := by
  obtain ⟨po, as, va, ko, kd, kw, df⟩ := params
  subst h1 h3 h4 h5 h2
  have hl : us.length = (as.map (·.arg)).length := hl
  have hm : (List.filter (fun n => (List.lookup n ((as.map (·.arg)).zip us)).isNone) (as.map (·.arg))) = [] := by
    rw [List.filter_eq_nil_iff]
    intro n hn
    rw [zip_look hl hn]
    exact Bool.false_ne_true
  have hz := zip_map hl nd
  have hl2 : us.length = as.length := by simpa using hl
  unfold bindArgs
  simp [PySem.W.fnOf, seqItems?, hl2]
  split
  · rename_i hc
    exfalso
    revert hc
    rw [show (#[] : Array Value).size = 0 from rfl, List.take_of_length_le (by simp)]
    simp only [List.map_nil, List.nil_append, hm]
    simp
  · have e1 : (notAStandIn Value.none : Sem Unit) = pure () := rfl
    rw [e1]
    have hz2 : List.filterMap ((fun n => Option.map (fun x => (n, x)) (List.lookup n ((List.map (fun x => x.arg) as).zip us))) ∘ fun x => x.arg) as = (List.map (fun x => x.arg) as).zip us := by
      rw [← List.filterMap_map]
      exact hz
    simp [hz2]

theorem forIn_kw {F : (Str × Value) → (List (Str × Value) × List (Str × Value)) → Sem (ForInStep (List (Str × Value) × List (Str × Value)))} :
    ∀ (l : List (Str × Value)) (s0 e0 : List (Str × Value)), (∀ x ∈ l, ∀ s : List (Str × Value) × List (Str × Value), (s.1.lookup x.1).isSome = false → F x s = pure (.yield (s.1 ++ [(x.1, x.2)], s.2))) → (l.map (·.1)).Nodup → (∀ x ∈ l, (s0.lookup x.1).isSome = false) →
      forIn l (s0, e0) F = pure (s0 ++ l, e0)
  | [], s0, e0, _, _, _ => by simp
  | x :: l, s0, e0, hF, nd, h0 => by
    rw [List.forIn_cons, hF x List.mem_cons_self _ (h0 x List.mem_cons_self)]
    simp only [pure_bind]
    obtain ⟨n1, n2⟩ := List.nodup_cons.mp (show (x.1 :: l.map (·.1)).Nodup from nd)
    rw [forIn_kw l (s0 ++ [(x.1, x.2)]) e0 (fun y hy => hF y (List.mem_cons_of_mem _ hy)) n2 fun y hy => ?_]
    · simp
    · have a := h0 y (List.mem_cons_of_mem _ hy)
      have b : y.1 ≠ x.1 := fun e => n1 (e ▸ List.mem_map_of_mem hy)
      have b2 : (y.1 == x.1) = false := beq_eq_false_iff_ne.mpr b
      rw [List.lookup_append]
      cases q : List.lookup y.1 s0 with
      | some _ => rw [q] at a; cases a
      | none => simp [List.lookup, b2]
theorem bind_kw {x qual : Str} {params : Arguments} {body : List Stmt} {scope : Scope} (kV doc pm : Value) (an : Option Addr) (cdv ct : Value) (us : List Value) (ps : List Str)
    (h1 : params.posonlyargs = []) (h2 : params.args.map (·.arg) = ps) (h3 : params.vararg = none) (h4 : params.kwonlyargs = []) (h5 : params.kwarg = none) (nd : ps.Nodup) (hl : us.length = ps.length) :
    bindArgs (PySem.W.fnOf x qual params body scope .none kV doc pm an cdv ct) ⟨[], ps.zip us⟩ = pure (ps.zip us) := by
  obtain ⟨po, as, va, ko, kd, kw, df⟩ := params
  subst h1 h3 h4 h5 h2
  have hl : us.length = (as.map (·.arg)).length := hl
  unfold bindArgs
  simp [PySem.W.fnOf, seqItems?]
  have hz := zip_map hl nd
  have hm : (List.filter (fun n => (List.lookup n ((as.map (·.arg)).zip us)).isNone) (as.map (·.arg))) = [] := by
    rw [List.filter_eq_nil_iff]
    intro n hn
    rw [zip_look hl hn]
    exact Bool.false_ne_true
  have hk : ((as.map (·.arg)).zip us).map (·.1) = as.map (·.arg) := List.map_fst_zip (by omega)
  rw [forIn_kw ((as.map (·.arg)).zip us) [] [] (fun x hx s hs => ?_) (by rw [hk]; exact nd) (fun x hx => rfl)]
  · simp only [pure_bind, List.nil_append]
    have e1 : (notAStandIn Value.none : Sem Unit) = pure () := rfl
    rw [e1]
    simp only [pure_bind]
    split
    · rename_i hc
      exfalso
      revert hc
      rw [show (#[] : Array Value).size = 0 from rfl, List.take_of_length_le (by simp)]
      simp only [List.map_nil, List.nil_append, hm]
      simp
    · have hz2 : List.filterMap ((fun n => Option.map (fun x => (n, x)) (List.lookup n ((List.map (fun x => x.arg) as).zip us))) ∘ fun x => x.arg) as = (List.map (fun x => x.arg) as).zip us := by
        rw [← List.filterMap_map]
        exact hz
      rw [hz2]
  · have : x.1 ∈ as.map (·.arg) := by rw [← hk]; exact List.mem_map_of_mem hx
    obtain ⟨a, ha, ea⟩ := List.mem_map.mp this
    rw [if_pos ⟨a, ha, ea⟩, if_neg (by rw [hs]; exact Bool.false_ne_true)]

/-! ### a program's defs -/
structure PD where
  x : Str
  st : Stmt
  N : List Str
  m : MF
def PD.ps (p : PD) : List Str := p.N.take p.m.np
def PD.dd (p : PD) : He.DefD := ⟨(p.x, none), p.x, p.x, defArgs p.st, defBody p.st, defScope p.st, [], []⟩
def scB (N : List Str) (np : Nat) (sc : Scope) : Bool := (match sc.kind with | .function => true | _ => false) && (!sc.isCoroutine && (!sc.isGenerator && (decide N.Nodup && (decide (np ≤ N.length) &&
  ((N.take np).all (fun x => isK sc x .local || isK sc x .cell) && sc.names.all fun y => (match y.2 with | .free => false | _ => true))))))
theorem scB_ok {N : List Str} {np : Nat} {sc : Scope} (h : scB N np sc = true) : FnScope N (N.take np) sc := by
  obtain ⟨h1, g1⟩ := ba h
  obtain ⟨h2, g2⟩ := ba g1
  obtain ⟨h3, g3⟩ := ba g2
  obtain ⟨h4, g4⟩ := ba g3
  obtain ⟨h5, g5⟩ := ba g4
  obtain ⟨h6, h7⟩ := ba g5
  refine ⟨?_, by simpa using h2, by simpa using h3, of_decide_eq_true h4, ?_, fun x hx => ?_, fun y hy e => ?_⟩
  · split at h1
    · assumption
    · cases h1
  · rw [List.length_take, Nat.min_eq_left (of_decide_eq_true h5)]
  · have q := List.all_eq_true.mp h6 x hx
    rw [Bool.or_eq_true] at q
    exact q.imp (fun z => of_decide_eq_true z) fun z => of_decide_eq_true z
  · have q := List.all_eq_true.mp h7 y hy
    rw [e] at q
    cases q
def arB (a : Arguments) (ps : List Str) : Bool := a.posonlyargs.isEmpty && (decide (a.args.map (·.arg) = ps) && (a.vararg.isNone && (a.kwonlyargs.isEmpty && a.kwarg.isNone)))
def PD.ok (fn : Fns) (gn : List Str) (p : PD) : Bool := scB p.N p.m.np (defScope p.st) && (arB (defArgs p.st) p.ps && (decide (p.m.ns = p.N.length) && chkB fn gn p.N (defScope p.st) p.m.body (defBody p.st)))
theorem PD.binds {K : PySem.W.Frag} {fn : Fns} {gn : List Str} {p : PD} (h : p.ok fn gn = true) {f : Addr} {fd : FuncData} (F : FunD K p.x p.x (defArgs p.st) (defBody p.st) (defScope p.st) [] [] f fd) : Binds K fd p.ps [] := by
  obtain ⟨h1, g1⟩ := ba h
  obtain ⟨h2, g2⟩ := ba g1
  obtain ⟨a1, b1⟩ := ba h2
  obtain ⟨a2, b2⟩ := ba b1
  obtain ⟨a3, b3⟩ := ba b2
  obtain ⟨a4, a5⟩ := ba b3
  have nd : p.ps.Nodup := (scB_ok h1).nd.sublist (List.take_sublist _ _)
  exact F.bindsN fun kV doc pm an cdv ct us hl => bind_all kV doc pm an cdv ct us p.ps (by simpa using a1) (of_decide_eq_true a2) (by simpa using a3) (by simpa using a4) (by simpa using a5) nd hl
theorem PD.bindsA {K : PySem.W.Frag} {fn : Fns} {gn : List Str} {p : PD} (h : p.ok fn gn = true) {f : Addr} {fd : FuncData} (F : FunD K p.x p.x (defArgs p.st) (defBody p.st) (defScope p.st) [] [] f fd) (s : Shared) (us : List Value) (hl : us.length = p.ps.length) : BindsTo s fd ⟨us, []⟩ (p.ps.zip us) := by
  obtain ⟨h1, g1⟩ := ba h
  obtain ⟨h2, g2⟩ := ba g1
  obtain ⟨a1, b1⟩ := ba h2
  obtain ⟨a2, b2⟩ := ba b1
  obtain ⟨a3, b3⟩ := ba b2
  obtain ⟨a4, a5⟩ := ba b3
  have nd : p.ps.Nodup := (scB_ok h1).nd.sublist (List.take_sublist _ _)
  exact F.bindsA (fun kV doc pm an cdv ct us hl => bind_all kV doc pm an cdv ct us p.ps (by simpa using a1) (of_decide_eq_true a2) (by simpa using a3) (by simpa using a4) (by simpa using a5) nd hl) s us hl
theorem PD.bindsK {K : PySem.W.Frag} {fn : Fns} {gn : List Str} {p : PD} (h : p.ok fn gn = true) {f : Addr} {fd : FuncData} (F : FunD K p.x p.x (defArgs p.st) (defBody p.st) (defScope p.st) [] [] f fd) (s : Shared) (us : List Value) (hl : us.length = p.ps.length) : BindsTo s fd ⟨[], p.ps.zip us⟩ (p.ps.zip us) := by
  obtain ⟨h1, g1⟩ := ba h
  obtain ⟨h2, g2⟩ := ba g1
  obtain ⟨a1, b1⟩ := ba h2
  obtain ⟨a2, b2⟩ := ba b1
  obtain ⟨a3, b3⟩ := ba b2
  obtain ⟨a4, a5⟩ := ba b3
  have nd : p.ps.Nodup := (scB_ok h1).nd.sublist (List.take_sublist _ _)
  obtain ⟨oc, od, dV, kV, doc, pm, an, cdv, ct, osl, rfl, lk, hcd, hD, hK⟩ := F.ex
  rcases hD with ⟨_, rfl⟩ | ⟨e, _⟩
  · exact .of_eq (bind_kw kV doc pm an cdv ct us p.ps (by simpa using a1) (of_decide_eq_true a2) (by simpa using a3) (by simpa using a4) (by simpa using a5) nd hl)
  · exact absurd rfl e
def fnsOf (ps : List PD) (xs : List XD := []) (hs : List (Str × Str × Bool) := []) : Fns := ⟨ps.map fun p => (p.x, p.ps), xs.map fun d => (d.x, d.fs), hs⟩
def XD.ok (d : XD) : Bool := scB d.N d.N.length (defScope d.st) && (arB (defArgs d.st) d.N && (iniB d.N (defScope d.st) 1 d.fs (defBody d.st) && (!d.fs.isEmpty && decide (d.fs.length ≤ 90))))
section
variable {P : Program} {w : World} {K : PySem.W.Frag} {mg : Str → Option Value} {base : Heap} {ps : List PD} {gn : List Str} {gls : List D} {xs : List XD} {hs : List (Str × Str × Bool)}
theorem rs_start {K : KW} {loc : List Addr} {H : Hp} {ds : List D} {vs : List V} {N : List Str} {ns np : Nat} (r : RDs K loc H ds vs) (hn : ns = N.length) (hp : ds.length = np) (hle : np ≤ N.length) : RS ⟨N.length, loc, H⟩ K loc H (ds.map some ++ List.replicate (ns - np) none) (L2.start N vs) := by
  have hl := r.length
  refine ⟨by unfold L2.start; simp [hl, hn]; omega, fun i d e => ?_, Xt.refl, by simp [hn]; omega⟩
  by_cases hi : i < ds.length
  · rw [List.getElem?_append_left (by simpa using hi), List.getElem?_map] at e
    cases g : ds[i]? with
    | none => rw [g] at e; cases e
    | some z =>
      rw [g] at e
      cases e
      obtain ⟨v, hv, rv⟩ := r.at_ g
      exact ⟨v, by unfold L2.start; rw [List.getElem?_append_left (by simp; omega), List.getElem?_map, hv]; rfl, rv⟩
  · rw [List.getElem?_append_right (by simpa using hi), List.getElem?_replicate] at e
    split at e <;> cases e
/-- what is known of an error class -/
structure XOk (K : PySem.W.Frag) (mg : Str → Option Value) (d : XD) : Prop where
  gC : mg d.x = some (.ref (He.ga K d.x))
  oe : OexC K (He.ga K d.x)
  xf : XfC K (He.ga K d.x)
  no : ∀ f ∈ d.fs, PySem.W.findIn K (.ref (He.ga K d.x)) f = some none
  iC : PySem.W.findIn K (.ref (He.ga K d.x)) "__init__" = some (some (.ref (He.ma K (He.ga K d.x) "__init__")))
  tC : PySem.W.typeIn K (.ref (He.ma K (He.ga K d.x) "__init__")) = some (.type "function")
  fn : ∃ fd, FunD K "__init__" d.q (defArgs d.st) (defBody d.st) (defScope d.st) [] [] (He.ma K (He.ga K d.x) "__init__") fd
/-- what is known of the program's top -/
structure Top (K : PySem.W.Frag) (mg : Str → Option Value) (ps : List PD) (gn : List Str) (gls : List D) (xs : List XD) (hs : List (Str × Str × Bool)) : Prop where
  blt : ∀ x ∈ bltNames, mg x = none
  fns : ∀ (f : Nat) (p : PD), ps[f]? = some p → ∃ a fd, mg p.x = some (.ref a) ∧ FunD K p.x p.x (defArgs p.st) (defBody p.st) (defScope p.st) [] [] a fd
  cns : ∀ (i : Nat) (x : Str) (d : D), gn[i]? = some x → gls[i]? = some d → ∃ u v, mg x = some u ∧ RelV v u ∧ ∀ P w loc H, RD ⟨K, P, w⟩ loc H d v
  exs : ∀ d ∈ xs, XOk K mg d
  exm : ∀ (x y : Str) (b : Bool), (x, y, b) ∈ hs → ∃ (C : Addr) (c : Value), mg x = some (.ref C) ∧ mg y = some c ∧ PySem.W.exmOne K (.ref C) c = some b
theorem xcls_of {d : XD} (h : d.ok = true) (T : XOk K mg d) : XCls P w K mg base d.x d.fs (He.ga K d.x) := by
  obtain ⟨h1, g1⟩ := ba h
  obtain ⟨h2, g2⟩ := ba g1
  obtain ⟨h3, g3⟩ := ba g2
  obtain ⟨h4, h5⟩ := ba g3
  obtain ⟨a1, b1⟩ := ba h2
  obtain ⟨a2, b2⟩ := ba b1
  obtain ⟨a3, b3⟩ := ba b2
  obtain ⟨a4, a5⟩ := ba b3
  have S := scB_ok h1
  rw [List.take_length] at S
  have nd : d.N.Nodup := S.nd
  obtain ⟨fd, F⟩ := T.fn
  have hne : d.fs ≠ [] := fun z => by rw [z] at h4; cases h4
  refine ⟨T.gC, T.oe, T.xf, T.no, of_decide_eq_true h5, _, fd, T.iC, T.tC, F.bindsN fun kV doc pm an cdv ct us hl => bind_all kV doc pm an cdv ct us d.N (by simpa using a1) (of_decide_eq_true a2) (by simpa using a3) (by simpa using a4) (by simpa using a5) nd hl, ?_⟩
  refine F.ok (N := d.N) S (fun vs H Q E ⟨a, C, ws, e, l, _⟩ => by rw [e]; simp [l]) fun cdv A outer s H vs Q E hr ⟨a, C, ws, e, l, oc, ea, no, q⟩ => ?_
  subst e
  refine ⟨_, ini_all (X := cxOf CX0 P w K mg base d.N d.q (defScope d.st) _ cdv A outer s H E) rfl rfl d.fs (defBody d.st) hne h3, a, C, ws, rfl, oc, ea, of_decide_eq_true h5, no, l, fun j v hv => ?_, fun dx H' e1 e2 e3 e4 e5 => q dx H' e1 e2 e3 e4 e5⟩
  unfold L2.start
  have hj : j < ws.length := (List.getElem?_eq_some_iff.mp hv).1
  rw [List.getElem?_append_left (by simp; omega), List.getElem?_map, show 1 + j = j + 1 by omega, List.getElem?_cons_succ, hv]
  rfl
theorem gok_of {tb : List MF} {k : Nat} (T : Top K mg ps gn gls xs hs) (h : ∀ p ∈ ps, p.ok (fnsOf ps xs hs) gn = true) (hx : ∀ d ∈ xs, d.ok = true)
    (F : ∀ (f : Nat) (p : PD) (a : Addr) (fd : FuncData), ps[f]? = some p → FunD K p.x p.x (defArgs p.st) (defBody p.st) (defScope p.st) [] [] a fd → FnOk P w K mg base (L2.CX P w) (k + 2) a fd p.ps (lfP ⟨K, P, w⟩ mg (run gls tb k f))) : Gok (fnsOf ps xs hs) gn gls tb P w K mg base k := by
  refine ⟨T.blt, fun f x pp e => ?_, (fun i x d e1 e2 => let ⟨u, v, z1, z2, z3⟩ := T.cns i x d e1 e2; ⟨u, v, z1, z2, z3 P w⟩), fun x fs e => ?_, T.exm⟩
  · have e : (ps.map fun p => (p.x, p.ps))[f]? = some (x, pp) := e
    rw [List.getElem?_map] at e
    cases g : ps[f]? with
    | none => rw [g] at e; cases e
    | some p =>
      rw [g] at e
      cases e
      obtain ⟨a, fd, hm, D⟩ := T.fns f p g
      exact ⟨a, fd, hm, D.kp, PD.binds (h p (List.mem_of_getElem? g)) D, PD.bindsK (h p (List.mem_of_getElem? g)) D, F f p a fd g D⟩
  · have m := PySem.mem_of_lookup (show (xs.map fun d => (d.x, d.fs)).lookup x = some fs from e)
    obtain ⟨d, hd, ed⟩ := List.mem_map.mp m
    cases ed
    exact ⟨_, xcls_of (hx d hd) (T.exs d hd)⟩
theorem run_un {f k : Nat} {p : PD} (gm : (ps.map (·.m))[f]? = some p.m) {ds : List D} {h : Hh} {Q : Kd} {E : Ex} (z : run gls (ps.map (·.m)) (k + 1) f ds h Q E) : ds.length = p.m.np ∧ wB gls (run gls (ps.map (·.m)) k) E p.m.body { nx := fun _ h' => Q .non h', rt := Q, bk := fun _ _ => False, ct := fun _ _ => False } (ds.map some ++ List.replicate (p.m.ns - p.m.np) none) h := by
  unfold run at z
  rw [gm] at z
  obtain ⟨c, z⟩ := chk_e z
  exact ⟨of_decide_eq_true c, z⟩
theorem fn_ok (T : Top K mg ps gn gls xs hs) (h : ∀ p ∈ ps, p.ok (fnsOf ps xs hs) gn = true) (hx : ∀ d ∈ xs, d.ok = true) : ∀ (k f : Nat) (p : PD) (a : Addr) (fd : FuncData), ps[f]? = some p → FunD K p.x p.x (defArgs p.st) (defBody p.st) (defScope p.st) [] [] a fd → FnOk P w K mg base (L2.CX P w) (k + 2) a fd p.ps (lfP ⟨K, P, w⟩ mg (run gls (ps.map (·.m)) k f))
  | 0, f, p, a, fd, g, F => by
    have no : ∀ vs H Q E, ¬ lfP ⟨K, P, w⟩ mg (run gls (ps.map (·.m)) 0 f) vs H Q E := fun vs H Q E ⟨_, _, _, _, _, _, _, z, _⟩ => z
    exact ⟨fun vs H Q E z => absurd z (no vs H Q E), fun A outer s H args us vs Q E _ _ _ _ z => absurd z (no vs H Q E)⟩
  | k + 1, f, p, a, fd, g, F => by
    have ih := gok_of (P := P) (w := w) (base := base) T h hx (fn_ok T h hx k)
    have hok := h p (List.mem_of_getElem? g)
    obtain ⟨h1, g1⟩ := ba hok
    obtain ⟨h2, g2⟩ := ba g1
    obtain ⟨h3, h4⟩ := ba g2
    have S := scB_ok h1
    have hle : p.m.np ≤ p.N.length := by
      obtain ⟨_, z1⟩ := ba h1
      obtain ⟨_, z2⟩ := ba z1
      obtain ⟨_, z3⟩ := ba z2
      obtain ⟨_, z4⟩ := ba z3
      obtain ⟨z5, _⟩ := ba z4
      exact of_decide_eq_true z5
    have gm : (ps.map (·.m))[f]? = some p.m := by rw [List.getElem?_map, g]; rfl
    refine F.ok S (fun vs H Q E ⟨loc, ds, hh, Q', X', r, _, z, _⟩ => ?_) fun cdv A outer s H vs Q E hr ⟨loc, ds, hh, Q', X', r, rh, z, kk, kx⟩ => ?_
    · obtain ⟨e1, _⟩ := run_un gm z
      rw [r.length, e1]
      unfold PD.ps
      rw [List.length_take, Nat.min_eq_left hle]
    · obtain ⟨e1, z⟩ := run_un gm z
      have C : Cok (fnsOf ps xs hs) gn gls (ps.map (·.m)) k p.N (defScope p.st) true (cxOf (L2.CX P w) P w K mg base p.N p.x (defScope p.st) a cdv A outer s H E) ⟨p.N.length, loc, H⟩ X' :=
        ⟨rfl, rfl, S.nd, rfl, S.kind, fun _ _ => rfl, hr, rfl, fun _ => ⟨rfl, rfl⟩, ⟨_, takes_of rfl rfl rfl rfl, fun σ _ x kvs h' H1 loc' d C xd q m xt rh rx hd => kx x kvs h' H1 loc' d C xd q m xt rh rx hd⟩, passes_of rfl, ih⟩
      have B := sndBl gls (ps.map (·.m)) p.m.body p.N (defScope p.st) _ _ _ (defBody p.st) C h4
      exact ⟨_, B, loc, _, hh, _, rs_start r (of_decide_eq_true h3) e1 hle, rh, z, ⟨fun σ' h' s' H' loc' q x rh' rs' => kk _ _ _ _ loc' q x rh' rd_non, kk, fun _ _ _ _ _ q => q.elim, fun _ _ _ _ _ q => q.elim⟩⟩
/-- the law's def: nothing leaves it -/
def lfP0 (K : KW) (C : List D → Hh → Kd → Ex → Prop) : Sp := fun vs H Q _ => ∃ loc ds h Q', RDs K loc H ds vs ∧ RH K loc H h ∧ C ds h Q' EX0 ∧ Kx K loc H Q' Q
theorem fn_ok0 (T : Top K mg ps gn gls xs hs) (h : ∀ p ∈ ps, p.ok (fnsOf ps xs hs) gn = true) (hx : ∀ d ∈ xs, d.ok = true) : ∀ (k f : Nat) (p : PD) (a : Addr) (fd : FuncData), ps[f]? = some p → FunD K p.x p.x (defArgs p.st) (defBody p.st) (defScope p.st) [] [] a fd → FnOk P w K mg base CX0 (k + 2) a fd p.ps (lfP0 ⟨K, P, w⟩ (run gls (ps.map (·.m)) k f))
  | 0, f, p, a, fd, g, F => by
    have no : ∀ vs H Q E, ¬ lfP0 ⟨K, P, w⟩ (run gls (ps.map (·.m)) 0 f) vs H Q E := fun vs H Q E ⟨_, _, _, _, _, _, z, _⟩ => z
    exact ⟨fun vs H Q E z => absurd z (no vs H Q E), fun A outer s H args us vs Q E _ _ _ _ z => absurd z (no vs H Q E)⟩
  | k + 1, f, p, a, fd, g, F => by
    have ih := gok_of (P := P) (w := w) (base := base) T h hx (fn_ok T h hx k)
    have hok := h p (List.mem_of_getElem? g)
    obtain ⟨h1, g1⟩ := ba hok
    obtain ⟨h2, g2⟩ := ba g1
    obtain ⟨h3, h4⟩ := ba g2
    have S := scB_ok h1
    have hle : p.m.np ≤ p.N.length := by
      obtain ⟨_, z1⟩ := ba h1
      obtain ⟨_, z2⟩ := ba z1
      obtain ⟨_, z3⟩ := ba z2
      obtain ⟨_, z4⟩ := ba z3
      obtain ⟨z5, _⟩ := ba z4
      exact of_decide_eq_true z5
    have gm : (ps.map (·.m))[f]? = some p.m := by rw [List.getElem?_map, g]; rfl
    refine F.ok S (fun vs H Q E ⟨loc, ds, hh, Q', r, _, z, _⟩ => ?_) fun cdv A outer s H vs Q E hr ⟨loc, ds, hh, Q', r, rh, z, kk⟩ => ?_
    · obtain ⟨e1, _⟩ := run_un gm z
      rw [r.length, e1]
      unfold PD.ps
      rw [List.length_take, Nat.min_eq_left hle]
    · obtain ⟨e1, z⟩ := run_un gm z
      have C : Cok (fnsOf ps xs hs) gn gls (ps.map (·.m)) k p.N (defScope p.st) true (cxOf CX0 P w K mg base p.N p.x (defScope p.st) a cdv A outer s H E).nox ⟨p.N.length, loc, H⟩ EX0 :=
        ⟨rfl, rfl, S.nd, rfl, S.kind, fun _ _ => rfl, hr, rfl, fun _ => ⟨rfl, rfl⟩, ⟨_, takesN, fun _ _ _ _ _ _ _ _ _ _ z => z.elim⟩, PassesOwn.never, ih⟩
      have B := sndBl gls (ps.map (·.m)) p.m.body p.N (defScope p.st) _ _ _ (defBody p.st) C h4
      exact ⟨_, B.nox, loc, _, hh, _, rs_start r (of_decide_eq_true h3) e1 hle, rh, z, ⟨fun σ' h' s' H' loc' q x rh' rs' => kk _ _ _ _ loc' q x rh' rd_non, kk, fun _ _ _ _ _ q => q.elim, fun _ _ _ _ _ q => q.elim⟩⟩
end

/-! ### the head's facts -/
mutual
def valB (K : PySem.W.Frag) : D → Value → Bool
  | .non, u => (match u with | .none => true | _ => false)
  | .bl b, u => (match u with | .bool c => decide (b = c) | _ => false)
  | .int i, u => (match u with | .int j _ => decide (i = j) | _ => false)
  | .str x, u => (match u with | .str y _ => decide (x = y) | _ => false)
  | .tup ds, u => (match u with
    | .ref a => (match K.lookup a with
      | some ⟨.type c, od, .seq its _, _⟩ => od.isNone && (decide (c = "tuple") && (decide (its.size ≤ sizeLine) && valsB K ds its.toList))
      | _ => false)
    | _ => false)
  | .ref _, _ => false
  | .fn _, _ => false
def valsB (K : PySem.W.Frag) : List D → List Value → Bool
  | [], us => us.isEmpty
  | d :: ds, us => (match us with
    | u :: us => valB K d u && valsB K ds us
    | [] => false)
end
mutual
theorem valB_ok {K : PySem.W.Frag} : ∀ (d : D) (u : Value), valB K d u = true → ∃ v, RelV v u ∧ ∀ P w loc H, RD ⟨K, P, w⟩ loc H d v
  | .non, u, h => by
    cases u <;> first | exact nc h | exact ⟨.non, rfl, fun _ _ _ _ => rd_non⟩
  | .bl b, u, h => by
    cases u <;> first | exact nc h | skip
    obtain rfl := of_decide_eq_true h
    exact ⟨.bl b, rfl, fun _ _ _ _ => rd_bl⟩
  | .int i, u, h => by
    cases u <;> first | exact nc h | skip
    obtain rfl := of_decide_eq_true h
    exact ⟨.int i, ⟨_, rfl⟩, fun _ _ _ _ => rd_int⟩
  | .str x, u, h => by
    cases u <;> first | exact nc h | skip
    obtain rfl := of_decide_eq_true h
    exact ⟨.str x, ⟨_, rfl⟩, fun _ _ _ _ => rd_str⟩
  | .tup ds, u, h => by
    cases u <;> first | exact nc h | skip
    rename_i a
    have h' : (match K.lookup a with
      | some ⟨.type c, od, .seq its _, _⟩ => od.isNone && (decide (c = "tuple") && (decide (its.size ≤ sizeLine) && valsB K ds its.toList))
      | _ => false) = true := h
    split at h'
    · rename_i c od its n sl e
      obtain ⟨h0, g0⟩ := ba h'
      obtain ⟨h1, g1⟩ := ba g0
      obtain ⟨h2, h3⟩ := ba g1
      obtain ⟨vs, rv, q⟩ := valsB_ok ds its.toList h3
      exact ⟨.ref a, rfl, fun P w loc H => rd_tup (.inr ⟨_, its, n, e, congrArg Value.type (of_decide_eq_true h1), rfl, of_decide_eq_true h2, rv⟩) (.inr ⟨_, e, Option.isNone_iff_eq_none.mp h0⟩) (q P w loc H)⟩
    · exact nc h'
  | .ref _, _, h => nc h
  | .fn _, _, h => nc h
theorem valsB_ok {K : PySem.W.Frag} : ∀ (ds : List D) (us : List Value), valsB K ds us = true → ∃ vs, Vals vs us ∧ ∀ P w loc H, RDs ⟨K, P, w⟩ loc H ds vs
  | [], [], _ => ⟨[], .nil, fun _ _ _ _ => RDs.nil⟩
  | [], _ :: _, h => nc h
  | _ :: _, [], h => nc h
  | d :: ds, u :: us, h => by
    obtain ⟨h1, h2⟩ := ba (show (valB K d u && valsB K ds us) = true from h)
    obtain ⟨v, r, q⟩ := valB_ok d u h1
    obtain ⟨vs, rs, qs⟩ := valsB_ok ds us h2
    exact ⟨v :: vs, .cons r rs, fun P w loc H => RDs.cons (q P w loc H) (qs P w loc H)⟩
end
def cnB (K : PySem.W.Frag) (x : Str) (d : D) : Bool := match PySem.W.nsIn K mainGlobals x with
  | some (some u) => valB K d u
  | _ => false
def hsB (K : PySem.W.Frag) (q : Str × Str × Bool) : Bool := (He.Fa.glo q.1).ok K && ((He.Fa.glo q.2.1).ok K && decide (PySem.W.exmOne K (.ref (He.ga K q.1)) (.ref (He.ga K q.2.1)) = some q.2.2))
def obsM (cs : List (Str × D)) (ps : List PD) (xs : List XD) (hs : List (Str × Str × Bool)) (K : PySem.W.Frag) : He.AlD := ((bltNames.all fun x => He.eqO (PySem.W.nsIn K mainGlobals x) (some none)) && ((cs.all fun c => cnB K c.1 c.2) && ((ps.all fun p => (He.Fa.glo p.x).ok K && p.dd.ok K) && (xs.all (XD.okK K) && hs.all (hsB K)))), (ps.map fun p => He.fnW K (p.x, none)) ++ xs.map fun d => He.fnW K d.dd.at_)
def valM (ps : List PD) (xs : List XD) : He.AlD := (true, (ps.map fun p => p.dd.val) ++ xs.map fun d => d.dd.val)
def SaysM (cs : List (Str × D)) (ps : List PD) (xs : List XD) (hs : List (Str × Str × Bool)) (K : PySem.W.Frag) : Prop := obsM cs ps xs hs K = valM ps xs
def obsMG (n : Nat) (cs : List (Str × D)) (ps : List PD) (g : Addr → Option Obj) (xs : List XD := []) (hs : List (Str × Str × Bool) := []) : He.AlD := obsM cs ps xs hs (He.frG g (He.asD g n))
def hookM (n : Nat) (cs : List (Str × D)) (ps : List PD) (xs : List XD := []) (hs : List (Str × Str × Bool) := []) : PySem.W.Hook where
  α := He.AlD
  obs := fun s => obsMG n cs ps s.heap.get? xs hs
  val := fun _ => valM ps xs
  says := fun _ h => ∃ K : PySem.W.Frag, K.In h ∧ SaysM cs ps xs hs K
  of := fun _ _ e => ⟨_, He.frG_in, e⟩
  keeps := fun _ _ _ ⟨K, hK, c⟩ k => ⟨K, PySem.W.Frag.In.keeps hK k, c⟩
theorem obsMG_eq {n : Nat} {cs : List (Str × D)} {ps : List PD} {xs : List XD} {hs : List (Str × Str × Bool)} {g : Addr → Option Obj} {s : Shared} (h : ∀ a, g a = s.heap.get? a) : obsMG n cs ps g xs hs = (hookM n cs ps xs hs).obs s := by
  have e : g = s.heap.get? := funext h
  rw [e] <;> rfl
theorem top_of {cs : List (Str × D)} {ps : List PD} {xs : List XD} {hs : List (Str × Str × Bool)} {K : PySem.W.Frag} {h : Heap} {mg : Str → Option Value} (X : K.In h) (G : h.Ns mainGlobals mg) (c : SaysM cs ps xs hs K) : Top K mg ps (cs.map (·.1)) (cs.map (·.2)) xs hs := by
  have c1 := congrArg (fun z : He.AlD => z.1) c
  have c2 : (ps.map fun p => He.fnW K (p.x, none)) ++ (xs.map fun d => He.fnW K d.dd.at_) = (ps.map fun p => p.dd.val) ++ xs.map fun d => d.dd.val := congrArg (fun z : He.AlD => z.2) c
  obtain ⟨c3, c4⟩ := List.append_inj c2 (by simp)
  obtain ⟨b1, g1⟩ := ba (show ((bltNames.all fun x => He.eqO (PySem.W.nsIn K mainGlobals x) (some none)) && ((cs.all fun c => cnB K c.1 c.2) && ((ps.all fun p => (He.Fa.glo p.x).ok K && p.dd.ok K) && (xs.all (XD.okK K) && hs.all (hsB K))))) = true from c1)
  obtain ⟨b2, g2⟩ := ba g1
  obtain ⟨b3, g3⟩ := ba g2
  obtain ⟨b4, b5⟩ := ba g3
  refine ⟨fun x hx => PySem.W.mg_none_of X G (He.eqO_ok (List.all_eq_true.mp b1 x hx)), fun f p e => ?_, fun i x d e1 e2 => ?_, fun d hd => ?_, fun x y b hb => ?_⟩
  · obtain ⟨q1, q2⟩ := ba (List.all_eq_true.mp b3 p (List.mem_of_getElem? e))
    have e3 : He.fnW K (p.x, none) = p.dd.val := by
      have := congrArg (fun l => l[f]?) c3
      simpa [e] using this
    obtain ⟨fd, F⟩ := He.DefD.funD (d := p.dd) e3 q2
    exact ⟨_, fd, He.glo_ok X G q1, F⟩
  · rw [List.getElem?_map] at e1 e2
    cases g : cs[i]? with
    | none => rw [g] at e1; cases e1
    | some cc =>
      rw [g] at e1 e2
      cases e1
      cases e2
      have q := List.all_eq_true.mp b2 cc (List.mem_of_getElem? g)
      unfold cnB at q
      split at q
      · rename_i u eu
        obtain ⟨v, r, rd⟩ := valB_ok cc.2 u q
        exact ⟨u, v, PySem.W.mg_of X G eu, r, rd⟩
      · exact nc q
  · have q := List.all_eq_true.mp b4 d hd
    obtain ⟨f, ef⟩ := List.getElem?_of_mem hd
    have e3 : He.fnW K d.dd.at_ = d.dd.val := by
      have := congrArg (fun l => l[f]?) c4
      simpa [ef] using this
    unfold XD.okK at q
    obtain ⟨q1, q⟩ := ba q
    obtain ⟨q2, q⟩ := ba q
    obtain ⟨q3, q⟩ := ba q
    obtain ⟨q4, q⟩ := ba q
    obtain ⟨q5, q⟩ := ba q
    obtain ⟨q6, q⟩ := ba q
    obtain ⟨q7, q⟩ := ba q
    obtain ⟨q8, q⟩ := ba q
    obtain ⟨q9, q⟩ := ba q
    obtain ⟨q10, q11⟩ := ba q
    obtain ⟨fd, F⟩ := He.DefD.funD (d := d.dd) e3 q11
    exact ⟨He.glo_ok X G q1, ⟨excB_ok q2, He.eqO_ok q3, of_decide_eq_true q4, of_decide_eq_true q5, q6⟩, xfB_ok q7, fun f hf => He.eqO_ok (List.all_eq_true.mp q8 f hf), He.eqO_ok q9, of_decide_eq_true q10, fd, F⟩
  · obtain ⟨q1, q⟩ := ba (List.all_eq_true.mp b5 _ hb)
    obtain ⟨q2, q3⟩ := ba q
    exact ⟨_, _, He.glo_ok X G q1, He.glo_ok X G q2, of_decide_eq_true q3⟩

/-! ### the law -/
theorem law_sp {K : PySem.W.Frag} {P : Program} {W : World} {C : List D → Hh → Kd → Ex → Prop} {H : Hp} {a : Addr} {ns : List Int} (hO : Only H) (hS : SqL K H a (ns.map V.int)) (w : C [.ref 0] [.frz (ns.map D.int)] (fun d _ => d = .bl true) EX0) {E : XK} : lfP0 ⟨K, P, W⟩ C [.ref a] H (fun v _ => v = .bl true) E := by
  have fz : Fz ⟨K, P, W⟩ H a (ns.map V.int) := by
    rcases hS with (e | ⟨o, e⟩) | q
    · rcases hO a with z | ⟨o, xs, z⟩
      · rw [e] at z; cases z
      · rw [e] at z; cases z
    · exact .inl ⟨o, e⟩
    · exact .inr q
  have rds : ∀ ns : List Int, RDs ⟨K, P, W⟩ [a] H (ns.map D.int) (ns.map V.int) := by
    intro ns
    induction ns with
    | nil => exact RDs.nil
    | cons n ns ih => exact RDs.cons rd_int ih
  refine ⟨[a], [.ref 0], [.frz (ns.map D.int)], _, RDs.cons (rd_ref rfl) RDs.nil, ⟨rfl, fun n o e => ?_, fun i j b oi oj ei ej mi mj li lj => ?_⟩, w, fun d h' v H' loc' q x rh r => ?_⟩
  · cases n with
    | zero => cases e; exact ⟨a, rfl, _, fz, rds ns⟩
    | succ n => simp at e
  · cases i with
    | zero => cases ei; cases mi
    | succ i => simp at ei
  · have q' : d = .bl true := q
    subst q'
    exact r.bl_
theorem law_F {l : PySem.W.OpenLaw} {w : World} {h : Heap} {mg : Str → Option Value} {cs : List (Str × D)} {ps : List PD} {xs : List XD} {hs : List (Str × Str × Bool)} {fa : Addr} {k iL : Nat} {p : PD} {x : Str} {n : Nat} (Y : ∃ K : PySem.W.Frag, K.In h ∧ SaysM cs ps xs hs K) (G : h.Ns mainGlobals mg) (hfa : mg p.x = some (.ref fa))
    (hp : ps[iL]? = some p) (hps : p.ps = [x]) (hall : (ps.all fun p => p.ok (fnsOf ps xs hs) (cs.map (·.1))) = true) (hax : (xs.all fun d => d.ok) = true := by rfl) (main : ∀ ns : List Int, ns.length ≤ n → run (cs.map (·.2)) (ps.map (·.m)) k iL [.ref 0] [.frz (ns.map D.int)] (fun d _ => d = .bl true) EX0) :
    ∃ (K : PySem.W.Frag) (fd : FuncData) (sp : Sp), K.In h ∧ (∀ (s : Shared) (u : Value), BindsTo s fd ⟨[u], []⟩ [(x, u)]) ∧
        (∀ (H : Hp) (a : Addr) (ns : List Int), ns.length ≤ n → Only H → SqL K H a (ns.map V.int) → sp [.ref a] H (fun v _ => v = .bl true) fun _ _ _ => False) ∧
        ∀ base : Heap, K.In base → base.Ns mainGlobals mg → FnOk l.prog w K mg base CX0 (k + 2) fa fd [x] sp := by
  obtain ⟨K, X, c⟩ := Y
  have T := top_of X G c
  have hok := fun q hq => List.all_eq_true.mp hall q hq
  have hxk := fun q hq => List.all_eq_true.mp hax q hq
  obtain ⟨a, fd, hm, F⟩ := T.fns iL p hp
  have e := hfa.symm.trans hm
  cases e
  have hb := PD.bindsA (hok p (List.mem_of_getElem? hp)) F
  rw [hps] at hb
  refine ⟨K, fd, lfP0 ⟨K, l.prog, w⟩ (run (cs.map (·.2)) (ps.map (·.m)) k iL), X, fun s u => hb s [u] rfl, fun H a ns hn hO hS => law_sp hO hS (main ns hn), fun base _ _ => ?_⟩
  have q := fn_ok0 (P := l.prog) (w := w) (base := base) T hok hxk k iL p fa fd hp F
  rw [hps] at q
  exact q
/-- one def as a value, behind the module's other values -/
theorem top_fn1 {K : PySem.W.Frag} {mg : Str → Option Value} {ps : List PD} {gn : List Str} {gls : List D} {xs : List XD} {hs : List (Str × Str × Bool)} (T : Top K mg ps gn gls xs hs) (hl : gn.length = gls.length) {f : Nat} {p : PD} (hp : ps[f]? = some p) : ∃ a : Addr, Top K mg ps (gn ++ [p.x]) (gls ++ [D.fn a]) xs hs := by
  obtain ⟨a, fd, hm, _⟩ := T.fns f p hp
  refine ⟨a, T.blt, T.fns, fun i x d e1 e2 => ?_, T.exs, T.exm⟩
  by_cases hi : i < gn.length
  · rw [List.getElem?_append_left hi] at e1
    rw [List.getElem?_append_left (by omega)] at e2
    exact T.cns i x d e1 e2
  · rw [List.getElem?_append_right (by omega)] at e1 e2
    rw [← hl] at e2
    cases g : i - gn.length with
    | zero =>
      rw [g] at e1 e2
      cases e1
      cases e2
      exact ⟨.ref a, .ref a, hm, rfl, fun _ _ loc H => rd_fn⟩
    | succ _ => rw [g] at e1; simp at e1
theorem law_F1 {l : PySem.W.OpenLaw} {w : World} {h : Heap} {mg : Str → Option Value} {cs : List (Str × D)} {ps : List PD} {xs : List XD} {hs : List (Str × Str × Bool)} {fa : Addr} {k iL iV : Nat} {p pV : PD} {x : Str} {n : Nat} {gls : Addr → List D} (Y : ∃ K : PySem.W.Frag, K.In h ∧ SaysM cs ps xs hs K) (G : h.Ns mainGlobals mg) (hfa : mg p.x = some (.ref fa))
    (hp : ps[iL]? = some p) (hV : ps[iV]? = some pV) (hg : ∀ a, cs.map (·.2) ++ [D.fn a] = gls a) (hps : p.ps = [x]) (hall : (ps.all fun p => p.ok (fnsOf ps xs hs) (cs.map (·.1) ++ [pV.x])) = true) (hax : (xs.all fun d => d.ok) = true := by rfl)
    (main : ∀ (a : Addr) (ns : List Int), ns.length ≤ n → run (gls a) (ps.map (·.m)) k iL [.ref 0] [.frz (ns.map D.int)] (fun d _ => d = .bl true) EX0) :
    ∃ (K : PySem.W.Frag) (fd : FuncData) (sp : Sp), K.In h ∧ (∀ (s : Shared) (u : Value), BindsTo s fd ⟨[u], []⟩ [(x, u)]) ∧
        (∀ (H : Hp) (a : Addr) (ns : List Int), ns.length ≤ n → Only H → SqL K H a (ns.map V.int) → sp [.ref a] H (fun v _ => v = .bl true) fun _ _ _ => False) ∧
        ∀ base : Heap, K.In base → base.Ns mainGlobals mg → FnOk l.prog w K mg base CX0 (k + 2) fa fd [x] sp := by
  obtain ⟨K, X, c⟩ := Y
  obtain ⟨aV, T⟩ := top_fn1 (top_of X G c) (by simp) hV
  rw [hg] at T
  have hok := fun q hq => List.all_eq_true.mp hall q hq
  have hxk := fun q hq => List.all_eq_true.mp hax q hq
  obtain ⟨a, fd, hm, F⟩ := T.fns iL p hp
  have e := hfa.symm.trans hm
  cases e
  have hb := PD.bindsA (hok p (List.mem_of_getElem? hp)) F
  rw [hps] at hb
  refine ⟨K, fd, lfP0 ⟨K, l.prog, w⟩ (run (gls aV) (ps.map (·.m)) k iL), X, fun s u => hb s [u] rfl, fun H a ns hn hO hS => law_sp hO hS (main aV ns hn), fun base _ _ => ?_⟩
  have q := fn_ok0 (P := l.prog) (w := w) (base := base) T hok hxk k iL p fa fd hp F
  rw [hps] at q
  exact q
theorem run_of {gls : List D} {tb : List MF} {n f : Nat} {ds : List D} {h : Hh} {Q : Kd} {X : Ex} {m : MF} {σ : Sg} (e : tb[f]? = some m) (l : ds.length = m.np) (s : ds.map some ++ List.replicate (m.ns - m.np) none = σ)
    (w : wB gls (run gls tb n) X m.body { nx := fun _ h' => Q .non h', rt := Q, bk := fun _ _ => False, ct := fun _ _ => False } σ h) : run gls tb (n + 1) f ds h Q X := by
  unfold run
  rw [e]
  subst s
  exact chk_i (by simp [l]) w
end Mi

set_option Elab.async false
set_option linter.all false
set_option maxRecDepth 100000
/-! Mi: how its runs are followed. -/
namespace Mi
open PySem PySem.Spec PyProof.Rows L2
/-- all but the places in S stands as it stood -/
structure Keep (S : List Nat) (h h' : Hh) : Prop where
  len : h.length ≤ h'.length
  at_ : ∀ (i : Nat) (o : MO), h[i]? = some o → i ∉ S → h'[i]? = some o
theorem Keep.refl {S : List Nat} {h : Hh} : Keep S h h := ⟨Nat.le_refl _, fun _ _ e _ => e⟩
theorem Keep.new {S : List Nat} {h : Hh} {o : MO} : Keep S h (h ++ [o]) := ⟨by simp, fun i x e _ => by rw [List.getElem?_append_left (List.getElem?_eq_some_iff.mp e).1]; exact e⟩
theorem Keep.set {S : List Nat} {h : Hh} {n : Nat} {o : MO} (hn : n ∈ S) : Keep S h (h.set n o) := ⟨by simp, fun i x e z => by
  have : n ≠ i := fun q => z (q ▸ hn)
  rw [List.getElem?_set_ne this]; exact e⟩
/-- one step more: what it changed is in S, or came behind h -/
theorem Keep.step {S T : List Nat} {h h' h2 : Hh} (b : Keep T h' h2) (a : Keep S h h') (s : ∀ i ∈ T, i ∈ S ∨ h.length ≤ i) : Keep S h h2 := ⟨Nat.le_trans a.len b.len, fun i o e n => b.at_ i o (a.at_ i o e n) fun z => by
  rcases s i z with q | q
  · exact n q
  · exact absurd (List.getElem?_eq_some_iff.mp e).1 (by omega)⟩
theorem Keep.get {S : List Nat} {h h' : Hh} {i : Nat} {o : MO} (a : Keep S h h') (e : h[i]? = some o) (n : i ∉ S) : h'[i]? = some o := a.at_ i o e n
theorem lt_of {h : Hh} {i : Nat} {o : MO} (e : h[i]? = some o) : i < h.length := (List.getElem?_eq_some_iff.mp e).1
theorem get_new {h : Hh} {o : MO} : (h ++ [o])[h.length]? = some o := by simp
theorem get_set {h : Hh} {n : Nat} {o x : MO} (e : h[n]? = some x) : (h.set n o)[n]? = some o := by
  rw [List.getElem?_set_self (lt_of e)]
theorem rdL_i {h : Hh} {n : Nat} {xs : List D} {K : List D → Prop} (e : h[n]? = some (.lst xs)) (k : K xs) : rdL h n K := rdO_i e k
/-- a new object: its place, the heap behind it -/
theorem new_i {h : Hh} {o : MO} {Q : Kd} (w : ∀ (p : Nat) (h' : Hh), h'[p]? = some o → h.length ≤ p → p < h'.length → h.length ≤ h'.length → Keep [] h h' → Q (.ref p) h') : new o h Q := new_b (w _ _ get_new (Nat.le_refl _) (by simp) (by simp) Keep.new)
/-- an object is changed -/
theorem put_i {h : Hh} {n : Nat} {o x : MO} {P : Hh → Prop} (e : h[n]? = some x) (w : ∀ h' : Hh, h'[n]? = some o → h.length ≤ h'.length → Keep [n] h h' → P h') : put h n o P := put_b (w _ (get_set e) (by simp) (Keep.set (by simp)))
theorem getAt_nat {xs : List D} {j : Nat} {d : D} (e : xs[j]? = some d) : getAt xs (j : Int) = some d := by
  have hl := (List.getElem?_eq_some_iff.mp e).1
  unfold getAt ixAt
  rw [if_pos (by omega), if_pos (by omega)]
  simpa using e
theorem getAt_end (xs : List D) (d : D) : getAt (xs ++ [d]) (-1) = some d := by
  unfold getAt ixAt
  rw [if_neg (by decide), if_pos (by simp; omega)]
  have : ((-1 : Int) + ((xs ++ [d]).length : Int)).toNat = xs.length := by simp; omega
  simp only [Option.bind_some, this]
  simp
/-! ### loops by what holds between two turns -/
/-- I: what is left, the slots, the heap -/
theorem loop_i {t : D → Sg → Hh → (Sg → Hh → Prop) → Prop} {b : Es → Sg → Hh → Prop} {R : Es} (I : List D → Sg → Hh → Prop)
    (turn : ∀ (x : D) (r : List D) (σ : Sg) (h : Hh) (K : Sg → Hh → Prop), I (x :: r) σ h → (∀ σ h, I r σ h → K σ h) → t x σ h fun σ1 h1 => b (lpE K R) σ1 h1)
    (fin : ∀ σ h, I [] σ h → R.nx σ h) : ∀ (xs : List D) (σ : Sg) (h : Hh), I xs σ h → loopS t b R xs σ h
  | [], σ, h, i => fin σ h i
  | x :: xs, σ, h, i => turn x xs σ h _ i fun σ h j => loop_i I turn fin xs σ h j
/-- a list's loop, the list unchanged -/
theorem loopL_i {t : D → Sg → Hh → (Sg → Hh → Prop) → Prop} {b : Es → Sg → Hh → Prop} {R : Es} {n : Nat} (ys : List D) (I : List D → Sg → Hh → Prop) (hI : ∀ r σ h, I r σ h → h[n]? = some (.lst ys))
    (turn : ∀ (x : D) (r : List D) (σ : Sg) (h : Hh) (K : Sg → Hh → Prop), I (x :: r) σ h → (∀ σ h, I r σ h → K σ h) → t x σ h fun σ1 h1 => b (lpE K R) σ1 h1)
    (fin : ∀ σ h, I [] σ h → R.nx σ h) : ∀ (xs : List D) (k i : Nat) (σ : Sg) (h : Hh), xs = ys.drop i → xs.length < k → I xs σ h → loopL t b R n k i σ h
  | [], 0, _, _, _, _, hk, _ => absurd hk (by simp)
  | _ :: _, 0, _, _, _, _, hk, _ => absurd hk (by simp)
  | [], k + 1, i, σ, h, e, _, j => by
    unfold loopL
    rw [hI _ _ _ j]
    have : ys[i]? = none := by
      have := congrArg List.length e
      simp at this
      simpa using (by omega : ys.length ≤ i)
    simp only [this]
    exact fin σ h j
  | x :: xs, k + 1, i, σ, h, e, hk, j => by
    unfold loopL
    rw [hI _ _ _ j]
    have e1 : ys[i]? = some x := by
      have := congrArg List.head? e
      simpa [List.head?_drop] using this.symm
    have e2 : xs = ys.drop (i + 1) := by
      have := congrArg List.tail e
      simpa [List.tail_drop] using this
    simp only [e1]
    exact turn x xs σ h _ j fun σ h j => loopL_i ys I hI turn fin xs k (i + 1) σ h e2 (by simp at hk; omega) j
theorem while_i {c : Sg → Hh → (Bool → Hh → Prop) → Prop} {b : Es → Sg → Hh → Prop} {R : Es} (I : Nat → Sg → Hh → Prop)
    (turn : ∀ (m : Nat) (σ : Sg) (h : Hh) (K : Sg → Hh → Prop), I m σ h → (∀ m' σ h, m' < m → I m' σ h → K σ h) → c σ h fun d h1 => br d (b (lpE K R) σ h1) (R.nx σ h1)) :
    ∀ (k m : Nat) (σ : Sg) (h : Hh), m < k → I m σ h → loopW c b R k σ h
  | 0, _, _, _, e, _ => absurd e (Nat.not_lt_zero _)
  | k + 1, m, σ, h, e, j => turn m σ h _ j fun m' σ' h' lt j' => while_i I turn k m' σ' h' (by omega) j'
theorem fuel_lt {m : Nat} (h : m < 1000000000) : m < fuel := by unfold fuel; exact h
/-- a comprehension: I: what is left, what is made, the heap -/
theorem comp_i {t : D → Sg → Hh → (Sg → Hh → Prop) → Prop} {c : Sg → Hh → (Bool → Hh → Prop) → Prop} {e : Sg → Hh → Kd → Prop} {σ0 : Sg} {p : Nat} {Q : Kd} (I : List D → List D → Hh → Prop)
    (turn : ∀ (x : D) (r acc : List D) (h : Hh) (K : Hh → Prop), h[p]? = some (.lst acc) → I (x :: r) acc h → (∀ acc h, h[p]? = some (.lst acc) → I r acc h → K h) →
      t x σ0 h fun σ1 h1 => c σ1 h1 fun d h2 => br d (e σ1 h2 fun y h3 => rdL h3 p fun acc => chk (decide (acc.length < sizeLine)) (put h3 p (.lst (acc ++ [y])) K)) (K h2))
    (fin : ∀ acc h, h[p]? = some (.lst acc) → I [] acc h → Q (.ref p) h) : ∀ (xs acc : List D) (h : Hh), h[p]? = some (.lst acc) → I xs acc h → compS t c e σ0 p Q xs h
  | [], acc, h, e1, i => fin acc h e1 i
  | x :: xs, acc, h, e1, i => turn x xs acc h _ e1 i fun acc h e2 j => comp_i I turn fin xs acc h e2 j
theorem compL_i {t : D → Sg → Hh → (Sg → Hh → Prop) → Prop} {c : Sg → Hh → (Bool → Hh → Prop) → Prop} {e : Sg → Hh → Kd → Prop} {σ0 : Sg} {p : Nat} {Q : Kd} {n : Nat} (ys : List D) (I : List D → List D → Hh → Prop) (hI : ∀ r a h, I r a h → h[n]? = some (.lst ys))
    (turn : ∀ (x : D) (r acc : List D) (h : Hh) (K : Hh → Prop), h[p]? = some (.lst acc) → I (x :: r) acc h → (∀ acc h, h[p]? = some (.lst acc) → I r acc h → K h) →
      t x σ0 h fun σ1 h1 => c σ1 h1 fun d h2 => br d (e σ1 h2 fun y h3 => rdL h3 p fun acc => chk (decide (acc.length < sizeLine)) (put h3 p (.lst (acc ++ [y])) K)) (K h2))
    (fin : ∀ acc h, h[p]? = some (.lst acc) → I [] acc h → Q (.ref p) h) : ∀ (xs : List D) (k i : Nat) (acc : List D) (h : Hh), xs = ys.drop i → xs.length < k → h[p]? = some (.lst acc) → I xs acc h → compL t c e σ0 p Q n k i h
  | [], 0, _, _, _, _, hk, _, _ => absurd hk (by simp)
  | _ :: _, 0, _, _, _, _, hk, _, _ => absurd hk (by simp)
  | [], k + 1, i, acc, h, e0, _, e1, j => by
    unfold compL
    rw [hI _ _ _ j]
    have : ys[i]? = none := by
      have := congrArg List.length e0
      simp at this
      simpa using (by omega : ys.length ≤ i)
    simp only [this]
    exact fin acc h e1 j
  | x :: xs, k + 1, i, acc, h, e0, hk, e1, j => by
    unfold compL
    rw [hI _ _ _ j]
    have e3 : ys[i]? = some x := by
      have := congrArg List.head? e0
      simpa [List.head?_drop] using this.symm
    have e2 : xs = ys.drop (i + 1) := by
      have := congrArg List.tail e0
      simpa [List.tail_drop] using this
    simp only [e3]
    exact turn x xs acc h _ e1 j fun acc h e2' j' => compL_i ys I hI turn fin xs k (i + 1) acc h e2 (by simp at hk; omega) e2' j'
end Mi
namespace Mi
open PySem PySem.Spec PyProof.Rows L2
theorem range_cons {x : D} {r : List D} {m : Nat} {lo : Int} {i : Nat} (e : x :: r = range m lo i) : ∃ m', m = m' + 1 ∧ x = .int (lo + i) ∧ r = range m' lo (i + 1) := by
  cases m with
  | zero => cases e
  | succ m => unfold range at e; cases e; exact ⟨m, rfl, rfl, rfl⟩
theorem range_nil {m : Nat} {lo : Int} {i : Nat} (e : [] = range m lo i) : m = 0 := by
  cases m with
  | zero => rfl
  | succ m => unfold range at e; cases e
theorem mulOk_r {i j : Int} (h : j.natAbs < 2 ^ 64) : mulOk i j = true := by
  unfold mulOk
  rw [decide_eq_true h]
  simp
theorem mulOk_l {i j : Int} (h : i.natAbs < 2 ^ 64) : mulOk i j = true := by
  unfold mulOk
  rw [decide_eq_true h]
  simp
theorem lenOk_le {n : Nat} (h : n ≤ 16777216) : lenOk n = true := by
  unfold lenOk
  rw [sizeLine_eq]
  exact decide_eq_true h
theorem small_lt {n : Nat} (h : n < 16777216) : decide (n < sizeLine) = true := by
  rw [sizeLine_eq]
  exact decide_eq_true h
theorem intsOf_map : ∀ ms : List Int, intsOf (ms.map D.int) = some ms
  | [] => rfl
  | m :: ms => by
    show (intsOf (ms.map D.int)).map (m :: ·) = _
    rw [intsOf_map ms]
    rfl
theorem maxI_max : ∀ (m : Int) (ms : List Int), maxI m ms = ms.foldl max m
  | m, [] => rfl
  | m, x :: xs => by
    unfold maxI
    rw [maxI_max]
    show _ = xs.foldl max (max m x)
    congr 1
    omega
theorem getAt_map {xs : List D} {i : Nat} {d : D} (e : xs[i]? = some d) {k : Int} (hk : k = i) : getAt xs k = some d := by
  rw [hk]
  exact getAt_nat e
end Mi

set_option Elab.async false
set_option linter.all false
set_option maxRecDepth 100000
/-! Mi: comprehensions over lists that are known. -/
namespace Mi
open PySem PySem.Spec PyProof.Rows L2
theorem keep_nil {S : List Nat} {h h' : Hh} (k : Keep [] h h') : Keep S h h' := ⟨k.len, fun i o e _ => k.at_ i o e List.not_mem_nil⟩
theorem Keep.trans {S : List Nat} {h h' h2 : Hh} (a : Keep S h h') (b : Keep S h' h2) : Keep S h h2 := ⟨Nat.le_trans a.len b.len, fun i o e n => b.at_ i o (a.at_ i o e n) n⟩
theorem flt_i {α : Type} {t : D → Sg → Hh → (Sg → Hh → Prop) → Prop} {c : Sg → Hh → (Bool → Hh → Prop) → Prop} {e : Sg → Hh → Kd → Prop} {σ0 : Sg} {p : Nat} {Q : Kd} {h0 : Hh} (f g : α → D) (pr : α → Bool) (xs : List α)
    (e0 : h0[p]? = some (.lst [])) (hl : xs.length < 16777216)
    (el : ∀ x ∈ xs, ∀ (h : Hh) (K : Kd) (N : Hh → Prop), Keep [p] h0 h → (pr x = true → ∀ h', Keep [] h h' → K (g x) h') → (pr x = false → ∀ h', Keep [] h h' → N h') →
      t (f x) σ0 h fun σ1 h1 => c σ1 h1 fun d h2 => br d (e σ1 h2 K) (N h2))
    (fin : ∀ h, h[p]? = some (.lst ((xs.filter pr).map g)) → Keep [p] h0 h → Q (.ref p) h) : compS t c e σ0 p Q (xs.map f) h0 := by
  refine comp_i (I := fun r acc h => ∃ z1 z2, xs = z1 ++ z2 ∧ r = z2.map f ∧ acc = (z1.filter pr).map g ∧ Keep [p] h0 h) ?_ ?_ _ _ _ e0 ⟨[], xs, rfl, rfl, rfl, Keep.refl⟩
  · rintro x r acc h K eh ⟨z1, z2, ez, er, rfl, k⟩ hK
    cases z2 with
    | nil => cases er
    | cons z z2 =>
      simp only [List.map_cons, List.cons.injEq] at er
      obtain ⟨rfl, rfl⟩ := er
      have hz := congrArg List.length ez
      simp only [List.length_append, List.length_cons] at hz
      refine el z (by rw [ez]; simp) h _ _ k (fun pz h' k' => ?_) (fun pz h' k' => ?_)
      · have e1 : h'[p]? = some (.lst ((z1.filter pr).map g)) := k'.get eh List.not_mem_nil
        refine rdL_i e1 (chk_i (small_lt ?_) (put_i e1 fun h2 e2 l2 k2 => hK _ _ e2 ⟨z1 ++ [z], z2, by rw [ez]; simp, rfl, ?_, (k.trans (keep_nil k')).trans k2⟩))
        · rw [List.length_map]
          exact Nat.lt_of_le_of_lt (List.length_filter_le _ _) (by omega)
        · rw [List.filter_append, List.map_append, List.filter_cons_of_pos pz]
          rfl
      · have e1 : h'[p]? = some (.lst ((z1.filter pr).map g)) := k'.get eh List.not_mem_nil
        refine hK _ _ e1 ⟨z1 ++ [z], z2, by rw [ez]; simp, rfl, ?_, k.trans (keep_nil k')⟩
        rw [List.filter_append, List.filter_cons_of_neg (by rw [pz]; decide)]
        simp
  · rintro acc h eh ⟨z1, z2, ez, er, rfl, k⟩
    have : z2 = [] := List.map_eq_nil_iff.mp er.symm
    subst this
    rw [List.append_nil] at ez
    subst ez
    exact fin h eh k
theorem fltL_i {α : Type} {t : D → Sg → Hh → (Sg → Hh → Prop) → Prop} {c : Sg → Hh → (Bool → Hh → Prop) → Prop} {e : Sg → Hh → Kd → Prop} {σ0 : Sg} {p : Nat} {Q : Kd} {n : Nat} {h0 : Hh} (f g : α → D) (pr : α → Bool) (xs : List α)
    (en : h0[n]? = some (.lst (xs.map f))) (e0 : h0[p]? = some (.lst [])) (np : n ≠ p) (hl : xs.length < 16777216)
    (el : ∀ x ∈ xs, ∀ (h : Hh) (K : Kd) (N : Hh → Prop), Keep [p] h0 h → (pr x = true → ∀ h', Keep [] h h' → K (g x) h') → (pr x = false → ∀ h', Keep [] h h' → N h') →
      t (f x) σ0 h fun σ1 h1 => c σ1 h1 fun d h2 => br d (e σ1 h2 K) (N h2))
    (fin : ∀ h, h[p]? = some (.lst ((xs.filter pr).map g)) → Keep [p] h0 h → Q (.ref p) h) : compL t c e σ0 p Q n fuel 0 h0 := by
  refine compL_i (xs.map f) (I := fun r acc h => ∃ z1 z2, xs = z1 ++ z2 ∧ r = z2.map f ∧ acc = (z1.filter pr).map g ∧ Keep [p] h0 h) ?_ ?_ ?_ (xs.map f) _ _ _ _ (by simp) (fuel_lt (by rw [List.length_map]; omega)) e0 ⟨[], xs, rfl, rfl, rfl, Keep.refl⟩
  · rintro r a h ⟨z1, z2, ez, er, ea, k⟩
    exact k.get en (by simp [np])
  · rintro x r acc h K eh ⟨z1, z2, ez, er, rfl, k⟩ hK
    cases z2 with
    | nil => cases er
    | cons z z2 =>
      simp only [List.map_cons, List.cons.injEq] at er
      obtain ⟨rfl, rfl⟩ := er
      have hz := congrArg List.length ez
      simp only [List.length_append, List.length_cons] at hz
      refine el z (by rw [ez]; simp) h _ _ k (fun pz h' k' => ?_) (fun pz h' k' => ?_)
      · have e1 : h'[p]? = some (.lst ((z1.filter pr).map g)) := k'.get eh List.not_mem_nil
        refine rdL_i e1 (chk_i (small_lt ?_) (put_i e1 fun h2 e2 l2 k2 => hK _ _ e2 ⟨z1 ++ [z], z2, by rw [ez]; simp, rfl, ?_, (k.trans (keep_nil k')).trans k2⟩))
        · rw [List.length_map]
          exact Nat.lt_of_le_of_lt (List.length_filter_le _ _) (by omega)
        · rw [List.filter_append, List.map_append, List.filter_cons_of_pos pz]
          rfl
      · have e1 : h'[p]? = some (.lst ((z1.filter pr).map g)) := k'.get eh List.not_mem_nil
        refine hK _ _ e1 ⟨z1 ++ [z], z2, by rw [ez]; simp, rfl, ?_, k.trans (keep_nil k')⟩
        rw [List.filter_append, List.filter_cons_of_neg (by rw [pz]; decide)]
        simp
  · rintro acc h eh ⟨z1, z2, ez, er, rfl, k⟩
    have : z2 = [] := List.map_eq_nil_iff.mp er.symm
    subst this
    rw [List.append_nil] at ez
    subst ez
    exact fin h eh k
theorem flt_all {α : Type} : ∀ xs : List α, xs.filter (fun _ => true) = xs
  | [] => rfl
  | x :: xs => by rw [List.filter_cons_of_pos rfl, flt_all xs]
/-- without a test -/
theorem map_i {α : Type} {t : D → Sg → Hh → (Sg → Hh → Prop) → Prop} {c : Sg → Hh → (Bool → Hh → Prop) → Prop} {e : Sg → Hh → Kd → Prop} {σ0 : Sg} {p : Nat} {Q : Kd} {h0 : Hh} (f g : α → D) (xs : List α)
    (e0 : h0[p]? = some (.lst [])) (hl : xs.length < 16777216)
    (el : ∀ x ∈ xs, ∀ (h : Hh) (K : Kd) (N : Hh → Prop), Keep [p] h0 h → (∀ h', Keep [] h h' → K (g x) h') →
      t (f x) σ0 h fun σ1 h1 => c σ1 h1 fun d h2 => br d (e σ1 h2 K) (N h2))
    (fin : ∀ h, h[p]? = some (.lst (xs.map g)) → Keep [p] h0 h → Q (.ref p) h) : compS t c e σ0 p Q (xs.map f) h0 :=
  flt_i f g (fun _ => true) xs e0 hl (fun x hx h K N k a _ => el x hx h K N k (a rfl)) fun h eh k => fin h (by rw [eh, flt_all]) k
theorem mapL_i {α : Type} {t : D → Sg → Hh → (Sg → Hh → Prop) → Prop} {c : Sg → Hh → (Bool → Hh → Prop) → Prop} {e : Sg → Hh → Kd → Prop} {σ0 : Sg} {p : Nat} {Q : Kd} {n : Nat} {h0 : Hh} (f g : α → D) (xs : List α)
    (en : h0[n]? = some (.lst (xs.map f))) (e0 : h0[p]? = some (.lst [])) (np : n ≠ p) (hl : xs.length < 16777216)
    (el : ∀ x ∈ xs, ∀ (h : Hh) (K : Kd) (N : Hh → Prop), Keep [p] h0 h → (∀ h', Keep [] h h' → K (g x) h') →
      t (f x) σ0 h fun σ1 h1 => c σ1 h1 fun d h2 => br d (e σ1 h2 K) (N h2))
    (fin : ∀ h, h[p]? = some (.lst (xs.map g)) → Keep [p] h0 h → Q (.ref p) h) : compL t c e σ0 p Q n fuel 0 h0 :=
  fltL_i f g (fun _ => true) xs en e0 np hl (fun x hx h K N k a _ => el x hx h K N k (a rfl)) fun h eh k => fin h (by rw [eh, flt_all]) k
end Mi

set_option Elab.async false
set_option linter.all false
set_option maxRecDepth 100000
namespace Mi
open PySem PySem.Spec PyProof.Rows L2
/-- one item of a tuple -/
def pvIx : Option D → Option D → Option D
  | some (.tup xs), some (.int k) => getAt xs k
  | _, _ => none
def pvAdd : Option D → Option D → Option D
  | some (.tup xs), some (.tup ys) => if lenOk (xs.length + ys.length) then some (.tup (xs ++ ys)) else none
  | _, _ => none
def pvBin (op : BOp) (a b : Option D) : Option D := match op with
  | .add => pvAdd a b
  | _ => none
def pvSl : Option D → Option (Option Int) → Option (Option Int) → Option D
  | some (.tup xs), some l, some u => if (!(decide (HT.sIx xs.length 0 l = 0) && decide (HT.sIx xs.length xs.length u = xs.length))) then some (.tup (cutD xs l u)) else none
  | _, _, _ => none
def pvTup : Option (List D) → Option D
  | some ds => if lenOk ds.length then some (.tup ds) else none
  | none => none
def pvCons : Option D → Option (List D) → Option (List D)
  | some d, some ds => some (d :: ds)
  | _, _ => none
def pvInt : Option D → Option (Option Int)
  | some (.int i) => some (some i)
  | _ => none
def pvVar : Option (Option D) → Option D
  | some (some d) => some d
  | _ => none
mutual
/-- what a word without calls and objects is worth -/
def pv (σ : Sg) : ME → Option D
  | .non => some .non
  | .bl b => some (.bl b)
  | .int i => some (.int i)
  | .str x => some (.str x)
  | .var i => pvVar σ[i]?
  | .bin op a b => pvBin op (pv σ a) (pv σ b)
  | .ix a i => pvIx (pv σ a) (pv σ i)
  | .sl a lo hi => pvSl (pv σ a) (pvo σ lo) (pvo σ hi)
  | .tup es => pvTup (pvs σ es)
  | _ => none
def pvs (σ : Sg) : MEs → Option (List D)
  | .nil => some []
  | .cons e es => pvCons (pv σ e) (pvs σ es)
def pvo (σ : Sg) : MEo → Option (Option Int)
  | .none => some none
  | .some e => pvInt (pv σ e)
end
section
variable {gls : List D} {C : Cl} {X : Ex}
mutual
theorem pv_i : ∀ (e : ME) {σ : Sg} {d : D} {h : Hh} {Q : Kd}, pv σ e = some d → Q d h → wE gls C X e σ h Q
  | .non, σ, d, h, Q, e, w => by cases e; exact w
  | .bl b, σ, d, h, Q, e, w => by cases e; exact w
  | .int b, σ, d, h, Q, e, w => by cases e; exact w
  | .str b, σ, d, h, Q, e, w => by cases e; exact w
  | .var i, σ, d, h, Q, e, w => by
    show look σ i fun d => Q d h
    have e' : pvVar σ[i]? = some d := e
    unfold look
    cases hx : σ[i]? with
    | none => rw [hx] at e'; cases e'
    | some o =>
      rw [hx] at e'
      cases o with
      | none => cases e'
      | some d' => cases e'; exact w
  | .bin op a b, σ, d, h, Q, e, w => by
    have e' : pvBin op (pv σ a) (pv σ b) = some d := e
    cases op with
    | add =>
      have e' : pvAdd (pv σ a) (pv σ b) = some d := e
      cases ha : pv σ a with
      | none => rw [ha] at e'; cases e'
      | some x =>
        cases hb : pv σ b with
        | none => rw [ha, hb] at e'; cases x <;> cases e'
        | some y =>
          rw [ha, hb] at e'
          show wE gls C X a σ h fun x h1 => wE gls C X b σ h1 fun y h2 => opBin .add x y h2 Q
          refine pv_i a ha (pv_i b hb ?_)
          cases x with
          | tup xs =>
            cases y with
            | tup ys =>
              have e2 : (if lenOk (xs.length + ys.length) then some (D.tup (xs ++ ys)) else none) = some d := e'
              split at e2
              · rename_i hl
                cases e2
                exact chk_i hl w
              · cases e2
            | _ => cases e'
          | _ => cases e'
    | _ => cases e'
  | .ix a i, σ, d, h, Q, e, w => by
    have e' : pvIx (pv σ a) (pv σ i) = some d := e
    cases ha : pv σ a with
    | none => rw [ha] at e'; cases e'
    | some x =>
      cases hb : pv σ i with
      | none => rw [ha, hb] at e'; cases x <;> cases e'
      | some y =>
        rw [ha, hb] at e'
        show wE gls C X a σ h fun x h1 => wE gls C X i σ h1 fun y h2 => opIx x y h2 Q
        refine pv_i a ha (pv_i i hb ?_)
        cases x with
        | tup xs =>
          cases y with
          | int k => exact itm_i (K := fun d => Q d h) e' w
          | _ => cases e'
        | _ => cases e'
  | .sl a lo hi, σ, d, h, Q, e, w => by
    have e' : pvSl (pv σ a) (pvo σ lo) (pvo σ hi) = some d := e
    cases ha : pv σ a with
    | none => rw [ha] at e'; cases e'
    | some x =>
      cases hb : pvo σ lo with
      | none => rw [ha, hb] at e'; cases x <;> cases e'
      | some y =>
        cases hc : pvo σ hi with
        | none => rw [ha, hb, hc] at e'; cases x <;> cases e'
        | some z =>
          rw [ha, hb, hc] at e'
          show wE gls C X a σ h fun x h1 => wEo gls C X lo σ h1 fun l h2 => wEo gls C X hi σ h2 fun u h3 => opSl x l u h3 Q
          refine pv_i a ha (pvo_i lo hb (pvo_i hi hc ?_))
          cases x with
          | tup xs =>
            have e2 : (if (!(decide (HT.sIx xs.length 0 y = 0) && decide (HT.sIx xs.length xs.length z = xs.length))) then some (D.tup (cutD xs y z)) else none) = some d := e'
            split at e2
            · rename_i hl
              cases e2
              exact w
            · cases e2
          | _ => cases e'
  | .tup es, σ, d, h, Q, e, w => by
    have e' : pvTup (pvs σ es) = some d := e
    cases hs : pvs σ es with
    | none => rw [hs] at e'; cases e'
    | some ds =>
      rw [hs] at e'
      show wEs gls C X es σ h fun ds h1 => chk (lenOk ds.length) (Q (.tup ds) h1)
      refine pvs_i es hs ?_
      have e2 : (if lenOk ds.length then some (D.tup ds) else none) = some d := e'
      split at e2
      · rename_i hl
        cases e2
        exact chk_i hl w
      · cases e2
  | .gl _, σ, d, h, Q, e, w => by cases e
  | .neg _, σ, d, h, Q, e, w => by cases e
  | .not _, σ, d, h, Q, e, w => by cases e
  | .cmp _ _ _, σ, d, h, Q, e, w => by cases e
  | .chain _ _ _ _ _, σ, d, h, Q, e, w => by cases e
  | .and _ _, σ, d, h, Q, e, w => by cases e
  | .or _ _, σ, d, h, Q, e, w => by cases e
  | .ife _ _ _, σ, d, h, Q, e, w => by cases e
  | .call _ _, σ, d, h, Q, e, w => by cases e
  | .blt _ _, σ, d, h, Q, e, w => by cases e
  | .isi _ _, σ, d, h, Q, e, w => by cases e
  | .meth _ _ _, σ, d, h, Q, e, w => by cases e
  | .rev _, σ, d, h, Q, e, w => by cases e
  | .dnewt, σ, d, h, Q, e, w => by cases e
  | .srt _, σ, d, h, Q, e, w => by cases e
  | .dnew, σ, d, h, Q, e, w => by cases e
  | .dlit _ _, σ, d, h, Q, e, w => by cases e
  | .dget _ _ _, σ, d, h, Q, e, w => by cases e
  | .callk _ _, σ, d, h, Q, e, w => by cases e
  | .callv _ _ _ _, σ, d, h, Q, e, w => by cases e
  | .lst _, σ, d, h, Q, e, w => by cases e
  | .lc _ _ _ _, σ, d, h, Q, e, w => by cases e
theorem pvs_i : ∀ (es : MEs) {σ : Sg} {ds : List D} {h : Hh} {Q : List D → Hh → Prop}, pvs σ es = some ds → Q ds h → wEs gls C X es σ h Q
  | .nil, σ, ds, h, Q, e, w => by cases e; exact w
  | .cons a as, σ, ds, h, Q, e, w => by
    have e' : pvCons (pv σ a) (pvs σ as) = some ds := e
    cases ha : pv σ a with
    | none => rw [ha] at e'; cases e'
    | some x =>
      cases hb : pvs σ as with
      | none => rw [ha, hb] at e'; cases e'
      | some xs =>
        rw [ha, hb] at e'
        cases e'
        exact pv_i a ha (pvs_i as hb w)
theorem pvo_i : ∀ (e : MEo) {σ : Sg} {l : Option Int} {h : Hh} {Q : Option Int → Hh → Prop}, pvo σ e = some l → Q l h → wEo gls C X e σ h Q
  | .none, σ, l, h, Q, e, w => by cases e; exact w
  | .some a, σ, l, h, Q, e, w => by
    have e' : pvInt (pv σ a) = some l := e
    cases ha : pv σ a with
    | none => rw [ha] at e'; cases e'
    | some x =>
      rw [ha] at e'
      cases x with
      | int i => cases e'; exact pv_i a ha w
      | _ => cases e'
end
/-- a name gets what a plain word is worth -/
theorem asgP {i : Nat} {e : ME} {b : MB} {R : Es} {σ : Sg} {h : Hh} {d : D} (p : pv σ e = some d) (w : wB gls C X b R (σ.set i (some d)) h) : wB gls C X (.cons (.asg (.name i) e) b) R σ h :=
  show wE gls C X e σ h fun d h1 => wG gls C X (.name i) d σ h1 (seqE (wB gls C X b) R).nx from pv_i e p w
end
end Mi

set_option Elab.async false
set_option linter.all false
set_option maxRecDepth 100000
set_option maxHeartbeats 4000000
namespace Lw
open PySem PySem.Spec PyProof.Rows L2 Mi
def w_call : Str := ⟨⟨[99, 97, 108, 108]⟩⟩
def w_out : Str := ⟨⟨[111, 117, 116]⟩⟩
def w_return : Str := ⟨⟨[114, 101, 116, 117, 114, 110]⟩⟩
def w_while : Str := ⟨⟨[119, 104, 105, 108, 101]⟩⟩
def w_if : Str := ⟨⟨[105, 102]⟩⟩
def w_set : Str := ⟨⟨[115, 101, 116]⟩⟩
def w_var : Str := ⟨⟨[118, 97, 114]⟩⟩
def w_hold : Str := ⟨⟨[104, 111, 108, 100]⟩⟩
def w_name : Str := ⟨⟨[110, 97, 109, 101]⟩⟩
def w_main : Str := ⟨⟨[109, 97, 105, 110]⟩⟩
def w_on : Str := ⟨⟨[111, 110]⟩⟩
def w_a0 : Str := ⟨⟨[97, 48]⟩⟩
def w_q : Str := ⟨⟨[113]⟩⟩
def w_ : Str := ⟨⟨[]⟩⟩
def w_abcdefghijklmnopqrstuvwxyz : Str := ⟨⟨[97, 98, 99, 100, 101, 102, 103, 104, 105, 106, 107, 108, 109, 110, 111, 112, 113, 114, 115, 116, 117, 118, 119, 120, 121, 122]⟩⟩
def w_same : Str := ⟨⟨[115, 97, 109, 101]⟩⟩
def w_less : Str := ⟨⟨[108, 101, 115, 115]⟩⟩
def w_mul : Str := ⟨⟨[109, 117, 108]⟩⟩
def w_sub : Str := ⟨⟨[115, 117, 98]⟩⟩
def w_add : Str := ⟨⟨[97, 100, 100]⟩⟩
def w_in : Str := ⟨⟨[105, 110]⟩⟩
def w_number : Str := ⟨⟨[110, 117, 109, 98, 101, 114]⟩⟩
def w_fun : Str := ⟨⟨[102, 117, 110]⟩⟩
def w_p : Str := ⟨⟨[112]⟩⟩
def w_e : Str := ⟨⟨[101]⟩⟩
def w_d : Str := ⟨⟨[100]⟩⟩
def w_h : Str := ⟨⟨[104]⟩⟩
def w_g : Str := ⟨⟨[103]⟩⟩
def w_f : Str := ⟨⟨[102]⟩⟩
def w_k : Str := ⟨⟨[107]⟩⟩
def w_c : Str := ⟨⟨[99]⟩⟩
def w_a : Str := ⟨⟨[97]⟩⟩
def topS (i : Nat) : Stmt := PySem.Challenge.pw_placesforgood_k30_needless_parts.main.body.getD i (.Pass ⟨0, 0, 0, 0⟩)
def c_inner_expressions_0 : MB := (.cons (.ret (.ife (.cmp .eq (.ix (.var 0) (.int 0)) (.str w_call)) (.blt .list (.cons (.ix (.var 0) (.int 2)) .nil)) (.lst .nil))) .nil)
def c_inner_expressions_1 : MB := (.cons (.ret (.lst (.cons (.ix (.var 0) (.int 1)) (.cons (.ix (.var 0) (.int 2)) .nil)))) .nil)
def c_inner_expressions_2 : MB := (.cons (.ife (.cmp .isin (.ix (.var 0) (.int 0)) (.gl 0)) c_inner_expressions_1 .nil) c_inner_expressions_0)
def b_inner_expressions : MB := c_inner_expressions_2
def m_inner_expressions : MF := ⟨1, 1, b_inner_expressions⟩
def c_own_expressions_0 : MB := (.cons (.ret (.ife (.cmp .isin (.var 1) (.tup (.cons (.str w_if) (.cons (.str w_while) (.cons (.str w_return) (.cons (.str w_out) .nil)))))) (.lst (.cons (.ix (.var 0) (.int 1)) .nil)) (.lst .nil))) .nil)
def c_own_expressions_1 : MB := (.cons (.ret (.blt .list (.cons (.ix (.var 0) (.int 2)) .nil))) .nil)
def c_own_expressions_2 : MB := (.cons (.ife (.cmp .eq (.var 1) (.str w_call)) c_own_expressions_1 .nil) c_own_expressions_0)
def c_own_expressions_3 : MB := (.cons (.ret (.lst (.cons (.ix (.var 0) (.int 2)) .nil))) .nil)
def c_own_expressions_4 : MB := (.cons (.ife (.cmp .isin (.var 1) (.tup (.cons (.str w_var) (.cons (.str w_set) .nil)))) c_own_expressions_3 .nil) c_own_expressions_2)
def c_own_expressions_5 : MB := (.cons (.asg (.name 1) (.ix (.var 0) (.int 0))) c_own_expressions_4)
def b_own_expressions : MB := c_own_expressions_5
def m_own_expressions : MF := ⟨1, 2, b_own_expressions⟩
def c_own_blocks_0 : MB := (.cons (.ret (.ife (.cmp .eq (.var 1) (.str w_hold)) (.lst (.cons (.ix (.var 0) (.int 1)) .nil)) (.lst .nil))) .nil)
def c_own_blocks_1 : MB := (.cons (.ret (.lst (.cons (.ix (.var 0) (.int 2)) .nil))) .nil)
def c_own_blocks_2 : MB := (.cons (.ife (.cmp .eq (.var 1) (.str w_while)) c_own_blocks_1 .nil) c_own_blocks_0)
def c_own_blocks_3 : MB := (.cons (.ret (.lst (.cons (.ix (.var 0) (.int 2)) (.cons (.ix (.var 0) (.int 3)) .nil)))) .nil)
def c_own_blocks_4 : MB := (.cons (.ife (.cmp .eq (.var 1) (.str w_if)) c_own_blocks_3 .nil) c_own_blocks_2)
def c_own_blocks_5 : MB := (.cons (.asg (.name 1) (.ix (.var 0) (.int 0))) c_own_blocks_4)
def b_own_blocks : MB := c_own_blocks_5
def m_own_blocks : MF := ⟨1, 2, b_own_blocks⟩
def c_all_inner_0 : MB := (.cons (.ret (.var 1)) .nil)
def c_all_inner_1 : MB := (.cons (.expr (.meth .extend (.var 1) (.cons (.call 3 (.cons (.var 2) .nil)) .nil))) .nil)
def c_all_inner_2 : MB := (.cons (.forr (.name 2) (.seq (.call 0 (.cons (.var 0) .nil))) c_all_inner_1) c_all_inner_0)
def c_all_inner_3 : MB := (.cons (.asg (.name 1) (.lst (.cons (.var 0) .nil))) c_all_inner_2)
def b_all_inner : MB := c_all_inner_3
def m_all_inner : MF := ⟨1, 3, b_all_inner⟩
def c_all_statements_0 : MB := (.cons (.ret (.var 1)) .nil)
def c_all_statements_1 : MB := (.cons (.expr (.meth .extend (.var 1) (.cons (.call 4 (.cons (.var 3) .nil)) .nil))) .nil)
def c_all_statements_2 : MB := (.cons (.forr (.name 3) (.seq (.call 2 (.cons (.var 2) .nil))) c_all_statements_1) .nil)
def c_all_statements_3 : MB := (.cons (.expr (.meth .append (.var 1) (.cons (.var 2) .nil))) c_all_statements_2)
def c_all_statements_4 : MB := (.cons (.forr (.name 2) (.seq (.var 0)) c_all_statements_3) c_all_statements_0)
def c_all_statements_5 : MB := (.cons (.asg (.name 1) (.lst .nil)) c_all_statements_4)
def b_all_statements : MB := c_all_statements_5
def m_all_statements : MF := ⟨1, 4, b_all_statements⟩
def c_all_expressions_0 : MB := (.cons (.ret (.var 1)) .nil)
def c_all_expressions_1 : MB := (.cons (.expr (.meth .extend (.var 1) (.cons (.call 3 (.cons (.var 3) .nil)) .nil))) .nil)
def c_all_expressions_2 : MB := (.cons (.forr (.name 3) (.seq (.call 1 (.cons (.var 2) .nil))) c_all_expressions_1) .nil)
def c_all_expressions_3 : MB := (.cons (.forr (.name 2) (.seq (.call 4 (.cons (.var 0) .nil))) c_all_expressions_2) c_all_expressions_0)
def c_all_expressions_4 : MB := (.cons (.asg (.name 1) (.lst .nil)) c_all_expressions_3)
def b_all_expressions : MB := c_all_expressions_4
def m_all_expressions : MF := ⟨1, 4, b_all_expressions⟩
def c_blocks_of_0 : MB := (.cons (.ret (.bin .add (.bin .add (.lc (.ix (.var 1) (.int 2)) (.name 1) (.seq (.ix (.var 0) (.int 1))) .none) (.lc (.ix (.var 2) (.int 1)) (.name 2) (.seq (.ix (.var 0) (.int 2))) .none)) (.lst (.cons (.ix (.var 0) (.int 3)) .nil)))) .nil)
def b_blocks_of : MB := c_blocks_of_0
def m_blocks_of : MF := ⟨1, 3, b_blocks_of⟩
def c_names_in_0 : MB := (.cons (.ret (.blt .tuple (.cons (.srt (.var 1)) .nil))) .nil)
def c_names_in_1 : MB := (.cons (.asg (.sub (.var 1) (.ix (.var 3) (.int 1))) (.bl true)) .nil)
def c_names_in_2 : MB := (.cons (.ife (.cmp .eq (.ix (.var 3) (.int 0)) (.str w_set)) c_names_in_1 .nil) .nil)
def c_names_in_3 : MB := (.cons (.forr (.name 3) (.seq (.call 4 (.cons (.var 0) .nil))) c_names_in_2) c_names_in_0)
def c_names_in_4 : MB := (.cons (.asg (.sub (.var 1) (.ix (.var 2) (.int 1))) (.bl true)) .nil)
def c_names_in_5 : MB := (.cons (.ife (.cmp .eq (.ix (.var 2) (.int 0)) (.str w_name)) c_names_in_4 .nil) .nil)
def c_names_in_6 : MB := (.cons (.forr (.name 2) (.seq (.call 5 (.cons (.var 0) .nil))) c_names_in_5) c_names_in_3)
def c_names_in_7 : MB := (.cons (.asg (.name 1) .dnew) c_names_in_6)
def b_names_in : MB := c_names_in_7
def m_names_in : MF := ⟨1, 4, b_names_in⟩
def c_fun_of_0 : MB := (.cons (.ret .non) .nil)
def c_fun_of_1 : MB := (.cons (.ret (.var 2)) .nil)
def c_fun_of_2 : MB := (.cons (.ife (.cmp .eq (.ix (.var 2) (.int 0)) (.var 1)) c_fun_of_1 .nil) .nil)
def c_fun_of_3 : MB := (.cons (.forr (.name 2) (.seq (.ix (.var 0) (.int 1))) c_fun_of_2) c_fun_of_0)
def b_fun_of : MB := c_fun_of_3
def m_fun_of : MF := ⟨2, 3, b_fun_of⟩
def c_statement_calls_0 : MB := (.cons (.ret (.var 1)) .nil)
def c_statement_calls_1 : MB := (.cons (.asg (.name 1) (.bin .add (.var 1) (.lc (.ix (.var 3) (.int 1)) (.name 3) (.seq (.call 3 (.cons (.var 2) .nil))) (.some (.cmp .eq (.ix (.var 3) (.int 0)) (.str w_call)))))) .nil)
def c_statement_calls_2 : MB := (.cons (.forr (.name 2) (.seq (.call 1 (.cons (.var 0) .nil))) c_statement_calls_1) c_statement_calls_0)
def c_statement_calls_3 : MB := (.cons (.asg (.name 1) (.ife (.cmp .eq (.ix (.var 0) (.int 0)) (.str w_call)) (.lst (.cons (.ix (.var 0) (.int 1)) .nil)) (.lst .nil))) c_statement_calls_2)
def b_statement_calls : MB := c_statement_calls_3
def m_statement_calls : MF := ⟨1, 4, b_statement_calls⟩
def c_calls_table_0 : MB := (.cons (.expr (.call 10 (.cons (.var 5) (.cons (.ife (.cmp .eq (.ix (.var 3) (.int 0)) (.str w_hold)) (.int 1) (.var 1)) (.cons (.var 2) .nil))))) .nil)
def c_calls_table_1 : MB := (.cons (.forr (.name 5) (.seq (.call 2 (.cons (.var 3) .nil))) c_calls_table_0) .nil)
def c_calls_table_2 : MB := (.cons (.asg (.sub (.var 2) (.tup (.cons (.var 4) (.cons (.var 1) .nil)))) (.bl true)) .nil)
def c_calls_table_3 : MB := (.cons (.forr (.name 4) (.seq (.call 9 (.cons (.var 3) .nil))) c_calls_table_2) c_calls_table_1)
def c_calls_table_4 : MB := (.cons (.forr (.name 3) (.seq (.var 0)) c_calls_table_3) .nil)
def b_calls_table : MB := c_calls_table_4
def m_calls_table : MF := ⟨3, 6, b_calls_table⟩
def c_block_calls_0 : MB := (.cons (.ret (.blt .tuple (.cons (.srt (.var 1)) .nil))) .nil)
def c_block_calls_1 : MB := (.cons (.expr (.call 10 (.cons (.var 0) (.cons (.int 0) (.cons (.var 1) .nil))))) c_block_calls_0)
def c_block_calls_2 : MB := (.cons (.asg (.name 1) .dnewt) c_block_calls_1)
def b_block_calls : MB := c_block_calls_2
def m_block_calls : MF := ⟨1, 2, b_block_calls⟩
def c_roots_of_0 : MB := (.cons (.ret (.bin .add (.lst (.cons (.tup (.cons (.int 0) (.cons (.int 0) (.cons (.str w_main) .nil)))) .nil)) (.lc (.tup (.cons (.var 1) (.cons (.int 0) (.cons (.str w_on) .nil)))) (.tup [1, 2]) (.seq (.srt (.ix (.var 0) (.int 2)))) .none))) .nil)
def b_roots_of : MB := c_roots_of_0
def m_roots_of : MF := ⟨1, 3, b_roots_of⟩
def c_block_of_0 : MB := (.cons (.ret (.ix (.call 8 (.cons (.var 0) (.cons (.var 4) .nil))) (.int 2))) .nil)
def c_block_of_1 : MB := (.cons (.ret (.ix (.lc (.var 6) (.tup [5, 6]) (.seq (.ix (.var 0) (.int 2))) (.some (.cmp .eq (.var 5) (.var 2)))) (.int 0))) .nil)
def c_block_of_2 : MB := (.cons (.ife (.cmp .eq (.var 4) (.str w_on)) c_block_of_1 .nil) c_block_of_0)
def c_block_of_3 : MB := (.cons (.ret (.ix (.var 0) (.int 3))) .nil)
def c_block_of_4 : MB := (.cons (.ife (.cmp .eq (.var 4) (.str w_main)) c_block_of_3 .nil) c_block_of_2)
def c_block_of_5 : MB := (.cons (.asg (.tup [2, 3, 4]) (.var 1)) c_block_of_4)
def b_block_of : MB := c_block_of_5
def m_block_of : MF := ⟨2, 7, b_block_of⟩
def c_callees_0 : MB := (.cons (.ret (.blt .tuple (.cons (.srt (.var 5)) .nil))) .nil)
def c_callees_1 : MB := (.cons (.asg (.sub (.var 5) (.tup (.cons (.var 2) (.cons (.blt .max (.cons (.var 3) (.cons (.var 7) .nil))) (.cons (.var 6) .nil))))) (.bl true)) .nil)
def c_callees_2 : MB := (.cons (.forr (.tup [6, 7]) (.seq (.call 11 (.cons (.call 13 (.cons (.var 0) (.cons (.var 1) .nil))) .nil))) c_callees_1) c_callees_0)
def c_callees_3 : MB := (.cons (.asg (.name 5) .dnewt) c_callees_2)
def c_callees_4 : MB := (.cons (.asg (.tup [2, 3, 4]) (.var 1)) c_callees_3)
def b_callees : MB := c_callees_4
def m_callees : MF := ⟨2, 8, b_callees⟩
def c_unit_web_0 : MB := (.cons (.ret (.var 1)) .nil)
def c_unit_web_1 : MB := (.cons (.asg (.name 2) (.bin .add (.var 2) (.blt .list (.cons (.ix (.var 1) (.var 3)) .nil)))) .nil)
def c_unit_web_2 : MB := (.cons (.asg (.sub (.var 1) (.var 3)) (.call 14 (.cons (.var 0) (.cons (.var 3) .nil)))) c_unit_web_1)
def c_unit_web_3 : MB := (.cons (.ife (.cmp .notin (.var 3) (.var 1)) c_unit_web_2 .nil) .nil)
def c_unit_web_4 : MB := (.cons (.asg (.name 3) (.meth .pop (.var 2) .nil)) c_unit_web_3)
def c_unit_web_5 : MB := (.cons (.whl (.cmp .gt (.blt .len (.cons (.var 2) .nil)) (.int 0)) c_unit_web_4) c_unit_web_0)
def c_unit_web_6 : MB := (.cons (.asg (.name 2) (.call 12 (.cons (.var 0) .nil))) c_unit_web_5)
def c_unit_web_7 : MB := (.cons (.asg (.name 1) .dnewt) c_unit_web_6)
def b_unit_web : MB := c_unit_web_7
def m_unit_web : MF := ⟨1, 4, b_unit_web⟩
def c_units_of_0 : MB := (.cons (.ret (.blt .tuple (.cons (.srt (.call 15 (.cons (.var 0) .nil))) .nil))) .nil)
def b_units_of : MB := c_units_of_0
def m_units_of : MF := ⟨1, 1, b_units_of⟩
def c_needless_funs_0 : MB := (.cons (.ret (.blt .tuple (.cons (.srt (.lc (.ix (.var 3) (.int 0)) (.name 3) (.seq (.ix (.var 0) (.int 1))) (.some (.cmp .notin (.ix (.var 3) (.int 0)) (.var 1))))) .nil))) .nil)
def c_needless_funs_1 : MB := (.cons (.asg (.name 1) (.lc (.ix (.var 2) (.int 2)) (.name 2) (.seq (.call 16 (.cons (.var 0) .nil))) .none)) c_needless_funs_0)
def b_needless_funs : MB := c_needless_funs_1
def m_needless_funs : MF := ⟨1, 4, b_needless_funs⟩
def c_without_needless_0 : MB := (.cons (.ret (.tup (.cons (.var 2) (.cons (.blt .tuple (.cons (.lc (.var 6) (.name 6) (.seq (.var 3)) (.some (.cmp .notin (.ix (.var 6) (.int 0)) (.var 1)))) .nil)) (.cons (.var 4) (.cons (.var 5) .nil)))))) .nil)
def c_without_needless_1 : MB := (.cons (.asg (.tup [2, 3, 4, 5]) (.var 0)) c_without_needless_0)
def c_without_needless_2 : MB := (.cons (.asg (.name 1) (.call 17 (.cons (.var 0) .nil))) c_without_needless_1)
def b_without_needless : MB := c_without_needless_2
def m_without_needless : MF := ⟨1, 7, b_without_needless⟩
def c_needless_cells_0 : MB := (.cons (.ret (.blt .tuple (.cons (.srt (.lc (.var 3) (.tup [3, 4]) (.seq (.ix (.var 0) (.int 0))) (.some (.cmp .notin (.var 3) (.var 1))))) .nil))) .nil)
def c_needless_cells_1 : MB := (.cons (.asg (.sub (.var 1) (.var 3)) (.bl true)) .nil)
def c_needless_cells_2 : MB := (.cons (.forr (.name 3) (.seq (.call 7 (.cons (.var 2) .nil))) c_needless_cells_1) .nil)
def c_needless_cells_3 : MB := (.cons (.forr (.name 2) (.seq (.call 6 (.cons (.var 0) .nil))) c_needless_cells_2) c_needless_cells_0)
def c_needless_cells_4 : MB := (.cons (.asg (.name 1) .dnew) c_needless_cells_3)
def b_needless_cells : MB := c_needless_cells_4
def m_needless_cells : MF := ⟨1, 5, b_needless_cells⟩
def c_unread_cells_0 : MB := (.cons (.ret (.blt .tuple (.cons (.srt (.lc (.var 4) (.tup [4, 5]) (.seq (.ix (.var 0) (.int 0))) (.some (.cmp .notin (.var 4) (.var 1))))) .nil))) .nil)
def c_unread_cells_1 : MB := (.cons (.asg (.sub (.var 1) (.ix (.var 3) (.int 1))) (.bl true)) .nil)
def c_unread_cells_2 : MB := (.cons (.ife (.cmp .eq (.ix (.var 3) (.int 0)) (.str w_name)) c_unread_cells_1 .nil) .nil)
def c_unread_cells_3 : MB := (.cons (.forr (.name 3) (.seq (.call 5 (.cons (.var 2) .nil))) c_unread_cells_2) .nil)
def c_unread_cells_4 : MB := (.cons (.forr (.name 2) (.seq (.call 6 (.cons (.var 0) .nil))) c_unread_cells_3) c_unread_cells_0)
def c_unread_cells_5 : MB := (.cons (.asg (.name 1) .dnew) c_unread_cells_4)
def b_unread_cells : MB := c_unread_cells_5
def m_unread_cells : MF := ⟨1, 6, b_unread_cells⟩
def c_law_pool_0 : MB := (.cons (.ret (.lst (.cons (.lc (.blt .abs (.cons (.blt .int (.cons (.var 1) .nil)) .nil)) (.name 1) (.seq (.var 0)) .none) (.cons (.int 0) (.cons (.int 0) (.cons (.int 70877) (.cons (.int 0) .nil))))))) .nil)
def b_law_pool : MB := c_law_pool_0
def m_law_pool : MF := ⟨1, 2, b_law_pool⟩
def c_law_take_0 : MB := (.cons (.ret (.var 2)) .nil)
def c_law_take_1 : MB := (.cons (.asg (.sub (.var 0) (.int 3)) (.bin .mod (.bin .add (.bin .add (.ix (.var 0) (.int 3)) (.bin .mul (.int 41) (.var 2))) (.var 1)) (.int 2147483563))) c_law_take_0)
def c_law_take_2 : MB := (.cons (.asg (.sub (.var 0) (.int 2)) (.bin .fdiv (.ix (.var 0) (.int 2)) (.var 1))) .nil)
def c_law_take_3 : MB := (.cons (.asg (.name 2) (.bin .mod (.ix (.var 0) (.int 2)) (.var 1))) c_law_take_2)
def c_law_take_4 : MB := (.cons (.asg (.name 2) (.bin .mod (.bin .fdiv (.ix (.var 0) (.int 3)) (.int 89)) (.var 1))) .nil)
def c_law_take_5 : MB := (.cons (.asg (.sub (.var 0) (.int 3)) (.bin .mod (.bin .add (.bin .mul (.ix (.var 0) (.int 3)) (.int 5077)) (.int 7433)) (.int 2147483563))) c_law_take_4)
def c_law_take_6 : MB := (.cons (.ife (.cmp .gt (.ix (.var 0) (.int 2)) (.int 0)) c_law_take_3 c_law_take_5) c_law_take_1)
def c_law_take_7 : MB := (.cons (.asg (.sub (.var 0) (.int 1)) (.bin .add (.ix (.var 0) (.int 1)) (.int 1))) .nil)
def c_law_take_8 : MB := (.cons (.asg (.sub (.var 0) (.int 2)) (.ix (.ix (.var 0) (.int 0)) (.ix (.var 0) (.int 1)))) c_law_take_7)
def c_law_take_9 : MB := (.cons (.whl (.and (.cmp .eq (.ix (.var 0) (.int 2)) (.int 0)) (.cmp .lt (.ix (.var 0) (.int 1)) (.blt .len (.cons (.ix (.var 0) (.int 0)) .nil)))) c_law_take_8) c_law_take_6)
def b_law_take : MB := c_law_take_9
def m_law_take : MF := ⟨2, 3, b_law_take⟩
def c_law_same_0 : MB := (.cons (.ret (.bl true)) .nil)
def c_law_same_1 : MB := (.cons (.ret (.bl false)) .nil)
def c_law_same_2 : MB := (.cons (.ife (.cmp .isnot (.var 3) .non) c_law_same_1 .nil) .nil)
def c_law_same_3 : MB := (.cons (.ret (.bl false)) .nil)
def c_law_same_4 : MB := (.cons (.ife (.or (.not (.isi (.var 3) [.bool])) (.cmp .ne (.var 3) (.var 4))) c_law_same_3 .nil) .nil)
def c_law_same_5 : MB := (.cons (.ret (.bl false)) .nil)
def c_law_same_6 : MB := (.cons (.ife (.or (.isi (.var 3) [.bool]) (.or (.not (.isi (.var 3) [.int])) (.cmp .ne (.var 3) (.var 4)))) c_law_same_5 .nil) .nil)
def c_law_same_7 : MB := (.cons (.ret (.bl false)) .nil)
def c_law_same_8 : MB := (.cons (.ife (.or (.not (.isi (.var 3) [.str])) (.cmp .ne (.var 3) (.var 4))) c_law_same_7 .nil) .nil)
def c_law_same_9 : MB := (.cons (.expr (.meth .extend (.var 2) (.cons (.lc (.tup (.cons (.ix (.var 3) (.var 5)) (.cons (.ix (.var 4) (.var 5)) .nil))) (.name 5) (.rng1 (.blt .len (.cons (.var 4) .nil))) .none) .nil))) .nil)
def c_law_same_10 : MB := (.cons (.ret (.bl false)) .nil)
def c_law_same_11 : MB := (.cons (.ife (.or (.not (.isi (.var 3) [.tuple])) (.cmp .ne (.blt .len (.cons (.var 3) .nil)) (.blt .len (.cons (.var 4) .nil)))) c_law_same_10 .nil) c_law_same_9)
def c_law_same_12 : MB := (.cons (.ife (.isi (.var 4) [.str]) c_law_same_8 c_law_same_11) .nil)
def c_law_same_13 : MB := (.cons (.ife (.isi (.var 4) [.int]) c_law_same_6 c_law_same_12) .nil)
def c_law_same_14 : MB := (.cons (.ife (.isi (.var 4) [.bool]) c_law_same_4 c_law_same_13) .nil)
def c_law_same_15 : MB := (.cons (.ife (.cmp .is (.var 4) .non) c_law_same_2 c_law_same_14) .nil)
def c_law_same_16 : MB := (.cons (.asg (.tup [3, 4]) (.meth .pop (.var 2) .nil)) c_law_same_15)
def c_law_same_17 : MB := (.cons (.whl (.cmp .gt (.blt .len (.cons (.var 2) .nil)) (.int 0)) c_law_same_16) c_law_same_0)
def c_law_same_18 : MB := (.cons (.asg (.name 2) (.lst (.cons (.tup (.cons (.var 0) (.cons (.var 1) .nil))) .nil))) c_law_same_17)
def b_law_same : MB := c_law_same_18
def m_law_same : MF := ⟨2, 6, b_law_same⟩
def c_law_name_0 : MB := (.cons (.ret (.bin .add (.bin .add (.ix (.var 1) (.call 22 (.cons (.var 0) (.cons (.int 26) .nil)))) (.blt .str (.cons (.ix (.var 0) (.int 4)) .nil))) (.ix (.tup (.cons (.str w_) (.cons (.str w_) (.cons (.str w_q) (.cons (.str w_a0) .nil))))) (.call 22 (.cons (.var 0) (.cons (.int 4) .nil)))))) .nil)
def c_law_name_1 : MB := (.cons (.asg (.sub (.var 0) (.int 4)) (.bin .add (.ix (.var 0) (.int 4)) (.int 1))) c_law_name_0)
def c_law_name_2 : MB := (.cons (.asg (.name 1) (.str w_abcdefghijklmnopqrstuvwxyz)) c_law_name_1)
def b_law_name : MB := c_law_name_2
def m_law_name : MF := ⟨1, 2, b_law_name⟩
def c_law_expression_0 : MB := (.cons (.ret (.tup (.cons (.var 7) (.cons (.call 25 (.cons (.var 0) (.cons (.var 1) (.cons (.var 2) (.cons (.bin .sub (.var 3) (.int 1)) .nil))))) (.cons (.call 25 (.cons (.var 0) (.cons (.var 1) (.cons (.var 2) (.cons (.bin .sub (.var 3) (.int 1)) .nil))))) .nil))))) .nil)
def c_law_expression_1 : MB := (.cons (.asg (.name 7) (.ix (.tup (.cons (.str w_add) (.cons (.str w_sub) (.cons (.str w_mul) (.cons (.str w_less) (.cons (.str w_same) .nil)))))) (.call 22 (.cons (.var 0) (.cons (.int 5) .nil))))) c_law_expression_0)
def c_law_expression_2 : MB := (.cons (.ret (.tup (.cons (.str w_call) (.cons (.var 5) (.cons (.blt .tuple (.cons (.lc (.call 25 (.cons (.var 0) (.cons (.var 1) (.cons (.var 2) (.cons (.bin .sub (.var 3) (.int 1)) .nil))))) (.name 8) (.rng1 (.var 6)) .none) .nil)) .nil))))) .nil)
def c_law_expression_3 : MB := (.cons (.asg (.tup [5, 6]) (.ix (.var 2) (.call 22 (.cons (.var 0) (.cons (.blt .len (.cons (.var 2) .nil)) .nil))))) c_law_expression_2)
def c_law_expression_4 : MB := (.cons (.ife (.and (.cmp .eq (.var 4) (.int 8)) (.cmp .gt (.blt .len (.cons (.var 2) .nil)) (.int 0))) c_law_expression_3 .nil) c_law_expression_1)
def c_law_expression_5 : MB := (.cons (.ret (.tup (.cons (.str w_in) .nil))) .nil)
def c_law_expression_6 : MB := (.cons (.ife (.cmp .eq (.var 4) (.int 2)) c_law_expression_5 .nil) c_law_expression_4)
def c_law_expression_7 : MB := (.cons (.ret (.tup (.cons (.str w_name) (.cons (.ix (.var 1) (.call 22 (.cons (.var 0) (.cons (.blt .len (.cons (.var 1) .nil)) .nil)))) .nil)))) .nil)
def c_law_expression_8 : MB := (.cons (.ife (.cmp .lt (.var 4) (.int 2)) c_law_expression_7 .nil) c_law_expression_6)
def c_law_expression_9 : MB := (.cons (.ret (.tup (.cons (.str w_number) (.cons (.ix (.tup (.cons (.int 0) (.cons (.int 1) (.cons (.int 65535) (.cons (.call 22 (.cons (.var 0) (.cons (.int 65536) .nil))) (.cons (.call 22 (.cons (.var 0) (.cons (.int 300) .nil))) .nil)))))) (.call 22 (.cons (.var 0) (.cons (.int 5) .nil)))) .nil)))) .nil)
def c_law_expression_10 : MB := (.cons (.ife (.or (.cmp .eq (.var 4) (.int 0)) (.and (.cmp .eq (.var 4) (.int 1)) (.cmp .eq (.blt .len (.cons (.var 1) .nil)) (.int 0)))) c_law_expression_9 .nil) c_law_expression_8)
def c_law_expression_11 : MB := (.cons (.asg (.name 4) (.ife (.cmp .gt (.var 3) (.int 0)) (.call 22 (.cons (.var 0) (.cons (.int 9) .nil))) (.call 22 (.cons (.var 0) (.cons (.int 3) .nil))))) c_law_expression_10)
def b_law_expression : MB := c_law_expression_11
def m_law_expression : MF := ⟨4, 9, b_law_expression⟩
def c_law_block_0 : MB := (.cons (.ret (.blt .tuple (.cons (.var 7) .nil))) .nil)
def c_law_block_1 : MB := (.cons (.expr (.meth .append (.var 6) (.cons (.var 11) .nil))) .nil)
def c_law_block_2 : MB := (.cons (.expr (.meth .append (.var 7) (.cons (.tup (.cons (.str w_var) (.cons (.var 11) (.cons (.var 10) .nil)))) .nil))) c_law_block_1)
def c_law_block_3 : MB := (.cons (.asg (.name 11) (.call 24 (.cons (.var 0) .nil))) c_law_block_2)
def c_law_block_4 : MB := (.cons (.expr (.meth .append (.var 7) (.cons (.tup (.cons (.str w_set) (.cons (.ix (.var 6) (.call 22 (.cons (.var 0) (.cons (.blt .len (.cons (.var 6) .nil)) .nil)))) (.cons (.var 10) .nil)))) .nil))) .nil)
def c_law_block_5 : MB := (.cons (.expr (.meth .append (.var 7) (.cons (.tup (.cons (.str w_call) (.cons (.var 12) (.cons (.blt .tuple (.cons (.lc (.call 25 (.cons (.var 0) (.cons (.var 6) (.cons (.var 3) (.cons (.int 1) .nil))))) (.name 14) (.rng1 (.var 13)) .none) .nil)) .nil)))) .nil))) .nil)
def c_law_block_6 : MB := (.cons (.asg (.tup [12, 13]) (.ix (.var 3) (.call 22 (.cons (.var 0) (.cons (.blt .len (.cons (.var 3) .nil)) .nil))))) c_law_block_5)
def c_law_block_7 : MB := (.cons (.expr (.meth .append (.var 7) (.cons (.tup (.cons (.str w_if) (.cons (.var 10) (.cons (.call 26 (.cons (.var 0) (.cons (.var 1) (.cons (.var 6) (.cons (.var 3) (.cons (.bin .sub (.var 4) (.int 1)) (.cons (.var 5) .nil))))))) (.cons (.call 26 (.cons (.var 0) (.cons (.var 1) (.cons (.var 6) (.cons (.var 3) (.cons (.bin .sub (.var 4) (.int 1)) (.cons (.var 5) .nil))))))) .nil))))) .nil))) .nil)
def c_law_block_8 : MB := (.cons (.expr (.meth .append (.var 7) (.cons (.tup (.cons (.str w_while) (.cons (.var 10) (.cons (.call 26 (.cons (.var 0) (.cons (.var 1) (.cons (.var 6) (.cons (.var 3) (.cons (.bin .sub (.var 4) (.int 1)) (.cons (.var 5) .nil))))))) .nil)))) .nil))) .nil)
def c_law_block_9 : MB := (.cons (.expr (.meth .append (.var 7) (.cons (.tup (.cons (.str w_hold) (.cons (.call 26 (.cons (.var 0) (.cons (.var 1) (.cons (.var 6) (.cons (.var 3) (.cons (.bin .sub (.var 4) (.int 1)) (.cons (.bl true) .nil))))))) .nil))) .nil))) .nil)
def c_law_block_10 : MB := (.cons (.expr (.meth .append (.var 7) (.cons (.tup (.cons (.str w_return) (.cons (.var 10) .nil))) .nil))) .nil)
def c_law_block_11 : MB := (.cons (.expr (.meth .append (.var 7) (.cons (.tup (.cons (.str w_out) (.cons (.var 10) .nil))) .nil))) .nil)
def c_law_block_12 : MB := (.cons (.ife (.and (.cmp .eq (.var 9) (.int 6)) (.and (.cmp .eq (.var 1) (.str w_fun)) (.not (.var 5)))) c_law_block_10 c_law_block_11) .nil)
def c_law_block_13 : MB := (.cons (.ife (.and (.cmp .eq (.var 9) (.int 5)) (.cmp .gt (.var 4) (.int 0))) c_law_block_9 c_law_block_12) .nil)
def c_law_block_14 : MB := (.cons (.ife (.and (.cmp .eq (.var 9) (.int 4)) (.cmp .gt (.var 4) (.int 0))) c_law_block_8 c_law_block_13) .nil)
def c_law_block_15 : MB := (.cons (.ife (.and (.cmp .eq (.var 9) (.int 3)) (.cmp .gt (.var 4) (.int 0))) c_law_block_7 c_law_block_14) .nil)
def c_law_block_16 : MB := (.cons (.ife (.and (.cmp .eq (.var 9) (.int 2)) (.cmp .gt (.blt .len (.cons (.var 3) .nil)) (.int 0))) c_law_block_6 c_law_block_15) .nil)
def c_law_block_17 : MB := (.cons (.ife (.and (.cmp .eq (.var 9) (.int 1)) (.cmp .gt (.blt .len (.cons (.var 6) .nil)) (.int 0))) c_law_block_4 c_law_block_16) .nil)
def c_law_block_18 : MB := (.cons (.ife (.cmp .eq (.var 9) (.int 0)) c_law_block_3 c_law_block_17) .nil)
def c_law_block_19 : MB := (.cons (.asg (.name 10) (.call 25 (.cons (.var 0) (.cons (.var 6) (.cons (.var 3) (.cons (.int 2) .nil)))))) c_law_block_18)
def c_law_block_20 : MB := (.cons (.asg (.name 9) (.call 22 (.cons (.var 0) (.cons (.int 8) .nil)))) c_law_block_19)
def c_law_block_21 : MB := (.cons (.forr (.name 8) (.rng1 (.ife (.cmp .lt (.var 4) (.int 3)) (.call 22 (.cons (.var 0) (.cons (.int 4) .nil))) (.bin .add (.int 1) (.call 22 (.cons (.var 0) (.cons (.int 4) .nil)))))) c_law_block_20) c_law_block_0)
def c_law_block_22 : MB := (.cons (.asg (.name 7) (.lst .nil)) c_law_block_21)
def c_law_block_23 : MB := (.cons (.asg (.name 6) (.blt .list (.cons (.var 2) .nil))) c_law_block_22)
def b_law_block : MB := c_law_block_23
def m_law_block : MF := ⟨6, 15, b_law_block⟩
def c_law_tree_0 : MB := (.cons (.ret (.tup (.cons (.blt .tuple (.cons (.var 2) .nil)) (.cons (.blt .tuple (.cons (.var 4) .nil)) (.cons (.blt .tuple (.cons (.var 10) .nil)) (.cons (.call 26 (.cons (.var 0) (.cons (.str w_main) (.cons (.var 3) (.cons (.var 5) (.cons (.int 3) (.cons (.bl false) .nil))))))) .nil)))))) .nil)
def c_law_tree_1 : MB := (.cons (.asg (.name 10) (.lc (.tup (.cons (.var 13) (.cons (.call 26 (.cons (.var 0) (.cons (.str w_on) (.cons (.var 3) (.cons (.var 5) (.cons (.int 2) (.cons (.bl false) .nil))))))) .nil))) (.name 13) (.seq (.var 9)) .none)) c_law_tree_0)
def c_law_tree_2 : MB := (.cons (.asg (.name 9) (.rev (.var 9))) .nil)
def c_law_tree_3 : MB := (.cons (.ife (.cmp .eq (.call 22 (.cons (.var 0) (.cons (.int 2) .nil))) (.int 0)) c_law_tree_2 .nil) c_law_tree_1)
def c_law_tree_4 : MB := (.cons (.asg (.name 9) (.lc (.var 13) (.name 13) (.seq (.tup (.cons (.int 1) (.cons (.int 2) (.cons (.int 3) (.cons (.int 4) .nil)))))) (.some (.cmp .eq (.call 22 (.cons (.var 0) (.cons (.int 3) .nil))) (.int 0))))) c_law_tree_3)
def c_law_tree_5 : MB := (.cons (.asg (.name 4) (.rev (.var 4))) .nil)
def c_law_tree_6 : MB := (.cons (.ife (.cmp .eq (.call 22 (.cons (.var 0) (.cons (.int 2) .nil))) (.int 0)) c_law_tree_5 .nil) c_law_tree_4)
def c_law_tree_7 : MB := (.cons (.expr (.meth .append (.var 5) (.cons (.tup (.cons (.var 8) (.cons (.blt .len (.cons (.var 7) .nil)) .nil))) .nil))) .nil)
def c_law_tree_8 : MB := (.cons (.expr (.meth .append (.var 4) (.cons (.tup (.cons (.var 8) (.cons (.blt .tuple (.cons (.var 7) .nil)) (.cons (.call 26 (.cons (.var 0) (.cons (.str w_fun) (.cons (.bin .add (.var 3) (.var 7)) (.cons (.sl (.var 5) .none .none) (.cons (.int 2) (.cons (.bl false) .nil))))))) .nil)))) .nil))) c_law_tree_7)
def c_law_tree_9 : MB := (.cons (.asg (.name 8) (.call 24 (.cons (.var 0) .nil))) c_law_tree_8)
def c_law_tree_10 : MB := (.cons (.asg (.name 7) (.lc (.call 24 (.cons (.var 0) .nil)) (.name 12) (.rng1 (.call 22 (.cons (.var 0) (.cons (.int 4) .nil)))) .none)) c_law_tree_9)
def c_law_tree_11 : MB := (.cons (.forr (.name 6) (.rng1 (.call 22 (.cons (.var 0) (.cons (.bin .add (.var 1) (.int 1)) .nil)))) c_law_tree_10) c_law_tree_6)
def c_law_tree_12 : MB := (.cons (.asg (.name 5) (.lst .nil)) c_law_tree_11)
def c_law_tree_13 : MB := (.cons (.asg (.name 4) (.lst .nil)) c_law_tree_12)
def c_law_tree_14 : MB := (.cons (.asg (.name 3) (.lc (.var 8) (.tup [8, 11]) (.seq (.var 2)) .none)) c_law_tree_13)
def c_law_tree_15 : MB := (.cons (.asg (.name 2) (.lc (.tup (.cons (.call 24 (.cons (.var 0) .nil)) (.cons (.call 22 (.cons (.var 0) (.cons (.int 65536) .nil))) .nil))) (.name 6) (.rng1 (.call 22 (.cons (.var 0) (.cons (.int 4) .nil)))) .none)) c_law_tree_14)
def b_law_tree : MB := c_law_tree_15
def m_law_tree : MF := ⟨2, 14, b_law_tree⟩
def c_law_walk_0 : MB := (.cons (.ret (.var 1)) .nil)
def c_law_walk_1 : MB := (.cons (.expr (.meth .extend (.var 2) (.cons (.var 3) .nil))) .nil)
def c_law_walk_2 : MB := (.cons (.expr (.meth .append (.var 1) (.cons (.var 3) .nil))) c_law_walk_1)
def c_law_walk_3 : MB := (.cons (.ife (.isi (.var 3) [.tuple]) c_law_walk_2 .nil) .nil)
def c_law_walk_4 : MB := (.cons (.asg (.name 3) (.meth .pop (.var 2) .nil)) c_law_walk_3)
def c_law_walk_5 : MB := (.cons (.whl (.cmp .gt (.blt .len (.cons (.var 2) .nil)) (.int 0)) c_law_walk_4) c_law_walk_0)
def c_law_walk_6 : MB := (.cons (.asg (.name 2) (.lst (.cons (.var 0) .nil))) c_law_walk_5)
def c_law_walk_7 : MB := (.cons (.asg (.name 1) (.lst .nil)) c_law_walk_6)
def b_law_walk : MB := c_law_walk_7
def m_law_walk : MF := ⟨1, 4, b_law_walk⟩
def c_law_calls_0 : MB := (.cons (.ret (.lc (.ix (.var 1) (.int 1)) (.name 1) (.seq (.call 28 (.cons (.var 0) .nil))) (.some (.and (.cmp .eq (.blt .len (.cons (.var 1) .nil)) (.int 3)) (.and (.isi (.ix (.var 1) (.int 0)) [.str]) (.cmp .eq (.ix (.var 1) (.int 0)) (.str w_call))))))) .nil)
def b_law_calls : MB := c_law_calls_0
def m_law_calls : MF := ⟨1, 2, b_law_calls⟩
def c_law_named_0 : MB := (.cons (.ret (.tup (.cons (.var 1) (.cons (.var 2) .nil)))) .nil)
def c_law_named_1 : MB := (.cons (.asg (.name 2) (.lc (.ix (.var 3) (.int 1)) (.name 3) (.seq (.call 28 (.cons (.var 0) .nil))) (.some (.and (.cmp .eq (.blt .len (.cons (.var 3) .nil)) (.int 3)) (.and (.isi (.ix (.var 3) (.int 0)) [.str]) (.cmp .eq (.ix (.var 3) (.int 0)) (.str w_set))))))) c_law_named_0)
def c_law_named_2 : MB := (.cons (.asg (.name 1) (.lc (.ix (.var 3) (.int 1)) (.name 3) (.seq (.call 28 (.cons (.var 0) .nil))) (.some (.and (.cmp .eq (.blt .len (.cons (.var 3) .nil)) (.int 2)) (.and (.isi (.ix (.var 3) (.int 0)) [.str]) (.and (.cmp .eq (.ix (.var 3) (.int 0)) (.str w_name)) (.isi (.ix (.var 3) (.int 1)) [.str]))))))) c_law_named_1)
def b_law_named : MB := c_law_named_2
def m_law_named : MF := ⟨1, 4, b_law_named⟩
def c_law_come_to_0 : MB := (.cons (.ret (.var 9)) .nil)
def c_law_come_to_1 : MB := (.cons (.expr (.meth .extend (.var 10) (.cons (.call 29 (.cons (.ix (.var 5) (.var 6)) .nil)) .nil))) .nil)
def c_law_come_to_2 : MB := (.cons (.expr (.meth .append (.var 9) (.cons (.var 6) .nil))) c_law_come_to_1)
def c_law_come_to_3 : MB := (.cons (.ife (.cmp .notin (.var 6) (.var 9)) c_law_come_to_2 .nil) .nil)
def c_law_come_to_4 : MB := (.cons (.asg (.name 6) (.meth .pop (.var 10) .nil)) c_law_come_to_3)
def c_law_come_to_5 : MB := (.cons (.whl (.cmp .gt (.blt .len (.cons (.var 10) .nil)) (.int 0)) c_law_come_to_4) c_law_come_to_0)
def c_law_come_to_6 : MB := (.cons (.asg (.name 10) (.bin .add (.var 10) (.call 29 (.cons (.var 8) .nil)))) .nil)
def c_law_come_to_7 : MB := (.cons (.forr (.tup [11, 8]) (.seq (.var 3)) c_law_come_to_6) c_law_come_to_5)
def c_law_come_to_8 : MB := (.cons (.asg (.name 10) (.call 29 (.cons (.var 4) .nil))) c_law_come_to_7)
def c_law_come_to_9 : MB := (.cons (.asg (.name 9) (.lst .nil)) c_law_come_to_8)
def c_law_come_to_10 : MB := (.cons (.asg (.sub (.var 5) (.var 6)) (.var 8)) .nil)
def c_law_come_to_11 : MB := (.cons (.forr (.tup [6, 7, 8]) (.seq (.var 2)) c_law_come_to_10) c_law_come_to_9)
def c_law_come_to_12 : MB := (.cons (.asg (.name 5) .dnew) c_law_come_to_11)
def c_law_come_to_13 : MB := (.cons (.asg (.tup [1, 2, 3, 4]) (.var 0)) c_law_come_to_12)
def b_law_come_to : MB := c_law_come_to_13
def m_law_come_to : MF := ⟨1, 12, b_law_come_to⟩
def c_law_more_0 : MB := (.cons (.ret (.tup (.cons (.var 2) (.cons (.bin .add (.blt .tuple (.cons (.var 7) .nil)) (.tup (.cons (.tup (.cons (.call 24 (.cons (.var 0) .nil)) (.cons (.tup (.cons (.str w_p) .nil)) (.cons (.tup (.cons (.tup (.cons (.str w_while) (.cons (.tup (.cons (.str w_name) (.cons (.str w_p) .nil))) (.cons (.var 16) .nil)))) .nil)) .nil)))) .nil))) (.cons (.var 4) (.cons (.var 5) .nil)))))) .nil)
def c_law_more_1 : MB := (.cons (.ret (.tup (.cons (.var 2) (.cons (.blt .tuple (.cons (.var 7) .nil)) (.cons (.var 4) (.cons (.bin .add (.var 5) (.tup (.cons (.tup (.cons (.str w_hold) (.cons (.tup (.cons (.tup (.cons (.str w_if) (.cons (.tup (.cons (.str w_in) .nil)) (.cons (.tup .nil) (.cons (.var 16) .nil))))) .nil)) .nil))) .nil))) .nil)))))) .nil)
def c_law_more_2 : MB := (.cons (.ife (.cmp .eq (.var 15) (.int 1)) c_law_more_1 .nil) c_law_more_0)
def c_law_more_3 : MB := (.cons (.ret (.tup (.cons (.var 2) (.cons (.blt .tuple (.cons (.var 7) .nil)) (.cons (.var 4) (.cons (.bin .add (.var 16) (.var 5)) .nil)))))) .nil)
def c_law_more_4 : MB := (.cons (.ife (.cmp .eq (.var 15) (.int 0)) c_law_more_3 .nil) c_law_more_2)
def c_law_more_5 : MB := (.cons (.asg (.name 16) (.tup (.cons (.tup (.cons (.str w_set) (.cons (.var 13) (.cons (.tup (.cons (.str w_in) .nil)) .nil)))) .nil))) c_law_more_4)
def c_law_more_6 : MB := (.cons (.asg (.name 15) (.call 22 (.cons (.var 0) (.cons (.int 3) .nil)))) c_law_more_5)
def c_law_more_7 : MB := (.cons (.asg (.name 2) (.bin .add (.bin .add (.bin .add (.sl (.var 2) .none (.some (.var 14))) (.tup (.cons (.tup (.cons (.var 12) (.cons (.int 1) .nil))) .nil))) (.sl (.var 2) (.some (.var 14)) .none)) (.tup (.cons (.tup (.cons (.var 13) (.cons (.int 0) .nil))) .nil)))) c_law_more_6)
def c_law_more_8 : MB := (.cons (.asg (.name 14) (.call 22 (.cons (.var 0) (.cons (.bin .add (.blt .len (.cons (.var 2) .nil)) (.int 1)) .nil)))) c_law_more_7)
def c_law_more_9 : MB := (.cons (.asg (.name 13) (.call 24 (.cons (.var 0) .nil))) c_law_more_8)
def c_law_more_10 : MB := (.cons (.asg (.name 12) (.call 24 (.cons (.var 0) .nil))) c_law_more_9)
def c_law_more_11 : MB := (.cons (.asg (.name 6) (.lst (.cons (.tup (.cons (.var 9) (.cons (.int 0) .nil))) .nil))) .nil)
def c_law_more_12 : MB := (.cons (.expr (.meth .insert (.var 7) (.cons (.call 22 (.cons (.var 0) (.cons (.bin .add (.blt .len (.cons (.var 7) .nil)) (.int 1)) .nil))) (.cons (.tup (.cons (.var 9) (.cons (.tup .nil) (.cons (.bin .add (.var 10) (.tup (.cons (.tup (.cons (.str w_out) (.cons (.tup (.cons (.str w_number) (.cons (.int 1) .nil))) .nil))) .nil))) .nil)))) .nil)))) c_law_more_11)
def c_law_more_13 : MB := (.cons (.asg (.name 10) (.tup (.cons (.tup (.cons (.str w_call) (.cons (.ix (.ix (.var 10) (.int 0)) (.int 1)) (.cons (.blt .tuple (.cons (.lc (.tup (.cons (.str w_in) .nil)) (.name 20) (.rng1 (.var 11)) .none) .nil)) .nil)))) .nil))) .nil)
def c_law_more_14 : MB := (.cons (.asg (.name 11) (.ix (.lc (.ix (.var 19) (.int 1)) (.name 19) (.seq (.var 6)) (.some (.cmp .eq (.ix (.var 19) (.int 0)) (.ix (.ix (.var 10) (.int 0)) (.int 1))))) (.int 0))) c_law_more_13)
def c_law_more_15 : MB := (.cons (.ife (.cmp .gt (.blt .len (.cons (.var 10) .nil)) (.int 0)) c_law_more_14 .nil) c_law_more_12)
def c_law_more_16 : MB := (.cons (.asg (.name 10) (.ife (.and (.cmp .gt (.blt .len (.cons (.var 6) .nil)) (.int 0)) (.cmp .eq (.call 22 (.cons (.var 0) (.cons (.int 2) .nil))) (.int 0))) (.tup (.cons (.tup (.cons (.str w_call) (.cons (.ix (.ix (.var 6) (.call 22 (.cons (.var 0) (.cons (.blt .len (.cons (.var 6) .nil)) .nil)))) (.int 0)) (.cons (.tup .nil) .nil)))) .nil)) (.tup .nil))) c_law_more_15)
def c_law_more_17 : MB := (.cons (.asg (.name 9) (.call 24 (.cons (.var 0) .nil))) c_law_more_16)
def c_law_more_18 : MB := (.cons (.forr (.name 8) (.rng1 (.call 22 (.cons (.var 0) (.cons (.int 4) .nil)))) c_law_more_17) c_law_more_10)
def c_law_more_19 : MB := (.cons (.asg (.name 7) (.blt .list (.cons (.var 3) .nil))) c_law_more_18)
def c_law_more_20 : MB := (.cons (.asg (.name 6) (.lc (.tup (.cons (.var 9) (.cons (.blt .len (.cons (.var 17) .nil)) .nil))) (.tup [9, 17, 18]) (.seq (.var 3)) .none)) c_law_more_19)
def c_law_more_21 : MB := (.cons (.asg (.tup [2, 3, 4, 5]) (.var 1)) c_law_more_20)
def b_law_more : MB := c_law_more_21
def m_law_more : MF := ⟨2, 21, b_law_more⟩
def c_law_asked_0 : MB := (.cons (.ret (.call 23 (.cons (.call 19 (.cons (.var 0) .nil)) (.cons (.blt .tuple (.cons (.srt (.lc (.var 13) (.tup [13, 17]) (.seq (.var 1)) (.some (.and (.cmp .notin (.var 13) (.var 8)) (.cmp .notin (.var 13) (.var 9)))))) .nil)) .nil)))) .nil)
def c_law_asked_1 : MB := (.cons (.ret (.bl false)) .nil)
def c_law_asked_2 : MB := (.cons (.ife (.not (.call 23 (.cons (.call 20 (.cons (.var 0) .nil)) (.cons (.blt .tuple (.cons (.srt (.lc (.var 13) (.tup [13, 17]) (.seq (.var 1)) (.some (.cmp .notin (.var 13) (.var 8))))) .nil)) .nil)))) c_law_asked_1 .nil) c_law_asked_0)
def c_law_asked_3 : MB := (.cons (.asg (.name 9) (.bin .add (.var 9) (.var 12))) .nil)
def c_law_asked_4 : MB := (.cons (.asg (.name 8) (.bin .add (.var 8) (.var 11))) c_law_asked_3)
def c_law_asked_5 : MB := (.cons (.asg (.tup [11, 12]) (.call 30 (.cons (.var 10) .nil))) c_law_asked_4)
def c_law_asked_6 : MB := (.cons (.forr (.name 10) (.seq (.bin .add (.bin .add (.lc (.ix (.var 15) (.int 2)) (.name 15) (.seq (.var 2)) .none) (.lc (.ix (.var 16) (.int 1)) (.name 16) (.seq (.var 3)) .none)) (.lst (.cons (.var 4) .nil)))) c_law_asked_5) c_law_asked_2)
def c_law_asked_7 : MB := (.cons (.asg (.name 9) (.lst .nil)) c_law_asked_6)
def c_law_asked_8 : MB := (.cons (.asg (.name 8) (.lst .nil)) c_law_asked_7)
def c_law_asked_9 : MB := (.cons (.ret (.bl false)) .nil)
def c_law_asked_10 : MB := (.cons (.ife (.not (.call 23 (.cons (.call 18 (.cons (.var 7) .nil)) (.cons (.var 7) .nil)))) c_law_asked_9 .nil) c_law_asked_8)
def c_law_asked_11 : MB := (.cons (.ret (.bl false)) .nil)
def c_law_asked_12 : MB := (.cons (.ife (.or (.not (.call 23 (.cons (.call 18 (.cons (.var 0) .nil)) (.cons (.var 7) .nil)))) (.not (.call 23 (.cons (.call 17 (.cons (.var 7) .nil)) (.cons (.tup .nil) .nil))))) c_law_asked_11 .nil) c_law_asked_10)
def c_law_asked_13 : MB := (.cons (.asg (.name 7) (.tup (.cons (.var 1) (.cons (.blt .tuple (.cons (.lc (.var 15) (.name 15) (.seq (.var 2)) (.some (.cmp .isin (.ix (.var 15) (.int 0)) (.var 5)))) .nil)) (.cons (.var 3) (.cons (.var 4) .nil)))))) c_law_asked_12)
def c_law_asked_14 : MB := (.cons (.ret (.bl false)) .nil)
def c_law_asked_15 : MB := (.cons (.ife (.not (.call 23 (.cons (.call 17 (.cons (.var 0) .nil)) (.cons (.var 6) .nil)))) c_law_asked_14 .nil) c_law_asked_13)
def c_law_asked_16 : MB := (.cons (.asg (.name 6) (.blt .tuple (.cons (.srt (.lc (.var 13) (.tup [13, 14, 10]) (.seq (.var 2)) (.some (.cmp .notin (.var 13) (.var 5))))) .nil))) c_law_asked_15)
def c_law_asked_17 : MB := (.cons (.asg (.name 5) (.call 31 (.cons (.var 0) .nil))) c_law_asked_16)
def c_law_asked_18 : MB := (.cons (.asg (.tup [1, 2, 3, 4]) (.var 0)) c_law_asked_17)
def b_law_asked : MB := c_law_asked_18
def m_law_asked : MF := ⟨1, 18, b_law_asked⟩
def c_law_hand_0 : MB := (.cons (.ret (.and (.call 23 (.cons (.callk 19 (.cons (.var 4) .nil)) (.cons (.tup (.cons (.str w_e) .nil)) .nil))) (.call 23 (.cons (.callk 20 (.cons (.var 4) .nil)) (.cons (.tup (.cons (.str w_d) (.cons (.str w_e) .nil))) .nil))))) .nil)
def c_law_hand_1 : MB := (.cons (.ret (.bl false)) .nil)
def c_law_hand_2 : MB := (.cons (.ife (.or (.not (.call 23 (.cons (.callk 17 (.cons (.var 4) .nil)) (.cons (.tup (.cons (.str w_g) (.cons (.str w_h) .nil))) .nil)))) (.not (.call 23 (.cons (.ix (.callk 18 (.cons (.var 4) .nil)) (.int 1)) (.cons (.tup (.cons (.var 0) (.cons (.var 3) .nil))) .nil))))) c_law_hand_1 .nil) c_law_hand_0)
def c_law_hand_3 : MB := (.cons (.asg (.name 4) (.tup (.cons (.tup (.cons (.tup (.cons (.str w_e) (.cons (.int 0) .nil))) (.cons (.tup (.cons (.str w_d) (.cons (.int 0) .nil))) (.cons (.tup (.cons (.str w_c) (.cons (.int 0) .nil))) .nil)))) (.cons (.tup (.cons (.var 0) (.cons (.var 1) (.cons (.var 2) (.cons (.var 3) .nil))))) (.cons (.tup (.cons (.tup (.cons (.int 2) (.cons (.tup (.cons (.tup (.cons (.str w_call) (.cons (.str w_k) (.cons (.tup (.cons (.tup (.cons (.str w_in) .nil)) .nil)) .nil)))) .nil)) .nil))) .nil)) (.cons (.tup (.cons (.tup (.cons (.str w_out) (.cons (.tup (.cons (.str w_call) (.cons (.str w_f) (.cons (.tup .nil) .nil)))) .nil))) .nil)) .nil)))))) c_law_hand_2)
def c_law_hand_4 : MB := (.cons (.asg (.name 3) (.tup (.cons (.str w_k) (.cons (.tup (.cons (.str w_a) .nil)) (.cons (.tup (.cons (.tup (.cons (.str w_set) (.cons (.str w_d) (.cons (.tup (.cons (.str w_name) (.cons (.str w_a) .nil))) .nil)))) .nil)) .nil))))) c_law_hand_3)
def c_law_hand_5 : MB := (.cons (.asg (.name 2) (.tup (.cons (.str w_h) (.cons (.tup .nil) (.cons (.tup (.cons (.tup (.cons (.str w_call) (.cons (.str w_g) (.cons (.tup .nil) .nil)))) (.cons (.tup (.cons (.str w_call) (.cons (.str w_k) (.cons (.tup (.cons (.tup (.cons (.str w_name) (.cons (.str w_c) .nil))) .nil)) .nil)))) .nil))) .nil))))) c_law_hand_4)
def c_law_hand_6 : MB := (.cons (.asg (.name 1) (.tup (.cons (.str w_g) (.cons (.tup .nil) (.cons (.tup (.cons (.tup (.cons (.str w_return) (.cons (.tup (.cons (.str w_call) (.cons (.str w_f) (.cons (.tup .nil) .nil)))) .nil))) .nil)) .nil))))) c_law_hand_5)
def c_law_hand_7 : MB := (.cons (.asg (.name 0) (.tup (.cons (.str w_f) (.cons (.tup .nil) (.cons (.tup (.cons (.tup (.cons (.str w_return) (.cons (.tup (.cons (.str w_number) (.cons (.int 1) .nil))) .nil))) .nil)) .nil))))) c_law_hand_6)
def b_law_hand : MB := c_law_hand_7
def m_law_hand : MF := ⟨0, 5, b_law_hand⟩
def c_law_0 : MB := (.cons (.ret (.bl true)) .nil)
def c_law_1 : MB := (.cons (.ret (.bl false)) .nil)
def c_law_2 : MB := (.cons (.ife (.or (.not (.call 33 (.cons (.var 3) .nil))) (.not (.call 33 (.cons (.call 32 (.cons (.var 1) (.cons (.var 3) .nil))) .nil)))) c_law_1 .nil) .nil)
def c_law_3 : MB := (.cons (.asg (.name 3) (.call 27 (.cons (.var 1) (.cons (.int 5) .nil)))) c_law_2)
def c_law_4 : MB := (.cons (.forr (.name 2) (.rng1 (.int 3)) c_law_3) c_law_0)
def c_law_5 : MB := (.cons (.ret (.bl false)) .nil)
def c_law_6 : MB := (.cons (.ife (.not (.call 34 .nil)) c_law_5 .nil) c_law_4)
def c_law_7 : MB := (.cons (.asg (.name 1) (.call 21 (.cons (.var 0) .nil))) c_law_6)
def b_law : MB := c_law_7
def m_law : MF := ⟨1, 4, b_law⟩
def cns : List (Str × D) := [("PAIRED", (.tup [(.str w_add), (.str w_sub), (.str w_mul), (.str w_less), (.str w_same)]))]
def gls : List D := [(.tup [(.str w_add), (.str w_sub), (.str w_mul), (.str w_less), (.str w_same)])]
def tb : List MF := [m_inner_expressions, m_own_expressions, m_own_blocks, m_all_inner, m_all_statements, m_all_expressions, m_blocks_of, m_names_in, m_fun_of, m_statement_calls, m_calls_table, m_block_calls, m_roots_of, m_block_of, m_callees, m_unit_web, m_units_of, m_needless_funs, m_without_needless, m_needless_cells, m_unread_cells, m_law_pool, m_law_take, m_law_same, m_law_name, m_law_expression, m_law_block, m_law_tree, m_law_walk, m_law_calls, m_law_named, m_law_come_to, m_law_more, m_law_asked, m_law_hand, m_law]
def iniS (s : Stmt) : Stmt := match s with
  | .ClassDef _ _ _ b _ _ _ _ _ _ _ => (b.find? fun z => match z with | .FunctionDef _ _ _ _ _ _ _ _ _ _ => true | _ => false).getD s
  | _ => s
def xds : List XD := []
def hns : List (Str × Str × Bool) := []
def pds : List PD := [⟨"inner_expressions", topS 2, ["e"], m_inner_expressions⟩,
  ⟨"own_expressions", topS 3, ["statement", "word"], m_own_expressions⟩,
  ⟨"own_blocks", topS 4, ["statement", "word"], m_own_blocks⟩,
  ⟨"all_inner", topS 5, ["e", "found", "part"], m_all_inner⟩,
  ⟨"all_statements", topS 6, ["block", "found", "statement", "inner"], m_all_statements⟩,
  ⟨"all_expressions", topS 7, ["block", "found", "statement", "e"], m_all_expressions⟩,
  ⟨"blocks_of", topS 9, ["tree", "fun", "on"], m_blocks_of⟩,
  ⟨"names_in", topS 11, ["block", "table", "e", "statement"], m_names_in⟩,
  ⟨"fun_of", topS 13, ["tree", "name", "fun"], m_fun_of⟩,
  ⟨"statement_calls", topS 14, ["statement", "found", "e", "inner"], m_statement_calls⟩,
  ⟨"calls_table", topS 15, ["block", "held", "table", "statement", "name", "inner"], m_calls_table⟩,
  ⟨"block_calls", topS 16, ["block", "table"], m_block_calls⟩,
  ⟨"roots_of", topS 18, ["tree", "level", "block"], m_roots_of⟩,
  ⟨"block_of", topS 19, ["tree", "unit", "level", "mode", "name", "other", "block"], m_block_of⟩,
  ⟨"callees", topS 20, ["tree", "unit", "level", "mode", "name", "found", "other", "held"], m_callees⟩,
  ⟨"unit_web", topS 21, ["tree", "web", "todo", "unit"], m_unit_web⟩,
  ⟨"units_of", topS 22, ["tree"], m_units_of⟩,
  ⟨"needless_funs", topS 24, ["tree", "used", "unit", "fun"], m_needless_funs⟩,
  ⟨"without_needless", topS 25, ["tree", "needless", "cells", "funs", "ons", "main", "fun"], m_without_needless⟩,
  ⟨"needless_cells", topS 26, ["tree", "named", "block", "name", "word"], m_needless_cells⟩,
  ⟨"unread_cells", topS 27, ["tree", "read", "block", "e", "name", "word"], m_unread_cells⟩,
  ⟨"_law_pool", topS 29, ["script", "cell"], m_law_pool⟩,
  ⟨"_law_take", topS 30, ["pool", "many", "told"], m_law_take⟩,
  ⟨"_law_same", topS 31, ["told", "due", "waiting", "one", "other", "k"], m_law_same⟩,
  ⟨"_law_name", topS 32, ["pool", "letters"], m_law_name⟩,
  ⟨"_law_expression", topS 33, ["pool", "names", "funs", "deep", "way", "name", "many", "word", "lap"], m_law_expression⟩,
  ⟨"_law_block", topS 34, ["pool", "kind", "names", "funs", "deep", "held", "seen", "told", "lap", "way", "e", "fresh", "name", "many", "k"], m_law_block⟩,
  ⟨"_law_tree", topS 35, ["pool", "most", "cells", "names", "funs", "heads", "lap", "own", "name", "levels", "ons", "number", "k", "level"], m_law_tree⟩,
  ⟨"_law_walk", topS 36, ["thing", "told", "waiting", "one"], m_law_walk⟩,
  ⟨"_law_calls", topS 37, ["block", "one"], m_law_calls⟩,
  ⟨"_law_named", topS 38, ["block", "read", "put", "one"], m_law_named⟩,
  ⟨"_law_come_to", topS 39, ["tree", "cells", "funs", "ons", "main", "blocks", "name", "own", "block", "met", "waiting", "level"], m_law_come_to⟩,
  ⟨"_law_more", topS 40, ["pool", "tree", "cells", "funs", "ons", "main", "heads", "some", "lap", "name", "called", "many", "fresh", "alone", "at", "place", "put", "own", "block", "head", "k"], m_law_more⟩,
  ⟨"_law_asked", topS 41, ["tree", "cells", "funs", "ons", "main", "met", "needless", "left", "read", "put", "block", "mine", "theirs", "name", "own", "fun", "on", "number"], m_law_asked⟩,
  ⟨"_law_hand", topS 42, ["f", "g", "h", "k", "tree"], m_law_hand⟩,
  ⟨"law", topS 43, ["script", "pool", "lap", "tree"], m_law⟩]
abbrev i_inner_expressions : Nat := 0
abbrev i_own_expressions : Nat := 1
abbrev i_own_blocks : Nat := 2
abbrev i_all_inner : Nat := 3
abbrev i_all_statements : Nat := 4
abbrev i_all_expressions : Nat := 5
abbrev i_blocks_of : Nat := 6
abbrev i_names_in : Nat := 7
abbrev i_fun_of : Nat := 8
abbrev i_statement_calls : Nat := 9
abbrev i_calls_table : Nat := 10
abbrev i_block_calls : Nat := 11
abbrev i_roots_of : Nat := 12
abbrev i_block_of : Nat := 13
abbrev i_callees : Nat := 14
abbrev i_unit_web : Nat := 15
abbrev i_units_of : Nat := 16
abbrev i_needless_funs : Nat := 17
abbrev i_without_needless : Nat := 18
abbrev i_needless_cells : Nat := 19
abbrev i_unread_cells : Nat := 20
abbrev i_law_pool : Nat := 21
abbrev i_law_take : Nat := 22
abbrev i_law_same : Nat := 23
abbrev i_law_name : Nat := 24
abbrev i_law_expression : Nat := 25
abbrev i_law_block : Nat := 26
abbrev i_law_tree : Nat := 27
abbrev i_law_walk : Nat := 28
abbrev i_law_calls : Nat := 29
abbrev i_law_named : Nat := 30
abbrev i_law_come_to : Nat := 31
abbrev i_law_more : Nat := 32
abbrev i_law_asked : Nat := 33
abbrev i_law_hand : Nat := 34
abbrev i_law : Nat := 35
/-- the run of this program's defs -/
abbrev rn (n : Nat) : Cl := run gls tb n
abbrev R0 (Q : Kd) : Es := { nx := fun _ h' => Q .non h', rt := Q, bk := fun _ _ => False, ct := fun _ _ => False }
theorem u_inner_expressions {n : Nat} {d0 : D} {h : Hh} {Q : Kd} {X : Ex} (w : wB gls (rn n) X b_inner_expressions (R0 Q) [some d0] h) : rn (n + 1) i_inner_expressions [d0] h Q X := run_of (m := m_inner_expressions) rfl rfl rfl w
theorem u_own_expressions {n : Nat} {d0 : D} {h : Hh} {Q : Kd} {X : Ex} (w : wB gls (rn n) X b_own_expressions (R0 Q) [some d0, none] h) : rn (n + 1) i_own_expressions [d0] h Q X := run_of (m := m_own_expressions) rfl rfl rfl w
theorem u_own_blocks {n : Nat} {d0 : D} {h : Hh} {Q : Kd} {X : Ex} (w : wB gls (rn n) X b_own_blocks (R0 Q) [some d0, none] h) : rn (n + 1) i_own_blocks [d0] h Q X := run_of (m := m_own_blocks) rfl rfl rfl w
theorem u_all_inner {n : Nat} {d0 : D} {h : Hh} {Q : Kd} {X : Ex} (w : wB gls (rn n) X b_all_inner (R0 Q) [some d0, none, none] h) : rn (n + 1) i_all_inner [d0] h Q X := run_of (m := m_all_inner) rfl rfl rfl w
theorem u_all_statements {n : Nat} {d0 : D} {h : Hh} {Q : Kd} {X : Ex} (w : wB gls (rn n) X b_all_statements (R0 Q) [some d0, none, none, none] h) : rn (n + 1) i_all_statements [d0] h Q X := run_of (m := m_all_statements) rfl rfl rfl w
theorem u_all_expressions {n : Nat} {d0 : D} {h : Hh} {Q : Kd} {X : Ex} (w : wB gls (rn n) X b_all_expressions (R0 Q) [some d0, none, none, none] h) : rn (n + 1) i_all_expressions [d0] h Q X := run_of (m := m_all_expressions) rfl rfl rfl w
theorem u_blocks_of {n : Nat} {d0 : D} {h : Hh} {Q : Kd} {X : Ex} (w : wB gls (rn n) X b_blocks_of (R0 Q) [some d0, none, none] h) : rn (n + 1) i_blocks_of [d0] h Q X := run_of (m := m_blocks_of) rfl rfl rfl w
theorem u_names_in {n : Nat} {d0 : D} {h : Hh} {Q : Kd} {X : Ex} (w : wB gls (rn n) X b_names_in (R0 Q) [some d0, none, none, none] h) : rn (n + 1) i_names_in [d0] h Q X := run_of (m := m_names_in) rfl rfl rfl w
theorem u_fun_of {n : Nat} {d0 d1 : D} {h : Hh} {Q : Kd} {X : Ex} (w : wB gls (rn n) X b_fun_of (R0 Q) [some d0, some d1, none] h) : rn (n + 1) i_fun_of [d0, d1] h Q X := run_of (m := m_fun_of) rfl rfl rfl w
theorem u_statement_calls {n : Nat} {d0 : D} {h : Hh} {Q : Kd} {X : Ex} (w : wB gls (rn n) X b_statement_calls (R0 Q) [some d0, none, none, none] h) : rn (n + 1) i_statement_calls [d0] h Q X := run_of (m := m_statement_calls) rfl rfl rfl w
theorem u_calls_table {n : Nat} {d0 d1 d2 : D} {h : Hh} {Q : Kd} {X : Ex} (w : wB gls (rn n) X b_calls_table (R0 Q) [some d0, some d1, some d2, none, none, none] h) : rn (n + 1) i_calls_table [d0, d1, d2] h Q X := run_of (m := m_calls_table) rfl rfl rfl w
theorem u_block_calls {n : Nat} {d0 : D} {h : Hh} {Q : Kd} {X : Ex} (w : wB gls (rn n) X b_block_calls (R0 Q) [some d0, none] h) : rn (n + 1) i_block_calls [d0] h Q X := run_of (m := m_block_calls) rfl rfl rfl w
theorem u_roots_of {n : Nat} {d0 : D} {h : Hh} {Q : Kd} {X : Ex} (w : wB gls (rn n) X b_roots_of (R0 Q) [some d0, none, none] h) : rn (n + 1) i_roots_of [d0] h Q X := run_of (m := m_roots_of) rfl rfl rfl w
theorem u_block_of {n : Nat} {d0 d1 : D} {h : Hh} {Q : Kd} {X : Ex} (w : wB gls (rn n) X b_block_of (R0 Q) [some d0, some d1, none, none, none, none, none] h) : rn (n + 1) i_block_of [d0, d1] h Q X := run_of (m := m_block_of) rfl rfl rfl w
theorem u_callees {n : Nat} {d0 d1 : D} {h : Hh} {Q : Kd} {X : Ex} (w : wB gls (rn n) X b_callees (R0 Q) [some d0, some d1, none, none, none, none, none, none] h) : rn (n + 1) i_callees [d0, d1] h Q X := run_of (m := m_callees) rfl rfl rfl w
theorem u_unit_web {n : Nat} {d0 : D} {h : Hh} {Q : Kd} {X : Ex} (w : wB gls (rn n) X b_unit_web (R0 Q) [some d0, none, none, none] h) : rn (n + 1) i_unit_web [d0] h Q X := run_of (m := m_unit_web) rfl rfl rfl w
theorem u_units_of {n : Nat} {d0 : D} {h : Hh} {Q : Kd} {X : Ex} (w : wB gls (rn n) X b_units_of (R0 Q) [some d0] h) : rn (n + 1) i_units_of [d0] h Q X := run_of (m := m_units_of) rfl rfl rfl w
theorem u_needless_funs {n : Nat} {d0 : D} {h : Hh} {Q : Kd} {X : Ex} (w : wB gls (rn n) X b_needless_funs (R0 Q) [some d0, none, none, none] h) : rn (n + 1) i_needless_funs [d0] h Q X := run_of (m := m_needless_funs) rfl rfl rfl w
theorem u_without_needless {n : Nat} {d0 : D} {h : Hh} {Q : Kd} {X : Ex} (w : wB gls (rn n) X b_without_needless (R0 Q) [some d0, none, none, none, none, none, none] h) : rn (n + 1) i_without_needless [d0] h Q X := run_of (m := m_without_needless) rfl rfl rfl w
theorem u_needless_cells {n : Nat} {d0 : D} {h : Hh} {Q : Kd} {X : Ex} (w : wB gls (rn n) X b_needless_cells (R0 Q) [some d0, none, none, none, none] h) : rn (n + 1) i_needless_cells [d0] h Q X := run_of (m := m_needless_cells) rfl rfl rfl w
theorem u_unread_cells {n : Nat} {d0 : D} {h : Hh} {Q : Kd} {X : Ex} (w : wB gls (rn n) X b_unread_cells (R0 Q) [some d0, none, none, none, none, none] h) : rn (n + 1) i_unread_cells [d0] h Q X := run_of (m := m_unread_cells) rfl rfl rfl w
theorem u_law_pool {n : Nat} {d0 : D} {h : Hh} {Q : Kd} {X : Ex} (w : wB gls (rn n) X b_law_pool (R0 Q) [some d0, none] h) : rn (n + 1) i_law_pool [d0] h Q X := run_of (m := m_law_pool) rfl rfl rfl w
theorem u_law_take {n : Nat} {d0 d1 : D} {h : Hh} {Q : Kd} {X : Ex} (w : wB gls (rn n) X b_law_take (R0 Q) [some d0, some d1, none] h) : rn (n + 1) i_law_take [d0, d1] h Q X := run_of (m := m_law_take) rfl rfl rfl w
theorem u_law_same {n : Nat} {d0 d1 : D} {h : Hh} {Q : Kd} {X : Ex} (w : wB gls (rn n) X b_law_same (R0 Q) [some d0, some d1, none, none, none, none] h) : rn (n + 1) i_law_same [d0, d1] h Q X := run_of (m := m_law_same) rfl rfl rfl w
theorem u_law_name {n : Nat} {d0 : D} {h : Hh} {Q : Kd} {X : Ex} (w : wB gls (rn n) X b_law_name (R0 Q) [some d0, none] h) : rn (n + 1) i_law_name [d0] h Q X := run_of (m := m_law_name) rfl rfl rfl w
theorem u_law_expression {n : Nat} {d0 d1 d2 d3 : D} {h : Hh} {Q : Kd} {X : Ex} (w : wB gls (rn n) X b_law_expression (R0 Q) [some d0, some d1, some d2, some d3, none, none, none, none, none] h) : rn (n + 1) i_law_expression [d0, d1, d2, d3] h Q X := run_of (m := m_law_expression) rfl rfl rfl w
theorem u_law_block {n : Nat} {d0 d1 d2 d3 d4 d5 : D} {h : Hh} {Q : Kd} {X : Ex} (w : wB gls (rn n) X b_law_block (R0 Q) [some d0, some d1, some d2, some d3, some d4, some d5, none, none, none, none, none, none, none, none, none] h) : rn (n + 1) i_law_block [d0, d1, d2, d3, d4, d5] h Q X := run_of (m := m_law_block) rfl rfl rfl w
theorem u_law_tree {n : Nat} {d0 d1 : D} {h : Hh} {Q : Kd} {X : Ex} (w : wB gls (rn n) X b_law_tree (R0 Q) [some d0, some d1, none, none, none, none, none, none, none, none, none, none, none, none] h) : rn (n + 1) i_law_tree [d0, d1] h Q X := run_of (m := m_law_tree) rfl rfl rfl w
theorem u_law_walk {n : Nat} {d0 : D} {h : Hh} {Q : Kd} {X : Ex} (w : wB gls (rn n) X b_law_walk (R0 Q) [some d0, none, none, none] h) : rn (n + 1) i_law_walk [d0] h Q X := run_of (m := m_law_walk) rfl rfl rfl w
theorem u_law_calls {n : Nat} {d0 : D} {h : Hh} {Q : Kd} {X : Ex} (w : wB gls (rn n) X b_law_calls (R0 Q) [some d0, none] h) : rn (n + 1) i_law_calls [d0] h Q X := run_of (m := m_law_calls) rfl rfl rfl w
theorem u_law_named {n : Nat} {d0 : D} {h : Hh} {Q : Kd} {X : Ex} (w : wB gls (rn n) X b_law_named (R0 Q) [some d0, none, none, none] h) : rn (n + 1) i_law_named [d0] h Q X := run_of (m := m_law_named) rfl rfl rfl w
theorem u_law_come_to {n : Nat} {d0 : D} {h : Hh} {Q : Kd} {X : Ex} (w : wB gls (rn n) X b_law_come_to (R0 Q) [some d0, none, none, none, none, none, none, none, none, none, none, none] h) : rn (n + 1) i_law_come_to [d0] h Q X := run_of (m := m_law_come_to) rfl rfl rfl w
theorem u_law_more {n : Nat} {d0 d1 : D} {h : Hh} {Q : Kd} {X : Ex} (w : wB gls (rn n) X b_law_more (R0 Q) [some d0, some d1, none, none, none, none, none, none, none, none, none, none, none, none, none, none, none, none, none, none, none] h) : rn (n + 1) i_law_more [d0, d1] h Q X := run_of (m := m_law_more) rfl rfl rfl w
theorem u_law_asked {n : Nat} {d0 : D} {h : Hh} {Q : Kd} {X : Ex} (w : wB gls (rn n) X b_law_asked (R0 Q) [some d0, none, none, none, none, none, none, none, none, none, none, none, none, none, none, none, none, none] h) : rn (n + 1) i_law_asked [d0] h Q X := run_of (m := m_law_asked) rfl rfl rfl w
theorem u_law_hand {n : Nat} {h : Hh} {Q : Kd} {X : Ex} (w : wB gls (rn n) X b_law_hand (R0 Q) [none, none, none, none, none] h) : rn (n + 1) i_law_hand [] h Q X := run_of (m := m_law_hand) rfl rfl rfl w
theorem u_law {n : Nat} {d0 : D} {h : Hh} {Q : Kd} {X : Ex} (w : wB gls (rn n) X b_law (R0 Q) [some d0, none, none, none] h) : rn (n + 1) i_law [d0] h Q X := run_of (m := m_law) rfl rfl rfl w
theorem all_chk : (pds.all fun p => p.ok (fnsOf pds xds hns) (cns.map (·.1))) = true := by decide +kernel
theorem all_xs : (xds.all fun d => d.ok) = true := by decide +kernel
end Lw

set_option Elab.async false
set_option linter.all false
set_option maxRecDepth 100000
set_option maxHeartbeats 1000000
namespace Lw
open PySem PySem.Spec PyProof.Rows L2 Mi
local macro_rules | `(tactic| walk_at "mem") => `(tactic| first | exact fun _ z => absurd z List.not_mem_nil | exact List.not_mem_nil | (intro i hi; simp only [List.mem_cons, List.not_mem_nil, or_false, false_or] at hi ⊢; omega) | (simp only [List.mem_cons, List.not_mem_nil, or_false, false_or, not_or]; omega))
local macro_rules | `(tactic| walk_at "get") => `(tactic| first | assumption | (apply Keep.get; assumption; walk_at "get"; walk_at "mem"))
local macro_rules | `(tactic| walk_at "keep") => `(tactic| first | assumption | exact Keep.refl | (apply Keep.step; assumption; walk_at "keep"; walk_at "mem"))
local macro_rules | `(tactic| walk_at "one") => `(tactic| (conv => whnf) <;> first
  | (apply br_t; rfl)
  | (apply br_f; rfl)
  | (apply rdO_i; walk_at "get")
  | (apply itm_i; first | rfl | assumption | exact getAt_end _ _)
  | (apply new_i; intro p h' e1 l1 l2 l3 k)
  | (apply put_i; walk_at "get"; intro h' e1 l1 k)
  | (apply iLst_i; first | rfl | exact intsOf_map _)
  | (apply chk_i; first | rfl | exact lenOk_le (by simp only [List.length_map, List.length_cons, List.length_append, List.length_take, List.length_nil, List.length_replicate, List.length_dropLast]; omega) | exact small_lt (by simp only [List.length_map, List.length_cons, List.length_append, List.length_take, List.length_nil, List.length_replicate, List.length_dropLast]; omega) | assumption | exact mulOk_r (by decide) | exact mulOk_l (by decide) | exact lenOk_le (by omega) | exact small_lt (by omega) | (simp; omega)))
local macro_rules | `(tactic| walk_at "go") => `(tactic| (repeat walk_at "one"); try (conv => whnf))
local macro_rules | `(tactic| walk_at "br") => `(tactic| (refine br_i (fun hc => ?_) (fun hc => ?_) <;> simp only [Bool.not_eq_true', Bool.not_eq_false', beq_iff_eq, beq_eq_false_iff_ne, ne_eq, decide_eq_true_eq, decide_eq_false_iff_not, bne_iff_ne, bne_eq_false_iff_eq] at hc) <;> first | (exfalso; omega) | walk_at "go")

/-- the pool at p, its cells at c; nr: how many names were made -/
structure Pl (h : Hh) (p c : Nat) (nr : Int) : Prop where
  ne : p ≠ c
  ex : ∃ (i cur seed : Int) (xs : List Int), 0 ≤ i ∧ xs.length < 1000 ∧ h[p]? = some (.lst [.ref c, .int i, .int cur, .int seed, .int nr]) ∧ h[c]? = some (.lst (xs.map .int))
theorem fd_ok {m : Int} (h : 0 < m) (h2 : m ≤ 70000) : (decide (0 < m) && decide (m.natAbs < 2 ^ 9000)) = true := by
  have : m.natAbs < 2 ^ 9000 := Nat.lt_of_lt_of_le (show m.natAbs < 2 ^ 20 by omega) (Nat.pow_le_pow_right (by omega) (by omega))
  rw [decide_eq_true h, decide_eq_true this]
  rfl
theorem getAt_ok {α : Type} {f : α → D} {xs : List α} {v : Int} (h0 : 0 ≤ v) (h1 : v < xs.length) : ∃ x, x ∈ xs ∧ getAt (xs.map f) v = some (f x) := by
  have h2 : v.toNat < xs.length := by omega
  refine ⟨xs[v.toNat], List.getElem_mem h2, getAt_map (i := v.toNat) (by simp [h2]) (by omega)⟩
theorem Pl.mono {h h' : Hh} {p c : Nat} {nr : Int} {S : List Nat} (q : Pl h p c nr) (k : Keep S h h') (n1 : p ∉ S) (n2 : c ∉ S) : Pl h' p c nr := by
  obtain ⟨ne, i, cur, seed, xs, h0, hl, e1, e2⟩ := q
  exact ⟨ne, i, cur, seed, xs, h0, hl, k.get e1 n1, k.get e2 n2⟩
theorem Pl.lt {h : Hh} {p c : Nat} {nr : Int} (q : Pl h p c nr) : p < h.length ∧ c < h.length := by
  obtain ⟨ne, i, cur, seed, xs, h0, hl, e1, e2⟩ := q
  exact ⟨lt_of e1, lt_of e2⟩
theorem take_ok {n : Nat} {p c : Nat} {nr m : Int} {h : Hh} {Q : Kd} {X : Ex} (q : Pl h p c nr) (hm : 0 < m) (hm2 : m ≤ 70000) (hn : 1 ≤ n)
    (w : ∀ (v : Int) (h' : Hh), 0 ≤ v → v < m → Pl h' p c nr → h.length ≤ h'.length → Keep [p] h h' → Q (.int v) h') :
    rn n i_law_take [.ref p, .int m] h Q X := by
  cases n with
  | zero => omega
  | succ n =>
    refine u_law_take ?_
    have q1 := q.lt
    have hpc := q.ne
    obtain ⟨ne, i, cur, seed, xs, h0, hl, e1, e2⟩ := q
    have fm : (decide (0 < m) && decide (m.natAbs < 2 ^ 9000)) = true := fd_ok hm hm2
    walk_at "go"
    refine while_i (fun k σ h' => ∃ (i cur seed : Int), k = (xs.length - i).toNat ∧ 0 ≤ i ∧ σ = [some (.ref p), some (.int m), none] ∧ h'[p]? = some (.lst [.ref c, .int i, .int cur, .int seed, .int nr]) ∧ h'[c]? = some (.lst (xs.map .int)) ∧ h.length ≤ h'.length ∧ Keep [p] h h') ?_ _ (xs.length - i).toNat _ _ (fuel_lt (by omega)) ⟨i, cur, seed, rfl, h0, rfl, e1, e2, Nat.le_refl _, Keep.refl⟩
    clear h0 e1 e2 i cur seed
    rintro k σ h2 K ⟨i, cur, seed, rfl, h0, rfl, e1, e2, l2, k2⟩ hK
    have hx : (xs.map D.int).length = xs.length := List.length_map ..
    walk_at "go"
    walk_at "br"
    · walk_at "br"
      · rename_i hc
        obtain ⟨z, mz, ez⟩ := getAt_ok (f := D.int) (xs := xs) h0 (hx ▸ hc)
        walk_at "go"
        rename_i h3 e3 l3 k3 h4 e4 l4 k4
        exact hK _ _ _ (by omega) ⟨i + 1, z, seed, rfl, by omega, rfl, e4, by walk_at "get", by omega, by walk_at "keep"⟩
      · walk_at "br"
        · exact w _ _ (Int.emod_nonneg _ (by omega)) (Int.emod_lt_of_pos _ hm) ⟨ne, i, _, _, xs, h0, hl, by assumption, by walk_at "get"⟩ (by omega) (by walk_at "keep")
    · walk_at "br"
      · exact w _ _ (Int.emod_nonneg _ (by omega)) (Int.emod_lt_of_pos _ hm) ⟨ne, i, _, _, xs, h0, hl, by assumption, by walk_at "get"⟩ (by omega) (by walk_at "keep")
      · exact w _ _ (Int.emod_nonneg _ (by omega)) (Int.emod_lt_of_pos _ hm) ⟨ne, i, _, _, xs, h0, hl, by assumption, by walk_at "get"⟩ (by omega) (by walk_at "keep")

end Lw

set_option Elab.async false
set_option linter.all false
set_option maxRecDepth 100000
set_option maxHeartbeats 1000000
namespace Lw
open PySem PySem.Spec PyProof.Rows L2 Mi
local macro_rules | `(tactic| walk_at "mem") => `(tactic| first | exact fun _ z => absurd z List.not_mem_nil | exact List.not_mem_nil | (intro i hi; simp only [List.mem_cons, List.not_mem_nil, or_false, false_or] at hi ⊢; omega) | (simp only [List.mem_cons, List.not_mem_nil, or_false, false_or, not_or]; omega))
local macro_rules | `(tactic| walk_at "get") => `(tactic| first | assumption | (apply Keep.get; assumption; walk_at "get"; walk_at "mem"))
local macro_rules | `(tactic| walk_at "keep") => `(tactic| first | assumption | exact Keep.refl | (apply Keep.step; assumption; walk_at "keep"; walk_at "mem"))
local macro_rules | `(tactic| walk_at "one") => `(tactic| (conv => whnf) <;> first
  | (apply br_t; rfl)
  | (apply br_f; rfl)
  | (apply rdO_i; walk_at "get")
  | (apply itm_i; first | rfl | assumption | exact getAt_end _ _)
  | (apply new_i; intro p h' e1 l1 l2 l3 k)
  | (apply put_i; walk_at "get"; intro h' e1 l1 k)
  | (apply iLst_i; first | rfl | exact intsOf_map _)
  | (apply chk_i; first | rfl | exact lenOk_le (by simp only [List.length_map, List.length_cons, List.length_append, List.length_take, List.length_nil, List.length_replicate, List.length_dropLast]; omega) | exact small_lt (by simp only [List.length_map, List.length_cons, List.length_append, List.length_take, List.length_nil, List.length_replicate, List.length_dropLast]; omega) | assumption | exact mulOk_r (by decide) | exact mulOk_l (by decide) | exact lenOk_le (by omega) | exact small_lt (by omega) | (simp; omega)))
local macro_rules | `(tactic| walk_at "go") => `(tactic| (repeat walk_at "one"); try (conv => whnf))
local macro_rules | `(tactic| walk_at "br") => `(tactic| (refine br_i (fun hc => ?_) (fun hc => ?_) <;> simp only [Bool.not_eq_true', Bool.not_eq_false', beq_iff_eq, beq_eq_false_iff_ne, ne_eq, decide_eq_true_eq, decide_eq_false_iff_not, bne_iff_ne, bne_eq_false_iff_eq] at hc) <;> first | (exfalso; omega) | walk_at "go")

mutual
/-- values without objects, and how great they are -/
def pln : D → Bool
  | .tup xs => plns xs
  | .ref _ => false
  | .fn _ => false
  | _ => true
def plns : List D → Bool
  | [] => true
  | d :: ds => pln d && plns ds
end
mutual
def gr : D → Nat
  | .tup xs => grs xs + 1
  | _ => 1
def grs : List D → Nat
  | [] => 0
  | d :: ds => gr d + grs ds
end
theorem plns_app : ∀ {a b : List D}, plns (a ++ b) = (plns a && plns b)
  | [], b => by simp [plns]
  | x :: a, b => by simp [plns, plns_app (a := a) (b := b), Bool.and_assoc]
theorem grs_app : ∀ {a b : List D}, grs (a ++ b) = grs a + grs b
  | [], b => by simp [grs]
  | x :: a, b => by simp [grs, grs_app (a := a) (b := b), Nat.add_assoc]
theorem len_grs : ∀ a : List D, a.length ≤ grs a
  | [] => Nat.le_refl _
  | x :: a => by
    have := len_grs a
    have : 1 ≤ gr x := by cases x <;> simp [gr]
    simp only [grs, List.length_cons]
    omega
theorem same_ok {n : Nat} {t : D} {h : Hh} {Q : Kd} {X : Ex} (hn : 1 ≤ n) (hp : pln t = true) (hg : gr t < 10000000) (w : ∀ h', h.length ≤ h'.length → Keep [] h h' → Q (.bl true) h') : rn n i_law_same [t, t] h Q X := by
  cases n with
  | zero => omega
  | succ n =>
    refine u_law_same ?_
    walk_at "go"
    rename_i p h1 e1 g1 g2 g3 k1
    refine while_i (fun m σ h' => ∃ (zs : List D) (x3 x4 x5 : Option D), m = grs zs ∧ grs zs ≤ gr t ∧ plns zs = true ∧ σ = [some t, some t, some (.ref p), x3, x4, x5] ∧ h'[p]? = some (.lst (zs.map fun z => .tup [z, z])) ∧ h1.length ≤ h'.length ∧ Keep [p] h1 h') ?_ _ (gr t) _ _ (fuel_lt (by omega)) ?_
    · rintro m σ h2 K ⟨zs, x3, x4, x5, rfl, hz, hpl, rfl, e2, l2, k2⟩ hK
      walk_at "go"
      rcases List.eq_nil_or_concat zs with rfl | ⟨zs, y, rfl⟩
      · walk_at "go"
        exact w _ (by omega) (by walk_at "keep")
      · rw [List.concat_eq_append] at *
        simp only [List.map_append, List.map_cons, List.map_nil, List.length_append, List.length_singleton, grs_app, plns_app, grs, plns, Bool.and_true, Bool.and_eq_true, Nat.add_zero] at e2 hK hz hpl
        have hlz := len_grs zs
        refine br_t (by rw [decide_eq_true_eq]; simp only [List.map_append, List.map_cons, List.map_nil, List.length_append, List.length_singleton]; omega) ?_
        have gy : 1 ≤ gr y := by cases y <;> simp [gr]
        cases y with
        | ref _ => cases hpl.2
        | fn _ => cases hpl.2
        | tup xs =>
          have hxl : (xs.length : Int) = xs.length := rfl
          have hx2 := len_grs xs
          simp only [gr] at hz hK
          walk_at "go"
          rename_i h3 e3 l3 k3
          rw [List.dropLast_concat] at e3
          refine br_f (by simp) ?_
          walk_at "go"
          rename_i q h4 e4 g4 g5 g6 k4
          refine comp_i (I := fun r acc h' => ∃ z1 z2, xs = z1 ++ z2 ∧ r = range z2.length 0 z1.length ∧ acc = z1.map (fun z => .tup [z, z]) ∧ h4.length ≤ h'.length ∧ Keep [q] h4 h') ?_ ?_ _ _ _ e4 ?_
          · rintro x r acc h5 K2 e5 ⟨z1, z2, ez, er, rfl, l5, k5⟩ hK2
            obtain ⟨m', em, rfl, rfl⟩ := range_cons er
            cases z2 with
            | nil => cases em
            | cons z z2 =>
              have em2 : z2.length = m' := by simpa using em
              have gd : getAt xs (0 + (z1.length : Int)) = some z := getAt_map (i := z1.length) (by rw [ez]; simp) (by omega)
              have hzl := congrArg List.length ez
              simp only [List.length_append, List.length_cons] at hzl
              walk_at "go"
              rename_i h6 e6 l6 k6
              exact hK2 _ _ e6 ⟨z1 ++ [z], z2, by rw [ez]; simp, by rw [em2, List.length_append]; rfl, by simp, by omega, by walk_at "keep"⟩
          · rintro acc h5 e5 ⟨z1, z2, ez, er, rfl, l5, k5⟩
            have := List.eq_nil_of_length_eq_zero (range_nil er)
            subst this
            rw [List.append_nil] at ez
            subst ez
            walk_at "go"
            rename_i h6 e6 l6 k6
            refine hK _ _ _ ?_ ⟨zs ++ xs, _, _, _, rfl, ?_, ?_, rfl, ?_, by omega, by walk_at "keep"⟩
            · rw [grs_app]; omega
            · rw [grs_app]; omega
            · rw [plns_app, hpl.1]; exact hpl.2
            · rw [e6, List.map_append]
          · exact ⟨[], xs, rfl, by simp, rfl, Nat.le_refl _, Keep.refl⟩
        | non =>
          walk_at "go"
          rename_i h3 e3 l3 k3
          rw [List.dropLast_concat] at e3
          exact hK _ _ _ (by omega) ⟨zs, _, _, _, rfl, by omega, hpl.1, rfl, e3, by omega, by walk_at "keep"⟩
        | _ =>
          walk_at "go"
          rename_i h3 e3 l3 k3
          rw [List.dropLast_concat] at e3
          refine br_f (by simp [strEq_self]) ?_
          walk_at "go"
          exact hK _ _ _ (by omega) ⟨zs, _, _, _, rfl, by omega, hpl.1, rfl, e3, by omega, by walk_at "keep"⟩
    · exact ⟨[t], _, _, _, by simp [grs], by simp [grs], by simp [plns, hp], rfl, e1, Nat.le_refl _, Keep.refl⟩

end Lw

set_option Elab.async false
set_option linter.all false
set_option maxRecDepth 100000
set_option maxHeartbeats 1000000
namespace Lw
open PySem PySem.Spec PyProof.Rows L2 Mi
local macro_rules | `(tactic| walk_at "mem") => `(tactic| first | exact fun _ z => absurd z List.not_mem_nil | exact List.not_mem_nil | (intro i hi; simp only [List.mem_cons, List.not_mem_nil, or_false, false_or] at hi ⊢; omega) | (simp only [List.mem_cons, List.not_mem_nil, or_false, false_or, not_or]; omega))
local macro_rules | `(tactic| walk_at "get") => `(tactic| first | assumption | (apply Keep.get; assumption; walk_at "get"; walk_at "mem"))
local macro_rules | `(tactic| walk_at "keep") => `(tactic| first | assumption | exact Keep.refl | (apply Keep.step; assumption; walk_at "keep"; walk_at "mem"))
local macro_rules | `(tactic| walk_at "one") => `(tactic| (conv => whnf) <;> first
  | (apply br_t; rfl)
  | (apply br_f; rfl)
  | (apply rdO_i; walk_at "get")
  | (apply itm_i; first | rfl | assumption | exact getAt_end _ _)
  | (apply new_i; intro p h' e1 l1 l2 l3 k)
  | (apply put_i; walk_at "get"; intro h' e1 l1 k)
  | (apply iLst_i; first | rfl | exact intsOf_map _)
  | (apply chk_i; first | rfl | exact lenOk_le (by simp only [List.length_map, List.length_cons, List.length_append, List.length_take, List.length_nil, List.length_replicate, List.length_dropLast]; omega) | exact small_lt (by simp only [List.length_map, List.length_cons, List.length_append, List.length_take, List.length_nil, List.length_replicate, List.length_dropLast]; omega) | assumption | exact mulOk_r (by decide) | exact mulOk_l (by decide) | exact lenOk_le (by omega) | exact small_lt (by omega) | (simp; omega)))
local macro_rules | `(tactic| walk_at "go") => `(tactic| (repeat walk_at "one"); try (conv => whnf))

/-- the digits of a number -/
def st (n : Int) : Str := PySem.Str.ofString (toString n)
theorem st_codes (m : Nat) : (st m).cps.toList = (Nat.toDigits 10 m).map Char.toNat := by
  unfold st
  rw [PySem.Str.ofString_eq_toList]
  show ((toString ((m : Nat) : Int)).toList.map Char.toNat) = _
  rw [show toString ((m : Nat) : Int) = Nat.repr m from rfl, Nat.toList_repr]
theorem st_digit {m c : Nat} (h : c ∈ (st m).cps.toList) : 48 ≤ c ∧ c ≤ 57 := by
  rw [st_codes] at h
  obtain ⟨d, hd, rfl⟩ := List.mem_map.mp h
  have := Nat.isDigit_of_mem_toDigits (by decide) (by decide) hd
  simp only [Char.isDigit, Bool.and_eq_true, decide_eq_true_eq] at this
  obtain ⟨h1, h2⟩ := this
  exact ⟨h1, h2⟩
theorem toNat_inj {a b : Char} (h : a.toNat = b.toNat) : a = b := by
  have : a.val = b.val := by
    apply UInt32.toNat_inj.mp
    exact h
  exact Char.ext this
theorem map_inj {α β : Type} {f : α → β} (hf : ∀ a b, f a = f b → a = b) : ∀ {xs ys : List α}, xs.map f = ys.map f → xs = ys
  | [], [], _ => rfl
  | [], _ :: _, h => by cases h
  | _ :: _, [], h => by cases h
  | x :: xs, y :: ys, h => by
    simp only [List.map_cons, List.cons.injEq] at h
    rw [hf _ _ h.1, map_inj hf h.2]
theorem codes_inj {x y : Str} (h : x.cps.toList = y.cps.toList) : x = y := by
  cases x
  cases y
  congr 1
  exact Array.toList_inj.mp h
theorem codes_app (x y : Str) : (x ++ y).cps.toList = x.cps.toList ++ y.cps.toList := by
  show (x.cps ++ y.cps).toList = _
  simp
theorem st_inj {m k : Nat} (h : st m = st k) : m = k := by
  have h1 : (Nat.toDigits 10 m).map Char.toNat = (Nat.toDigits 10 k).map Char.toNat := by rw [← st_codes, ← st_codes, h]
  have h2 := map_inj (fun a b => toNat_inj) h1
  rw [← Nat.ofDigitChars_ten_toDigits (n := m), h2, Nat.ofDigitChars_ten_toDigits]
theorem str_app_inj {a b c : Str} (h : a ++ b = a ++ c) : b = c := by
  have := congrArg (fun z : Str => z.cps.toList) h
  simp only [codes_app] at this
  exact codes_inj (List.append_cancel_left this)
/-- x is the name that was made as the k-th -/
def Nm (x : Str) (k : Nat) : Prop := ∃ (ch : Nat) (t : Str), 97 ≤ ch ∧ ch ≤ 122 ∧ (t = w_ ∨ t = w_q ∨ t = w_a0) ∧ x = (⟨#[ch]⟩ : Str) ++ st k ++ t
def dgs (x : Str) : List Nat := (x.cps.toList.drop 1).takeWhile fun c => decide (48 ≤ c ∧ c ≤ 57)
theorem Nm.dgs {x : Str} {k : Nat} (h : Nm x k) : dgs x = (st k).cps.toList := by
  obtain ⟨ch, t, h1, h2, ht, rfl⟩ := h
  unfold Lw.dgs
  rw [codes_app, codes_app]
  show ((ch :: (st k).cps.toList) ++ t.cps.toList |>.drop 1).takeWhile _ = _
  rw [List.cons_append, List.drop_succ_cons, List.drop_zero, List.takeWhile_append_of_pos fun c hc => decide_eq_true (st_digit hc)]
  rcases ht with rfl | rfl | rfl
  · show _ ++ List.takeWhile _ [] = _
    simp
  · show _ ++ List.takeWhile _ [113] = _
    simp
  · show _ ++ List.takeWhile _ [97, 48] = _
    simp
theorem Nm.inj {x : Str} {i j : Nat} (h : Nm x i) (g : Nm x j) : i = j := st_inj (codes_inj (h.dgs.symm.trans g.dgs))
/-- its second sign is a digit -/
theorem Nm.second {x : Str} {k : Nat} (h : Nm x k) : ∃ a c r, x.cps.toList = a :: c :: r ∧ 48 ≤ c ∧ c ≤ 57 := by
  obtain ⟨ch, t, h1, h2, ht, rfl⟩ := h
  rw [codes_app, codes_app]
  cases e : (st k).cps.toList with
  | nil =>
    rw [st_codes] at e
    exact absurd (List.map_eq_nil_iff.mp e) Nat.toDigits_ne_nil
  | cons c r => exact ⟨ch, c, r ++ t.cps.toList, by simp, st_digit (by rw [e]; exact List.mem_cons_self)⟩
/-- names made one behind the other: behind lo, up to hi -/
def Rise : Nat → List Str → Nat → Prop
  | lo, [], hi => lo ≤ hi
  | lo, x :: xs, hi => ∃ k, lo < k ∧ Nm x k ∧ Rise k xs hi
theorem Rise.le : ∀ {xs : List Str} {lo hi : Nat}, Rise lo xs hi → lo ≤ hi
  | [], _, _, h => h
  | x :: xs, _, _, ⟨k, h1, _, h3⟩ => Nat.le_trans (Nat.le_of_lt h1) h3.le
theorem Rise.app : ∀ {xs ys : List Str} {lo mid hi : Nat}, Rise lo xs mid → Rise mid ys hi → Rise lo (xs ++ ys) hi
  | [], ys, lo, mid, hi, h, g => by
    cases ys with
    | nil => exact Nat.le_trans h g
    | cons y ys => obtain ⟨k, h1, h2, h3⟩ := g; exact ⟨k, Nat.lt_of_le_of_lt h h1, h2, h3⟩
  | x :: xs, ys, lo, mid, hi, ⟨k, h1, h2, h3⟩, g => ⟨k, h1, h2, h3.app g⟩
theorem Rise.mem : ∀ {xs : List Str} {lo hi : Nat} {x : Str}, Rise lo xs hi → x ∈ xs → ∃ k, lo < k ∧ k ≤ hi ∧ Nm x k
  | y :: ys, lo, hi, x, ⟨k, h1, h2, h3⟩, m => by
    rcases List.mem_cons.mp m with rfl | m
    · exact ⟨k, h1, h3.le, h2⟩
    · obtain ⟨j, a, b, c⟩ := h3.mem m
      exact ⟨j, by omega, b, c⟩
theorem Rise.nodup : ∀ {xs : List Str} {lo hi : Nat}, Rise lo xs hi → xs.Nodup
  | [], _, _, _ => List.nodup_nil
  | x :: xs, lo, hi, ⟨k, h1, h2, h3⟩ => by
    refine List.nodup_cons.mpr ⟨fun m => ?_, h3.nodup⟩
    obtain ⟨j, a, b, c⟩ := h3.mem m
    have := h2.inj c
    omega
theorem Rise.disj {xs ys : List Str} {lo mid hi lo2 hi2 : Nat} (h : Rise lo xs mid) (g : Rise lo2 ys hi2) (l : mid ≤ lo2) : ∀ x ∈ xs, x ∉ ys := fun x m m2 => by
  obtain ⟨j, a, b, c⟩ := h.mem m
  obtain ⟨i, a2, b2, c2⟩ := g.mem m2
  have := c.inj c2
  omega
theorem Rise.mono {xs : List Str} {lo lo2 hi hi2 : Nat} (h : Rise lo xs hi) (l : lo2 ≤ lo) (u : hi ≤ hi2) : Rise lo2 xs hi2 :=
  (show Rise lo2 [] lo from l).app (xs := []) (h.app (ys := []) u |> fun z => by simpa using z)
theorem nodup_app {xs ys : List Str} (h : xs.Nodup) (g : ys.Nodup) (d : ∀ x ∈ xs, x ∉ ys) : (xs ++ ys).Nodup :=
  List.nodup_append.mpr ⟨h, g, fun a ha b hb e => d a ha (e ▸ hb)⟩

end Lw

set_option Elab.async false
set_option linter.all false
set_option maxRecDepth 100000
set_option maxHeartbeats 1000000
namespace Lw
open PySem PySem.Spec PyProof.Rows L2 Mi
local macro_rules | `(tactic| walk_at "mem") => `(tactic| first | exact fun _ z => absurd z List.not_mem_nil | exact List.not_mem_nil | (intro i hi; simp only [List.mem_cons, List.not_mem_nil, or_false, false_or] at hi ⊢; omega) | (simp only [List.mem_cons, List.not_mem_nil, or_false, false_or, not_or]; omega))
local macro_rules | `(tactic| walk_at "get") => `(tactic| first | assumption | (apply Keep.get; assumption; walk_at "get"; walk_at "mem"))
local macro_rules | `(tactic| walk_at "keep") => `(tactic| first | assumption | exact Keep.refl | (apply Keep.step; assumption; walk_at "keep"; walk_at "mem"))
local macro_rules | `(tactic| walk_at "one") => `(tactic| (conv => whnf) <;> first
  | (apply br_t; rfl)
  | (apply br_f; rfl)
  | (apply rdO_i; walk_at "get")
  | (apply itm_i; first | rfl | assumption | exact getAt_end _ _)
  | (apply new_i; intro p h' e1 l1 l2 l3 k)
  | (apply put_i; walk_at "get"; intro h' e1 l1 k)
  | (apply iLst_i; first | rfl | exact intsOf_map _)
  | (apply chk_i; first | rfl | exact lenOk_le (by simp only [List.length_map, List.length_cons, List.length_append, List.length_take, List.length_nil, List.length_replicate, List.length_dropLast]; omega) | exact small_lt (by simp only [List.length_map, List.length_cons, List.length_append, List.length_take, List.length_nil, List.length_replicate, List.length_dropLast]; omega) | assumption | exact mulOk_r (by decide) | exact mulOk_l (by decide) | exact lenOk_le (by omega) | exact small_lt (by omega) | (simp; omega)))
local macro_rules | `(tactic| walk_at "go") => `(tactic| (repeat walk_at "one"); try (conv => whnf))
local macro_rules | `(tactic| walk_at "br") => `(tactic| (refine br_i (fun hc => ?_) (fun hc => ?_) <;> simp only [Bool.not_eq_true', Bool.not_eq_false', beq_iff_eq, beq_eq_false_iff_ne, ne_eq, decide_eq_true_eq, decide_eq_false_iff_not, bne_iff_ne, bne_eq_false_iff_eq] at hc) <;> first | (exfalso; omega) | walk_at "go")

theorem name_ok {n : Nat} {p c nr : Nat} {h : Hh} {Q : Kd} {X : Ex} (q : Pl h p c nr) (h1 : nr < 1000000000) (hn : 2 ≤ n)
    (w : ∀ (x : Str) (h' : Hh), Nm x (nr + 1) → Pl h' p c ((nr + 1 : Nat) : Int) → h.length ≤ h'.length → Keep [p] h h' → Q (.str x) h') :
    rn n i_law_name [.ref p] h Q X := by
  cases n with
  | zero => omega
  | succ n =>
    refine u_law_name ?_
    have q1 := q.lt
    have hpc := q.ne
    obtain ⟨ne, i, cur, seed, xs, h0, hl, e1, e2⟩ := q
    walk_at "go"
    rename_i h2 e3 l2 k2
    refine take_ok (nr := ((nr + 1 : Nat) : Int)) ⟨ne, i, cur, seed, xs, h0, hl, e3, by walk_at "get"⟩ (by decide) (by decide) (by omega) fun v h3 v0 v1 q3 l3 k3 => ?_
    have letters : ∀ c ∈ w_abcdefghijklmnopqrstuvwxyz.cps.toList, 97 ≤ c ∧ c ≤ 122 := by decide
    obtain ⟨ch, ec, hch⟩ : ∃ ch : Nat, ((ixAt w_abcdefghijklmnopqrstuvwxyz.length v).bind fun j => w_abcdefghijklmnopqrstuvwxyz.cps.toList[j]?) = some ch ∧ 97 ≤ ch ∧ ch ≤ 122 := by
      have hv : v.toNat < 26 := by omega
      have e1 : ixAt w_abcdefghijklmnopqrstuvwxyz.length v = some v.toNat := by
        have : w_abcdefghijklmnopqrstuvwxyz.length = 26 := rfl
        unfold ixAt
        rw [this, if_pos v0, if_pos (by omega)]
      have : w_abcdefghijklmnopqrstuvwxyz.cps.toList.length = 26 := rfl
      exact ⟨w_abcdefghijklmnopqrstuvwxyz.cps.toList[v.toNat]'(by omega), by rw [e1]; simp [this, hv], letters _ (List.getElem_mem _)⟩
    have hq := q3
    obtain ⟨_, i3, cur3, seed3, xs3, z1, z2, z3, z4⟩ := q3
    have hL : (PySem.Str.ofString (toString ((nr + 1 : Nat) : Int))).length ≤ 10 := toString_length_le (by omega) (by decide) (by omega)
    conv => whnf
    refine sgn_i ec (by decide) ?_
    walk_at "go"
    have hA : ∀ a b : Str, (a ++ b).length = a.length + b.length := fun a b => by show (a.cps ++ b.cps).size = _; simp [Str.length]
    have hC : (⟨#[ch]⟩ : Str).length = 1 := rfl
    refine chk_i (lenOk_le (by omega)) ?_
    walk_at "go"
    refine take_ok hq (by decide) (by decide) (by omega) fun t h4 t0 t1 q4 l4 k4 => ?_
    have fin : ∀ z : Str, z.length ≤ 2 → (z = w_ ∨ z = w_q ∨ z = w_a0) → opBin .add (.str (⟨#[ch]⟩ ++ Str.ofString (toString ((nr + 1 : Nat) : Int)))) (.str z) h4 Q := fun z hz hz2 => by
      refine chk_i (lenOk_le ?_) (w _ _ ⟨ch, z, hch.1, hch.2, hz2, rfl⟩ q4 (by omega) (by walk_at "keep"))
      have := hA ⟨#[ch]⟩ (Str.ofString (toString ((nr + 1 : Nat) : Int)))
      omega
    rcases (show t = 0 ∨ t = 1 ∨ t = 2 ∨ t = 3 by omega) with rfl | rfl | rfl | rfl
    all_goals
      refine itm_i rfl ?_
      exact fin _ (by decide) (by first | exact .inl rfl | exact .inr (.inl rfl) | exact .inr (.inr rfl))

end Lw

set_option Elab.async false
set_option linter.all false
set_option maxRecDepth 100000
set_option maxHeartbeats 1000000
namespace Lw
open PySem PySem.Spec PyProof.Rows L2 Mi
local macro_rules | `(tactic| walk_at "mem") => `(tactic| first | exact fun _ z => absurd z List.not_mem_nil | exact List.not_mem_nil | (intro i hi; simp only [List.mem_cons, List.not_mem_nil, or_false, false_or] at hi ⊢; omega) | (simp only [List.mem_cons, List.not_mem_nil, or_false, false_or, not_or]; omega))
local macro_rules | `(tactic| walk_at "get") => `(tactic| first | assumption | (apply Keep.get; assumption; walk_at "get"; walk_at "mem"))
local macro_rules | `(tactic| walk_at "keep") => `(tactic| first | assumption | exact Keep.refl | (apply Keep.step; assumption; walk_at "keep"; walk_at "mem"))
local macro_rules | `(tactic| walk_at "one") => `(tactic| (conv => whnf) <;> first
  | (apply br_t; rfl)
  | (apply br_f; rfl)
  | (apply rdO_i; walk_at "get")
  | (apply itm_i; first | rfl | assumption | exact getAt_end _ _)
  | (apply new_i; intro p h' e1 l1 l2 l3 k)
  | (apply put_i; walk_at "get"; intro h' e1 l1 k)
  | (apply iLst_i; first | rfl | exact intsOf_map _)
  | (apply chk_i; first | rfl | exact lenOk_le (by simp only [List.length_map, List.length_cons, List.length_append, List.length_take, List.length_nil, List.length_replicate, List.length_dropLast]; omega) | exact small_lt (by simp only [List.length_map, List.length_cons, List.length_append, List.length_take, List.length_nil, List.length_replicate, List.length_dropLast]; omega) | assumption | exact mulOk_r (by decide) | exact mulOk_l (by decide) | exact lenOk_le (by omega) | exact small_lt (by omega) | (simp; omega)))
local macro_rules | `(tactic| walk_at "go") => `(tactic| (repeat walk_at "one"); try (conv => whnf))
local macro_rules | `(tactic| walk_at "br") => `(tactic| (refine br_i (fun hc => ?_) (fun hc => ?_) <;> simp only [Bool.not_eq_true', Bool.not_eq_false', beq_iff_eq, beq_eq_false_iff_ne, ne_eq, decide_eq_true_eq, decide_eq_false_iff_not, bne_iff_ne, bne_eq_false_iff_eq] at hc) <;> first | (exfalso; omega) | walk_at "go")

inductive Ow where | add | sub | mul | less | same
def Ow.s : Ow → Str | .add => w_add | .sub => w_sub | .mul => w_mul | .less => w_less | .same => w_same
inductive Ep where | num (n : Int) | nam (x : Str) | inn | op (o : Ow) (a b : Ep) | call (x : Str) (as : List Ep)
mutual
def Ep.d : Ep → D
  | .num n => .tup [.str w_number, .int n]
  | .nam x => .tup [.str w_name, .str x]
  | .inn => .tup [.str w_in]
  | .op o a b => .tup [.str o.s, a.d, b.d]
  | .call x as => .tup [.str w_call, .str x, .tup (Ep.ds as)]
def Ep.ds : List Ep → List D
  | [] => []
  | a :: as => a.d :: Ep.ds as
end
mutual
def Ep.ht : Ep → Nat
  | .op _ a b => max a.ht b.ht + 1
  | .call _ as => Ep.hts as + 1
  | _ => 1
def Ep.hts : List Ep → Nat
  | [] => 0
  | a :: as => max a.ht (Ep.hts as)
end
mutual
def Ep.fit : Ep → Prop
  | .num n => 0 ≤ n ∧ n < 65536
  | .op _ a b => a.fit ∧ b.fit
  | .call _ as => as.length ≤ 3 ∧ Ep.fits as
  | _ => True
def Ep.fits : List Ep → Prop
  | [] => True
  | a :: as => a.fit ∧ Ep.fits as
end
mutual
/-- its names hold P, its funs hold F -/
def Ep.sc (P F : Str → Prop) : Ep → Prop
  | .nam x => P x
  | .op _ a b => a.sc P F ∧ b.sc P F
  | .call x as => F x ∧ Ep.scs P F as
  | _ => True
def Ep.scs (P F : Str → Prop) : List Ep → Prop
  | [] => True
  | a :: as => a.sc P F ∧ Ep.scs P F as
end
theorem scs_app {P F : Str → Prop} : ∀ (as bs : List Ep), Ep.scs P F as → Ep.scs P F bs → Ep.scs P F (as ++ bs)
  | [], _, _, b => b
  | a :: as, bs, f, b => ⟨f.1, scs_app as bs f.2 b⟩
mutual
theorem sc_mono {P F P' F' : Str → Prop} (hp : ∀ x, P x → P' x) (hf : ∀ x, F x → F' x) : ∀ e : Ep, e.sc P F → e.sc P' F'
  | .num _, _ => trivial
  | .nam _, h => hp _ h
  | .inn, _ => trivial
  | .op _ a b, h => ⟨sc_mono hp hf a h.1, sc_mono hp hf b h.2⟩
  | .call _ as, h => ⟨hf _ h.1, scs_mono hp hf as h.2⟩
theorem scs_mono {P F P' F' : Str → Prop} (hp : ∀ x, P x → P' x) (hf : ∀ x, F x → F' x) : ∀ as : List Ep, Ep.scs P F as → Ep.scs P' F' as
  | [], _ => trivial
  | a :: as, h => ⟨sc_mono hp hf a h.1, scs_mono hp hf as h.2⟩
end
theorem ds_len : ∀ as : List Ep, (Ep.ds as).length = as.length
  | [] => rfl
  | a :: as => by show (Ep.ds as).length + 1 = _; rw [ds_len as]; rfl
theorem ds_app : ∀ (as bs : List Ep), Ep.ds (as ++ bs) = Ep.ds as ++ Ep.ds bs
  | [], _ => rfl
  | a :: as, bs => by show a.d :: Ep.ds (as ++ bs) = _; rw [ds_app as bs]; rfl
theorem fits_app : ∀ (as bs : List Ep), Ep.fits as → Ep.fits bs → Ep.fits (as ++ bs)
  | [], _, _, b => b
  | a :: as, bs, f, b => ⟨f.1, fits_app as bs f.2 b⟩
theorem hts_app : ∀ (as bs : List Ep) (m : Nat), Ep.hts as ≤ m → Ep.hts bs ≤ m → Ep.hts (as ++ bs) ≤ m
  | [], _, _, _, b => b
  | a :: as, bs, m, f, b => by
    have e : Ep.hts (a :: as) = max a.ht (Ep.hts as) := rfl
    have e2 : Ep.hts (a :: as ++ bs) = max a.ht (Ep.hts (as ++ bs)) := rfl
    have := hts_app as bs m (by omega) b
    omega
theorem range_len : ∀ (m : Nat) (lo : Int) (i : Nat), (range m lo i).length = m
  | 0, _, _ => rfl
  | m + 1, lo, i => by unfold range; simp [range_len m lo (i + 1)]
def fD (f : Str × Nat) : D := .tup [.str f.1, .int f.2]
theorem dec_lt {a b : Int} (h : b < a) : decide (a > b) = true := decide_eq_true h
theorem expr_ok : ∀ (d n : Nat) (p c nm fu : Nat) (xs : List Str) (fs : List (Str × Nat)) (z nr : Int) (h : Hh) (Q : Kd) (X : Ex), d + 2 ≤ n → z = d → Pl h p c nr →
    h[nm]? = some (.lst (xs.map .str)) → h[fu]? = some (.lst (fs.map fD)) → xs.length ≤ 70000 → fs.length ≤ 70000 → (∀ f ∈ fs, f.2 ≤ 3) → nm ≠ p → nm ≠ c → fu ≠ p → fu ≠ c →
    (∀ (e : Ep) (h' : Hh), e.fit → e.sc (· ∈ xs) (· ∈ fs.map (·.1)) → e.ht ≤ d + 1 → Pl h' p c nr → h.length ≤ h'.length → Keep [p] h h' → Q e.d h') → rn n i_law_expression [.ref p, .ref nm, .ref fu, .int z] h Q X
  | _, 0, _, _, _, _, _, _, _, _, _, _, _, hn, _, _, _, _, _, _, _, _, _, _, _, _ => absurd hn (by omega)
  | d, n + 1, p, c, nm, fu, xs, fs, z, nr, h, Q, X, hn, hz, pl, es, ef, lx, lf, hf, n1, n2, n3, n4, w => by
    have s1 := pl.lt
    have s2 := lt_of es
    have s3 := lt_of ef
    have hlx : (List.map D.str xs).length = xs.length := List.length_map ..
    have hlf : (List.map fD fs).length = fs.length := List.length_map ..
    refine u_law_expression ?_
    walk_at "go"
    walk_at "br"
    case' refine_1 => refine take_ok pl (by decide) (by decide) (by omega) fun v h1 v0 v1 pl1 l1 k1 => ?_
    case' refine_2 => refine take_ok pl (by decide) (by decide) (by omega) fun v h1 v0 v1 pl1 l1 k1 => ?_
    all_goals have e1 : h1[nm]? = some (.lst (xs.map .str)) := by walk_at "get"
    all_goals have e2 : h1[fu]? = some (.lst (fs.map fD)) := by walk_at "get"
    all_goals rcases (show v = 0 ∨ v = 1 ∨ v = 2 ∨ (3 ≤ v ∧ v < 8) ∨ 8 ≤ v by omega) with rfl | rfl | rfl | hv | hv
    case refine_1.inl =>
      walk_at "go"
      refine take_ok pl1 (by decide) (by decide) (by omega) fun a h2 a0 a1 pl2 l2 k2 => ?_
      walk_at "go"
      refine take_ok pl2 (by decide) (by decide) (by omega) fun b h3 b0 b1 pl3 l3 k3 => ?_
      walk_at "go"
      refine take_ok pl3 (by decide) (by decide) (by omega) fun c2 h4 c0 c1 pl4 l4 k4 => ?_
      rcases (show c2 = 0 ∨ c2 = 1 ∨ c2 = 2 ∨ c2 = 3 ∨ c2 = 4 by omega) with rfl | rfl | rfl | rfl | rfl <;> (walk_at "go"; exact w (.num _) _ (by constructor <;> omega) trivial (by simp [Ep.ht]) (by assumption) (by omega) (by walk_at "keep"))
    case refine_2.inl =>
      walk_at "go"
      refine take_ok pl1 (by decide) (by decide) (by omega) fun a h2 a0 a1 pl2 l2 k2 => ?_
      walk_at "go"
      refine take_ok pl2 (by decide) (by decide) (by omega) fun b h3 b0 b1 pl3 l3 k3 => ?_
      walk_at "go"
      refine take_ok pl3 (by decide) (by decide) (by omega) fun c2 h4 c0 c1 pl4 l4 k4 => ?_
      rcases (show c2 = 0 ∨ c2 = 1 ∨ c2 = 2 ∨ c2 = 3 ∨ c2 = 4 by omega) with rfl | rfl | rfl | rfl | rfl <;> (walk_at "go"; exact w (.num _) _ (by constructor <;> omega) trivial (by simp [Ep.ht]) (by assumption) (by omega) (by walk_at "keep"))
    case refine_1.inr.inl =>
      walk_at "go"
      walk_at "br"
      · refine take_ok pl1 (by decide) (by decide) (by omega) fun a h2 a0 a1 pl2 l2 k2 => ?_
        walk_at "go"
        refine take_ok pl2 (by decide) (by decide) (by omega) fun b h3 b0 b1 pl3 l3 k3 => ?_
        walk_at "go"
        refine take_ok pl3 (by decide) (by decide) (by omega) fun c2 h4 c0 c1 pl4 l4 k4 => ?_
        rcases (show c2 = 0 ∨ c2 = 1 ∨ c2 = 2 ∨ c2 = 3 ∨ c2 = 4 by omega) with rfl | rfl | rfl | rfl | rfl <;> (walk_at "go"; exact w (.num _) _ (by constructor <;> omega) trivial (by simp [Ep.ht]) (by assumption) (by omega) (by walk_at "keep"))
      · refine take_ok pl1 (by omega) (by omega) (by omega) fun a h2 a0 a1 pl2 l2 k2 => ?_
        obtain ⟨y, my, ey⟩ := getAt_ok (f := D.str) a0 (hlx ▸ a1)
        have es2 : h2[nm]? = some (.lst (xs.map .str)) := by walk_at "get"
        walk_at "go"
        exact w (.nam y) _ trivial my (by simp [Ep.ht]) (by assumption) (by omega) (by walk_at "keep")
    case refine_2.inr.inl =>
      walk_at "go"
      walk_at "br"
      · refine take_ok pl1 (by decide) (by decide) (by omega) fun a h2 a0 a1 pl2 l2 k2 => ?_
        walk_at "go"
        refine take_ok pl2 (by decide) (by decide) (by omega) fun b h3 b0 b1 pl3 l3 k3 => ?_
        walk_at "go"
        refine take_ok pl3 (by decide) (by decide) (by omega) fun c2 h4 c0 c1 pl4 l4 k4 => ?_
        rcases (show c2 = 0 ∨ c2 = 1 ∨ c2 = 2 ∨ c2 = 3 ∨ c2 = 4 by omega) with rfl | rfl | rfl | rfl | rfl <;> (walk_at "go"; exact w (.num _) _ (by constructor <;> omega) trivial (by simp [Ep.ht]) (by assumption) (by omega) (by walk_at "keep"))
      · refine take_ok pl1 (by omega) (by omega) (by omega) fun a h2 a0 a1 pl2 l2 k2 => ?_
        obtain ⟨y, my, ey⟩ := getAt_ok (f := D.str) a0 (hlx ▸ a1)
        have es2 : h2[nm]? = some (.lst (xs.map .str)) := by walk_at "get"
        walk_at "go"
        exact w (.nam y) _ trivial my (by simp [Ep.ht]) (by assumption) (by omega) (by walk_at "keep")
    case refine_1.inr.inr.inl =>
      walk_at "go"
      exact w .inn _ trivial trivial (by simp [Ep.ht]) (by assumption) (by omega) (by walk_at "keep")
    case refine_2.inr.inr.inl =>
      walk_at "go"
      exact w .inn _ trivial trivial (by simp [Ep.ht]) (by assumption) (by omega) (by walk_at "keep")
    case refine_2.inr.inr.inr.inl => omega
    case refine_2.inr.inr.inr.inr => omega
    case refine_1.inr.inr.inr.inl =>
      obtain ⟨d, rfl⟩ : ∃ d', d = d' + 1 := ⟨d - 1, by omega⟩
      walk_at "go"
      iterate 8 try walk_at "br"
      refine take_ok pl1 (by decide) (by decide) (by omega) fun a h2 a0 a1 pl2 l2 k2 => ?_
      rcases (show a = 0 ∨ a = 1 ∨ a = 2 ∨ a = 3 ∨ a = 4 by omega) with rfl | rfl | rfl | rfl | rfl
      all_goals
        walk_at "go"
        refine expr_ok d n p c nm fu xs fs _ _ _ _ _ (by omega) (by omega) pl2 (by walk_at "get") (by walk_at "get") lx lf hf n1 n2 n3 n4 fun e1 h3 f1 sc1 t1 pl3 l3 k3 => ?_
        walk_at "go"
        refine expr_ok d n p c nm fu xs fs _ _ _ _ _ (by omega) (by omega) pl3 (by walk_at "get") (by walk_at "get") lx lf hf n1 n2 n3 n4 fun e2 h4 f2 sc2 t2 pl4 l4 k4 => ?_
        walk_at "go"
      · exact w (.op .add e1 e2) _ ⟨f1, f2⟩ ⟨sc1, sc2⟩ (by simp only [Ep.ht]; omega) (by assumption) (by omega) (by walk_at "keep")
      · exact w (.op .sub e1 e2) _ ⟨f1, f2⟩ ⟨sc1, sc2⟩ (by simp only [Ep.ht]; omega) (by assumption) (by omega) (by walk_at "keep")
      · exact w (.op .mul e1 e2) _ ⟨f1, f2⟩ ⟨sc1, sc2⟩ (by simp only [Ep.ht]; omega) (by assumption) (by omega) (by walk_at "keep")
      · exact w (.op .less e1 e2) _ ⟨f1, f2⟩ ⟨sc1, sc2⟩ (by simp only [Ep.ht]; omega) (by assumption) (by omega) (by walk_at "keep")
      · exact w (.op .same e1 e2) _ ⟨f1, f2⟩ ⟨sc1, sc2⟩ (by simp only [Ep.ht]; omega) (by assumption) (by omega) (by walk_at "keep")
    case refine_1.inr.inr.inr.inr =>
      obtain rfl : v = 8 := by omega
      obtain ⟨d, rfl⟩ : ∃ d', d = d' + 1 := ⟨d - 1, by omega⟩
      walk_at "go"
      walk_at "br"
      · refine take_ok pl1 (by omega) (by omega) (by omega) fun a h2 a0 a1 pl2 l2 k2 => ?_
        obtain ⟨⟨y, m⟩, my, ey⟩ := getAt_ok (f := fD) a0 (hlf ▸ a1)
        have hm : m ≤ 3 := hf _ my
        have es2 : h2[nm]? = some (.lst (xs.map .str)) := by walk_at "get"
        have ef2 : h2[fu]? = some (.lst (fs.map fD)) := by walk_at "get"
        unfold fD at ey
        walk_at "go"
        rename_i q h3 e3 g1 g2 g3 k3
        refine comp_i (I := fun r acc h' => ∃ as : List Ep, acc = Ep.ds as ∧ Ep.fits as ∧ Ep.scs (· ∈ xs) (· ∈ fs.map (·.1)) as ∧ Ep.hts as ≤ d + 1 ∧ r.length + as.length = m ∧ Pl h' p c nr ∧ h3.length ≤ h'.length ∧ Keep [p, q] h3 h') ?_ ?_ _ _ _ e3 ⟨[], rfl, trivial, trivial, by simp [Ep.hts], by rw [range_len]; simp, pl2.mono k3 List.not_mem_nil List.not_mem_nil, Nat.le_refl _, Keep.refl⟩
        · rintro x r acc h4 K e4 ⟨as, rfl, ff, scc, tt, ll, pl4, l4, k4⟩ hK
          walk_at "go"
          refine expr_ok d n p c nm fu xs fs _ _ _ _ _ (by omega) (by omega) pl4 (by walk_at "get") (by walk_at "get") lx lf hf n1 n2 n3 n4 fun e1 h5 f1 sc1 t1 pl5 l5 k5 => ?_
          have e5 : h5[q]? = some (.lst (Ep.ds as)) := by walk_at "get"
          have hl := ds_len as
          simp only [List.length_cons] at ll
          refine rdL_i e5 (chk_i (small_lt (by omega)) (put_i e5 fun h6 e6 l6 k6 => hK _ _ e6 ⟨as ++ [e1], by rw [ds_app]; rfl, fits_app _ _ ff ⟨f1, trivial⟩, scs_app _ _ scc ⟨sc1, trivial⟩, hts_app _ _ _ tt (by simp only [Ep.hts]; omega), by simp only [List.length_append, List.length_singleton]; omega, ?_, by omega, by walk_at "keep"⟩))
          exact pl5.mono k6 (by walk_at "mem") (by walk_at "mem")
        · rintro acc h4 e4 ⟨as, rfl, ff, scc, tt, ll, pl4, l4, k4⟩
          have hl := ds_len as
          simp only [List.length_nil] at ll
          walk_at "go"
          exact w (.call y as) _ ⟨by omega, ff⟩ ⟨List.mem_map.mpr ⟨_, my, rfl⟩, scc⟩ (by simp only [Ep.ht]; omega) pl4 (by omega) (by walk_at "keep")
      · refine take_ok pl1 (by decide) (by decide) (by omega) fun a h2 a0 a1 pl2 l2 k2 => ?_
        rcases (show a = 0 ∨ a = 1 ∨ a = 2 ∨ a = 3 ∨ a = 4 by omega) with rfl | rfl | rfl | rfl | rfl
        all_goals
          walk_at "go"
          refine expr_ok d n p c nm fu xs fs _ _ _ _ _ (by omega) (by omega) pl2 (by walk_at "get") (by walk_at "get") lx lf hf n1 n2 n3 n4 fun e1 h3 f1 sc1 t1 pl3 l3 k3 => ?_
          walk_at "go"
          refine expr_ok d n p c nm fu xs fs _ _ _ _ _ (by omega) (by omega) pl3 (by walk_at "get") (by walk_at "get") lx lf hf n1 n2 n3 n4 fun e2 h4 f2 sc2 t2 pl4 l4 k4 => ?_
          walk_at "go"
        · exact w (.op .add e1 e2) _ ⟨f1, f2⟩ ⟨sc1, sc2⟩ (by simp only [Ep.ht]; omega) (by assumption) (by omega) (by walk_at "keep")
        · exact w (.op .sub e1 e2) _ ⟨f1, f2⟩ ⟨sc1, sc2⟩ (by simp only [Ep.ht]; omega) (by assumption) (by omega) (by walk_at "keep")
        · exact w (.op .mul e1 e2) _ ⟨f1, f2⟩ ⟨sc1, sc2⟩ (by simp only [Ep.ht]; omega) (by assumption) (by omega) (by walk_at "keep")
        · exact w (.op .less e1 e2) _ ⟨f1, f2⟩ ⟨sc1, sc2⟩ (by simp only [Ep.ht]; omega) (by assumption) (by omega) (by walk_at "keep")
        · exact w (.op .same e1 e2) _ ⟨f1, f2⟩ ⟨sc1, sc2⟩ (by simp only [Ep.ht]; omega) (by assumption) (by omega) (by walk_at "keep")

end Lw

set_option Elab.async false
set_option linter.all false
set_option maxRecDepth 100000
set_option maxHeartbeats 1000000
namespace Lw
open PySem PySem.Spec PyProof.Rows L2 Mi
local macro_rules | `(tactic| walk_at "mem") => `(tactic| first | exact fun _ z => absurd z List.not_mem_nil | exact List.not_mem_nil | (intro i hi; simp only [List.mem_cons, List.not_mem_nil, or_false, false_or] at hi ⊢; omega) | (simp only [List.mem_cons, List.not_mem_nil, or_false, false_or, not_or]; omega))
local macro_rules | `(tactic| walk_at "get") => `(tactic| first | assumption | (apply Keep.get; assumption; walk_at "get"; walk_at "mem"))
local macro_rules | `(tactic| walk_at "keep") => `(tactic| first | assumption | exact Keep.refl | (apply Keep.step; assumption; walk_at "keep"; walk_at "mem"))
local macro_rules | `(tactic| walk_at "one") => `(tactic| (conv => whnf) <;> first
  | (apply br_t; rfl)
  | (apply br_f; rfl)
  | (apply rdO_i; walk_at "get")
  | (apply itm_i; first | rfl | assumption | exact getAt_end _ _)
  | (apply new_i; intro p h' e1 l1 l2 l3 k)
  | (apply put_i; walk_at "get"; intro h' e1 l1 k)
  | (apply iLst_i; first | rfl | exact intsOf_map _)
  | (apply chk_i; first | rfl | exact lenOk_le (by simp only [List.length_map, List.length_cons, List.length_append, List.length_take, List.length_nil, List.length_replicate, List.length_dropLast]; omega) | exact small_lt (by simp only [List.length_map, List.length_cons, List.length_append, List.length_take, List.length_nil, List.length_replicate, List.length_dropLast]; omega) | assumption | exact mulOk_r (by decide) | exact mulOk_l (by decide) | exact lenOk_le (by omega) | exact small_lt (by omega) | (simp; omega)))
local macro_rules | `(tactic| walk_at "go") => `(tactic| (repeat walk_at "one"); try (conv => whnf))
local macro_rules | `(tactic| walk_at "br") => `(tactic| (refine br_i (fun hc => ?_) (fun hc => ?_) <;> simp only [Bool.not_eq_true', Bool.not_eq_false', beq_iff_eq, beq_eq_false_iff_ne, ne_eq, decide_eq_true_eq, decide_eq_false_iff_not, bne_iff_ne, bne_eq_false_iff_eq] at hc) <;> first | (exfalso; omega) | walk_at "go")

inductive St where
  | var (x : Str) (e : Ep) | set (x : Str) (e : Ep) | call (x : Str) (as : List Ep) | hold (b : List St) | whl (e : Ep) (b : List St) | ifs (e : Ep) (b c : List St) | ret (e : Ep) | out (e : Ep)
mutual
def St.d : St → D
  | .var x e => .tup [.str w_var, .str x, e.d]
  | .set x e => .tup [.str w_set, .str x, e.d]
  | .call x as => .tup [.str w_call, .str x, .tup (Ep.ds as)]
  | .hold b => .tup [.str w_hold, .tup (St.ds b)]
  | .whl e b => .tup [.str w_while, e.d, .tup (St.ds b)]
  | .ifs e b c => .tup [.str w_if, e.d, .tup (St.ds b), .tup (St.ds c)]
  | .ret e => .tup [.str w_return, e.d]
  | .out e => .tup [.str w_out, e.d]
def St.ds : List St → List D
  | [] => []
  | s :: b => s.d :: St.ds b
end
mutual
def St.fit : St → Prop
  | .var _ e => e.fit ∧ e.ht ≤ 8
  | .set _ e => e.fit ∧ e.ht ≤ 8
  | .call x as => (Ep.call x as).fit ∧ (Ep.call x as).ht ≤ 9
  | .hold b => St.fits b
  | .whl e b => (e.fit ∧ e.ht ≤ 8) ∧ St.fits b
  | .ifs e b c => (e.fit ∧ e.ht ≤ 8) ∧ St.fits b ∧ St.fits c
  | .ret e => e.fit ∧ e.ht ≤ 8
  | .out e => e.fit ∧ e.ht ≤ 8
def St.fits : List St → Prop
  | [] => True
  | s :: b => s.fit ∧ St.fits b
end
mutual
def St.ht : St → Nat
  | .hold b => St.bht b + 1
  | .whl _ b => St.bht b + 1
  | .ifs _ b c => max (St.bht b) (St.bht c) + 1
  | _ => 0
def St.bht : List St → Nat
  | [] => 0
  | s :: b => max s.ht (St.bht b)
end
mutual
def St.sc (P F : Str → Prop) : St → Prop
  | .var x e => P x ∧ e.sc P F
  | .set x e => P x ∧ e.sc P F
  | .call x as => F x ∧ Ep.scs P F as
  | .hold b => St.scs P F b
  | .whl e b => e.sc P F ∧ St.scs P F b
  | .ifs e b c => e.sc P F ∧ St.scs P F b ∧ St.scs P F c
  | .ret e => e.sc P F
  | .out e => e.sc P F
def St.scs (P F : Str → Prop) : List St → Prop
  | [] => True
  | s :: b => s.sc P F ∧ St.scs P F b
end
mutual
/-- the locals, in the text's sequence -/
def St.vars : St → List Str
  | .var x _ => [x]
  | .hold b => St.bvars b
  | .whl _ b => St.bvars b
  | .ifs _ b c => St.bvars b ++ St.bvars c
  | _ => []
def St.bvars : List St → List Str
  | [] => []
  | s :: b => s.vars ++ St.bvars b
end
mutual
theorem ssc_mono {P F P' F' : Str → Prop} (hp : ∀ x, P x → P' x) (hf : ∀ x, F x → F' x) : ∀ s : St, s.sc P F → s.sc P' F'
  | .var x e, h => ⟨hp _ h.1, sc_mono hp hf e h.2⟩
  | .set x e, h => ⟨hp _ h.1, sc_mono hp hf e h.2⟩
  | .call x as, h => ⟨hf _ h.1, scs_mono hp hf as h.2⟩
  | .hold b, h => sscs_mono hp hf b h
  | .whl e b, h => ⟨sc_mono hp hf e h.1, sscs_mono hp hf b h.2⟩
  | .ifs e b c, h => ⟨sc_mono hp hf e h.1, sscs_mono hp hf b h.2.1, sscs_mono hp hf c h.2.2⟩
  | .ret e, h => sc_mono hp hf e h
  | .out e, h => sc_mono hp hf e h
theorem sscs_mono {P F P' F' : Str → Prop} (hp : ∀ x, P x → P' x) (hf : ∀ x, F x → F' x) : ∀ b : List St, St.scs P F b → St.scs P' F' b
  | [], _ => trivial
  | s :: b, h => ⟨ssc_mono hp hf s h.1, sscs_mono hp hf b h.2⟩
end
theorem sscs_app {P F : Str → Prop} : ∀ (as bs : List St), St.scs P F as → St.scs P F bs → St.scs P F (as ++ bs)
  | [], _, _, b => b
  | a :: as, bs, f, b => ⟨f.1, sscs_app as bs f.2 b⟩
theorem bvars_app : ∀ (as bs : List St), St.bvars (as ++ bs) = St.bvars as ++ St.bvars bs
  | [], _ => rfl
  | a :: as, bs => by show a.vars ++ St.bvars (as ++ bs) = _; rw [bvars_app as bs, ← List.append_assoc]; rfl
theorem sds_app : ∀ (a b : List St), St.ds (a ++ b) = St.ds a ++ St.ds b
  | [], _ => rfl
  | a :: as, bs => by show a.d :: St.ds (as ++ bs) = _; rw [sds_app as bs]; rfl
theorem sds_len : ∀ as : List St, (St.ds as).length = as.length
  | [] => rfl
  | a :: as => by show (St.ds as).length + 1 = _; rw [sds_len as]; rfl
theorem sfits_app : ∀ (as bs : List St), St.fits as → St.fits bs → St.fits (as ++ bs)
  | [], _, _, b => b
  | a :: as, bs, f, b => ⟨f.1, sfits_app as bs f.2 b⟩
theorem sbht_app : ∀ (as bs : List St) (m : Nat), St.bht as ≤ m → St.bht bs ≤ m → St.bht (as ++ bs) ≤ m
  | [], _, _, _, b => b
  | a :: as, bs, m, f, b => by
    have e : St.bht (a :: as) = max a.ht (St.bht as) := rfl
    have e2 : St.bht (a :: as ++ bs) = max a.ht (St.bht (as ++ bs)) := rfl
    have := sbht_app as bs m (by omega) b
    omega
/-! how great they are -/
mutual
theorem ep_gr : ∀ e : Ep, e.fit → gr e.d + 2 ≤ 2 * 3 ^ e.ht
  | .num _, _ => by simp [Ep.d, gr, grs, Ep.ht]
  | .nam _, _ => by simp [Ep.d, gr, grs, Ep.ht]
  | .inn, _ => by simp [Ep.d, gr, grs, Ep.ht]
  | .op o a b, f => by
    have ha := ep_gr a f.1
    have hb := ep_gr b f.2
    have h1 : 3 ^ a.ht ≤ 3 ^ max a.ht b.ht := Nat.pow_le_pow_right (by omega) (Nat.le_max_left _ _)
    have h2 : 3 ^ b.ht ≤ 3 ^ max a.ht b.ht := Nat.pow_le_pow_right (by omega) (Nat.le_max_right _ _)
    have h3 : 1 ≤ 3 ^ max a.ht b.ht := Nat.one_le_pow _ _ (by omega)
    simp only [Ep.d, gr, grs, Ep.ht, Nat.pow_succ]
    omega
  | .call x as, f => by
    have ha := ep_grs as f.2
    have h1 : as.length ≤ 3 := f.1
    have h3 : 1 ≤ 3 ^ Ep.hts as := Nat.one_le_pow _ _ (by omega)
    have h4 : as.length * (2 * 3 ^ Ep.hts as) ≤ 3 * (2 * 3 ^ Ep.hts as) := Nat.mul_le_mul_right _ h1
    simp only [Ep.d, gr, grs, Ep.ht, Nat.pow_succ]
    rcases (show as.length = 0 ∨ 1 ≤ as.length by omega) with h5 | h5
    · have := List.eq_nil_of_length_eq_zero h5
      subst this
      simp [Ep.ds, grs, Ep.hts]
    · rcases (show as.length = 1 ∨ as.length = 2 ∨ as.length = 3 by omega) with h6 | h6 | h6 <;> rw [h6] at ha <;> omega
theorem ep_grs : ∀ as : List Ep, Ep.fits as → grs (Ep.ds as) + 2 * as.length ≤ as.length * (2 * 3 ^ Ep.hts as)
  | [], _ => by simp [Ep.ds, grs]
  | a :: as, f => by
    have ha := ep_gr a f.1
    have hb := ep_grs as f.2
    have h1 : 3 ^ a.ht ≤ 3 ^ max a.ht (Ep.hts as) := Nat.pow_le_pow_right (by omega) (Nat.le_max_left _ _)
    have h2 : 3 ^ Ep.hts as ≤ 3 ^ max a.ht (Ep.hts as) := Nat.pow_le_pow_right (by omega) (Nat.le_max_right _ _)
    have h3 : as.length * (2 * 3 ^ Ep.hts as) ≤ as.length * (2 * 3 ^ max a.ht (Ep.hts as)) := Nat.mul_le_mul_left _ (by omega)
    show gr a.d + grs (Ep.ds as) + 2 * (as.length + 1) ≤ (as.length + 1) * (2 * 3 ^ max a.ht (Ep.hts as))
    rw [Nat.add_mul]
    omega
end
theorem ep_gr3 {e : Ep} (f : e.fit) (h : e.ht ≤ 3) : gr e.d ≤ 52 := by
  have := ep_gr e f
  have : 3 ^ e.ht ≤ 3 ^ 3 := Nat.pow_le_pow_right (by omega) h
  omega
def SB : Nat → Nat
  | 0 => 70
  | d + 1 => 600 * 9 ^ d + 70
theorem SB_le (d : Nat) : 4 * SB d + 1 ≤ 300 * 9 ^ d := by
  cases d with
  | zero => decide
  | succ d =>
    have := Nat.one_le_pow d 9 (by omega)
    simp only [SB, Nat.pow_succ]
    omega
theorem SB_70 (d : Nat) : 70 ≤ SB d := by cases d <;> simp [SB]
def BlkSpec (d : Nat) : Prop := ∀ (n : Nat) (p c nm fu : Nat) (k : Str) (xs : List Str) (fs : List (Str × Nat)) (z : Int) (nr : Nat) (bb : Bool) (h : Hh) (Q : Kd) (X : Ex), d + 5 ≤ n → z = d → Pl h p c nr → nr + 300 * 9 ^ d < 1000000000 →
    h[nm]? = some (.lst (xs.map .str)) → h[fu]? = some (.lst (fs.map fD)) → xs.length + 4 * (d + 1) ≤ 1000 → fs.length ≤ 1000 → (∀ f ∈ fs, f.2 ≤ 3) → nm ≠ p → nm ≠ c → fu ≠ p → fu ≠ c →
    (∀ (b : List St) (nr' : Nat) (h' : Hh), St.fits b → St.scs (fun x => x ∈ xs ∨ x ∈ St.bvars b) (· ∈ fs.map (·.1)) b → Rise nr (St.bvars b) nr' → St.bht b ≤ d → b.length ≤ 4 → grs (St.ds b) + 1 ≤ 300 * 9 ^ d → Pl h' p c nr' → nr ≤ nr' → nr' ≤ nr + grs (St.ds b) → nr' ≤ nr + 4 * 8 ^ d → h.length ≤ h'.length → Keep [p] h h' → Q (.tup (St.ds b)) h') →
    rn n i_law_block [.ref p, .str k, .ref nm, .ref fu, .int z, .bl bb] h Q X
theorem blk_of (d : Nat) (ih : ∀ d', d = d' + 1 → BlkSpec d') : BlkSpec d
  | 0, _, _, _, _, _, _, _, _, _, _, _, _, _, hn, _, _, _, _, _, _, _, _, _, _, _, _, _ => absurd hn (by omega)
  | n + 1, p, c, nm, fu, k, xs, fs, z, nr, bb, h, Q, X, hn, hz, pl, hr1, es, ef, lx, lf, hf, n1, n2, n3, n4, w => by
    have s1 := pl.lt
    have s2 := lt_of es
    have s3 := lt_of ef
    have hlf : (List.map fD fs).length = fs.length := List.length_map ..
    have hs1 := SB_le d
    have hs2 := SB_70 d
    have h8 := Nat.one_le_pow d 8 (by omega)
    refine u_law_block ?_
    walk_at "go"
    rename_i q h1 eq1 g1 g2 g3 k1 t h2 et2 g4 g5 g6 k2
    have pl2 : Pl h2 p c nr := (pl.mono k1 List.not_mem_nil List.not_mem_nil).mono k2 List.not_mem_nil List.not_mem_nil
    have ef2 : h2[fu]? = some (.lst (fs.map fD)) := by walk_at "get"
    have eq2 : h2[q]? = some (.lst (xs.map .str)) := by walk_at "get"
    have k02 : Keep [p] h h2 := by walk_at "keep"
    have GO : ∀ (m : Nat) (h3 : Hh) , m ≤ 4 → Pl h3 p c nr → h2.length ≤ h3.length → Keep [p] h2 h3 →
       loopS (wG gls (rn n) X (.name 8)) (wB gls (rn n) X c_law_block_20) { nx := fun σ h => wB gls (rn n) X (.cons (.ret (.blt .tuple (.cons (.var 7) .nil))) .nil) (R0 Q) σ h, rt := Q, bk := fun _ _ => False, ct := fun _ _ => False } (range m 0 0) [some (.ref p), some (.str k), some (.ref nm), some (.ref fu), some (.int z), some (.bl bb), some (.ref q), some (.ref t), none, none, none, none, none, none, none] h3 := by
      intro m h3 hm pl3 l3 k3
      refine loop_i (I := fun r σ h' => ∃ (b : List St) (xs' : List Str) (nr' : Nat) (x8 x9 x10 x11 x12 x13 x14 : Option D), σ = [some (.ref p), some (.str k), some (.ref nm), some (.ref fu), some (.int z), some (.bl bb), some (.ref q), some (.ref t), x8, x9, x10, x11, x12, x13, x14] ∧ r.length + b.length = m ∧ St.fits b ∧ St.scs (fun x => x ∈ xs ∨ x ∈ St.bvars b) (· ∈ fs.map (·.1)) b ∧ Rise nr (St.bvars b) nr' ∧ (∀ x ∈ xs', x ∈ xs ∨ x ∈ St.bvars b) ∧ St.bht b ≤ d ∧ grs (St.ds b) ≤ b.length * SB d ∧ Pl h' p c nr' ∧ nr ≤ nr' ∧ nr' ≤ nr + grs (St.ds b) ∧ nr' ≤ nr + b.length * 8 ^ d ∧ xs'.length ≤ xs.length + b.length ∧ h'[q]? = some (.lst (xs'.map .str)) ∧ h'[t]? = some (.lst (St.ds b)) ∧ h2.length ≤ h'.length ∧ Keep [p, q, t] h2 h') ?_ ?_ _ _ _ ?_
      · rintro x r σ h4 K ⟨b, xs', nr', x8, x9, x10, x11, x12, x13, x14, rfl, hb, ff, scc, rr, inx, tt, gg, pl4, r0, r1, v1', lx', eq4, et4, l4, k4⟩ hK
        simp only [List.length_cons] at hb
        have gb : b.length * SB d ≤ 3 * SB d := Nat.mul_le_mul_right _ (by omega)
        have ef4 : h4[fu]? = some (.lst (fs.map fD)) := by walk_at "get"
        have hlx : (List.map D.str xs').length = xs'.length := List.length_map ..
        have hlb := sds_len b
        have s4 := lt_of et4
        have FIN : ∀ (T : St) (xs2 : List Str) (nr2 : Nat) (y8 y9 y10 y11 y12 y13 y14 : Option D) (h5 : Hh), T.fit → T.sc (fun x => x ∈ xs' ∨ x ∈ T.vars) (· ∈ fs.map (·.1)) → Rise nr' T.vars nr2 → (∀ x ∈ xs2, x ∈ xs' ∨ x ∈ T.vars) → T.ht ≤ d → gr T.d ≤ SB d → Pl h5 p c nr2 → nr' ≤ nr2 → nr2 ≤ nr' + gr T.d → h5[q]? = some (.lst (xs2.map .str)) → xs2.length ≤ xs'.length + 1 → h5[t]? = some (.lst (St.ds b ++ [T.d])) → h2.length ≤ h5.length → Keep [p, q, t] h2 h5 → nr2 ≤ nr' + 8 ^ d →
            K [some (.ref p), some (.str k), some (.ref nm), some (.ref fu), some (.int z), some (.bl bb), some (.ref q), some (.ref t), y8, y9, y10, y11, y12, y13, y14] h5 := by
          intro T xs2 nr2 y8 y9 y10 y11 y12 y13 y14 h5 f1 fsc frr finx f2 f3 f4 f5 f6 f7 f8 f9 f10 f11 f12
          have e1 : grs (St.ds (b ++ [T])) = grs (St.ds b) + gr T.d := by rw [sds_app, grs_app]; simp [St.ds, grs]
          have e2 : St.bvars (b ++ [T]) = St.bvars b ++ T.vars := by rw [bvars_app]; simp [St.bvars]
          have inP : ∀ x, (x ∈ xs' ∨ x ∈ T.vars) → (x ∈ xs ∨ x ∈ St.bvars b ++ T.vars) := fun x hx => by
            rcases hx with hx | hx
            · rcases inx x hx with z | z
              · exact .inl z
              · exact .inr (List.mem_append.mpr (.inl z))
            · exact .inr (List.mem_append.mpr (.inr hx))
          refine hK _ _ ⟨b ++ [T], xs2, nr2, y8, y9, y10, y11, y12, y13, y14, rfl, ?_, sfits_app _ _ ff ⟨f1, trivial⟩, ?_, ?_, ?_, sbht_app _ _ _ tt (by simp only [St.bht]; omega), ?_, f4, by omega, ?_, ?_, ?_, f7, ?_, f10, f11⟩
          · simp only [List.length_append, List.length_singleton]; omega
          · rw [e2]
            exact sscs_app _ _ (sscs_mono (fun x hx => hx.elim .inl fun z => .inr (List.mem_append.mpr (.inl z))) (fun _ z => z) _ scc) ⟨ssc_mono inP (fun _ z => z) _ fsc, trivial⟩
          · rw [e2]; exact rr.app frr
          · rw [e2]; exact fun x hx => inP x (finx x hx)
          · rw [e1, List.length_append, List.length_singleton, Nat.succ_mul]; omega
          · rw [e1]; omega
          · rw [List.length_append, List.length_singleton, Nat.succ_mul]; omega
          · simp only [List.length_append, List.length_singleton]; omega
          · rw [f9, sds_app]; rfl
        walk_at "go"
        refine take_ok pl4 (by decide) (by decide) (by omega) fun v h5 v0 v1 pl5 l5 k5 => ?_
        walk_at "go"
        refine expr_ok 2 n p c q fu xs' fs _ _ _ _ _ (by omega) rfl pl5 (by walk_at "get") (by walk_at "get") (by omega) (by omega) hf (by omega) (by omega) n3 n4 fun e h6 f6 sc6 t6 pl6 l6 k6 => ?_
        have ge := ep_gr3 f6 t6
        have eq6 : h6[q]? = some (.lst (xs'.map .str)) := by walk_at "get"
        have et6 : h6[t]? = some (.lst (St.ds b)) := by walk_at "get"
        have ef6 : h6[fu]? = some (.lst (fs.map fD)) := by walk_at "get"
        have k26 : Keep [p, q, t] h2 h6 := by walk_at "keep"
        have OUT : ∀ (y8 y9 y10 y11 y12 y13 y14 : Option D) (h7 : Hh), Keep [t] h6 h7 → h6.length ≤ h7.length → h7[t]? = some (.lst (St.ds b ++ [.tup [.str w_out, e.d]])) → K [some (.ref p), some (.str k), some (.ref nm), some (.ref fu), some (.int z), some (.bl bb), some (.ref q), some (.ref t), y8, y9, y10, y11, y12, y13, y14] h7 := fun y8 y9 y10 y11 y12 y13 y14 h7 k7 l7 et7 =>
          FIN (.out e) xs' nr' _ _ _ _ _ _ _ _ ⟨f6, by omega⟩ (sc_mono (fun _ z => .inl z) (fun _ z => z) _ sc6) (Nat.le_refl _) (fun _ z => .inl z) (by simp only [St.ht]; omega) (by simp only [St.d, gr, grs]; omega) (pl6.mono k7 (by walk_at "mem") (by walk_at "mem")) (by omega) (by omega) (by walk_at "get") (by omega) et7 (by omega) (by walk_at "keep") (by omega)
        rcases (show v = 0 ∨ v = 1 ∨ v = 2 ∨ v = 3 ∨ v = 4 ∨ v = 5 ∨ v = 6 ∨ v = 7 by omega) with rfl | rfl | rfl | rfl | rfl | rfl | rfl | rfl
        all_goals walk_at "go"
        · refine name_ok pl6 (by omega) (by omega) fun y h7 ny pl7 l7 k7 => ?_
          have et7 : h7[t]? = some (.lst (St.ds b)) := by walk_at "get"
          walk_at "go"
          rename_i h8 e8 l8 k8 h9 e9 l9 k9
          exact FIN (.var y e) (xs' ++ [y]) (nr' + 1) _ _ _ _ _ _ _ _ ⟨f6, by omega⟩ ⟨.inr List.mem_cons_self, sc_mono (fun _ z => .inl z) (fun _ z => z) _ sc6⟩ ⟨nr' + 1, by omega, ny, Nat.le_refl _⟩ (fun x hx => by rcases List.mem_append.mp hx with z | z; exact .inl z; exact .inr z) (by simp only [St.ht]; omega) (by simp only [St.d, gr, grs]; omega) ((pl7.mono k8 (by walk_at "mem") (by walk_at "mem")).mono k9 (by walk_at "mem") (by walk_at "mem")) (by omega) (by simp only [St.d, gr, grs]; omega) (by rw [e9]; simp) (by simp) (by walk_at "get") (by omega) (by walk_at "keep") (by omega)
        · walk_at "br"
          · refine take_ok pl6 (by omega) (by omega) (by omega) fun a h7 a0 a1 pl7 l7 k7 => ?_
            obtain ⟨y, my, ey⟩ := getAt_ok (f := D.str) a0 (hlx ▸ a1)
            have et7 : h7[t]? = some (.lst (St.ds b)) := by walk_at "get"
            have eq7 : h7[q]? = some (.lst (xs'.map .str)) := by walk_at "get"
            walk_at "go"
            rename_i h8 e8 l8 k8
            exact FIN (.set y e) xs' nr' _ _ _ _ _ _ _ _ ⟨f6, by omega⟩ ⟨.inl my, sc_mono (fun _ z => .inl z) (fun _ z => z) _ sc6⟩ (Nat.le_refl _) (fun _ z => .inl z) (by simp only [St.ht]; omega) (by simp only [St.d, gr, grs]; omega) (pl7.mono k8 (by walk_at "mem") (by walk_at "mem")) (by omega) (by omega) (by walk_at "get") (by omega) e8 (by omega) (by walk_at "keep") (by omega)
          · exact OUT _ _ _ _ _ _ _ _ (by assumption) (by assumption) (by assumption)
        · walk_at "br"
          · refine take_ok pl6 (by omega) (by omega) (by omega) fun a h7 a0 a1 pl7 l7 k7 => ?_
            obtain ⟨⟨y, m2⟩, my, ey⟩ := getAt_ok (f := fD) a0 (hlf ▸ a1)
            have hm2 : m2 ≤ 3 := hf _ my
            have et7 : h7[t]? = some (.lst (St.ds b)) := by walk_at "get"
            have eq7 : h7[q]? = some (.lst (xs'.map .str)) := by walk_at "get"
            have ef7 : h7[fu]? = some (.lst (fs.map fD)) := by walk_at "get"
            have k30 : Keep [p, q, t] h2 h7 := by walk_at "keep"
            have s7 := lt_of ef7
            unfold fD at ey
            walk_at "go"
            rename_i u h8 e8 g7 g8 g9 k8
            refine comp_i (I := fun r acc h' => ∃ as : List Ep, acc = Ep.ds as ∧ Ep.fits as ∧ Ep.scs (· ∈ xs') (· ∈ fs.map (·.1)) as ∧ Ep.hts as ≤ 2 ∧ r.length + as.length = m2 ∧ Pl h' p c nr' ∧ h8.length ≤ h'.length ∧ Keep [p, u] h8 h') ?_ ?_ _ _ _ e8 ⟨[], rfl, trivial, trivial, by simp [Ep.hts], by rw [range_len]; simp, pl7.mono k8 List.not_mem_nil List.not_mem_nil, Nat.le_refl _, Keep.refl⟩
            · rintro x r acc h9 K2 e9 ⟨as, rfl, fs9, sc9, t9, ll, pl9, l9, k9⟩ hK2
              walk_at "go"
              refine expr_ok 1 n p c q fu xs' fs _ _ _ _ _ (by omega) (by omega) pl9 (by walk_at "get") (by walk_at "get") (by omega) (by omega) hf (by omega) (by omega) n3 n4 fun e1 h10 f1 sc1 t1 pl10 l10 k10 => ?_
              have e10 : h10[u]? = some (.lst (Ep.ds as)) := by walk_at "get"
              have hl := ds_len as
              simp only [List.length_cons] at ll
              refine rdL_i e10 (chk_i (small_lt (by omega)) (put_i e10 fun h11 e11 l11 k11 => hK2 _ _ e11 ⟨as ++ [e1], by rw [ds_app]; rfl, fits_app _ _ fs9 ⟨f1, trivial⟩, scs_app _ _ sc9 ⟨sc1, trivial⟩, hts_app _ _ _ t9 (by simp only [Ep.hts]; omega), by simp only [List.length_append, List.length_singleton]; omega, ?_, by omega, by walk_at "keep"⟩))
              exact pl10.mono k11 (by walk_at "mem") (by walk_at "mem")
            · rintro acc h9 e9 ⟨as, rfl, fs9, sc9, t9, ll, pl9, l9, k9⟩
              have hl := ds_len as
              simp only [List.length_nil] at ll
              have et9 : h9[t]? = some (.lst (St.ds b)) := by walk_at "get"
              have eq9 : h9[q]? = some (.lst (xs'.map .str)) := by walk_at "get"
              walk_at "go"
              rename_i h10 e10 l10 k10
              have fa9 : (Ep.call y as).fit := ⟨by omega, fs9⟩
              have g9 := ep_gr3 fa9 (by simp only [Ep.ht]; omega)
              simp only [Ep.d, gr, grs] at g9
              exact FIN (.call y as) xs' nr' _ _ _ _ _ _ _ _ ⟨fa9, by simp only [Ep.ht]; omega⟩ ⟨List.mem_map.mpr ⟨_, my, rfl⟩, scs_mono (fun _ z => .inl z) (fun _ z => z) _ sc9⟩ (Nat.le_refl _) (fun _ z => .inl z) (by simp only [St.ht]; omega) (by simp only [St.d, gr, grs]; omega) (pl9.mono k10 (by walk_at "mem") (by walk_at "mem")) (by omega) (by omega) (by walk_at "get") (by omega) e10 (by omega) (by walk_at "keep") (by omega)
          · exact OUT _ _ _ _ _ _ _ _ (by assumption) (by assumption) (by assumption)
        · walk_at "br"
          · obtain ⟨d, rfl⟩ : ∃ d', d = d' + 1 := ⟨d - 1, by omega⟩
            have hS : SB (d + 1) = 600 * 9 ^ d + 70 := rfl
            have hP : 9 ^ (d + 1) = 9 ^ d * 9 := Nat.pow_succ ..
            have hP8 : 8 ^ (d + 1) = 8 ^ d * 8 := Nat.pow_succ ..
            refine ih d rfl n p c q fu k xs' fs _ _ _ _ _ _ (by omega) (by omega) pl6 (by omega) eq6 ef6 (by omega) lf hf (by omega) (by omega) n3 n4 fun b1 nr7 h7 f7 sc7 rr7 t7 c7 gr7 pl7 r7 r8 v7 l7 k7 => ?_
            have et7 : h7[t]? = some (.lst (St.ds b)) := by walk_at "get"
            have eq7 : h7[q]? = some (.lst (xs'.map .str)) := by walk_at "get"
            have ef7 : h7[fu]? = some (.lst (fs.map fD)) := by walk_at "get"
            have k30 : Keep [p, q, t] h2 h7 := by walk_at "keep"
            walk_at "go"
            refine ih d rfl n p c q fu k xs' fs _ _ _ _ _ _ (by omega) (by omega) pl7 (by omega) eq7 ef7 (by omega) lf hf (by omega) (by omega) n3 n4 fun b2 nr8 h8 f8 sc8 rr8 t8 c8 gr8 pl8 r9 r10 v8 l8 k8 => ?_
            have et8 : h8[t]? = some (.lst (St.ds b)) := by walk_at "get"
            have eq8 : h8[q]? = some (.lst (xs'.map .str)) := by walk_at "get"
            have k28 : Keep [p, q, t] h2 h8 := by walk_at "keep"
            walk_at "go"
            rename_i h9 e9 l9 k9
            exact FIN (.ifs e b1 b2) xs' nr8 _ _ _ _ _ _ _ _ ⟨⟨f6, by omega⟩, f7, f8⟩ ⟨sc_mono (fun _ z => .inl z) (fun _ z => z) _ sc6, sscs_mono (fun x z => z.elim .inl fun q => .inr (List.mem_append.mpr (.inl q))) (fun _ z => z) _ sc7, sscs_mono (fun x z => z.elim .inl fun q => .inr (List.mem_append.mpr (.inr q))) (fun _ z => z) _ sc8⟩ (rr7.app rr8) (fun _ z => .inl z) (by simp only [St.ht]; omega) (by simp only [St.d, gr, grs]; omega) (pl8.mono k9 (by walk_at "mem") (by walk_at "mem")) (by omega) (by simp only [St.d, gr, grs]; omega) (by walk_at "get") (by omega) e9 (by omega) (by walk_at "keep") (by omega)
          · exact OUT _ _ _ _ _ _ _ _ (by assumption) (by assumption) (by assumption)
        · walk_at "br"
          · obtain ⟨d, rfl⟩ : ∃ d', d = d' + 1 := ⟨d - 1, by omega⟩
            have hS : SB (d + 1) = 600 * 9 ^ d + 70 := rfl
            have hP : 9 ^ (d + 1) = 9 ^ d * 9 := Nat.pow_succ ..
            have hP8 : 8 ^ (d + 1) = 8 ^ d * 8 := Nat.pow_succ ..
            refine ih d rfl n p c q fu k xs' fs _ _ _ _ _ _ (by omega) (by omega) pl6 (by omega) eq6 ef6 (by omega) lf hf (by omega) (by omega) n3 n4 fun b1 nr7 h7 f7 sc7 rr7 t7 c7 gr7 pl7 r7 r8 v7 l7 k7 => ?_
            have et7 : h7[t]? = some (.lst (St.ds b)) := by walk_at "get"
            have eq7 : h7[q]? = some (.lst (xs'.map .str)) := by walk_at "get"
            have k30 : Keep [p, q, t] h2 h7 := by walk_at "keep"
            walk_at "go"
            rename_i h9 e9 l9 k9
            exact FIN (.whl e b1) xs' nr7 _ _ _ _ _ _ _ _ ⟨⟨f6, by omega⟩, f7⟩ ⟨sc_mono (fun _ z => .inl z) (fun _ z => z) _ sc6, sc7⟩ rr7 (fun _ z => .inl z) (by simp only [St.ht]; omega) (by simp only [St.d, gr, grs]; omega) (pl7.mono k9 (by walk_at "mem") (by walk_at "mem")) (by omega) (by simp only [St.d, gr, grs]; omega) (by walk_at "get") (by omega) e9 (by omega) (by walk_at "keep") (by omega)
          · exact OUT _ _ _ _ _ _ _ _ (by assumption) (by assumption) (by assumption)
        · walk_at "br"
          · obtain ⟨d, rfl⟩ : ∃ d', d = d' + 1 := ⟨d - 1, by omega⟩
            have hS : SB (d + 1) = 600 * 9 ^ d + 70 := rfl
            have hP : 9 ^ (d + 1) = 9 ^ d * 9 := Nat.pow_succ ..
            have hP8 : 8 ^ (d + 1) = 8 ^ d * 8 := Nat.pow_succ ..
            refine ih d rfl n p c q fu k xs' fs _ _ _ _ _ _ (by omega) (by omega) pl6 (by omega) eq6 ef6 (by omega) lf hf (by omega) (by omega) n3 n4 fun b1 nr7 h7 f7 sc7 rr7 t7 c7 gr7 pl7 r7 r8 v7 l7 k7 => ?_
            have et7 : h7[t]? = some (.lst (St.ds b)) := by walk_at "get"
            have eq7 : h7[q]? = some (.lst (xs'.map .str)) := by walk_at "get"
            have k30 : Keep [p, q, t] h2 h7 := by walk_at "keep"
            walk_at "go"
            rename_i h9 e9 l9 k9
            exact FIN (.hold b1) xs' nr7 _ _ _ _ _ _ _ _ f7 sc7 rr7 (fun _ z => .inl z) (by simp only [St.ht]; omega) (by simp only [St.d, gr, grs]; omega) (pl7.mono k9 (by walk_at "mem") (by walk_at "mem")) (by omega) (by simp only [St.d, gr, grs]; omega) (by walk_at "get") (by omega) e9 (by omega) (by walk_at "keep") (by omega)
          · exact OUT _ _ _ _ _ _ _ _ (by assumption) (by assumption) (by assumption)
        · refine br_i (fun hc => ?_) (fun hc => ?_)
          · walk_at "go"
            cases bb with
            | true =>
              walk_at "go"
              exact OUT _ _ _ _ _ _ _ _ (by assumption) (by assumption) (by assumption)
            | false =>
              walk_at "go"
              rename_i h9 e9 l9 k9
              exact FIN (.ret e) xs' nr' _ _ _ _ _ _ _ _ ⟨f6, by omega⟩ (sc_mono (fun _ z => .inl z) (fun _ z => z) _ sc6) (Nat.le_refl _) (fun _ z => .inl z) (by simp only [St.ht]; omega) (by simp only [St.d, gr, grs]; omega) (pl6.mono k9 (by walk_at "mem") (by walk_at "mem")) (by omega) (by omega) (by walk_at "get") (by omega) e9 (by omega) (by walk_at "keep") (by omega)
          · walk_at "go"
            exact OUT _ _ _ _ _ _ _ _ (by assumption) (by assumption) (by assumption)
        · exact OUT _ _ _ _ _ _ _ _ (by assumption) (by assumption) (by assumption)
      · rintro σ h4 ⟨b, xs', nr', x8, x9, x10, x11, x12, x13, x14, rfl, hb, ff, scc, rr, inx, tt, gg, pl4, r0, r1, v1', lx', eq4, et4, l4, k4⟩
        simp only [List.length_nil] at hb
        have gb : b.length * SB d ≤ 4 * SB d := Nat.mul_le_mul_right _ (by omega)
        walk_at "go"
        refine w b nr' _ ff scc rr tt (by omega) (by omega) pl4 r0 r1 (by have : b.length * 8 ^ d ≤ 4 * 8 ^ d := Nat.mul_le_mul_right _ (by omega); omega) (by omega) (by walk_at "keep")
      · exact ⟨[], xs, nr, _, _, _, _, _, _, _, rfl, by rw [range_len]; simp, trivial, trivial, Nat.le_refl _, fun _ z => .inl z, by simp [St.bht], by simp [St.ds, grs], pl3, by omega, by omega, by simp, by omega, by walk_at "get", by walk_at "get", l3, by walk_at "keep"⟩
    walk_at "go"
    walk_at "br"
    · refine take_ok pl2 (by decide) (by decide) (by omega) fun v h3 v0 v1 pl3 l3 k3 => ?_
      walk_at "go"
      exact GO v.toNat h3 (by omega) pl3 l3 k3
    · refine take_ok pl2 (by decide) (by decide) (by omega) fun v h3 v0 v1 pl3 l3 k3 => ?_
      walk_at "go"
      exact GO (1 + v).toNat h3 (by omega) pl3 l3 k3
theorem blk_ok : ∀ d, BlkSpec d
  | 0 => blk_of 0 fun d' e => by omega
  | d + 1 => blk_of (d + 1) fun d' e => by
    obtain rfl : d = d' := by omega
    exact blk_ok d

end Lw

set_option Elab.async false
set_option linter.all false
set_option maxRecDepth 100000
set_option maxHeartbeats 1000000
namespace Lw
open PySem PySem.Spec PyProof.Rows L2 Mi
local macro_rules | `(tactic| walk_at "mem") => `(tactic| first | exact fun _ z => absurd z List.not_mem_nil | exact List.not_mem_nil | (intro i hi; simp only [List.mem_cons, List.not_mem_nil, or_false, false_or] at hi ⊢; omega) | (simp only [List.mem_cons, List.not_mem_nil, or_false, false_or, not_or]; omega))
local macro_rules | `(tactic| walk_at "get") => `(tactic| first | assumption | (apply Keep.get; assumption; walk_at "get"; walk_at "mem"))
local macro_rules | `(tactic| walk_at "keep") => `(tactic| first | assumption | exact Keep.refl | (apply Keep.step; assumption; walk_at "keep"; walk_at "mem"))
local macro_rules | `(tactic| walk_at "one") => `(tactic| (conv => whnf) <;> first
  | (apply br_t; rfl)
  | (apply br_f; rfl)
  | (apply rdO_i; walk_at "get")
  | (apply itm_i; first | rfl | assumption | exact getAt_end _ _)
  | (apply new_i; intro p h' e1 l1 l2 l3 k)
  | (apply put_i; walk_at "get"; intro h' e1 l1 k)
  | (apply iLst_i; first | rfl | exact intsOf_map _)
  | (apply chk_i; first | rfl | exact lenOk_le (by simp only [List.length_map, List.length_cons, List.length_append, List.length_take, List.length_nil, List.length_replicate, List.length_dropLast]; omega) | exact small_lt (by simp only [List.length_map, List.length_cons, List.length_append, List.length_take, List.length_nil, List.length_replicate, List.length_dropLast]; omega) | assumption | exact mulOk_r (by decide) | exact mulOk_l (by decide) | exact lenOk_le (by omega) | exact small_lt (by omega) | (simp; omega)))
local macro_rules | `(tactic| walk_at "go") => `(tactic| (repeat walk_at "one"); try (conv => whnf))

/-! ### plain facts of values -/
theorem ep_gr9 {e : Ep} (f : e.fit) (h : e.ht ≤ 9) : gr e.d < 50000 := by
  have := ep_gr e f
  have : 3 ^ e.ht ≤ 3 ^ 9 := Nat.pow_le_pow_right (by omega) h
  omega
mutual
theorem ep_pln : ∀ e : Ep, pln e.d = true
  | .num _ => rfl
  | .nam _ => rfl
  | .inn => rfl
  | .op o a b => by simp [Ep.d, pln, plns, ep_pln a, ep_pln b]
  | .call x as => by simp [Ep.d, pln, plns, ep_plns as]
theorem ep_plns : ∀ as : List Ep, plns (Ep.ds as) = true
  | [] => rfl
  | a :: as => by simp [Ep.ds, plns, ep_pln a, ep_plns as]
end
mutual
theorem st_pln : ∀ s : St, pln s.d = true
  | .var x e => by simp [St.d, pln, plns, ep_pln]
  | .set x e => by simp [St.d, pln, plns, ep_pln]
  | .call x as => by simp [St.d, pln, plns, ep_plns]
  | .hold b => by simp [St.d, pln, plns, st_plns b]
  | .whl e b => by simp [St.d, pln, plns, ep_pln, st_plns b]
  | .ifs e b c => by simp [St.d, pln, plns, ep_pln, st_plns b, st_plns c]
  | .ret e => by simp [St.d, pln, plns, ep_pln]
  | .out e => by simp [St.d, pln, plns, ep_pln]
theorem st_plns : ∀ b : List St, plns (St.ds b) = true
  | [] => rfl
  | s :: b => by simp [St.ds, plns, st_pln s, st_plns b]
end
theorem ds_map : ∀ as : List Ep, Ep.ds as = as.map Ep.d
  | [] => rfl
  | a :: as => by show a.d :: Ep.ds as = _; rw [ds_map as]; rfl
theorem sds_map : ∀ b : List St, St.ds b = b.map St.d
  | [] => rfl
  | a :: as => by show a.d :: St.ds as = _; rw [sds_map as]; rfl
theorem fits_mem : ∀ {as : List Ep} {a : Ep}, Ep.fits as → a ∈ as → a.fit
  | b :: as, a, f, m => by
    rcases List.mem_cons.mp m with rfl | m
    · exact f.1
    · exact fits_mem f.2 m
theorem hts_mem : ∀ {as : List Ep} {a : Ep}, a ∈ as → a.ht ≤ Ep.hts as
  | b :: as, a, m => by
    show a.ht ≤ max b.ht (Ep.hts as)
    rcases List.mem_cons.mp m with rfl | m
    · omega
    · have := hts_mem m; omega
theorem sfits_mem : ∀ {as : List St} {a : St}, St.fits as → a ∈ as → a.fit
  | b :: as, a, f, m => by
    rcases List.mem_cons.mp m with rfl | m
    · exact f.1
    · exact sfits_mem f.2 m
theorem bht_mem : ∀ {as : List St} {a : St}, a ∈ as → a.ht ≤ St.bht as
  | b :: as, a, m => by
    show a.ht ≤ max b.ht (St.bht as)
    rcases List.mem_cons.mp m with rfl | m
    · omega
    · have := bht_mem m; omega
theorem ht_pos : ∀ e : Ep, 1 ≤ e.ht
  | .op _ x y => by simp [Ep.ht]
  | .call _ as => by simp [Ep.ht]
  | .num _ => by simp [Ep.ht]
  | .nam _ => by simp [Ep.ht]
  | .inn => by simp [Ep.ht]
/-! ### names exchanged -/
mutual
def Ep.ren (ν φ : Str → Str) : Ep → Ep
  | .num n => .num n
  | .nam x => .nam (ν x)
  | .inn => .inn
  | .op o a b => .op o (a.ren ν φ) (b.ren ν φ)
  | .call x as => .call (φ x) (Ep.rens ν φ as)
def Ep.rens (ν φ : Str → Str) : List Ep → List Ep
  | [] => []
  | a :: as => a.ren ν φ :: Ep.rens ν φ as
end
mutual
def St.ren (ν φ : Str → Str) : St → St
  | .var x e => .var (ν x) (e.ren ν φ)
  | .set x e => .set (ν x) (e.ren ν φ)
  | .call x as => .call (φ x) (Ep.rens ν φ as)
  | .hold b => .hold (St.rens ν φ b)
  | .whl e b => .whl (e.ren ν φ) (St.rens ν φ b)
  | .ifs e b c => .ifs (e.ren ν φ) (St.rens ν φ b) (St.rens ν φ c)
  | .ret e => .ret (e.ren ν φ)
  | .out e => .out (e.ren ν φ)
def St.rens (ν φ : Str → Str) : List St → List St
  | [] => []
  | s :: b => s.ren ν φ :: St.rens ν φ b
end
section
variable (ν φ : Str → Str)
theorem rens_map : ∀ as : List Ep, Ep.rens ν φ as = as.map (Ep.ren ν φ)
  | [] => rfl
  | a :: as => by show a.ren ν φ :: Ep.rens ν φ as = _; rw [rens_map as]; rfl
theorem srens_map : ∀ as : List St, St.rens ν φ as = as.map (St.ren ν φ)
  | [] => rfl
  | a :: as => by show a.ren ν φ :: St.rens ν φ as = _; rw [srens_map as]; rfl
mutual
theorem ren_fit : ∀ e : Ep, e.fit → (e.ren ν φ).fit
  | .num _, f => f
  | .nam _, _ => trivial
  | .inn, _ => trivial
  | .op _ a b, f => ⟨ren_fit a f.1, ren_fit b f.2⟩
  | .call _ as, f => ⟨by rw [rens_map, List.length_map]; exact f.1, rens_fit as f.2⟩
theorem rens_fit : ∀ as : List Ep, Ep.fits as → Ep.fits (Ep.rens ν φ as)
  | [], _ => trivial
  | a :: as, f => ⟨ren_fit a f.1, rens_fit as f.2⟩
end
mutual
theorem ren_ht : ∀ e : Ep, (e.ren ν φ).ht = e.ht
  | .num _ => rfl
  | .nam _ => rfl
  | .inn => rfl
  | .op _ a b => by simp only [Ep.ren, Ep.ht, ren_ht a, ren_ht b]
  | .call _ as => by simp only [Ep.ren, Ep.ht, rens_ht as]
theorem rens_ht : ∀ as : List Ep, Ep.hts (Ep.rens ν φ as) = Ep.hts as
  | [] => rfl
  | a :: as => by simp only [Ep.rens, Ep.hts, ren_ht a, rens_ht as]
end
mutual
theorem ren_gr : ∀ e : Ep, gr (e.ren ν φ).d = gr e.d
  | .num _ => rfl
  | .nam _ => rfl
  | .inn => rfl
  | .op _ a b => by simp only [Ep.ren, Ep.d, gr, grs, ren_gr a, ren_gr b]
  | .call _ as => by simp only [Ep.ren, Ep.d, gr, grs, rens_gr as]
theorem rens_gr : ∀ as : List Ep, grs (Ep.ds (Ep.rens ν φ as)) = grs (Ep.ds as)
  | [] => rfl
  | a :: as => by simp only [Ep.rens, Ep.ds, grs, ren_gr a, rens_gr as]
end
mutual
theorem sren_fit : ∀ s : St, s.fit → (s.ren ν φ).fit
  | .var x e, f => ⟨ren_fit ν φ e f.1, by rw [ren_ht]; exact f.2⟩
  | .set x e, f => ⟨ren_fit ν φ e f.1, by rw [ren_ht]; exact f.2⟩
  | .call x as, f => ⟨ren_fit ν φ (.call x as) f.1, Nat.le_trans (Nat.le_of_eq (ren_ht ν φ (.call x as))) f.2⟩
  | .hold b, f => srens_fit b f
  | .whl e b, f => ⟨⟨ren_fit ν φ e f.1.1, by rw [ren_ht]; exact f.1.2⟩, srens_fit b f.2⟩
  | .ifs e b c, f => ⟨⟨ren_fit ν φ e f.1.1, by rw [ren_ht]; exact f.1.2⟩, srens_fit b f.2.1, srens_fit c f.2.2⟩
  | .ret e, f => ⟨ren_fit ν φ e f.1, by rw [ren_ht]; exact f.2⟩
  | .out e, f => ⟨ren_fit ν φ e f.1, by rw [ren_ht]; exact f.2⟩
theorem srens_fit : ∀ b : List St, St.fits b → St.fits (St.rens ν φ b)
  | [], _ => trivial
  | s :: b, f => ⟨sren_fit s f.1, srens_fit b f.2⟩
end
mutual
theorem sren_ht : ∀ s : St, (s.ren ν φ).ht = s.ht
  | .var x e => rfl
  | .set x e => rfl
  | .call x as => rfl
  | .hold b => by simp only [St.ren, St.ht, srens_ht b]
  | .whl e b => by simp only [St.ren, St.ht, srens_ht b]
  | .ifs e b c => by simp only [St.ren, St.ht, srens_ht b, srens_ht c]
  | .ret e => rfl
  | .out e => rfl
theorem srens_ht : ∀ b : List St, St.bht (St.rens ν φ b) = St.bht b
  | [] => rfl
  | s :: b => by simp only [St.rens, St.bht, sren_ht s, srens_ht b]
end
mutual
theorem sren_gr : ∀ s : St, gr (s.ren ν φ).d = gr s.d
  | .var x e => by simp only [St.ren, St.d, gr, grs, ren_gr]
  | .set x e => by simp only [St.ren, St.d, gr, grs, ren_gr]
  | .call x as => by simp only [St.ren, St.d, gr, grs, rens_gr]
  | .hold b => by simp only [St.ren, St.d, gr, grs, srens_gr b]
  | .whl e b => by simp only [St.ren, St.d, gr, grs, ren_gr, srens_gr b]
  | .ifs e b c => by simp only [St.ren, St.d, gr, grs, ren_gr, srens_gr b, srens_gr c]
  | .ret e => by simp only [St.ren, St.d, gr, grs, ren_gr]
  | .out e => by simp only [St.ren, St.d, gr, grs, ren_gr]
theorem srens_gr : ∀ b : List St, grs (St.ds (St.rens ν φ b)) = grs (St.ds b)
  | [] => rfl
  | s :: b => by simp only [St.rens, St.ds, grs, sren_gr s, srens_gr b]
end
mutual
theorem vars_ren : ∀ s : St, (s.ren ν φ).vars = s.vars.map ν
  | .var x e => rfl
  | .set x e => rfl
  | .call x as => rfl
  | .hold b => bvars_ren b
  | .whl e b => bvars_ren b
  | .ifs e b c => by simp only [St.ren, St.vars, bvars_ren b, bvars_ren c, List.map_append]
  | .ret e => rfl
  | .out e => rfl
theorem bvars_ren : ∀ b : List St, St.bvars (St.rens ν φ b) = (St.bvars b).map ν
  | [] => rfl
  | s :: b => by simp only [St.rens, St.bvars, vars_ren s, bvars_ren b, List.map_append]
end
end
section
variable {P F : Str → Prop} {ν φ ν' φ' ν2 φ2 : Str → Str}
mutual
theorem ren_comp (hp : ∀ x, P x → ν' (ν x) = ν2 x) (hf : ∀ x, F x → φ' (φ x) = φ2 x) : ∀ e : Ep, e.sc P F → (e.ren ν φ).ren ν' φ' = e.ren ν2 φ2
  | .num _, _ => rfl
  | .nam x, h => by simp only [Ep.ren, hp x h]
  | .inn, _ => rfl
  | .op o a b, h => by simp only [Ep.ren, ren_comp hp hf a h.1, ren_comp hp hf b h.2]
  | .call x as, h => by simp only [Ep.ren, hf x h.1, rens_comp hp hf as h.2]
theorem rens_comp (hp : ∀ x, P x → ν' (ν x) = ν2 x) (hf : ∀ x, F x → φ' (φ x) = φ2 x) : ∀ as : List Ep, Ep.scs P F as → Ep.rens ν' φ' (Ep.rens ν φ as) = Ep.rens ν2 φ2 as
  | [], _ => rfl
  | a :: as, h => by simp only [Ep.rens, ren_comp hp hf a h.1, rens_comp hp hf as h.2]
end
mutual
theorem sren_comp (hp : ∀ x, P x → ν' (ν x) = ν2 x) (hf : ∀ x, F x → φ' (φ x) = φ2 x) : ∀ s : St, s.sc P F → (s.ren ν φ).ren ν' φ' = s.ren ν2 φ2
  | .var x e, h => by simp only [St.ren, hp x h.1, ren_comp hp hf e h.2]
  | .set x e, h => by simp only [St.ren, hp x h.1, ren_comp hp hf e h.2]
  | .call x as, h => by simp only [St.ren, hf x h.1, rens_comp hp hf as h.2]
  | .hold b, h => by simp only [St.ren, srens_comp hp hf b h]
  | .whl e b, h => by simp only [St.ren, ren_comp hp hf e h.1, srens_comp hp hf b h.2]
  | .ifs e b c, h => by simp only [St.ren, ren_comp hp hf e h.1, srens_comp hp hf b h.2.1, srens_comp hp hf c h.2.2]
  | .ret e, h => by simp only [St.ren, ren_comp hp hf e h]
  | .out e, h => by simp only [St.ren, ren_comp hp hf e h]
theorem srens_comp (hp : ∀ x, P x → ν' (ν x) = ν2 x) (hf : ∀ x, F x → φ' (φ x) = φ2 x) : ∀ b : List St, St.scs P F b → St.rens ν' φ' (St.rens ν φ b) = St.rens ν2 φ2 b
  | [], _ => rfl
  | s :: b, h => by simp only [St.rens, sren_comp hp hf s h.1, srens_comp hp hf b h.2]
end
end
/-! ### tables of names -/
abbrev Tab := Str → Option Str
def upF (f : Tab) (x v : Str) : Tab := fun y => if y = x then some v else f y
/-- names told by a beginning and their number from k -/
def ins (l : Str) : Nat → List Str → Tab → Tab
  | _, [], f => f
  | k, x :: xs, f => ins l (k + 1) xs (upF f x (l ++ st k))
def gd (f : Tab) : Str → Str := fun y => (f y).getD y
def nul : Tab := fun _ => none
theorem ins_not : ∀ {xs : List Str} {l : Str} {k : Nat} {f : Tab} {x : Str}, x ∉ xs → ins l k xs f x = f x
  | [], _, _, _, _, _ => rfl
  | y :: ys, l, k, f, x, h => by
    unfold ins
    rw [ins_not fun m => h (List.mem_cons_of_mem _ m)]
    unfold upF
    rw [if_neg fun e => h (by rw [e]; exact List.mem_cons_self)]
theorem ins_at : ∀ {xs : List Str} {l : Str} {k : Nat} {f : Tab} {x : Str} {i : Nat}, xs.Nodup → xs[i]? = some x → ins l k xs f x = some (l ++ st (k + i : Nat))
  | [], _, _, _, _, _, _, e => by simp at e
  | y :: ys, l, k, f, x, 0, n, e => by
    simp at e
    subst e
    unfold ins
    rw [ins_not (List.nodup_cons.mp n).1]
    unfold upF
    rw [if_pos rfl]
    rfl
  | y :: ys, l, k, f, x, i + 1, n, e => by
    unfold ins
    rw [ins_at (i := i) (List.nodup_cons.mp n).2 (by simpa using e)]
    have : k + 1 + i = k + (i + 1) := by omega
    rw [this]
theorem ins_some : ∀ {xs : List Str} {l : Str} {k : Nat} {f : Tab} {x : Str}, x ∈ xs → ∃ v, ins l k xs f x = some v
  | y :: ys, l, k, f, x, m => by
    unfold ins
    by_cases h : x ∈ ys
    · exact ins_some h
    · rw [ins_not h]
      rcases List.mem_cons.mp m with rfl | m
      · exact ⟨_, if_pos rfl⟩
      · exact absurd m h
theorem ins_or : ∀ {xs : List Str} {l : Str} {k : Nat} {f g : Tab} (x : Str), ins l k xs (fun y => (f y).or (g y)) x = (ins l k xs f x).or (g x)
  | [], _, _, _, _, _ => rfl
  | y :: ys, l, k, f, g, x => by
    unfold ins
    have e : upF (fun y => (f y).or (g y)) y (l ++ st k) = fun z => (upF f y (l ++ st k) z).or (g z) := by
      funext z
      unfold upF
      split <;> rfl
    rw [e, ins_or]
/-- the images of a row of names -/
def img (l : Str) (q n : Nat) : List Str := (List.range n).map fun i => l ++ st (q + i : Nat)
theorem img_at {l : Str} {q n i : Nat} (h : i < n) : (img l q n)[i]? = some (l ++ st (q + i : Nat)) := by
  unfold img
  rw [List.getElem?_map, List.getElem?_range h]
  rfl
theorem img_len {l : Str} {q n : Nat} : (img l q n).length = n := by simp [img]
theorem img_mem {l : Str} {q n : Nat} {x : Str} (h : x ∈ img l q n) : ∃ i, i < n ∧ x = l ++ st (q + i : Nat) := by
  obtain ⟨i, hi, rfl⟩ := List.mem_map.mp h
  exact ⟨i, List.mem_range.mp hi, rfl⟩
theorem img_nodup {l : Str} {q n : Nat} : (img l q n).Nodup := by
  unfold img
  refine List.nodup_iff_pairwise_ne.mpr ?_
  rw [List.pairwise_map]
  refine List.Pairwise.imp ?_ (List.nodup_iff_pairwise_ne.mp List.nodup_range)
  intro a b h e
  have := st_inj (str_app_inj e)
  omega
theorem img_map {l : Str} {k : Nat} {xs : List Str} {f : Tab} (n : xs.Nodup) : xs.map (gd (ins l k xs f)) = img l k xs.length := by
  refine List.ext_getElem? fun i => ?_
  rw [List.getElem?_map]
  by_cases h : i < xs.length
  · rw [img_at h, List.getElem?_eq_getElem h]
    show some (gd _ xs[i]) = _
    unfold gd
    rw [ins_at n (List.getElem?_eq_getElem h)]
    rfl
  · rw [List.getElem?_eq_none (by omega), List.getElem?_eq_none (by rw [img_len]; omega)]
    rfl
/-- three rows of names, one behind the other -/
def T3 (c p l : Str) (q : Nat) (ns ps vs : List Str) : Tab := ins l q vs (ins p 0 ps (ins c 0 ns nul))
theorem T3_v {c p l : Str} {q : Nat} {ns ps vs : List Str} {i : Nat} {x : Str} (n : vs.Nodup) (e : vs[i]? = some x) : gd (T3 c p l q ns ps vs) x = l ++ st (q + i : Nat) := by
  unfold gd T3
  rw [ins_at n e]
  rfl
theorem T3_p {c p l : Str} {q : Nat} {ns ps vs : List Str} {i : Nat} {x : Str} (hv : x ∉ vs) (n : ps.Nodup) (e : ps[i]? = some x) : gd (T3 c p l q ns ps vs) x = p ++ st (i : Nat) := by
  unfold gd T3
  rw [ins_not hv, ins_at n e, Nat.zero_add]
  rfl
theorem T3_c {c p l : Str} {q : Nat} {ns ps vs : List Str} {i : Nat} {x : Str} (hv : x ∉ vs) (hp : x ∉ ps) (n : ns.Nodup) (e : ns[i]? = some x) : gd (T3 c p l q ns ps vs) x = c ++ st (i : Nat) := by
  unfold gd T3
  rw [ins_not hv, ins_not hp, ins_at n e, Nat.zero_add]
  rfl
/-- told anew, and tidy: as tidy at once -/
theorem T3_tidy {c p l g r x0 : Str} {q : Nat} {ns ps vs : List Str} (nd : (ns ++ ps ++ vs).Nodup) (im : (img c 0 ns.length ++ img p 0 ps.length ++ img l q vs.length).Nodup) (x : Str) (hx : x ∈ ns ++ ps ++ vs) :
    gd (T3 g r x0 0 (img c 0 ns.length) (img p 0 ps.length) (img l q vs.length)) (gd (T3 c p l q ns ps vs) x) = gd (T3 g r x0 0 ns ps vs) x := by
  obtain ⟨nd1, nv, dv⟩ := List.nodup_append.mp nd
  obtain ⟨nn, np, dp⟩ := List.nodup_append.mp nd1
  obtain ⟨im1, iv, jv⟩ := List.nodup_append.mp im
  obtain ⟨inn, ip, jp⟩ := List.nodup_append.mp im1
  rcases List.mem_append.mp hx with hx | hx
  · have hv : x ∉ vs := fun m => dv x hx x m rfl
    rcases List.mem_append.mp hx with hx | hx
    · have hp : x ∉ ps := fun m => dp x hx x m rfl
      obtain ⟨i, ei⟩ := List.mem_iff_getElem?.mp hx
      have hi := (List.getElem?_eq_some_iff.mp ei).1
      rw [T3_c hv hp nn ei, T3_c hv hp nn ei]
      have e2 := img_at (l := c) (q := 0) hi
      rw [Nat.zero_add] at e2
      have m2 := List.mem_iff_getElem?.mpr ⟨i, e2⟩
      exact T3_c (fun m => jv _ (List.mem_append.mpr (.inl m2)) _ m rfl) (fun m => jp _ m2 _ m rfl) inn e2
    · obtain ⟨i, ei⟩ := List.mem_iff_getElem?.mp hx
      have hi := (List.getElem?_eq_some_iff.mp ei).1
      rw [T3_p hv np ei, T3_p hv np ei]
      have e2 := img_at (l := p) (q := 0) hi
      rw [Nat.zero_add] at e2
      have m2 := List.mem_iff_getElem?.mpr ⟨i, e2⟩
      exact T3_p (fun m => jv _ (List.mem_append.mpr (.inr m2)) _ m rfl) ip e2
  · obtain ⟨i, ei⟩ := List.mem_iff_getElem?.mp hx
    have hi := (List.getElem?_eq_some_iff.mp ei).1
    rw [T3_v nv ei, T3_v nv ei]
    have e2 := img_at (l := l) (q := q) hi
    exact T3_v iv e2

end Lw

set_option Elab.async false
set_option linter.all false
set_option maxRecDepth 100000
set_option maxHeartbeats 1000000
namespace Lw
open PySem PySem.Spec PyProof.Rows L2 Mi
local macro_rules | `(tactic| walk_at "mem") => `(tactic| first | exact fun _ z => absurd z List.not_mem_nil | exact List.not_mem_nil | (intro i hi; simp only [List.mem_cons, List.not_mem_nil, or_false, false_or] at hi ⊢; omega) | (simp only [List.mem_cons, List.not_mem_nil, or_false, false_or, not_or]; omega))
local macro_rules | `(tactic| walk_at "get") => `(tactic| first | assumption | (apply Keep.get; assumption; walk_at "get"; walk_at "mem"))
local macro_rules | `(tactic| walk_at "keep") => `(tactic| first | assumption | exact Keep.refl | (apply Keep.step; assumption; walk_at "keep"; walk_at "mem"))
local macro_rules | `(tactic| walk_at "one") => `(tactic| (conv => whnf) <;> first
  | (apply br_t; rfl)
  | (apply br_f; rfl)
  | (apply rdO_i; walk_at "get")
  | (apply itm_i; first | rfl | assumption | exact getAt_end _ _)
  | (apply gtD_i; assumption)
  | (apply new_i; intro p h' e1 l1 l2 l3 k)
  | (apply put_i; walk_at "get"; intro h' e1 l1 k)
  | (apply iLst_i; first | rfl | exact intsOf_map _)
  | (apply chk_i; first | rfl | exact lenOk_le (by simp only [List.length_map, List.length_cons, List.length_append, List.length_take, List.length_nil, List.length_replicate, List.length_dropLast]; omega) | exact small_lt (by simp only [List.length_map, List.length_cons, List.length_append, List.length_take, List.length_nil, List.length_replicate, List.length_dropLast]; omega) | assumption | exact mulOk_r (by decide) | exact mulOk_l (by decide) | exact lenOk_le (by omega) | exact small_lt (by omega) | (simp; omega)))
local macro_rules | `(tactic| walk_at "go") => `(tactic| (repeat walk_at "one"); try (conv => whnf))
local macro_rules | `(tactic| walk_at "br") => `(tactic| (refine br_i (fun hc => ?_) (fun hc => ?_) <;> simp only [Bool.not_eq_true', Bool.not_eq_false', beq_iff_eq, beq_eq_false_iff_ne, ne_eq, decide_eq_true_eq, decide_eq_false_iff_not, bne_iff_ne, bne_eq_false_iff_eq] at hc) <;> first | (exfalso; omega) | walk_at "go")

/-! ### trees -/
def bD (b : List St) : D := .tup (St.ds b)
structure Tr where
  cells : List (Str × Int)
  funs : List (Str × List Str × List St)
  ons : List (Int × List St)
  main : List St
def cD (c : Str × Int) : D := .tup [.str c.1, .int c.2]
def fuD (f : Str × List Str × List St) : D := .tup [.str f.1, .tup (f.2.1.map .str), bD f.2.2]
def oD (o : Int × List St) : D := .tup [.int o.1, bD o.2]
def Tr.d (t : Tr) : D := .tup [.tup (t.cells.map cD), .tup (t.funs.map fuD), .tup (t.ons.map oD), bD t.main]
def bOk (b : List St) : Prop := St.fits b ∧ St.bht b ≤ 6 ∧ grs (St.ds b) ≤ 400000
theorem bOk_i {b : List St} (f : St.fits b) (t : St.bht b ≤ 6) (g : grs (St.ds b) ≤ 400000) : bOk b := ⟨f, t, g⟩
structure Tr.ok (t : Tr) : Prop where
  c : t.cells.length ≤ 3
  f : t.funs.length ≤ 5
  o : t.ons.length ≤ 4
  fb : ∀ f ∈ t.funs, (f.2.1.length ≤ 3 ∧ f.2.1.Nodup) ∧ bOk f.2.2
  ob : ∀ o ∈ t.ons, bOk o.2
  m : bOk t.main
/-- names are made once, and all that is named is there -/
structure Tr.good (t : Tr) : Prop where
  cn : (t.cells.map (·.1)).Nodup
  fn : (t.funs.map (·.1)).Nodup
  fg : ∀ f ∈ t.funs, (t.cells.map (·.1) ++ f.2.1 ++ St.bvars f.2.2).Nodup ∧ St.scs (· ∈ t.cells.map (·.1) ++ f.2.1 ++ St.bvars f.2.2) (· ∈ t.funs.map (·.1)) f.2.2
  og : ∀ o ∈ t.ons, (t.cells.map (·.1) ++ St.bvars o.2).Nodup ∧ St.scs (· ∈ t.cells.map (·.1) ++ St.bvars o.2) (· ∈ t.funs.map (·.1)) o.2
  mg : (t.cells.map (·.1) ++ St.bvars t.main).Nodup ∧ St.scs (· ∈ t.cells.map (·.1) ++ St.bvars t.main) (· ∈ t.funs.map (·.1)) t.main
  wd : ∀ x, (x ∈ t.cells.map (·.1) ∨ x ∈ t.funs.map (·.1) ∨ x ∈ St.bvars t.main) → ∃ k, Nm x k
/-- all the names that funs bring -/
def nmsF (fl : List (Str × List Str × List St)) : List Str := (fl.map fun f => f.2.1 ++ [f.1] ++ St.bvars f.2.2).flatten
theorem Rise.len : ∀ {xs : List Str} {lo hi : Nat}, Rise lo xs hi → lo + xs.length ≤ hi
  | [], _, _, h => h
  | x :: xs, lo, hi, ⟨k, h1, _, h3⟩ => by
    have := h3.len
    simp only [List.length_cons]
    omega
def PF (lo hi : Nat) (fl : List (Str × List Str × List St)) : Prop := (nmsF fl).Nodup ∧ (nmsF fl).length ≤ 2000 ∧ ∀ x ∈ nmsF fl, ∃ k, lo < k ∧ k ≤ hi ∧ Nm x k
theorem PF.of {lo hi : Nat} {fl : List (Str × List Str × List St)} (r : Rise lo (nmsF fl) hi) (h : hi ≤ lo + 2000) : PF lo hi fl := ⟨r.nodup, by have := r.len; omega, fun x m => r.mem m⟩
theorem nmsF_perm {a b : List (Str × List Str × List St)} (p : a.Perm b) : (nmsF a).Perm (nmsF b) := (p.map _).flatten
theorem PF.reverse {lo hi : Nat} {fl : List (Str × List Str × List St)} (f : PF lo hi fl) : PF lo hi fl.reverse :=
  have p := nmsF_perm (List.reverse_perm fl)
  ⟨p.nodup_iff.mpr f.1, by rw [p.length_eq]; exact f.2.1, fun x m => f.2.2 x (p.mem_iff.mp m)⟩
theorem nmsF_mem {fl : List (Str × List Str × List St)} {f : Str × List Str × List St} {x : Str} (m : f ∈ fl) (h : x ∈ f.2.1 ++ [f.1] ++ St.bvars f.2.2) : x ∈ nmsF fl := List.mem_flatten.mpr ⟨_, List.mem_map_of_mem m, h⟩
theorem nmsF_len : ∀ {fl : List (Str × List Str × List St)} {f : Str × List Str × List St}, f ∈ fl → (f.2.1 ++ St.bvars f.2.2).length ≤ (nmsF fl).length
  | [], _, m => absurd m List.not_mem_nil
  | e :: fl, f, m => by
    have h : (nmsF (e :: fl)).length = (e.2.1 ++ [e.1] ++ St.bvars e.2.2).length + (nmsF fl).length := by simp [nmsF]; omega
    rw [h]
    rcases List.mem_cons.mp m with rfl | m
    · simp only [List.length_append, List.length_singleton]; omega
    · have := nmsF_len m; omega
theorem nmsF_apart : ∀ {fl : List (Str × List Str × List St)} {f g : Str × List Str × List St}, (nmsF fl).Nodup → f ∈ fl → g ∈ fl → f.1 ∉ g.2.1 ++ St.bvars g.2.2
  | [], _, _, _, m, _ => absurd m List.not_mem_nil
  | e :: fl, f, g, nd, mf, mg => by
    have nd' : ((e.2.1 ++ [e.1] ++ St.bvars e.2.2) ++ nmsF fl).Nodup := nd
    obtain ⟨n1, n2, n3⟩ := List.nodup_append.mp nd'
    intro h
    have hg : f.1 ∈ g.2.1 ++ [g.1] ++ St.bvars g.2.2 := by
      rcases List.mem_append.mp h with h | h <;> simp [h]
    have hf : f.1 ∈ f.2.1 ++ [f.1] ++ St.bvars f.2.2 := by simp
    rcases List.mem_cons.mp mf with rfl | uf <;> rcases List.mem_cons.mp mg with rfl | ug
    · obtain ⟨m1, m2, m3⟩ := List.nodup_append.mp n1
      obtain ⟨m4, m5, m6⟩ := List.nodup_append.mp m1
      rcases List.mem_append.mp h with h | h
      · exact m6 _ h _ (List.mem_singleton_self _) rfl
      · exact m3 _ (by simp) _ h rfl
    · exact n3 _ hf _ (nmsF_mem ug hg) rfl
    · exact n3 _ hg _ (nmsF_mem uf hf) rfl
    · exact nmsF_apart n2 uf ug h
/-- whose names they are, and that funs' names are no part's -/
structure TN (hi : Nat) (t : Tr) : Prop where
  c : ∀ x ∈ t.cells.map (·.1), ∃ k, k ≤ hi ∧ Nm x k
  f : ∀ f ∈ t.funs, ∀ x ∈ f.2.1 ++ [f.1] ++ St.bvars f.2.2, ∃ k, k ≤ hi ∧ Nm x k
  o : ∀ o ∈ t.ons, ∀ x ∈ St.bvars o.2, ∃ k, k ≤ hi ∧ Nm x k
  m : ∀ x ∈ St.bvars t.main, ∃ k, k ≤ hi ∧ Nm x k
  lf : ∀ f ∈ t.funs, (f.2.1 ++ St.bvars f.2.2).length ≤ 3000
  lo : ∀ o ∈ t.ons, (St.bvars o.2).length ≤ 3000
  lm : (St.bvars t.main).length ≤ 3000
  xc : ∀ f ∈ t.funs, f.1 ∉ t.cells.map (·.1)
  xf : ∀ f ∈ t.funs, ∀ g ∈ t.funs, f.1 ∉ g.2.1 ++ St.bvars g.2.2
  xo : ∀ f ∈ t.funs, ∀ o ∈ t.ons, f.1 ∉ St.bvars o.2
  xm : ∀ f ∈ t.funs, f.1 ∉ St.bvars t.main
theorem TN_i {r1 nr nr2 nr3 : Nat} {cs : List (Str × Int)} {fl : List (Str × List Str × List St)} {os : List (Int × List St)} {b : List St} (cg : Rise 0 (cs.map (·.1)) r1) (pf : PF r1 nr fl)
    (ok : ∀ o ∈ os, ∃ c d, nr ≤ c ∧ Rise c (St.bvars o.2) d ∧ d ≤ nr2) (rr : Rise nr2 (St.bvars b) nr3) (h : nr ≤ nr2) (r0 : r1 ≤ nr) (h8 : nr2 ≤ nr + 2000) (h9 : nr3 ≤ nr2 + 3000) : TN nr3 ⟨cs, fl, os, b⟩ := by
  have h3 := rr.le
  have fk : ∀ f ∈ fl, ∃ k, r1 < k ∧ k ≤ nr ∧ Nm f.1 k := fun f m => pf.2.2 _ (nmsF_mem m (by simp))
  refine ⟨fun x m => ?_, fun f m x hx => ?_, fun o m x hx => ?_, fun x m => ?_, fun f m => Nat.le_trans (nmsF_len m) (by have := pf.2.1; show (nmsF fl).length ≤ 3000; omega), fun o m => ?_, by have := rr.len; show (St.bvars b).length ≤ 3000; omega, fun f m hx => ?_, fun f m g mg => nmsF_apart pf.1 m mg, fun f m o mo hx => ?_, fun f m hx => ?_⟩
  · obtain ⟨k, _, e2, e3⟩ := cg.mem m
    exact ⟨k, by omega, e3⟩
  · obtain ⟨k, _, e2, e3⟩ := pf.2.2 x (nmsF_mem m hx)
    exact ⟨k, by omega, e3⟩
  · obtain ⟨c, d, e1, e2, e3⟩ := ok o m
    obtain ⟨k, _, e4, e5⟩ := e2.mem hx
    exact ⟨k, by omega, e5⟩
  · obtain ⟨k, _, e2, e3⟩ := rr.mem m
    exact ⟨k, e2, e3⟩
  · obtain ⟨c, d, e1, e2, e3⟩ := ok o m
    have := e2.len
    omega
  · obtain ⟨k, e1, e2, e3⟩ := fk f m
    obtain ⟨j, e4, e5, e6⟩ := cg.mem hx
    have := e3.inj e6
    omega
  · obtain ⟨k, e1, e2, e3⟩ := fk f m
    obtain ⟨c, d, e7, e8, e9⟩ := ok o mo
    obtain ⟨j, e4, e5, e6⟩ := e8.mem hx
    have := e3.inj e6
    omega
  · obtain ⟨k, e1, e2, e3⟩ := fk f m
    obtain ⟨j, e4, e5, e6⟩ := rr.mem hx
    have := e3.inj e6
    omega
def FG (r1 : Nat) (nms fns : List Str) (f : Str × List Str × List St) : Prop :=
  (∃ a b c d, r1 ≤ a ∧ Rise a f.2.1 b ∧ b ≤ c ∧ Rise c (St.bvars f.2.2) d) ∧ St.scs (fun x => x ∈ nms ++ f.2.1 ∨ x ∈ St.bvars f.2.2) (· ∈ fns) f.2.2
theorem FG.mono {r1 : Nat} {nms fns fns' : List Str} {f : Str × List Str × List St} (h : FG r1 nms fns f) (i : ∀ x ∈ fns, x ∈ fns') : FG r1 nms fns' f := ⟨h.1, sscs_mono (fun _ z => z) i _ h.2⟩
theorem cut_all (xs : List D) : Mi.cutD xs none none = xs := by simp [Mi.cutD, HT.sIx]
structure TE (h : Hh) (p c q r t u r1 : Nat) (cs : List (Str × Int)) (nms : List Str) (fl : List (Str × List Str × List St)) (hs : List (Str × Nat)) : Prop where
  eq : h[q]? = some (.lst (cs.map cD))
  er : h[r]? = some (.lst (nms.map .str))
  et : h[t]? = some (.lst (fl.map fuD))
  eu : h[u]? = some (.lst (hs.map fD))
  ne : (r ≠ p ∧ r ≠ c) ∧ (u ≠ p ∧ u ≠ c) ∧ q ≠ p ∧ t ≠ p
  b : cs.length ≤ 3 ∧ nms.length ≤ 3 ∧ fl.length ≤ 5 ∧ hs.length ≤ 5
  nn : nms = cs.map fun z => z.1
  cg : Rise 0 nms r1
  fn : (fl.map (·.1)).Nodup
  hfn : ∀ x, x ∈ hs.map (·.1) → x ∈ fl.map (·.1)
  fnm : ∀ x, x ∈ fl.map (·.1) → ∃ k, Nm x k
  hf : ∀ f ∈ hs, f.2 ≤ 3
  ff : ∀ f ∈ fl, (f.2.1.length ≤ 3 ∧ bOk f.2.2) ∧ FG r1 nms (fl.map (·.1)) f
theorem TE.mono {h h' : Hh} {p c q r t u r1 : Nat} {cs : List (Str × Int)} {nms : List Str} {fl : List (Str × List Str × List St)} {hs : List (Str × Nat)} (v : TE h p c q r t u r1 cs nms fl hs) {S : List Nat} (k : Keep S h h') (n : ∀ i ∈ S, i = p ∨ h.length ≤ i) : TE h' p c q r t u r1 cs nms fl hs := by
  obtain ⟨eq, er, et, eu, ⟨⟨n1, n2⟩, ⟨n3, n4⟩, n5, n6⟩, b, nn, cg, fn, hfn, fnm, hf, ff⟩ := v
  have a1 := lt_of eq
  have a2 := lt_of er
  have a3 := lt_of et
  have a4 := lt_of eu
  exact ⟨k.get eq fun m => by rcases n _ m with z | z <;> omega, k.get er fun m => by rcases n _ m with z | z <;> omega, k.get et fun m => by rcases n _ m with z | z <;> omega, k.get eu fun m => by rcases n _ m with z | z <;> omega, ⟨⟨n1, n2⟩, ⟨n3, n4⟩, n5, n6⟩, b, nn, cg, fn, hfn, fnm, hf, ff⟩
theorem TE.lt {h : Hh} {p c q r t u r1 : Nat} {cs : List (Str × Int)} {nms : List Str} {fl : List (Str × List Str × List St)} {hs : List (Str × Nat)} (v : TE h p c q r t u r1 cs nms fl hs) : q < h.length ∧ r < h.length ∧ t < h.length ∧ u < h.length := ⟨lt_of v.eq, lt_of v.er, lt_of v.et, lt_of v.eu⟩
theorem tree_1 {n p c q r t u r1 lv : Nat} {cs : List (Str × Int)} {nms : List Str} {fl : List (Str × List Str × List St)} {hs : List (Str × Nat)} {ls : List Int} {nr : Nat} {h : Hh} {Q : Kd} {X : Ex} {x6 x7 x8 x10 x11 x12 x13 : Option D}
    (hn : 9 ≤ n) (v : TE h p c q r t u r1 cs nms fl hs) (el : h[lv]? = some (.lst (ls.map .int))) (hl : ls.length ≤ 4) (hls : (∀ l ∈ ls, ((0 : Int) ≤ l ∧ l ≤ 4)) ∧ ls.Nodup) (nl : lv ≠ p) (pl : Pl h p c nr) (fbn : PF r1 nr fl) (r0 : r1 ≤ nr) (r1' : nr < 900000000)
    (w : ∀ (tr : Tr) (nr' : Nat) (h' : Hh), tr.ok ∧ tr.good ∧ (grs (St.ds tr.main) ≤ 300000 ∧ (∀ o ∈ tr.ons, ((0 : Int) ≤ o.1 ∧ o.1 ≤ 4)) ∧ (tr.ons.map (·.1)).Nodup ∧ TN nr' tr) → Pl h' p c nr' → nr ≤ nr' → nr' ≤ nr + 3072 → Keep [p] h h' → Q tr.d h') :
    wB gls (rn n) X c_law_tree_1 (R0 Q) [some (.ref p), some (.int 5), some (.ref q), some (.ref r), some (.ref t), some (.ref u), x6, x7, x8, some (.ref lv), x10, x11, x12, x13] h := by
  have s1 := pl.lt
  have s2 := v.lt
  have s3 := lt_of el
  obtain ⟨⟨n1, n2⟩, ⟨n3, n4⟩, n5, n6⟩ := v.ne
  obtain ⟨b1, b2, b3, b4⟩ := v.b
  walk_at "go"
  rename_i y h1 e1 g1 g2 g3 k1
  have v1 := v.mono k1 fun i m => absurd m List.not_mem_nil
  have pl1 := pl.mono k1 List.not_mem_nil List.not_mem_nil
  refine compL_i (ls.map .int) (I := fun z acc h' => ∃ z1 z2 os, ∃ nr' : Nat, ls = z1 ++ z2 ∧ z = z2.map D.int ∧ acc = os.map oD ∧ os.map (·.1) = z1 ∧ (∀ o ∈ os, bOk o.2 ∧ (∃ c d, nr ≤ c ∧ Rise c (St.bvars o.2) d ∧ d ≤ nr') ∧ St.scs (fun x => x ∈ nms ∨ x ∈ St.bvars o.2) (· ∈ hs.map (·.1)) o.2 ∧ ((0 : Int) ≤ o.1 ∧ o.1 ≤ 4)) ∧ Pl h' p c nr' ∧ nr ≤ nr' ∧ nr' ≤ nr + 256 * os.length ∧ TE h' p c q r t u r1 cs nms fl hs ∧ h1.length ≤ h'.length ∧ Keep [p, y] h1 h') ?_ ?_ ?_ (ls.map .int) _ _ _ _ (by simp) (fuel_lt (by rw [List.length_map]; omega)) e1 ⟨[], ls, [], nr, rfl, rfl, rfl, rfl, fun _ m => absurd m List.not_mem_nil, pl1, by omega, by simp, v1, Nat.le_refl _, Keep.refl⟩
  · rintro z a h2 ⟨z1, z2, os, nr', ez, er, ea, lo, ok, pl2, r2, r3, v2, l2, k2⟩
    exact k2.get (k1.get el List.not_mem_nil) (by walk_at "mem")
  · rintro x z acc h2 K e2 ⟨z1, z2, os, nr', ez, er, rfl, le, ok, pl2, r2, r3, v2, l2, k2⟩ hK
    have lo : os.length = z1.length := by rw [← le, List.length_map]
    cases z2 with
    | nil => cases er
    | cons zz z2 =>
      simp only [List.map_cons, List.cons.injEq] at er
      obtain ⟨rfl, rfl⟩ := er
      have hzl := congrArg List.length ez
      simp only [List.length_append, List.length_cons] at hzl
      walk_at "go"
      refine blk_ok 2 n p c r u _ nms hs _ nr' _ _ _ _ (by omega) rfl pl2 (by omega) v2.er v2.eu (by omega) (by omega) v2.hf n1 n2 n3 n4 fun b nr3 h3 f3 sc3 rr3 t3 c3 g3' pl3 r4 r5 v5 l3 k3 => ?_
      have e3 : h3[y]? = some (.lst (os.map oD)) := k3.get e2 (by walk_at "mem")
      walk_at "go"
      rename_i h4 e4 l4 k4
      have v3 := v2.mono k3 (by intro i m; simp at m; omega)
      have k14 : Keep [p, y] h1 h4 := by walk_at "keep"
      exact hK _ _ e4 ⟨z1 ++ [zz], z2, os ++ [(zz, b)], nr3, by rw [ez]; simp, rfl, by rw [List.map_append]; rfl, by rw [List.map_append, le]; rfl, (by
        intro o m
        rcases List.mem_append.mp m with m | m
        · obtain ⟨q1, ⟨c, d, q2, q3, q4⟩, q5⟩ := ok o m
          exact ⟨q1, ⟨c, d, q2, q3, by omega⟩, q5⟩
        · obtain rfl := List.mem_singleton.mp m
          exact ⟨bOk_i (b := b) f3 (by omega) (by omega), ⟨nr', nr3, by omega, rr3, Nat.le_refl _⟩, sc3, hls.1 _ (by rw [ez]; simp)⟩), pl3.mono k4 (by walk_at "mem") (by walk_at "mem"), by omega, by simp only [List.length_append, List.length_singleton]; omega, v.mono (show Keep [p, y] h h4 by walk_at "keep") (by intro i m; simp at m; omega), by omega, k14⟩
  · rintro acc h2 e2 ⟨z1, z2, os, nr', ez, er, rfl, le, ok, pl2, r2, r3, v2, l2, k2⟩
    have lo : os.length = z1.length := by rw [← le, List.length_map]
    have : z2 = [] := List.map_eq_nil_iff.mp er.symm
    subst this
    rw [List.append_nil] at ez
    subst ez
    have eq2 := v2.eq
    have et2 := v2.et
    walk_at "go"
    refine blk_ok 3 n p c r u _ nms hs _ nr' _ _ _ _ (by omega) rfl pl2 (by omega) v2.er v2.eu (by omega) (by omega) v2.hf n1 n2 n3 n4 fun b nr3 h3 f3 sc3 rr3 t3 c3 g3' pl3 r4 r5 v5 l3 k3 => ?_
    walk_at "go"
    have nn := v.nn
    subst nn
    have cg := v.cg
    have sub : ∀ x, x ∈ hs.map (·.1) → x ∈ fl.map (·.1) := v.hfn
    have key : ∀ (bl : List St) (c0 d0 : Nat), r1 ≤ c0 → Rise c0 (St.bvars bl) d0 → St.scs (fun x => x ∈ cs.map (fun z => z.1) ∨ x ∈ St.bvars bl) (fun x => x ∈ hs.map (fun z => z.1)) bl → (cs.map (·.1) ++ St.bvars bl).Nodup ∧ St.scs (· ∈ cs.map (·.1) ++ St.bvars bl) (· ∈ fl.map (·.1)) bl := fun bl c0 d0 h1 h2 h3 => by
      exact ⟨((cg.mono (Nat.le_refl _) h1).app h2).nodup, sscs_mono (fun x z => List.mem_append.mpr z) sub _ h3⟩
    refine w ⟨cs, fl, os, b⟩ nr3 h3 ⟨⟨b1, b3, by show os.length ≤ 4; omega, fun f m => ⟨⟨(v.ff f m).1.1, ?_⟩, (v.ff f m).1.2⟩, fun o m => (ok o m).1, bOk_i (b := b) f3 (by omega) (by omega)⟩, ⟨cg.nodup, v.fn, fun f m => ?_, fun o m => ?_, key b nr' nr3 (by omega) rr3 sc3, fun x hx => ?_⟩, ⟨by show grs (St.ds b) ≤ 300000; omega, fun o m => (ok o m).2.2.2, (by first | (rw [le]; exact hls.2) | (rw [← le] at hls; exact hls.2)), TN_i cg fbn (fun o m => (ok o m).2.1) rr3 r2 r0 (by omega) (by omega)⟩⟩ pl3 (by omega) (by omega) (by walk_at "keep")
    · obtain ⟨⟨a, b, _, _, _, hr, _⟩, _⟩ := (v.ff f m).2
      exact hr.nodup
    · obtain ⟨⟨a, b2, c2, d2, g1, g2, g3, g4⟩, g5⟩ := (v.ff f m).2
      refine ⟨?_, sscs_mono (fun x z => List.mem_append.mpr z) (fun _ z => z) _ g5⟩
      exact (((cg.mono (Nat.le_refl _) g1).app g2).mono (Nat.le_refl _) g3 |>.app g4).nodup
    · obtain ⟨_, ⟨c2, d2, g1, g2, _⟩, g3, _⟩ := ok o m
      exact key o.2 c2 d2 (by omega) g2 g3
    · rcases hx with hx | hx | hx
      · obtain ⟨k, _, _, z⟩ := cg.mem hx
        exact ⟨k, z⟩
      · exact v.fnm x hx
      · obtain ⟨k, _, _, z⟩ := rr3.mem hx
        exact ⟨k, z⟩
theorem tree_4 {n p c q r t u r1 : Nat} {cs : List (Str × Int)} {nms : List Str} {fl : List (Str × List Str × List St)} {hs : List (Str × Nat)} {nr : Nat} {h : Hh} {Q : Kd} {X : Ex} {x6 x7 x8 x9 x10 x11 x12 x13 : Option D}
    (hn : 9 ≤ n) (v : TE h p c q r t u r1 cs nms fl hs) (pl : Pl h p c nr) (fbn : PF r1 nr fl) (r0 : r1 ≤ nr) (r1' : nr < 900000000)
    (w : ∀ (tr : Tr) (nr' : Nat) (h' : Hh), tr.ok ∧ tr.good ∧ (grs (St.ds tr.main) ≤ 300000 ∧ (∀ o ∈ tr.ons, ((0 : Int) ≤ o.1 ∧ o.1 ≤ 4)) ∧ (tr.ons.map (·.1)).Nodup ∧ TN nr' tr) → Pl h' p c nr' → nr ≤ nr' → nr' ≤ nr + 3072 → Keep [p] h h' → Q tr.d h') :
    wB gls (rn n) X c_law_tree_4 (R0 Q) [some (.ref p), some (.int 5), some (.ref q), some (.ref r), some (.ref t), some (.ref u), x6, x7, x8, x9, x10, x11, x12, x13] h := by
  have s1 := pl.lt
  have s2 := v.lt
  walk_at "one"
  walk_at "one"
  rename_i lv h1 e1 g1 g2 g3 k1
  have pl1 := pl.mono k1 List.not_mem_nil List.not_mem_nil
  refine comp_i (I := fun z acc h' => ∃ (rs ls : List Int), z = rs.map D.int ∧ acc = ls.map D.int ∧ rs.length + ls.length ≤ 4 ∧ (∀ l ∈ rs ++ ls, ((0 : Int) ≤ l ∧ l ≤ 4)) ∧ (ls ++ rs).Nodup ∧ Pl h' p c nr ∧ h1.length ≤ h'.length ∧ Keep [p, lv] h1 h') ?_ ?_ _ _ _ e1 ⟨[1, 2, 3, 4], [], rfl, rfl, by simp, by decide, by decide, pl1, Nat.le_refl _, Keep.refl⟩
  · rintro x z acc h2 K e2 ⟨rs, ls, er, rfl, lr, pos, nd, pl2, l2, k2⟩ hK
    cases rs with
    | nil => cases er
    | cons zz rs =>
      simp only [List.map_cons, List.cons.injEq] at er
      obtain ⟨rfl, rfl⟩ := er
      simp only [List.length_cons] at lr
      walk_at "go"
      refine take_ok pl2 (by decide) (by decide) (by omega) fun a h3 a0 a1 pl3 l3 k3 => ?_
      have e3 := k3.get e2 (by walk_at "mem")
      walk_at "go"
      refine br_i (fun hc => ?_) (fun hc => ?_)
      · walk_at "go"
        rename_i h4 e4 l4 k4
        exact hK _ _ e4 ⟨rs, ls ++ [zz], rfl, by simp, by simp only [List.length_append, List.length_singleton]; omega, (fun l m => pos l (by simp only [List.mem_append, List.mem_cons, List.not_mem_nil, or_false, List.cons_append] at m ⊢; rcases m with m | m | m <;> simp [m])), (by rw [List.append_assoc]; exact nd), pl3.mono k4 (by walk_at "mem") (by walk_at "mem"), by omega, by walk_at "keep"⟩
      · exact hK _ _ e3 ⟨rs, ls, rfl, rfl, by omega, fun l m => pos l (List.mem_cons_of_mem _ m), nd.sublist (List.Sublist.append (List.Sublist.refl _) (List.sublist_cons_self _ _)), pl3, by omega, by walk_at "keep"⟩
  · rintro acc h2 e2 ⟨rs, ls, er, rfl, lr, pos, nd, pl2, l2, k2⟩
    have v2 := v.mono (show Keep [p, lv] h h2 by walk_at "keep") (by intro i m; simp at m; omega)
    walk_at "go"
    refine take_ok pl2 (by decide) (by decide) (by omega) fun a h3 a0 a1 pl3 l3 k3 => ?_
    have e3 := k3.get e2 (by walk_at "mem")
    have v3 := v2.mono k3 (by intro i m; simp at m; omega)
    have k03 : Keep [p] h h3 := by walk_at "keep"
    conv => whnf
    refine br_i (fun hc => ?_) (fun hc => ?_)
    · walk_at "one"
      walk_at "one"
      rename_i lw h4 e4 g4 g5 g6 k4
      rw [← List.map_reverse] at e4
      exact tree_1 hn (v3.mono k4 fun i m => absurd m List.not_mem_nil) e4 (by rw [List.length_reverse]; omega) ⟨fun l m => pos l (List.mem_append.mpr (.inr (List.mem_reverse.mp m))), (List.reverse_perm ls).nodup_iff.mpr (List.nodup_append.mp nd).1⟩ (by omega) (pl3.mono k4 List.not_mem_nil List.not_mem_nil) fbn r0 r1' fun tr nr' h' a1 a2 a3 a4 a5 => w tr nr' h' a1 a2 a3 a4 (by walk_at "keep")
    · exact tree_1 hn v3 e3 (by omega) ⟨fun l m => pos l (List.mem_append.mpr (.inr m)), (List.nodup_append.mp nd).1⟩ (by omega) pl3 fbn r0 r1' fun tr nr' h' a1 a2 a3 a4 a5 => w tr nr' h' a1 a2 a3 a4 (by walk_at "keep")
theorem tree_6 {n p c q r t u r1 : Nat} {cs : List (Str × Int)} {nms : List Str} {fl : List (Str × List Str × List St)} {hs : List (Str × Nat)} {nr : Nat} {h : Hh} {Q : Kd} {X : Ex} {x6 x7 x8 x9 x10 x11 x12 x13 : Option D}
    (hn : 9 ≤ n) (v : TE h p c q r t u r1 cs nms fl hs) (pl : Pl h p c nr) (fbn : PF r1 nr fl) (r0 : r1 ≤ nr) (r1' : nr < 900000000)
    (w : ∀ (tr : Tr) (nr' : Nat) (h' : Hh), tr.ok ∧ tr.good ∧ (grs (St.ds tr.main) ≤ 300000 ∧ (∀ o ∈ tr.ons, ((0 : Int) ≤ o.1 ∧ o.1 ≤ 4)) ∧ (tr.ons.map (·.1)).Nodup ∧ TN nr' tr) → Pl h' p c nr' → nr ≤ nr' → nr' ≤ nr + 3072 → Keep [p] h h' → Q tr.d h') :
    wB gls (rn n) X c_law_tree_6 (R0 Q) [some (.ref p), some (.int 5), some (.ref q), some (.ref r), some (.ref t), some (.ref u), x6, x7, x8, x9, x10, x11, x12, x13] h := by
  have s1 := pl.lt
  have s2 := v.lt
  walk_at "go"
  refine take_ok pl (by decide) (by decide) (by omega) fun a h3 a0 a1 pl3 l3 k3 => ?_
  have v3 := v.mono k3 (by intro i m; simp at m; omega)
  have e3 := v3.et
  conv => whnf
  refine br_i (fun hc => ?_) (fun hc => ?_)
  · walk_at "one"
    walk_at "one"
    rename_i t2 h4 e4 g4 g5 g6 k4
    rw [← List.map_reverse] at e4
    have v4 := v3.mono k4 fun i m => absurd m List.not_mem_nil
    exact tree_4 hn (v := ⟨v4.eq, v4.er, e4, v4.eu, ⟨v.ne.1, v.ne.2.1, v.ne.2.2.1, by omega⟩, ⟨v.b.1, v.b.2.1, by rw [List.length_reverse]; exact v.b.2.2.1, v.b.2.2.2⟩, v.nn, v.cg, by rw [List.map_reverse]; exact (List.reverse_perm _).nodup_iff.mpr v.fn, fun x m => by rw [List.map_reverse]; exact List.mem_reverse.mpr (v.hfn x m), fun x m => v.fnm x (by rw [List.map_reverse] at m; exact List.mem_reverse.mp m), v.hf, fun f m => ⟨(v.ff f (List.mem_reverse.mp m)).1, (v.ff f (List.mem_reverse.mp m)).2.mono fun x z => by rw [List.map_reverse]; exact List.mem_reverse.mpr z⟩⟩) (pl3.mono k4 List.not_mem_nil List.not_mem_nil) fbn.reverse r0 r1' fun tr nr' h' a1 a2 a3 a4 a5 => w tr nr' h' a1 a2 a3 a4 (by walk_at "keep")
  · exact tree_4 hn v3 pl3 fbn r0 r1' fun tr nr' h' a1 a2 a3 a4 a5 => w tr nr' h' a1 a2 a3 a4 (by walk_at "keep")

end Lw

set_option Elab.async false
set_option linter.all false
set_option maxRecDepth 100000
set_option maxHeartbeats 1000000
namespace Lw
open PySem PySem.Spec PyProof.Rows L2 Mi
local macro_rules | `(tactic| walk_at "mem") => `(tactic| first | exact fun _ z => absurd z List.not_mem_nil | exact List.not_mem_nil | (intro i hi; simp only [List.mem_cons, List.not_mem_nil, or_false, false_or] at hi ⊢; omega) | (simp only [List.mem_cons, List.not_mem_nil, or_false, false_or, not_or]; omega))
local macro_rules | `(tactic| walk_at "get") => `(tactic| first | assumption | (apply Keep.get; assumption; walk_at "get"; walk_at "mem"))
local macro_rules | `(tactic| walk_at "keep") => `(tactic| first | assumption | exact Keep.refl | (apply Keep.step; assumption; walk_at "keep"; walk_at "mem"))
local macro_rules | `(tactic| walk_at "one") => `(tactic| (conv => whnf) <;> first
  | (apply br_t; rfl)
  | (apply br_f; rfl)
  | (apply rdO_i; walk_at "get")
  | (apply itm_i; first | rfl | assumption | exact getAt_end _ _)
  | (apply gtD_i; assumption)
  | (apply new_i; intro p h' e1 l1 l2 l3 k)
  | (apply put_i; walk_at "get"; intro h' e1 l1 k)
  | (apply iLst_i; first | rfl | exact intsOf_map _)
  | (apply chk_i; first | rfl | exact lenOk_le (by simp only [List.length_map, List.length_cons, List.length_append, List.length_take, List.length_nil, List.length_replicate, List.length_dropLast]; omega) | exact small_lt (by simp only [List.length_map, List.length_cons, List.length_append, List.length_take, List.length_nil, List.length_replicate, List.length_dropLast]; omega) | assumption | exact mulOk_r (by decide) | exact mulOk_l (by decide) | exact lenOk_le (by omega) | exact small_lt (by omega) | (simp; omega)))
local macro_rules | `(tactic| walk_at "go") => `(tactic| (repeat walk_at "one"); try (conv => whnf))
local macro_rules | `(tactic| walk_at "br") => `(tactic| (refine br_i (fun hc => ?_) (fun hc => ?_) <;> simp only [Bool.not_eq_true', Bool.not_eq_false', beq_iff_eq, beq_eq_false_iff_ne, ne_eq, decide_eq_true_eq, decide_eq_false_iff_not, bne_iff_ne, bne_eq_false_iff_eq] at hc) <;> first | (exfalso; omega) | walk_at "go")

theorem tree_ok {n p c : Nat} {nr : Nat} {h : Hh} {Q : Kd} {X : Ex} (hn : 10 ≤ n) (pl : Pl h p c nr) (r1 : nr < 800000000)
    (w : ∀ (tr : Tr) (nr' : Nat) (h' : Hh), tr.ok ∧ tr.good ∧ (grs (St.ds tr.main) ≤ 300000 ∧ (∀ o ∈ tr.ons, ((0 : Int) ≤ o.1 ∧ o.1 ≤ 4)) ∧ (tr.ons.map (·.1)).Nodup ∧ TN nr' tr) → Pl h' p c nr' → nr ≤ nr' → nr' ≤ nr + 5000 → Keep [p] h h' → Q tr.d h') :
    rn n i_law_tree [.ref p, .int 5] h Q X := by
  cases n with
  | zero => omega
  | succ n =>
    have s1 := pl.lt
    refine u_law_tree ?_
    walk_at "go"
    refine take_ok pl (by decide) (by decide) (by omega) fun v h1 v0 v1 pl1 l1 k1 => ?_
    walk_at "go"
    rename_i q h2 e2 g1 g2 g3 k2
    refine comp_i (I := fun r acc h' => ∃ (cs : List (Str × Int)) (nr' : Nat), acc = cs.map cD ∧ Rise nr (cs.map (·.1)) nr' ∧ r.length + cs.length = v.toNat ∧ Pl h' p c nr' ∧ nr ≤ nr' ∧ nr' ≤ nr + cs.length ∧ h2.length ≤ h'.length ∧ Keep [p, q] h2 h') ?_ ?_ _ _ _ e2 ⟨[], nr, rfl, Nat.le_refl _, by rw [range_len]; simp, pl1.mono k2 List.not_mem_nil List.not_mem_nil, by omega, by simp, Nat.le_refl _, Keep.refl⟩
    · rintro x r acc h3 K e3 ⟨cs, nr', rfl, rise, lc, pl3, r2, r3, l3, k3⟩ hK
      simp only [List.length_cons] at lc
      walk_at "go"
      refine name_ok pl3 (by omega) (by omega) fun y h4 ny pl4 l4 k4 => ?_
      walk_at "go"
      refine take_ok pl4 (by decide) (by decide) (by omega) fun z h5 z0 z1 pl5 l5 k5 => ?_
      have e5 : h5[q]? = some (.lst (cs.map cD)) := by walk_at "get"
      walk_at "go"
      rename_i h6 e6 l6 k6
      exact hK _ _ e6 ⟨cs ++ [(y, z)], _, by rw [List.map_append]; rfl, by rw [List.map_append]; exact rise.app ⟨_, by omega, ny, Nat.le_refl _⟩, by simp only [List.length_append, List.length_singleton]; omega, pl5.mono k6 (by walk_at "mem") (by walk_at "mem"), by omega, by simp only [List.length_append, List.length_singleton]; omega, by omega, by walk_at "keep"⟩
    rintro acc h3 e3 ⟨cs, nr3, rfl, rise, lc, pl3, r2, r3, l3, k3⟩
    have hq3 : q < h3.length := lt_of e3
    simp only [List.length_nil] at lc
    walk_at "go"
    rename_i r h4 e4 g4 g5 g6 k4
    refine mapL_i cD (fun c => .str c.1) cs (by walk_at "get") e4 (by omega) (by omega) (fun x hx h5 K N k5 hK => ?_) fun h5 e5 k5 => ?_
    · walk_at "go"
      exact hK _ Keep.refl
    have l5 := k5.len
    have en5 : h5[r]? = some (.lst ((cs.map (·.1)).map D.str)) := by rw [e5, List.map_map]; rfl
    have pl5 : Pl h5 p c nr3 := (pl3.mono k4 List.not_mem_nil List.not_mem_nil).mono k5 (by walk_at "mem") (by walk_at "mem")
    have ec5 : h5[q]? = some (.lst (cs.map cD)) := by walk_at "get"
    have k05 : Keep [p] h h5 := by walk_at "keep"
    walk_at "go"
    rename_i t h6 e6 g7 g8 g9 k6 u h7 e7 g10 g11 g12 k7
    have pl7 : Pl h7 p c nr3 := (pl5.mono k6 List.not_mem_nil List.not_mem_nil).mono k7 List.not_mem_nil List.not_mem_nil
    have TE7 : TE h7 p c q r t u nr3 cs (cs.map (·.1)) [] [] := ⟨by walk_at "get", by walk_at "get", by show h7[t]? = some (.lst []); walk_at "get", e7, ⟨⟨by omega, by omega⟩, ⟨by omega, by omega⟩, by omega, by omega⟩, ⟨by omega, by rw [List.length_map]; omega, by simp, by simp⟩, rfl, rise.mono (Nat.zero_le _) (Nat.le_refl _), List.nodup_nil, fun _ m => m, fun _ m => absurd m List.not_mem_nil, fun _ m => absurd m List.not_mem_nil, fun _ m => absurd m List.not_mem_nil⟩
    have k07 : Keep [p] h h7 := by walk_at "keep"
    refine take_ok pl7 (by decide) (by decide) (by omega) fun vf h8 vf0 vf1 pl8 l8 k8 => ?_
    have s8 := TE7.lt
    walk_at "one"
    refine loop_i (I := fun rr σ h' => ∃ (fl : List (Str × List Str × List St)) (hs : List (Str × Nat)) (nr' : Nat) (x6 x7 x8 : Option D), σ = [some (.ref p), some (.int 5), some (.ref q), some (.ref r), some (.ref t), some (.ref u), x6, x7, x8, none, none, none, none, none] ∧ rr.length + fl.length = vf.toNat ∧ hs.length = fl.length ∧ hs.map (·.1) = fl.map (·.1) ∧ Rise nr3 (fl.map (·.1)) nr' ∧ Rise nr3 (nmsF fl) nr' ∧ TE h' p c q r t u nr3 cs (cs.map (·.1)) fl hs ∧ Pl h' p c nr' ∧ nr ≤ nr' ∧ nr' ≤ nr + 10 + 260 * fl.length ∧ h8.length ≤ h'.length ∧ Keep [p, t, u] h8 h') ?_ ?_ _ _ _ ⟨[], [], nr3, _, _, _, rfl, by rw [range_len]; simp, rfl, rfl, Nat.le_refl _, Nat.le_refl _, TE7.mono k8 (by intro i m; simp at m; omega), pl8, by omega, by simp; omega, Nat.le_refl _, Keep.refl⟩
    · rintro x rr σ h9 K ⟨fl, hs, nr9, x6, x7, x8, rfl, lf, lh, hfe, frise, nrise, v9, pl9, r4, r5, l9, k9⟩ hK
      simp only [List.length_cons] at lf
      have s9 := v9.lt
      walk_at "go"
      refine take_ok pl9 (by decide) (by decide) (by omega) fun vo h10 vo0 vo1 pl10 l10 k10 => ?_
      walk_at "go"
      rename_i y h11 e11 g13 g14 g15 k11
      refine comp_i (I := fun z acc h' => ∃ (os : List Str) (nr' : Nat), acc = os.map D.str ∧ Rise nr9 os nr' ∧ z.length + os.length = vo.toNat ∧ Pl h' p c nr' ∧ nr9 ≤ nr' ∧ nr' ≤ nr9 + os.length ∧ h11.length ≤ h'.length ∧ Keep [p, y] h11 h') ?_ ?_ _ _ _ e11 ⟨[], nr9, rfl, Nat.le_refl _, by rw [range_len]; simp, pl10.mono k11 List.not_mem_nil List.not_mem_nil, by omega, by simp, Nat.le_refl _, Keep.refl⟩
      · rintro x z acc h12 K2 e12 ⟨os, nr', rfl, orise, lo, pl12, r6, r7, l12, k12⟩ hK2
        simp only [List.length_cons] at lo
        walk_at "go"
        refine name_ok pl12 (by omega) (by omega) fun a h13 na pl13 l13 k13 => ?_
        have e13 := k13.get e12 (by walk_at "mem")
        walk_at "go"
        rename_i h14 e14 l14 k14
        exact hK2 _ _ e14 ⟨os ++ [a], _, by rw [List.map_append]; rfl, orise.app ⟨_, by omega, na, Nat.le_refl _⟩, by simp only [List.length_append, List.length_singleton]; omega, pl13.mono k14 (by walk_at "mem") (by walk_at "mem"), by omega, by simp only [List.length_append, List.length_singleton]; omega, by omega, by walk_at "keep"⟩
      rintro acc h12 e12 ⟨os, nr12, rfl, orise, lo, pl12, r6, r7, l12, k12⟩
      simp only [List.length_nil] at lo
      walk_at "go"
      refine name_ok pl12 (by omega) (by omega) fun a h13 na pl13 l13 k13 => ?_
      have e13 := k13.get e12 (by walk_at "mem")
      have k913 : Keep [p] h9 h13 := by walk_at "keep"
      have v13 := v9.mono k913 (by intro i m; simp at m; omega)
      have f1 := v13.er
      have f2 := v13.eu
      have f3 := v13.et
      have b1 := v13.b
      have hcs : ((cs.map (·.1)).map D.str).length = cs.length := by simp
      walk_at "go"
      rename_i ra h14 e14 g16 g17 g18 k14 rb h15 e15 g19 g20 g21 k15
      rw [cut_all] at e15
      rw [← List.map_append] at e14
      have k15' := k15
      refine blk_ok 2 n p c ra rb _ _ hs _ _ _ _ _ _ (by omega) rfl ((pl13.mono k14 List.not_mem_nil List.not_mem_nil).mono k15 List.not_mem_nil List.not_mem_nil) (by omega) (by walk_at "get") e15 (by simp only [List.length_append, List.length_map]; omega) (by omega) v9.hf (by omega) (by omega) (by omega) (by omega) fun b nr16 h16 ff scb rrb tt cc gg pl16 r8 r9 vv l16 k16 => ?_
      have k1316 : Keep [p] h13 h16 := by walk_at "keep"
      have v16 := v13.mono k1316 (by intro i m; simp at m; omega)
      have f4 := v16.et
      have f5 := v16.eu
      have e16 : h16[y]? = some (.lst (os.map D.str)) := by walk_at "get"
      have k916 : Keep [p] h9 h16 := by walk_at "keep"
      have hfl : (fl.map fuD).length = fl.length := List.length_map ..
      have hhs : (hs.map fD).length = hs.length := List.length_map ..
      walk_at "go"
      rename_i h17 e17 l17 k17 h18 e18 l18 k18
      rw [List.length_map] at e18
      have ne := v16.ne
      have ntu : t ≠ u := by omega
      refine hK _ _ ⟨fl ++ [(a, os, b)], hs ++ [(a, os.length)], nr16, _, _, _, rfl, by simp only [List.length_append, List.length_singleton]; omega, by simp only [List.length_append, List.length_singleton]; omega, by rw [List.map_append, List.map_append, hfe]; rfl, by rw [List.map_append]; exact frise.app ⟨nr12 + 1, by omega, na, by have := rrb.le; exact this⟩, (by
        have e : nmsF (fl ++ [(a, os, b)]) = nmsF fl ++ (os ++ [a] ++ St.bvars b) := by simp [nmsF]
        rw [e]
        exact nrise.app ((orise.app (ys := [a]) ⟨nr12 + 1, by omega, na, Nat.le_refl _⟩).app rrb)), ⟨?_, ?_, ?_, ?_, ne, ?_, rfl, v16.cg, ?_, ?_, ?_, ?_, ?_⟩, (pl16.mono k17 (by walk_at "mem") (by walk_at "mem")).mono k18 (by walk_at "mem") (by walk_at "mem"), by omega, by simp only [List.length_append, List.length_singleton]; omega, by omega, by walk_at "keep"⟩
      · have := v16.eq; walk_at "get"
      · have := v16.er; walk_at "get"
      · have e20 : h18[t]? = _ := k18.get e17 (by walk_at "mem")
        rw [e20, List.map_append]
        rfl
      · rw [e18, List.map_append]
        rfl
      · simp only [List.length_append, List.length_singleton]; omega
      · rw [List.map_append]
        exact (frise.app (ys := [a]) ⟨nr12 + 1, by omega, na, Nat.le_refl _⟩).nodup
      · intro x m
        rw [List.map_append] at m ⊢
        rcases List.mem_append.mp m with m | m
        · exact List.mem_append.mpr (.inl (v16.hfn x m))
        · exact List.mem_append.mpr (.inr m)
      · intro x m
        rw [List.map_append] at m
        obtain ⟨k, _, _, z⟩ := (frise.app (ys := [a]) ⟨nr12 + 1, by omega, na, Nat.le_refl _⟩).mem m
        exact ⟨k, z⟩
      · intro f m
        rcases List.mem_append.mp m with m | m
        · exact v16.hf f m
        · obtain rfl := List.mem_singleton.mp m
          show os.length ≤ 3
          omega
      · intro f m
        rcases List.mem_append.mp m with m | m
        · exact ⟨(v16.ff f m).1, (v16.ff f m).2.mono fun x z => by rw [List.map_append]; exact List.mem_append.mpr (.inl z)⟩
        · obtain rfl := List.mem_singleton.mp m
          refine ⟨⟨by show os.length ≤ 3; omega, bOk_i (b := b) ff (by omega) (by omega)⟩, ⟨nr9, nr12, nr12 + 1, nr16, by have := frise.le; omega, orise, by omega, rrb⟩, ?_⟩
          exact sscs_mono (fun _ z => z) (fun x z => by rw [List.map_append, ← hfe]; exact List.mem_append.mpr (.inl z)) _ scb
    · rintro σ h9 ⟨fl, hs, nr9, x6, x7, x8, rfl, lf, lh, hfe, frise, nrise, v9, pl9, r4, r5, l9, k9⟩
      simp only [List.length_nil] at lf
      have k09 : Keep [p] h h9 := by walk_at "keep"
      exact tree_6 (by omega) v9 pl9 (PF.of nrise (by omega)) (by have := frise.le; omega) (by omega) fun tr nr' h' a1 a2 a3 a4 a5 => w tr nr' h' a1 a2 (by omega) (by omega) (by walk_at "keep")

end Lw

set_option Elab.async false
set_option linter.all false
set_option maxRecDepth 100000
set_option maxHeartbeats 1000000
namespace Lw
open PySem PySem.Spec PyProof.Rows L2 Mi
local macro_rules | `(tactic| walk_at "mem") => `(tactic| first | exact fun _ z => absurd z List.not_mem_nil | exact List.not_mem_nil | (intro i hi; simp only [List.mem_cons, List.not_mem_nil, or_false, false_or] at hi ⊢; omega) | (simp only [List.mem_cons, List.not_mem_nil, or_false, false_or, not_or]; omega))
local macro_rules | `(tactic| walk_at "get") => `(tactic| first | assumption | (apply Keep.get; assumption; walk_at "get"; walk_at "mem"))
local macro_rules | `(tactic| walk_at "keep") => `(tactic| first | assumption | exact Keep.refl | (apply Keep.step; assumption; walk_at "keep"; walk_at "mem"))
local macro_rules | `(tactic| walk_at "one") => `(tactic| (conv => whnf) <;> first
  | (apply br_t; rfl)
  | (apply br_f; rfl)
  | (apply rdO_i; walk_at "get")
  | (apply itm_i; first | rfl | assumption | exact getAt_end _ _)
  | (apply gtD_i; assumption)
  | (apply new_i; intro p h' e1 l1 l2 l3 k)
  | (apply put_i; walk_at "get"; intro h' e1 l1 k)
  | (apply iLst_i; first | rfl | exact intsOf_map _)
  | (apply chk_i; first | rfl | exact lenOk_le (by simp only [List.length_map, List.length_cons, List.length_append, List.length_take, List.length_nil, List.length_replicate, List.length_dropLast]; omega) | exact small_lt (by simp only [List.length_map, List.length_cons, List.length_append, List.length_take, List.length_nil, List.length_replicate, List.length_dropLast]; omega) | assumption | exact mulOk_r (by decide) | exact mulOk_l (by decide) | exact lenOk_le (by omega) | exact small_lt (by omega) | (simp; omega)))
local macro_rules | `(tactic| walk_at "go") => `(tactic| (repeat walk_at "one"); try (conv => whnf))
local macro_rules | `(tactic| walk_at "br") => `(tactic| (refine br_i (fun hc => ?_) (fun hc => ?_) <;> simp only [Bool.not_eq_true', Bool.not_eq_false', beq_iff_eq, beq_eq_false_iff_ne, ne_eq, decide_eq_true_eq, decide_eq_false_iff_not, bne_iff_ne, bne_eq_false_iff_eq] at hc) <;> first | (exfalso; omega) | walk_at "go")
/-- trees that are looked at -/
structure Tr.ok2 (t : Tr) : Prop where
  c : t.cells.length ≤ 5
  f : t.funs.length ≤ 9
  o : t.ons.length ≤ 4
  fb : ∀ f ∈ t.funs, f.2.1.length ≤ 3 ∧ bOk f.2.2
  ob : ∀ o ∈ t.ons, bOk o.2
  m : bOk t.main
theorem bOk_ren {b : List St} (o : bOk b) (ν φ : Str → Str) : bOk (St.rens ν φ b) := ⟨srens_fit ν φ b o.1, by rw [srens_ht]; exact o.2.1, by rw [srens_gr]; exact o.2.2⟩
theorem plns_map {α : Type} {f : α → D} : ∀ {xs : List α}, (∀ x ∈ xs, pln (f x) = true) → plns (xs.map f) = true
  | [], _ => rfl
  | x :: xs, h => by
    show (pln (f x) && plns (xs.map f)) = true
    rw [h x List.mem_cons_self, plns_map fun y m => h y (List.mem_cons_of_mem _ m)]
    rfl
theorem grs_map {α : Type} {f : α → D} {B : Nat} : ∀ {xs : List α}, (∀ x ∈ xs, gr (f x) ≤ B) → grs (xs.map f) ≤ xs.length * B
  | [], _ => by simp [grs]
  | x :: xs, h => by
    have h1 := h x List.mem_cons_self
    have h2 := grs_map (f := f) (B := B) (xs := xs) fun y m => h y (List.mem_cons_of_mem _ m)
    show gr (f x) + grs (xs.map f) ≤ (xs.length + 1) * B
    rw [Nat.add_mul]
    omega
theorem deps_map {α : Type} {f : α → D} {B : Nat} : ∀ {xs : List α}, (∀ x ∈ xs, D.dep (f x) ≤ B) → D.deps (xs.map f) ≤ B
  | [], _ => Nat.zero_le _
  | x :: xs, h => by
    have h1 := h x List.mem_cons_self
    have h2 := deps_map (f := f) (B := B) (xs := xs) fun y m => h y (List.mem_cons_of_mem _ m)
    show max (D.dep (f x)) (D.deps (xs.map f)) ≤ B
    omega
mutual
theorem ep_dep : ∀ e : Ep, D.dep e.d ≤ 2 * e.ht
  | .num _ => by simp [Ep.d, D.dep, D.deps, Ep.ht]
  | .nam _ => by simp [Ep.d, D.dep, D.deps, Ep.ht]
  | .inn => by simp [Ep.d, D.dep, D.deps, Ep.ht]
  | .op o a b => by
    have := ep_dep a
    have := ep_dep b
    simp only [Ep.d, D.dep, D.deps, Ep.ht]
    omega
  | .call x as => by
    have := ep_deps as
    simp only [Ep.d, D.dep, D.deps, Ep.ht]
    omega
theorem ep_deps : ∀ as : List Ep, D.deps (Ep.ds as) ≤ 2 * Ep.hts as
  | [] => Nat.zero_le _
  | a :: as => by
    have := ep_dep a
    have := ep_deps as
    simp only [Ep.ds, D.deps, Ep.hts]
    omega
end
mutual
theorem st_dep : ∀ s : St, s.fit → D.dep s.d ≤ 2 * s.ht + 19
  | .var x e, f => by have := ep_dep e; have := f.2; simp only [St.d, D.dep, D.deps, St.ht]; omega
  | .set x e, f => by have := ep_dep e; have := f.2; simp only [St.d, D.dep, D.deps, St.ht]; omega
  | .call x as, f => by have := ep_deps as; have := f.2; simp only [Ep.ht] at this; simp only [St.d, D.dep, D.deps, St.ht]; omega
  | .hold b, f => by have := st_deps b f; simp only [St.d, D.dep, D.deps, St.ht]; omega
  | .whl e b, f => by have := ep_dep e; have := f.1.2; have := st_deps b f.2; simp only [St.d, D.dep, D.deps, St.ht]; omega
  | .ifs e b c, f => by have := ep_dep e; have := f.1.2; have := st_deps b f.2.1; have := st_deps c f.2.2; simp only [St.d, D.dep, D.deps, St.ht]; omega
  | .ret e, f => by have := ep_dep e; have := f.2; simp only [St.d, D.dep, D.deps, St.ht]; omega
  | .out e, f => by have := ep_dep e; have := f.2; simp only [St.d, D.dep, D.deps, St.ht]; omega
theorem st_deps : ∀ b : List St, St.fits b → D.deps (St.ds b) ≤ 2 * St.bht b + 19
  | [], _ => Nat.zero_le _
  | s :: b, f => by have := st_dep s f.1; have := st_deps b f.2; simp only [St.ds, D.deps, St.bht]; omega
end
mutual
theorem pln_flat : ∀ d : D, pln d = true → D.flat d = true
  | .tup xs, h => plns_flat xs h
  | .non, _ => rfl
  | .bl _, _ => rfl
  | .int _, _ => rfl
  | .str _, _ => rfl
  | .ref _, h => h
  | .fn _, h => h
theorem plns_flat : ∀ ds : List D, plns ds = true → D.flats ds = true
  | [], _ => rfl
  | d :: ds, h => by
    have h' : (pln d && plns ds) = true := h
    rw [Bool.and_eq_true] at h'
    show (D.flat d && D.flats ds) = true
    rw [pln_flat d h'.1, plns_flat ds h'.2]
    rfl
end
theorem bD_pln (b : List St) : pln (bD b) = true := st_plns b
def Tr.l (t : Tr) : List D := [.tup (t.cells.map cD), .tup (t.funs.map fuD), .tup (t.ons.map oD), bD t.main]
theorem Tr.d_eq (t : Tr) : t.d = .tup t.l := rfl
theorem tr_plns (t : Tr) : plns t.l = true := by
  have h1 : plns (t.cells.map cD) = true := plns_map fun x _ => rfl
  have h2 : plns (t.funs.map fuD) = true := plns_map fun x _ => by
    have : plns (x.2.1.map D.str) = true := plns_map fun _ _ => rfl
    show (true && (plns (x.2.1.map D.str) && (pln (bD x.2.2) && true))) = true
    rw [this, bD_pln]
    rfl
  have h3 : plns (t.ons.map oD) = true := plns_map fun x _ => by
    show (true && (pln (bD x.2) && true)) = true
    rw [bD_pln]
    rfl
  show (plns (t.cells.map cD) && (plns (t.funs.map fuD) && (plns (t.ons.map oD) && (pln (bD t.main) && true)))) = true
  rw [h1, h2, h3, bD_pln]
  rfl
theorem tr_pln (t : Tr) : pln t.d = true := tr_plns t
theorem tr_gr {t : Tr} (o : t.ok2) : gr t.d < 10000000 := by
  have h1 : grs (t.cells.map cD) ≤ t.cells.length * 3 := grs_map fun x _ => by simp [cD, gr, grs]
  have h2 : grs (t.funs.map fuD) ≤ t.funs.length * 400020 := grs_map fun x m => by
    obtain ⟨l, _, _, g⟩ := o.fb x m
    have : grs (x.2.1.map D.str) ≤ x.2.1.length * 1 := grs_map fun _ _ => by simp [gr]
    simp only [fuD, bD, gr, grs]
    omega
  have h3 : grs (t.ons.map oD) ≤ t.ons.length * 400020 := grs_map fun x m => by
    obtain ⟨_, _, g⟩ := o.ob x m
    simp only [oD, bD, gr, grs]
    omega
  have g4 := o.m.2.2
  have c1 := o.c
  have c2 := o.f
  have c3 := o.o
  have m1 : t.cells.length * 3 ≤ 5 * 3 := Nat.mul_le_mul_right _ c1
  have m2 : t.funs.length * 400020 ≤ 9 * 400020 := Nat.mul_le_mul_right _ c2
  have m3 : t.ons.length * 400020 ≤ 4 * 400020 := Nat.mul_le_mul_right _ c3
  simp only [Tr.d, bD, gr, grs]
  omega
theorem bOk_deps {b : List St} (o : bOk b) : D.deps (St.ds b) ≤ 31 := by
  have := st_deps b o.1
  have := o.2.1
  omega
theorem tr_deps {t : Tr} (o : t.ok2) : D.deps t.l ≤ 50 := by
  have h1 : D.deps (t.cells.map cD) ≤ 1 := deps_map fun x _ => by simp [cD, D.dep, D.deps]
  have h2 : D.deps (t.funs.map fuD) ≤ 34 := deps_map fun x m => by
    have := bOk_deps (o.fb x m).2
    have h0 : D.deps (x.2.1.map D.str) ≤ 0 := deps_map fun _ _ => Nat.le_refl _
    simp only [fuD, bD, D.dep, D.deps]
    omega
  have h3 : D.deps (t.ons.map oD) ≤ 34 := deps_map fun x m => by
    have := bOk_deps (o.ob x m)
    simp only [oD, bD, D.dep, D.deps]
    omega
  have := bOk_deps o.m
  simp only [Tr.l, bD, D.dep, D.deps]
  omega
/-- the look of == at two trees -/
theorem tr_chk {t u : Tr} (o : t.ok2) : (D.flats t.l && (D.flats u.l && decide (D.deps t.l ≤ 50))) = true := by
  rw [plns_flat _ (tr_plns t), plns_flat _ (tr_plns u), decide_eq_true (tr_deps o)]
  rfl
mutual
theorem eqD_refl : ∀ d : D, pln d = true → eqD d d = true
  | .tup xs, h => eqDs_refl xs h
  | .non, _ => rfl
  | .bl b, _ => by simp [eqD]
  | .int i, _ => by simp [eqD]
  | .str x, _ => strEq_self x
  | .ref _, h => by cases h
  | .fn _, h => by cases h
theorem eqDs_refl : ∀ ds : List D, plns ds = true → eqDs ds ds = true
  | [], _ => rfl
  | d :: ds, h => by
    have h' : (pln d && plns ds) = true := h
    rw [Bool.and_eq_true] at h'
    show (eqD d d && eqDs ds ds) = true
    rw [eqD_refl d h'.1, eqDs_refl ds h'.2]
    rfl
end
def Ep.parts : Ep → List Ep
  | .op _ a b => [a, b]
  | .call _ as => as
  | _ => []
theorem parts_fit : ∀ {e a : Ep}, e.fit → a ∈ e.parts → a.fit
  | .op _ x y, a, f, m => by
    simp only [Ep.parts, List.mem_cons, List.not_mem_nil, or_false] at m
    rcases m with rfl | rfl
    · exact f.1
    · exact f.2
  | .call _ as, a, f, m => fits_mem f.2 m
  | .num _, _, _, m => absurd m List.not_mem_nil
  | .nam _, _, _, m => absurd m List.not_mem_nil
  | .inn, _, _, m => absurd m List.not_mem_nil
theorem parts_ht : ∀ {e a : Ep}, a ∈ e.parts → a.ht + 1 ≤ e.ht
  | .op _ x y, a, m => by
    simp only [Ep.parts, List.mem_cons, List.not_mem_nil, or_false] at m
    simp only [Ep.ht]
    rcases m with rfl | rfl <;> omega
  | .call _ as, a, m => by
    have := hts_mem (show a ∈ as from m)
    simp only [Ep.ht]
    omega
  | .num _, _, m => absurd m List.not_mem_nil
  | .nam _, _, m => absurd m List.not_mem_nil
  | .inn, _, m => absurd m List.not_mem_nil
theorem parts_len : ∀ {e : Ep}, e.fit → e.parts.length ≤ 3
  | .op _ x y, f => by simp [Ep.parts]
  | .call _ as, f => f.1
  | .num _, _ => by simp [Ep.parts]
  | .nam _, _ => by simp [Ep.parts]
  | .inn, _ => by simp [Ep.parts]
theorem inner_ok {n : Nat} {e : Ep} {h : Hh} {Q : Kd} {X : Ex} (hn : 1 ≤ n) (w : ∀ p h', h'[p]? = some (.lst (e.parts.map Ep.d)) → h.length ≤ p → p < h'.length → Keep [] h h' → Q (.ref p) h') : rn n i_inner_expressions [e.d] h Q X := by
  cases n with
  | zero => omega
  | succ n =>
    refine u_inner_expressions ?_
    cases e with
    | op o a b =>
      walk_at "go"
      refine br_t (by cases o <;> rfl) ?_
      walk_at "go"
      exact w _ _ (by assumption) (by assumption) (by assumption) (by assumption)
    | call x as =>
      simp only [Ep.d]
      rw [ds_map]
      walk_at "go"
      exact w _ _ (by assumption) (by assumption) (by assumption) (by assumption)
    | _ =>
      walk_at "go"
      exact w _ _ (by assumption) (by assumption) (by assumption) (by assumption)
def St.es : St → List Ep
  | .var _ e => [e]
  | .set _ e => [e]
  | .call _ as => as
  | .hold _ => []
  | .whl e _ => [e]
  | .ifs e _ _ => [e]
  | .ret e => [e]
  | .out e => [e]
def St.bs : St → List (List St)
  | .hold b => [b]
  | .whl _ b => [b]
  | .ifs _ b c => [b, c]
  | _ => []
theorem oe_ok {n : Nat} {s : St} {h : Hh} {Q : Kd} {X : Ex} (hn : 1 ≤ n) (w : ∀ p h', h'[p]? = some (.lst (s.es.map Ep.d)) → h.length ≤ p → p < h'.length → Keep [] h h' → Q (.ref p) h') : rn n i_own_expressions [s.d] h Q X := by
  cases n with
  | zero => omega
  | succ n =>
    refine u_own_expressions ?_
    cases s
    case call x as =>
      simp only [St.d]
      rw [ds_map]
      walk_at "go"
      exact w _ _ (by assumption) (by assumption) (by assumption) (by assumption)
    all_goals
      walk_at "go"
      exact w _ _ (by assumption) (by assumption) (by assumption) (by assumption)
theorem ob_ok {n : Nat} {s : St} {h : Hh} {Q : Kd} {X : Ex} (hn : 1 ≤ n) (w : ∀ p h', h'[p]? = some (.lst (s.bs.map bD)) → h.length ≤ p → p < h'.length → Keep [] h h' → Q (.ref p) h') : rn n i_own_blocks [s.d] h Q X := by
  cases n with
  | zero => omega
  | succ n =>
    refine u_own_blocks ?_
    cases s
    all_goals
      walk_at "go"
      exact w _ _ (by assumption) (by assumption) (by assumption) (by assumption)
theorem es_fit : ∀ {s : St} {e : Ep}, s.fit → e ∈ s.es → e.fit ∧ e.ht ≤ 8
  | .var _ _, e, f, m => by obtain rfl := List.mem_singleton.mp m; exact f
  | .set _ _, e, f, m => by obtain rfl := List.mem_singleton.mp m; exact f
  | .call x as, e, f, m => ⟨fits_mem f.1.2 m, by have := hts_mem (show e ∈ as from m); have := f.2; simp only [Ep.ht] at this; omega⟩
  | .hold _, e, f, m => absurd m List.not_mem_nil
  | .whl _ _, e, f, m => by obtain rfl := List.mem_singleton.mp m; exact f.1
  | .ifs _ _ _, e, f, m => by obtain rfl := List.mem_singleton.mp m; exact f.1
  | .ret _, e, f, m => by obtain rfl := List.mem_singleton.mp m; exact f
  | .out _, e, f, m => by obtain rfl := List.mem_singleton.mp m; exact f
theorem es_len : ∀ {s : St}, s.fit → s.es.length ≤ 3
  | .var _ _, f => by simp [St.es]
  | .set _ _, f => by simp [St.es]
  | .call x as, f => f.1.1
  | .hold _, f => by simp [St.es]
  | .whl _ _, f => by simp [St.es]
  | .ifs _ _ _, f => by simp [St.es]
  | .ret _, f => by simp [St.es]
  | .out _, f => by simp [St.es]
theorem bs_len : ∀ (s : St), s.bs.length ≤ 2
  | .var _ _ => by simp [St.bs]
  | .set _ _ => by simp [St.bs]
  | .call x as => by simp [St.bs]
  | .hold _ => by simp [St.bs]
  | .whl _ _ => by simp [St.bs]
  | .ifs _ _ _ => by simp [St.bs]
  | .ret _ => by simp [St.bs]
  | .out _ => by simp [St.bs]
theorem bs_fit : ∀ {s : St} {b : List St}, s.fit → b ∈ s.bs → St.fits b ∧ St.bht b + 1 ≤ s.ht ∧ grs (St.ds b) ≤ gr s.d
  | .var _ _, e, f, m => absurd m List.not_mem_nil
  | .set _ _, e, f, m => absurd m List.not_mem_nil
  | .call x as, e, f, m => absurd m List.not_mem_nil
  | .hold b, e, f, m => by
    obtain rfl := List.mem_singleton.mp m
    exact ⟨f, Nat.le_refl _, by simp only [St.d, gr, grs]; omega⟩
  | .whl _ b, e, f, m => by
    obtain rfl := List.mem_singleton.mp m
    exact ⟨f.2, Nat.le_refl _, by simp only [St.d, gr, grs]; omega⟩
  | .ifs _ b c, e, f, m => by
    simp only [St.bs, List.mem_cons, List.not_mem_nil, or_false] at m
    rcases m with rfl | rfl
    · exact ⟨f.2.1, by simp only [St.ht]; omega, by simp only [St.d, gr, grs]; omega⟩
    · exact ⟨f.2.2, by simp only [St.ht]; omega, by simp only [St.d, gr, grs]; omega⟩
  | .ret _, e, f, m => absurd m List.not_mem_nil
  | .out _, e, f, m => absurd m List.not_mem_nil
theorem gr_mem : ∀ {b : List St} {s : St}, s ∈ b → gr s.d ≤ grs (St.ds b)
  | t :: b, s, m => by
    simp only [St.ds, grs]
    rcases List.mem_cons.mp m with rfl | m
    · omega
    · have := gr_mem m; omega

/-! ### dicts -/
theorem lk_cons (e : Str × D) (r : List (Str × D)) (y : Str) : lkD (e :: r) y = if strEq e.1 y then some e.2 else lkD r y := rfl
theorem lk_hit {e : Str × D} {r : List (Str × D)} {y : Str} (h : e.1 = y) : lkD (e :: r) y = some e.2 := by rw [lk_cons, if_pos (strEq_iff.mpr h)]
theorem lk_miss {e : Str × D} {r : List (Str × D)} {y : Str} (h : ¬ e.1 = y) : lkD (e :: r) y = lkD r y := by rw [lk_cons, if_neg fun z => h (strEq_iff.mp z)]
theorem lk_map {x : Str} {d : D} (y : Str) : ∀ kvs : List (Str × D), lkD (kvs.map fun kv => if strEq kv.1 x then (kv.1, d) else kv) y = if y = x then (if kvs.any (fun kv => strEq kv.1 x) then some d else none) else lkD kvs y
  | [] => by by_cases h : y = x <;> simp [lkD, h]
  | e :: r => by
    have ih := lk_map (x := x) (d := d) y r
    rw [List.map_cons, List.any_cons]
    by_cases h : e.1 = x
    · rw [if_pos (strEq_iff.mpr h), strEq_iff.mpr h]
      by_cases hy : y = x
      · rw [lk_cons, if_pos (strEq_iff.mpr (h.trans hy.symm)), if_pos hy]
        rfl
      · have hne : ¬ e.1 = y := fun z => hy (z.symm.trans h)
        rw [lk_cons, if_neg (fun z => hne (strEq_iff.mp z)), ih, if_neg hy, if_neg hy, lk_miss hne]
    · have hx : strEq e.1 x = false := by simpa using fun z => h (strEq_iff.mp z)
      rw [if_neg (by rw [hx]; decide), hx, Bool.false_or]
      by_cases hy : e.1 = y
      · have hne : ¬ y = x := fun z => h (hy.trans z)
        rw [lk_hit hy, if_neg hne, lk_hit hy]
      · rw [lk_miss hy, ih]
        by_cases hyx : y = x
        · rw [if_pos hyx, if_pos hyx]
        · rw [if_neg hyx, if_neg hyx, lk_miss hy]
theorem lk_end {x : Str} {d : D} (y : Str) : ∀ kvs : List (Str × D), kvs.any (fun kv => strEq kv.1 x) = false → lkD (kvs ++ [(x, d)]) y = if y = x then some d else lkD kvs y
  | [], _ => by
    show lkD [(x, d)] y = _
    by_cases hy : y = x
    · rw [lk_hit hy.symm, if_pos hy]
    · rw [lk_miss fun z => hy z.symm, if_neg hy]
  | e :: r, h => by
    rw [List.any_cons, Bool.or_eq_false_iff] at h
    rw [List.cons_append]
    by_cases hy : e.1 = y
    · have hne : ¬ y = x := fun z => by rw [← hy] at z; have := strEq_iff.mpr z; rw [h.1] at this; cases this
      rw [lk_hit hy, if_neg hne, lk_hit hy]
    · rw [lk_miss hy, lk_end y r h.2]
      by_cases hyx : y = x
      · rw [if_pos hyx, if_pos hyx]
      · rw [if_neg hyx, if_neg hyx, lk_miss hy]
theorem lk_put {kvs : List (Str × D)} {x : Str} {d : D} (y : Str) : lkD (putD kvs x d) y = if y = x then some d else lkD kvs y := by
  unfold putD
  by_cases h : (kvs.any fun kv => strEq kv.1 x) = true
  · rw [if_pos h, lk_map, if_pos h]
  · rw [if_neg h]
    exact lk_end y kvs (by simpa using h)
theorem put_keys {kvs : List (Str × D)} {x : Str} {d : D} : (putD kvs x d).map (·.1) = if kvs.any (fun kv => strEq kv.1 x) then kvs.map (·.1) else kvs.map (·.1) ++ [x] := by
  unfold putD
  split
  · rw [List.map_map]
    refine List.map_congr_left fun e _ => ?_
    show (if strEq e.1 x then (e.1, d) else e).1 = e.1
    split <;> rfl
  · rw [List.map_append]
    rfl
theorem put_len {kvs : List (Str × D)} {x : Str} {d : D} : (putD kvs x d).length ≤ kvs.length + 1 := by
  unfold putD
  split
  · rw [List.length_map]; omega
  · simp
theorem put_nodup {kvs : List (Str × D)} {x : Str} {d : D} (h : (kvs.map (·.1)).Nodup) : ((putD kvs x d).map (·.1)).Nodup := by
  rw [put_keys]
  split
  · exact h
  · rename_i hn
    refine List.nodup_append.mpr ⟨h, List.nodup_cons.mpr ⟨List.not_mem_nil, List.nodup_nil⟩, fun a ha b hb e => ?_⟩
    obtain rfl := List.mem_singleton.mp hb
    obtain ⟨kv, hk, rfl⟩ := List.mem_map.mp ha
    exact hn (List.any_eq_true.mpr ⟨kv, hk, strEq_iff.mpr e⟩)
theorem lk_merge : ∀ {es kvs : List (Str × D)} (x : Str), (es.map (·.1)).Nodup → lkD (mergeD kvs es) x = (lkD es x).or (lkD kvs x)
  | [], _, _, _ => rfl
  | e :: es, kvs, x, h => by
    have h' := List.nodup_cons.mp (show (e.1 :: es.map (·.1)).Nodup from h)
    show lkD (mergeD (putD kvs e.1 e.2) es) x = _
    rw [lk_merge x h'.2, lk_put]
    have no : ∀ es : List (Str × D), e.1 ∉ es.map (·.1) → lkD es e.1 = none := by
      intro es
      induction es with
      | nil => intro _; rfl
      | cons a r ih =>
        intro hn
        rw [lk_miss fun z => hn (by rw [List.map_cons, z]; exact List.mem_cons_self)]
        exact ih fun m => hn (List.mem_cons_of_mem _ m)
    by_cases hx : x = e.1
    · subst hx
      rw [no es h'.1, if_pos rfl, lk_hit rfl]
      rfl
    · rw [if_neg hx, lk_miss fun z => hx z.symm]
theorem merge_keys : ∀ {es kvs : List (Str × D)}, (kvs.map (·.1)).Nodup → ((mergeD kvs es).map (·.1)).Nodup
  | [], _, h => h
  | e :: es, kvs, h => merge_keys (es := es) (put_nodup h)
theorem merge_len : ∀ {es kvs : List (Str × D)}, (mergeD kvs es).length ≤ kvs.length + es.length
  | [], _ => Nat.le_refl _
  | e :: es, kvs => by
    have h1 := merge_len (es := es) (kvs := putD kvs e.1 e.2)
    have h2 := put_len (kvs := kvs) (x := e.1) (d := e.2)
    show (mergeD (putD kvs e.1 e.2) es).length ≤ _
    rw [List.length_cons]
    omega
/-- the dict at n tells f -/
structure DT (h : Hh) (n : Nat) (f : Tab) (m : Nat) : Prop where
  ex : ∃ kvs, h[n]? = some (.dic kvs) ∧ (∀ x, lkD kvs x = (f x).map D.str) ∧ (kvs.map (·.1)).Nodup ∧ kvs.length ≤ m
theorem DT.mono {h h' : Hh} {n m : Nat} {f : Tab} {S : List Nat} (d : DT h n f m) (k : Keep S h h') (hn : n ∉ S) : DT h' n f m := by
  obtain ⟨kvs, e, a, b, c⟩ := d
  exact ⟨kvs, k.get e hn, a, b, c⟩
theorem DT.lt {h : Hh} {n m : Nat} {f : Tab} (d : DT h n f m) : n < h.length := by
  obtain ⟨kvs, e, a, b, c⟩ := d
  exact lt_of e
theorem DT.gd {kvs : List (Str × D)} {f : Tab} (a : ∀ x, lkD kvs x = (f x).map D.str) (x : Str) : (lkD kvs x).getD (.str x) = .str (gd f x) := by
  rw [a]
  unfold Lw.gd
  cases f x <;> rfl

end Lw

set_option Elab.async false
set_option linter.all false
set_option maxRecDepth 100000
set_option maxHeartbeats 1000000
namespace Lw
open PySem PySem.Spec PyProof.Rows L2 Mi
local macro_rules | `(tactic| walk_at "mem") => `(tactic| first | exact fun _ z => absurd z List.not_mem_nil | exact List.not_mem_nil | (intro i hi; simp only [List.mem_cons, List.not_mem_nil, or_false, false_or] at hi ⊢; omega) | (simp only [List.mem_cons, List.not_mem_nil, or_false, false_or, not_or]; omega))
local macro_rules | `(tactic| walk_at "get") => `(tactic| first | assumption | (apply Keep.get; assumption; walk_at "get"; walk_at "mem"))
local macro_rules | `(tactic| walk_at "keep") => `(tactic| first | assumption | exact Keep.refl | (apply Keep.step; assumption; walk_at "keep"; walk_at "mem"))
local macro_rules | `(tactic| walk_at "one") => `(tactic| (conv => whnf) <;> first
  | (apply br_t; rfl)
  | (apply br_f; rfl)
  | (apply rdO_i; walk_at "get")
  | (apply itm_i; first | rfl | assumption | exact getAt_end _ _)
  | (apply gtD_i; assumption)
  | (apply new_i; intro p h' e1 l1 l2 l3 k)
  | (apply put_i; walk_at "get"; intro h' e1 l1 k)
  | (apply iLst_i; first | rfl | exact intsOf_map _)
  | (apply chk_i; first | rfl | exact lenOk_le (by simp only [List.length_map, List.length_cons, List.length_append, List.length_take, List.length_nil, List.length_replicate, List.length_dropLast]; omega) | exact small_lt (by simp only [List.length_map, List.length_cons, List.length_append, List.length_take, List.length_nil, List.length_replicate, List.length_dropLast]; omega) | assumption | exact mulOk_r (by decide) | exact mulOk_l (by decide) | exact lenOk_le (by omega) | exact small_lt (by omega) | (simp; omega)))
local macro_rules | `(tactic| walk_at "go") => `(tactic| (repeat walk_at "one"); try (conv => whnf))
local macro_rules | `(tactic| walk_at "br") => `(tactic| (refine br_i (fun hc => ?_) (fun hc => ?_) <;> simp only [Bool.not_eq_true', Bool.not_eq_false', beq_iff_eq, beq_eq_false_iff_ne, ne_eq, decide_eq_true_eq, decide_eq_false_iff_not, bne_iff_ne, bne_eq_false_iff_eq] at hc) <;> first | (exfalso; omega) | walk_at "go")
mutual
def St.all : St → List St
  | .hold b => .hold b :: St.alls b
  | .whl e b => .whl e b :: St.alls b
  | .ifs e b c => .ifs e b c :: (St.alls b ++ St.alls c)
  | .var x e => [.var x e]
  | .set x e => [.set x e]
  | .call x as => [.call x as]
  | .ret e => [.ret e]
  | .out e => [.out e]
def St.alls : List St → List St
  | [] => []
  | s :: b => s.all ++ St.alls b
end
theorem all_bs (s : St) : s.all = s :: (s.bs.map St.alls).flatten := by cases s <;> simp [St.all, St.bs]
theorem alls_app : ∀ as bs : List St, St.alls (as ++ bs) = St.alls as ++ St.alls bs
  | [], _ => rfl
  | a :: as, bs => by show a.all ++ St.alls (as ++ bs) = _; rw [alls_app as bs, ← List.append_assoc]; rfl
mutual
theorem all_len : ∀ s : St, s.all.length ≤ gr s.d
  | .hold b => by have := alls_len b; simp only [St.all, St.d, gr, grs, List.length_cons]; omega
  | .whl e b => by have := alls_len b; simp only [St.all, St.d, gr, grs, List.length_cons]; omega
  | .ifs e b c => by have := alls_len b; have := alls_len c; simp only [St.all, St.d, gr, grs, List.length_cons, List.length_append]; omega
  | .var x e => by simp [St.all, St.d, gr, grs]
  | .set x e => by simp [St.all, St.d, gr, grs]
  | .call x as => by simp [St.all, St.d, gr, grs]
  | .ret e => by simp [St.all, St.d, gr, grs]
  | .out e => by simp [St.all, St.d, gr, grs]
theorem alls_len : ∀ b : List St, (St.alls b).length ≤ grs (St.ds b)
  | [] => Nat.le_refl _
  | s :: b => by have := all_len s; have := alls_len b; simp only [St.alls, St.ds, grs, List.length_append]; omega
end
def isVar : St → Bool
  | .var _ _ => true
  | _ => false
def varOf : St → Str
  | .var x _ => x
  | _ => w_
mutual
theorem all_vars : ∀ s : St, (s.all.filter isVar).map varOf = s.vars
  | .hold b => alls_vars b
  | .whl e b => alls_vars b
  | .ifs e b c => by
    show ((St.alls b ++ St.alls c).filter isVar).map varOf = _
    rw [List.filter_append, List.map_append, alls_vars b, alls_vars c]
    rfl
  | .var x e => rfl
  | .set x e => rfl
  | .call x as => rfl
  | .ret e => rfl
  | .out e => rfl
theorem alls_vars : ∀ b : List St, ((St.alls b).filter isVar).map varOf = St.bvars b
  | [] => rfl
  | s :: b => by
    show ((s.all ++ St.alls b).filter isVar).map varOf = s.vars ++ St.bvars b
    rw [List.filter_append, List.map_append, all_vars s, alls_vars b]
end
theorem bvars_len (b : List St) : (St.bvars b).length ≤ grs (St.ds b) := by
  rw [← alls_vars b, List.length_map]
  exact Nat.le_trans (List.length_filter_le _ _) (alls_len b)
theorem as_ok : ∀ (n : Nat) (b : List St) (h : Hh) (Q : Kd) (X : Ex), St.bht b + 2 ≤ n → St.fits b → grs (St.ds b) < 10000000 → (∀ p h', h'[p]? = some (.lst ((St.alls b).map St.d)) → h.length ≤ p → p < h'.length → Keep [] h h' → Q (.ref p) h') → rn n i_all_statements [bD b] h Q X
  | 0, b, _, _, _, hn, _, _, _ => absurd hn (by omega)
  | n + 1, b, h, Q, X, hn, hf, hg, w => by
    refine u_all_statements ?_
    unfold bD
    walk_at "go"
    rename_i t h1 e1 g1 g2 g3 k1
    refine loop_i (I := fun r σ h' => ∃ z1 z2 x2 x3, b = z1 ++ z2 ∧ r = St.ds z2 ∧ σ = [some (.tup (St.ds b)), some (.ref t), x2, x3] ∧ h'[t]? = some (.lst ((St.alls z1).map St.d)) ∧ h1.length ≤ h'.length ∧ Keep [t] h1 h') ?_ ?_ _ _ _ ⟨[], b, _, _, rfl, rfl, rfl, e1, Nat.le_refl _, Keep.refl⟩
    · rintro x r σ h2 K ⟨z1, z2, x2, x3, ez, er, rfl, ep, l2, k2⟩ hK
      cases z2 with
      | nil => cases er
      | cons s z2 =>
        simp only [St.ds, List.cons.injEq] at er
        obtain ⟨rfl, rfl⟩ := er
        have ms : s ∈ b := by rw [ez]; simp
        have fs := sfits_mem hf ms
        have hs := bht_mem ms
        have gs := gr_mem ms
        have la1 := alls_len z1
        have la2 := all_len s
        have lg : grs (St.ds b) = grs (St.ds z1) + (gr s.d + grs (St.ds z2)) := by rw [ez, sds_app, grs_app]; rfl
        have pl2 := lt_of ep
        walk_at "go"
        rename_i h3 e3 l3 k3
        refine ob_ok (by omega) fun v h4 e4 g4 g5 k4 => ?_
        have l4 := k4.len
        have ab := all_bs s
        walk_at "go"
        have k14 : Keep [t] h1 h4 := by walk_at "keep"
        have e34 : h4[t]? = some (.lst ((St.alls z1 ++ [s]).map St.d)) := by rw [k4.get e3 List.not_mem_nil, List.map_append]; rfl
        refine loopL_i (s.bs.map bD) (I := fun r σ h' => ∃ w1 w2 x3, s.bs = w1 ++ w2 ∧ r = w2.map bD ∧ σ = [some (.tup (St.ds b)), some (.ref t), some s.d, x3] ∧ h'[t]? = some (.lst ((St.alls z1 ++ [s] ++ (w1.map St.alls).flatten).map St.d)) ∧ h4.length ≤ h'.length ∧ Keep [t] h4 h') ?_ ?_ ?_ (s.bs.map bD) _ _ _ _ (by simp) (fuel_lt (by have := bs_len s; rw [List.length_map]; omega)) ⟨[], s.bs, _, rfl, rfl, rfl, by rw [e34]; simp, Nat.le_refl _, Keep.refl⟩
        · rintro r σ h' ⟨w1, w2, y3, eb, er, es, et, l', k'⟩
          exact k'.get e4 (by walk_at "mem")
        · rintro x r σ h5 K2 ⟨w1, w2, y3, eb, er, rfl, et, l5, k5⟩ hK2
          cases w2 with
          | nil => cases er
          | cons ib w2 =>
            simp only [List.map_cons, List.cons.injEq] at er
            obtain ⟨rfl, rfl⟩ := er
            obtain ⟨f8, t8, gr8⟩ := bs_fit (s := s) (b := ib) fs (by rw [eb]; simp)
            have lsum : (s.all).length = 1 + ((w1.map St.alls).flatten.length + ((St.alls ib).length + (w2.map St.alls).flatten.length)) := by
              rw [ab, eb, List.map_append, List.flatten_append]
              simp only [List.length_cons, List.length_append, List.map_cons, List.flatten_cons]
              omega
            walk_at "go"
            refine as_ok n ib _ _ _ (by omega) f8 (by omega) fun y h6 e6 g6 g7 k6 => ?_
            have l6 := k6.len
            have et6 := k6.get et List.not_mem_nil
            walk_at "go"
            rename_i h7 e7 l7 k7
            exact hK2 _ _ ⟨w1 ++ [ib], w2, _, by rw [eb]; simp, rfl, rfl, by rw [e7, ← List.map_append]; simp, by omega, by walk_at "keep"⟩
        · rintro σ h5 ⟨w1, w2, y3, eb, er, rfl, et, l5, k5⟩
          have : w2 = [] := List.map_eq_nil_iff.mp er.symm
          subst this
          rw [List.append_nil] at eb
          refine hK _ _ ⟨z1 ++ [s], z2, _, _, by rw [ez]; simp, rfl, rfl, ?_, by omega, by walk_at "keep"⟩
          rw [et, alls_app, ← eb]
          show some (MO.lst ((St.alls z1 ++ [s] ++ _).map St.d)) = some (MO.lst ((St.alls z1 ++ (s.all ++ [])).map St.d))
          rw [ab, List.append_nil, List.append_assoc]
          rfl
    · rintro σ h2 ⟨z1, z2, x2, x3, ez, er, rfl, ep, l2, k2⟩
      cases z2 with
      | cons s z2 => cases er
      | nil =>
        rw [List.append_nil] at ez
        subst ez
        walk_at "go"
        exact w _ _ ep (by omega) (lt_of ep) (by walk_at "keep")

/-! ### all expressions -/
mutual
def Ep.all : Ep → List Ep
  | .num z => [.num z]
  | .nam x => [.nam x]
  | .inn => [.inn]
  | .op o a b => .op o a b :: (a.all ++ b.all)
  | .call x as => .call x as :: Ep.alls as
def Ep.alls : List Ep → List Ep
  | [] => []
  | a :: as => a.all ++ Ep.alls as
end
theorem ealls_flat : ∀ as : List Ep, Ep.alls as = (as.map Ep.all).flatten
  | [] => rfl
  | a :: as => by show a.all ++ Ep.alls as = _; rw [ealls_flat as]; rfl
theorem eall_parts : ∀ e : Ep, e.all = e :: (e.parts.map Ep.all).flatten
  | .num z => rfl
  | .nam x => rfl
  | .inn => rfl
  | .op o a b => by show _ :: (a.all ++ b.all) = _ :: (a.all ++ (b.all ++ [])); rw [List.append_nil]
  | .call x as => by show _ :: Ep.alls as = _; rw [ealls_flat]; rfl
mutual
theorem eall_len : ∀ e : Ep, e.all.length ≤ gr e.d
  | .num z => by simp [Ep.all, Ep.d, gr, grs]
  | .nam x => by simp [Ep.all, Ep.d, gr, grs]
  | .inn => by simp [Ep.all, Ep.d, gr, grs]
  | .op o a b => by have := eall_len a; have := eall_len b; simp only [Ep.all, Ep.d, gr, grs, List.length_cons, List.length_append]; omega
  | .call x as => by have := ealls_len as; simp only [Ep.all, Ep.d, gr, grs, List.length_cons]; omega
theorem ealls_len : ∀ as : List Ep, (Ep.alls as).length ≤ grs (Ep.ds as)
  | [] => Nat.le_refl _
  | a :: as => by have := eall_len a; have := ealls_len as; simp only [Ep.alls, Ep.ds, grs, List.length_append]; omega
end
mutual
def St.ep : St → List Ep
  | .var _ e => e.all
  | .set _ e => e.all
  | .call _ as => Ep.alls as
  | .hold b => St.eps b
  | .whl e b => e.all ++ St.eps b
  | .ifs e b c => e.all ++ (St.eps b ++ St.eps c)
  | .ret e => e.all
  | .out e => e.all
def St.eps : List St → List Ep
  | [] => []
  | s :: b => s.ep ++ St.eps b
end
mutual
theorem ep_len : ∀ s : St, s.ep.length ≤ gr s.d
  | .var x e => by have := eall_len e; simp only [St.ep, St.d, gr, grs]; omega
  | .set x e => by have := eall_len e; simp only [St.ep, St.d, gr, grs]; omega
  | .call x as => by have := ealls_len as; simp only [St.ep, St.d, gr, grs]; omega
  | .hold b => by have := eps_len b; simp only [St.ep, St.d, gr, grs]; omega
  | .whl e b => by have := eall_len e; have := eps_len b; simp only [St.ep, St.d, gr, grs, List.length_append]; omega
  | .ifs e b c => by have := eall_len e; have := eps_len b; have := eps_len c; simp only [St.ep, St.d, gr, grs, List.length_append]; omega
  | .ret e => by have := eall_len e; simp only [St.ep, St.d, gr, grs]; omega
  | .out e => by have := eall_len e; simp only [St.ep, St.d, gr, grs]; omega
theorem eps_len : ∀ b : List St, (St.eps b).length ≤ grs (St.ds b)
  | [] => Nat.le_refl _
  | s :: b => by have := ep_len s; have := eps_len b; simp only [St.eps, St.ds, grs, List.length_append]; omega
end
/-- a statement's own -/
def St.own (s : St) : List Ep := (s.es.map Ep.all).flatten
mutual
theorem ep_own : ∀ s : St, s.ep = (s.all.map St.own).flatten
  | .var x e => by simp [St.ep, St.all, St.own, St.es]
  | .set x e => by simp [St.ep, St.all, St.own, St.es]
  | .call x as => by simp [St.ep, St.all, St.own, St.es, ealls_flat]
  | .hold b => by have := eps_own b; simp [St.ep, St.all, St.own, St.es, this]
  | .whl e b => by have := eps_own b; simp [St.ep, St.all, St.own, St.es, this]
  | .ifs e b c => by have := eps_own b; have := eps_own c; simp [St.ep, St.all, St.own, St.es, *]
  | .ret e => by simp [St.ep, St.all, St.own, St.es]
  | .out e => by simp [St.ep, St.all, St.own, St.es]
theorem eps_own : ∀ b : List St, St.eps b = ((St.alls b).map St.own).flatten
  | [] => rfl
  | s :: b => by
    show s.ep ++ St.eps b = ((s.all ++ St.alls b).map St.own).flatten
    rw [ep_own s, eps_own b, List.map_append, List.flatten_append]
end
theorem alls_fit : ∀ {b : List St} {s : St}, St.fits b → s ∈ St.alls b → s.fit := by
  have H : (∀ (s : St) (t : St), s.fit → t ∈ s.all → t.fit) ∧ ∀ (b : List St) (t : St), St.fits b → t ∈ St.alls b → t.fit := by
    refine ⟨fun s => ?_, fun b => ?_⟩
    · exact St.rec (motive_1 := fun s => ∀ t, s.fit → t ∈ s.all → t.fit) (motive_2 := fun b => ∀ t, St.fits b → t ∈ St.alls b → t.fit)
        (fun x e t f m => by simp only [St.all, List.mem_singleton] at m; subst m; exact f)
        (fun x e t f m => by simp only [St.all, List.mem_singleton] at m; subst m; exact f)
        (fun x as t f m => by simp only [St.all, List.mem_singleton] at m; subst m; exact f)
        (fun b ih t f m => by rcases List.mem_cons.mp (show t ∈ _ :: St.alls b from m) with rfl | m; exact f; exact ih t f m)
        (fun e b ih t f m => by rcases List.mem_cons.mp (show t ∈ _ :: St.alls b from m) with rfl | m; exact f; exact ih t f.2 m)
        (fun e b c ih ih2 t f m => by
          rcases List.mem_cons.mp (show t ∈ _ :: (St.alls b ++ St.alls c) from m) with rfl | m
          · exact f
          · rcases List.mem_append.mp m with m | m
            · exact ih t f.2.1 m
            · exact ih2 t f.2.2 m)
        (fun e t f m => by simp only [St.all, List.mem_singleton] at m; subst m; exact f)
        (fun e t f m => by simp only [St.all, List.mem_singleton] at m; subst m; exact f)
        (fun t f m => absurd m List.not_mem_nil)
        (fun s b ih ih2 t f m => by
          rcases List.mem_append.mp (show t ∈ s.all ++ St.alls b from m) with m | m
          · exact ih t f.1 m
          · exact ih2 t f.2 m) s
    · exact St.rec_1 (motive_1 := fun s => ∀ t, s.fit → t ∈ s.all → t.fit) (motive_2 := fun b => ∀ t, St.fits b → t ∈ St.alls b → t.fit)
        (fun x e t f m => by simp only [St.all, List.mem_singleton] at m; subst m; exact f)
        (fun x e t f m => by simp only [St.all, List.mem_singleton] at m; subst m; exact f)
        (fun x as t f m => by simp only [St.all, List.mem_singleton] at m; subst m; exact f)
        (fun b ih t f m => by rcases List.mem_cons.mp (show t ∈ _ :: St.alls b from m) with rfl | m; exact f; exact ih t f m)
        (fun e b ih t f m => by rcases List.mem_cons.mp (show t ∈ _ :: St.alls b from m) with rfl | m; exact f; exact ih t f.2 m)
        (fun e b c ih ih2 t f m => by
          rcases List.mem_cons.mp (show t ∈ _ :: (St.alls b ++ St.alls c) from m) with rfl | m
          · exact f
          · rcases List.mem_append.mp m with m | m
            · exact ih t f.2.1 m
            · exact ih2 t f.2.2 m)
        (fun e t f m => by simp only [St.all, List.mem_singleton] at m; subst m; exact f)
        (fun e t f m => by simp only [St.all, List.mem_singleton] at m; subst m; exact f)
        (fun t f m => absurd m List.not_mem_nil)
        (fun s b ih ih2 t f m => by
          rcases List.mem_append.mp (show t ∈ s.all ++ St.alls b from m) with m | m
          · exact ih t f.1 m
          · exact ih2 t f.2 m) b
  intro b s f m
  exact H.2 b s f m
/-! ### all_inner -/
theorem ai_ok : ∀ (n : Nat) (e : Ep) (h : Hh) (Q : Kd) (X : Ex), e.ht + 1 ≤ n → e.fit → gr e.d < 10000000 → (∀ p h', h'[p]? = some (.lst (e.all.map Ep.d)) → h.length ≤ p → p < h'.length → Keep [] h h' → Q (.ref p) h') → rn n i_all_inner [e.d] h Q X
  | 0, e, _, _, _, hn, _, _, _ => absurd hn (by omega)
  | n + 1, e, h, Q, X, hn, hf, hg, w => by
    have hp := ht_pos e
    have ge := eall_len e
    have hl := parts_len hf
    refine u_all_inner ?_
    generalize hD : e.d = ed
    walk_at "go"
    rename_i t h1 e1 g1 g2 g3 k1
    subst hD
    refine inner_ok (by omega) fun v h2 e2 g4 g5 k2 => ?_
    have l2 := k2.len
    have e12 := k2.get e1 List.not_mem_nil
    have ap := eall_parts e
    generalize hD : e.d = ed at e12 ⊢
    conv => whnf
    refine rdO_i e2 ?_
    conv => whnf
    refine loopL_i (e.parts.map Ep.d) (I := fun r σ h' => ∃ w1 w2 x2, e.parts = w1 ++ w2 ∧ r = w2.map Ep.d ∧ σ = [some ed, some (.ref t), x2] ∧ h'[t]? = some (.lst (ed :: (w1.map Ep.all).flatten.map Ep.d)) ∧ h2.length ≤ h'.length ∧ Keep [t] h2 h') ?_ ?_ ?_ (e.parts.map Ep.d) _ _ _ _ (by simp) (fuel_lt (by rw [List.length_map]; omega)) ⟨[], e.parts, _, rfl, rfl, rfl, by rw [e12]; rfl, Nat.le_refl _, Keep.refl⟩
    · rintro r σ h' ⟨w1, w2, y2, eb, er, es, et, l', k'⟩
      exact k'.get e2 (by walk_at "mem")
    · rintro x r σ h3 K ⟨w1, w2, y2, eb, er, rfl, et, l3, k3⟩ hK
      cases w2 with
      | nil => cases er
      | cons a w2 =>
        simp only [List.map_cons, List.cons.injEq] at er
        obtain ⟨rfl, rfl⟩ := er
        have ma : a ∈ e.parts := by rw [eb]; simp
        have ha := parts_ht ma
        have lsum : e.all.length = 1 + ((w1.map Ep.all).flatten.length + (a.all.length + (w2.map Ep.all).flatten.length)) := by
          rw [ap, eb, List.map_append, List.flatten_append]
          simp only [List.length_cons, List.length_append, List.map_cons, List.flatten_cons]
          omega
        have ga : gr a.d ≤ gr e.d := by
          cases e with
          | op o x y =>
            simp only [Ep.parts, List.mem_cons, List.not_mem_nil, or_false] at ma
            rcases ma with rfl | rfl <;> (simp only [Ep.d, gr, grs]; omega)
          | call x as =>
            have : ∀ {as : List Ep}, a ∈ as → gr a.d ≤ grs (Ep.ds as) := by
              intro as
              induction as with
              | nil => intro m; exact absurd m List.not_mem_nil
              | cons b bs ih =>
                intro m
                simp only [Ep.ds, grs]
                rcases List.mem_cons.mp m with rfl | m
                · omega
                · have := ih m; omega
            have := this (show a ∈ as from ma)
            simp only [Ep.d, gr, grs]
            omega
          | _ => exact absurd ma List.not_mem_nil
        walk_at "go"
        refine ai_ok n a _ _ _ (by omega) (parts_fit hf ma) (by omega) fun y h4 e4 g6 g7 k4 => ?_
        have l4 := k4.len
        have et4 := k4.get et List.not_mem_nil
        walk_at "go"
        rename_i h5 e5 l5 k5
        exact hK _ _ ⟨w1 ++ [a], w2, _, by rw [eb]; simp, rfl, rfl, by rw [e5]; simp, by omega, by walk_at "keep"⟩
    · rintro σ h3 ⟨w1, w2, y2, eb, er, rfl, et, l3, k3⟩
      have : w2 = [] := List.map_eq_nil_iff.mp er.symm
      subst this
      rw [List.append_nil] at eb
      rw [← eb, ← hD] at et
      have et' : h3[t]? = some (.lst (e.all.map Ep.d)) := by rw [et, ap]; rfl
      walk_at "go"
      exact w _ _ et' (by omega) (lt_of et') (by walk_at "keep")

end Lw

set_option Elab.async false
set_option linter.all false
set_option maxRecDepth 100000
set_option maxHeartbeats 1000000
namespace Lw
open PySem PySem.Spec PyProof.Rows L2 Mi
local macro_rules | `(tactic| walk_at "mem") => `(tactic| first | exact fun _ z => absurd z List.not_mem_nil | exact List.not_mem_nil | (intro i hi; simp only [List.mem_cons, List.not_mem_nil, or_false, false_or] at hi ⊢; omega) | (simp only [List.mem_cons, List.not_mem_nil, or_false, false_or, not_or]; omega))
local macro_rules | `(tactic| walk_at "get") => `(tactic| first | assumption | (apply Keep.get; assumption; walk_at "get"; walk_at "mem"))
local macro_rules | `(tactic| walk_at "keep") => `(tactic| first | assumption | exact Keep.refl | (apply Keep.step; assumption; walk_at "keep"; walk_at "mem"))
local macro_rules | `(tactic| walk_at "one") => `(tactic| (conv => whnf) <;> first
  | (apply br_t; rfl)
  | (apply br_f; rfl)
  | (apply rdO_i; walk_at "get")
  | (apply itm_i; first | rfl | assumption | exact getAt_end _ _)
  | (apply gtD_i; assumption)
  | (apply new_i; intro p h' e1 l1 l2 l3 k)
  | (apply put_i; walk_at "get"; intro h' e1 l1 k)
  | (apply iLst_i; first | rfl | exact intsOf_map _)
  | (apply chk_i; first | rfl | exact lenOk_le (by simp only [List.length_map, List.length_cons, List.length_append, List.length_take, List.length_nil, List.length_replicate, List.length_dropLast]; omega) | exact small_lt (by simp only [List.length_map, List.length_cons, List.length_append, List.length_take, List.length_nil, List.length_replicate, List.length_dropLast]; omega) | assumption | exact mulOk_r (by decide) | exact mulOk_l (by decide) | exact lenOk_le (by omega) | exact small_lt (by omega) | (simp; omega)))
local macro_rules | `(tactic| walk_at "go") => `(tactic| (repeat walk_at "one"); try (conv => whnf))
local macro_rules | `(tactic| walk_at "br") => `(tactic| (refine br_i (fun hc => ?_) (fun hc => ?_) <;> simp only [Bool.not_eq_true', Bool.not_eq_false', beq_iff_eq, beq_eq_false_iff_ne, ne_eq, decide_eq_true_eq, decide_eq_false_iff_not, bne_iff_ne, bne_eq_false_iff_eq] at hc) <;> first | (exfalso; omega) | walk_at "go")

theorem ealls_mem {as : List Ep} {a : Ep} (m : a ∈ as) : gr a.d ≤ grs (Ep.ds as) := by
  induction as with
  | nil => exact absurd m List.not_mem_nil
  | cons b bs ih =>
    simp only [Ep.ds, grs]
    rcases List.mem_cons.mp m with rfl | m
    · omega
    · have := ih m; omega
theorem es_gr : ∀ {s : St} {e : Ep}, e ∈ s.es → gr e.d ≤ gr s.d
  | .var x a, e, m => by obtain rfl := List.mem_singleton.mp m; simp only [St.d, gr, grs]; omega
  | .set x a, e, m => by obtain rfl := List.mem_singleton.mp m; simp only [St.d, gr, grs]; omega
  | .call x as, e, m => by have := ealls_mem (show e ∈ as from m); simp only [St.d, gr, grs]; omega
  | .hold b, e, m => absurd m List.not_mem_nil
  | .whl a b, e, m => by obtain rfl := List.mem_singleton.mp m; simp only [St.d, gr, grs]; omega
  | .ifs a b c, e, m => by obtain rfl := List.mem_singleton.mp m; simp only [St.d, gr, grs]; omega
  | .ret a, e, m => by obtain rfl := List.mem_singleton.mp m; simp only [St.d, gr, grs]; omega
  | .out a, e, m => by obtain rfl := List.mem_singleton.mp m; simp only [St.d, gr, grs]; omega
theorem own_len (s : St) : s.own.length ≤ gr s.d := by
  cases s with
  | var x e => have := eall_len e; simp only [St.own, St.es, List.map_cons, List.map_nil, List.flatten_cons, List.flatten_nil, List.append_nil, St.d, gr, grs]; omega
  | set x e => have := eall_len e; simp only [St.own, St.es, List.map_cons, List.map_nil, List.flatten_cons, List.flatten_nil, List.append_nil, St.d, gr, grs]; omega
  | call x as => have := ealls_len as; rw [ealls_flat] at this; simp only [St.own, St.es, St.d, gr, grs]; omega
  | hold b => simp [St.own, St.es]
  | whl e b => have := eall_len e; simp only [St.own, St.es, List.map_cons, List.map_nil, List.flatten_cons, List.flatten_nil, List.append_nil, St.d, gr, grs]; omega
  | ifs e b c => have := eall_len e; simp only [St.own, St.es, List.map_cons, List.map_nil, List.flatten_cons, List.flatten_nil, List.append_nil, St.d, gr, grs]; omega
  | ret e => have := eall_len e; simp only [St.own, St.es, List.map_cons, List.map_nil, List.flatten_cons, List.flatten_nil, List.append_nil, St.d, gr, grs]; omega
  | out e => have := eall_len e; simp only [St.own, St.es, List.map_cons, List.map_nil, List.flatten_cons, List.flatten_nil, List.append_nil, St.d, gr, grs]; omega
theorem alls_gr : ∀ {b : List St} {s : St}, s ∈ St.alls b → gr s.d ≤ grs (St.ds b) := by
  have F : ∀ (s t : St), t ∈ s.all → gr t.d ≤ gr s.d := by
    intro s
    exact St.rec (motive_1 := fun s => ∀ t, t ∈ s.all → gr t.d ≤ gr s.d) (motive_2 := fun b => ∀ t, t ∈ St.alls b → gr t.d ≤ grs (St.ds b))
      (fun x e t m => by simp only [St.all, List.mem_singleton] at m; subst m; exact Nat.le_refl _)
      (fun x e t m => by simp only [St.all, List.mem_singleton] at m; subst m; exact Nat.le_refl _)
      (fun x as t m => by simp only [St.all, List.mem_singleton] at m; subst m; exact Nat.le_refl _)
      (fun b ih t m => by rcases List.mem_cons.mp (show t ∈ _ :: St.alls b from m) with rfl | m; exact Nat.le_refl _; have := ih t m; simp only [St.d, gr, grs]; omega)
      (fun e b ih t m => by rcases List.mem_cons.mp (show t ∈ _ :: St.alls b from m) with rfl | m; exact Nat.le_refl _; have := ih t m; simp only [St.d, gr, grs]; omega)
      (fun e b c ih ih2 t m => by
        rcases List.mem_cons.mp (show t ∈ _ :: (St.alls b ++ St.alls c) from m) with rfl | m
        · exact Nat.le_refl _
        · rcases List.mem_append.mp m with m | m
          · have := ih t m; simp only [St.d, gr, grs]; omega
          · have := ih2 t m; simp only [St.d, gr, grs]; omega)
      (fun e t m => by simp only [St.all, List.mem_singleton] at m; subst m; exact Nat.le_refl _)
      (fun e t m => by simp only [St.all, List.mem_singleton] at m; subst m; exact Nat.le_refl _)
      (fun t m => absurd m List.not_mem_nil)
      (fun s b ih ih2 t m => by
        rcases List.mem_append.mp (show t ∈ s.all ++ St.alls b from m) with m | m
        · have := ih t m; simp only [St.ds, grs]; omega
        · have := ih2 t m; simp only [St.ds, grs]; omega) s
  intro b
  induction b with
  | nil => intro s m; exact absurd m List.not_mem_nil
  | cons a b ih =>
    intro s m
    rcases List.mem_append.mp (show s ∈ a.all ++ St.alls b from m) with m | m
    · have := F a s m; simp only [St.ds, grs]; omega
    · have := ih m; simp only [St.ds, grs]; omega
/-- all expressions of a block -/
theorem ae_ok {n : Nat} {b : List St} {h : Hh} {Q : Kd} {X : Ex} (hn : St.bht b + 3 ≤ n) (hn2 : 12 ≤ n) (hf : St.fits b) (hg : grs (St.ds b) < 1000000) (w : ∀ p h', h'[p]? = some (.lst ((St.eps b).map Ep.d)) → h.length ≤ p → p < h'.length → Keep [] h h' → Q (.ref p) h') : rn n i_all_expressions [bD b] h Q X := by
  cases n with
  | zero => omega
  | succ n =>
    have le := eps_len b
    have la := alls_len b
    refine u_all_expressions ?_
    generalize hB : bD b = bd
    walk_at "go"
    rename_i t h1 e1 g1 g2 g3 k1
    subst hB
    refine as_ok n b _ _ _ (by omega) hf (by omega) fun v h2 e2 g4 g5 k2 => ?_
    have l2 := k2.len
    have e12 := k2.get e1 List.not_mem_nil
    generalize hB : bD b = bd
    conv => whnf
    refine rdO_i e2 ?_
    conv => whnf
    refine loopL_i ((St.alls b).map St.d) (I := fun r σ h' => ∃ w1 w2 x2 x3, St.alls b = w1 ++ w2 ∧ r = w2.map St.d ∧ σ = [some bd, some (.ref t), x2, x3] ∧ h'[t]? = some (.lst ((w1.map St.own).flatten.map Ep.d)) ∧ h2.length ≤ h'.length ∧ Keep [t] h2 h') ?_ ?_ ?_ ((St.alls b).map St.d) _ _ _ _ (by simp) (fuel_lt (by rw [List.length_map]; omega)) ⟨[], St.alls b, _, _, rfl, rfl, rfl, e12, Nat.le_refl _, Keep.refl⟩
    · rintro r σ h' ⟨w1, w2, y2, y3, eb, er, es, et, l', k'⟩
      exact k'.get e2 (by walk_at "mem")
    · rintro x r σ h3 K ⟨w1, w2, y2, y3, eb, er, rfl, et, l3, k3⟩ hK
      cases w2 with
      | nil => cases er
      | cons s w2 =>
        simp only [List.map_cons, List.cons.injEq] at er
        obtain ⟨rfl, rfl⟩ := er
        have ms : s ∈ St.alls b := by rw [eb]; simp
        have fs := alls_fit hf ms
        have gs := alls_gr ms
        have ol := own_len s
        have lsum : (St.eps b).length = (w1.map St.own).flatten.length + (s.own.length + (w2.map St.own).flatten.length) := by
          rw [eps_own, eb, List.map_append, List.flatten_append]
          simp only [List.length_append, List.map_cons, List.flatten_cons]
        have esl := es_len fs
        walk_at "go"
        refine oe_ok (by omega) fun u h4 e4 g6 g7 k4 => ?_
        have l4 := k4.len
        have et4 := k4.get et List.not_mem_nil
        have lt3 := lt_of et
        generalize hS : s.d = sd
        conv => whnf
        refine rdO_i e4 ?_
        conv => whnf
        refine loopL_i (s.es.map Ep.d) (I := fun r σ h' => ∃ v1 v2 x3, s.es = v1 ++ v2 ∧ r = v2.map Ep.d ∧ σ = [some bd, some (.ref t), some sd, x3] ∧ h'[t]? = some (.lst (((w1.map St.own).flatten ++ (v1.map Ep.all).flatten).map Ep.d)) ∧ h4.length ≤ h'.length ∧ Keep [t] h4 h') ?_ ?_ ?_ (s.es.map Ep.d) _ _ _ _ (by simp) (fuel_lt (by rw [List.length_map]; omega)) ⟨[], s.es, _, rfl, rfl, rfl, by rw [et4]; simp, Nat.le_refl _, Keep.refl⟩
        · rintro r σ h' ⟨v1, v2, z3, ev, er, es, et, l', k'⟩
          exact k'.get e4 (by walk_at "mem")
        · rintro x r σ h5 K2 ⟨v1, v2, z3, ev, er, rfl, et5, l5, k5⟩ hK2
          cases v2 with
          | nil => cases er
          | cons e v2 =>
            simp only [List.map_cons, List.cons.injEq] at er
            obtain ⟨rfl, rfl⟩ := er
            have me : e ∈ s.es := by rw [ev]; simp
            obtain ⟨fe, te⟩ := es_fit fs me
            have ge := es_gr me
            have lown : s.own.length = (v1.map Ep.all).flatten.length + (e.all.length + (v2.map Ep.all).flatten.length) := by
              unfold St.own
              rw [ev, List.map_append, List.flatten_append]
              simp only [List.length_append, List.map_cons, List.flatten_cons]
            walk_at "go"
            refine ai_ok n e _ _ _ (by omega) fe (by omega) fun y h6 e6 g8 g9 k6 => ?_
            have l6 := k6.len
            have et6 := k6.get et5 List.not_mem_nil
            walk_at "go"
            rename_i h7 e7 l7 k7
            exact hK2 _ _ ⟨v1 ++ [e], v2, _, by rw [ev]; simp, rfl, rfl, by rw [e7]; simp, by omega, by walk_at "keep"⟩
        · rintro σ h5 ⟨v1, v2, z3, ev, er, rfl, et5, l5, k5⟩
          have : v2 = [] := List.map_eq_nil_iff.mp er.symm
          subst this
          rw [List.append_nil] at ev
          exact hK _ _ ⟨w1 ++ [s], w2, _, _, by rw [eb]; simp, rfl, rfl, by rw [et5, ← ev]; simp [St.own], by omega, by walk_at "keep"⟩
    · rintro σ h3 ⟨w1, w2, y2, y3, eb, er, rfl, et, l3, k3⟩
      have : w2 = [] := List.map_eq_nil_iff.mp er.symm
      subst this
      rw [List.append_nil] at eb
      rw [← eb, ← eps_own] at et
      walk_at "go"
      exact w _ _ et (by omega) (lt_of et) (by walk_at "keep")
/-! ### calls -/
def isC : Ep → Bool
  | .call _ _ => true
  | _ => false
def nmC : Ep → Str
  | .call x _ => x
  | _ => w_a
def Ep.cl (e : Ep) : List Str := (e.all.filter isC).map nmC
theorem cl_len (e : Ep) : e.cl.length ≤ gr e.d := by
  unfold Ep.cl
  rw [List.length_map]
  exact Nat.le_trans (List.length_filter_le _ _) (eall_len e)
def St.c0 : St → List Str
  | .call x _ => [x]
  | _ => []
def St.cl (s : St) : List Str := s.c0 ++ (s.es.map Ep.cl).flatten
theorem sc_ok {n : Nat} {s : St} {h : Hh} {Q : Kd} {X : Ex} (hn : 12 ≤ n) (hf : s.fit) (hg : gr s.d < 1000000) (w : ∀ p h', h'[p]? = some (.lst (s.cl.map .str)) → h.length ≤ p → p < h'.length → Keep [] h h' → Q (.ref p) h') : rn n i_statement_calls [s.d] h Q X := by
  cases n with
  | zero => omega
  | succ n =>
    have esl := es_len hf
    refine u_statement_calls ?_
    have HEAD : ∀ B : MB, (∀ (t : Nat) (h1 : Hh), h1[t]? = some (.lst (s.c0.map .str)) → h.length ≤ t → h.length ≤ h1.length → Keep [] h h1 → wB gls (rn n) X B (R0 Q) [some s.d, some (.ref t), none, none] h1) →
        wB gls (rn n) X (.cons (.asg (.name 1) (.ife (.cmp .eq (.ix (.var 0) (.int 0)) (.str w_call)) (.lst (.cons (.ix (.var 0) (.int 1)) .nil)) (.lst .nil))) B) (R0 Q) [some s.d, none, none, none] h := fun B W => by
      cases s <;> (walk_at "go"; rename_i t h1 e1 g1 g2 g3 k1; exact W t h1 e1 g1 (by omega) k1)
    refine HEAD c_statement_calls_2 fun t h1 e1 g1 g2 k1 => ?_
    have lt1 := lt_of e1
    conv => whnf
    refine oe_ok (by omega) fun u h2 e2 g4 g5 k2 => ?_
    have l2 := k2.len
    have e12 := k2.get e1 List.not_mem_nil
    generalize hS : s.d = sd
    conv => whnf
    refine rdO_i e2 ?_
    conv => whnf
    refine loopL_i (s.es.map Ep.d) (I := fun r σ h' => ∃ v1 v2 x2 x3 t', s.es = v1 ++ v2 ∧ r = v2.map Ep.d ∧ σ = [some sd, some (.ref t'), x2, x3] ∧ h'[t']? = some (.lst ((s.c0 ++ (v1.map Ep.cl).flatten).map .str)) ∧ h.length ≤ t' ∧ t' ≠ u ∧ h2.length ≤ h'.length ∧ Keep [] h2 h') ?_ ?_ ?_ (s.es.map Ep.d) _ _ _ _ (by simp) (fuel_lt (by rw [List.length_map]; omega)) ⟨[], s.es, _, _, t, rfl, rfl, rfl, by rw [e12]; simp, g1, by omega, Nat.le_refl _, Keep.refl⟩
    · rintro r σ h' ⟨v1, v2, z2, z3, t', ev, er, es, et, gt, nu, l', k'⟩
      exact k'.get e2 List.not_mem_nil
    · rintro x r σ h3 K ⟨v1, v2, z2, z3, t', ev, er, rfl, et, gt, nu, l3, k3⟩ hK
      cases v2 with
      | nil => cases er
      | cons e v2 =>
        simp only [List.map_cons, List.cons.injEq] at er
        obtain ⟨rfl, rfl⟩ := er
        have me : e ∈ s.es := by rw [ev]; simp
        obtain ⟨fe, te⟩ := es_fit hf me
        have ge := es_gr me
        have ae := eall_len e
        have lt3 := lt_of et
        have lc0 : s.c0.length ≤ 1 := by cases s <;> simp [St.c0]
        have lv : (v1.map Ep.cl).flatten.length ≤ v1.length * 1000000 := by
          have : ∀ v : List Ep, (∀ e ∈ v, e ∈ s.es) → (v.map Ep.cl).flatten.length ≤ v.length * 1000000 := by
            intro v
            induction v with
            | nil => intro _; simp
            | cons a v ih =>
              intro m
              have h1 := ih fun e m2 => m e (List.mem_cons_of_mem _ m2)
              have h2 := cl_len a
              have h3 := es_gr (m a List.mem_cons_self)
              simp only [List.map_cons, List.flatten_cons, List.length_append, List.length_cons]
              omega
          exact this v1 fun e m => by rw [ev]; simp [m]
        have lve := congrArg List.length ev
        simp only [List.length_append, List.length_cons] at lve
        have clb := cl_len e
        walk_at "go"
        refine ai_ok n e _ _ _ (by omega) fe (by omega) fun y h4 e4 g6 g7 k4 => ?_
        have l4 := k4.len
        walk_at "go"
        rename_i z h5 e5 g8 g9 g10 k5
        refine fltL_i Ep.d (fun e => .str (nmC e)) isC e.all (by walk_at "get") e5 (by omega) (by omega) (fun a ma h6 K6 N k6 hK6 hN => ?_) fun h6 e6 k6 => ?_
        · cases a with
          | call x as => walk_at "go"; exact hK6 rfl _ Keep.refl
          | op o x y => walk_at "go"; refine br_f (by cases o <;> rfl) ?_; exact hN rfl _ Keep.refl
          | _ => walk_at "go"; exact hN rfl _ Keep.refl
        · have ec : ((e.all.filter isC).map fun e => D.str (nmC e)) = e.cl.map .str := by unfold Ep.cl; rw [List.map_map]; rfl
          rw [ec] at e6
          have k46 : Keep [] h3 h6 := by walk_at "keep"
          have et6 := k46.get et List.not_mem_nil
          have l46 := k46.len
          walk_at "go"
          rename_i q h7 e7 g11 g12 g13 k7
          exact hK _ _ ⟨v1 ++ [e], v2, _, _, q, by rw [ev]; simp, rfl, rfl, by rw [e7]; simp, by omega, by have := lt_of e2; omega, by omega, by walk_at "keep"⟩
    · rintro σ h3 ⟨v1, v2, z2, z3, t', ev, er, rfl, et, gt, nu, l3, k3⟩
      have : v2 = [] := List.map_eq_nil_iff.mp er.symm
      subst this
      rw [List.append_nil] at ev
      rw [← ev] at et
      walk_at "go"
      exact w _ _ et gt (lt_of et) (by walk_at "keep")

end Lw

set_option Elab.async false
set_option linter.all false
set_option maxRecDepth 100000
set_option maxHeartbeats 1000000
namespace Lw
open PySem PySem.Spec PyProof.Rows L2 Mi
local macro_rules | `(tactic| walk_at "mem") => `(tactic| first | exact fun _ z => absurd z List.not_mem_nil | exact List.not_mem_nil | (intro i hi; simp only [List.mem_cons, List.not_mem_nil, or_false, false_or] at hi ⊢; omega) | (simp only [List.mem_cons, List.not_mem_nil, or_false, false_or, not_or]; omega))
local macro_rules | `(tactic| walk_at "get") => `(tactic| first | assumption | (apply Keep.get; assumption; walk_at "get"; walk_at "mem"))
local macro_rules | `(tactic| walk_at "keep") => `(tactic| first | assumption | exact Keep.refl | (apply Keep.step; assumption; walk_at "keep"; walk_at "mem"))
local macro_rules | `(tactic| walk_at "one") => `(tactic| (conv => whnf) <;> first
  | (apply br_t; rfl)
  | (apply br_f; rfl)
  | (apply rdO_i; walk_at "get")
  | (apply itm_i; first | rfl | assumption | exact getAt_end _ _)
  | (apply gtD_i; assumption)
  | (apply new_i; intro p h' e1 l1 l2 l3 k)
  | (apply put_i; walk_at "get"; intro h' e1 l1 k)
  | (apply iLst_i; first | rfl | exact intsOf_map _)
  | (apply chk_i; first | rfl | exact lenOk_le (by simp only [List.length_map, List.length_cons, List.length_append, List.length_take, List.length_nil, List.length_replicate, List.length_dropLast]; omega) | exact small_lt (by simp only [List.length_map, List.length_cons, List.length_append, List.length_take, List.length_nil, List.length_replicate, List.length_dropLast]; omega) | assumption | exact mulOk_r (by decide) | exact mulOk_l (by decide) | exact lenOk_le (by omega) | exact small_lt (by omega) | (simp; omega)))
local macro_rules | `(tactic| walk_at "go") => `(tactic| (repeat walk_at "one"); try (conv => whnf))
local macro_rules | `(tactic| walk_at "br") => `(tactic| (refine br_i (fun hc => ?_) (fun hc => ?_) <;> simp only [Bool.not_eq_true', Bool.not_eq_false', beq_iff_eq, beq_eq_false_iff_ne, ne_eq, decide_eq_true_eq, decide_eq_false_iff_not, bne_iff_ne, bne_eq_false_iff_eq] at hc) <;> first | (exfalso; omega) | walk_at "go")

/-! ### sets of keys -/
section
variable {α : Type} [DecidableEq α]
def addK (ks : List α) (k : α) : List α := if k ∈ ks then ks else ks ++ [k]
def addAll (ks l : List α) : List α := l.foldl addK ks
theorem addK_mem {ks : List α} {k x : α} : x ∈ addK ks k ↔ x ∈ ks ∨ x = k := by
  unfold addK
  split
  · rename_i h
    exact ⟨.inl, fun z => z.elim id fun e => e ▸ h⟩
  · rw [List.mem_append, List.mem_singleton]
theorem addAll_mem {x : α} : ∀ {l ks : List α}, x ∈ addAll ks l ↔ x ∈ ks ∨ x ∈ l
  | [], ks => by simp [addAll]
  | k :: l, ks => by
    show x ∈ addAll (addK ks k) l ↔ _
    rw [addAll_mem, addK_mem, List.mem_cons]
    exact ⟨fun z => z.elim (fun z => z.elim .inl fun e => .inr (.inl e)) fun z => .inr (.inr z), fun z => z.elim (fun z => .inl (.inl z)) fun z => z.elim (fun e => .inl (.inr e)) .inr⟩
theorem addK_nodup {ks : List α} {k : α} (h : ks.Nodup) : (addK ks k).Nodup := by
  unfold addK
  split
  · exact h
  · rename_i n
    exact List.nodup_append.mpr ⟨h, by simp, fun a ha b hb e => n (by rw [← List.mem_singleton.mp hb, ← e]; exact ha)⟩
theorem addAll_nodup : ∀ {l ks : List α}, ks.Nodup → (addAll ks l).Nodup
  | [], _, h => h
  | k :: l, ks, h => addAll_nodup (l := l) (addK_nodup h)
theorem addK_len {ks : List α} {k : α} : (addK ks k).length ≤ ks.length + 1 := by
  unfold addK
  split <;> simp
theorem addAll_len : ∀ {l ks : List α}, (addAll ks l).length ≤ ks.length + l.length
  | [], _ => Nat.le_refl _
  | k :: l, ks => by
    have h1 := addAll_len (l := l) (ks := addK ks k)
    have h2 := addK_len (ks := ks) (k := k)
    show (addAll (addK ks k) l).length ≤ _
    rw [List.length_cons]
    omega
theorem addAll_app {a b ks : List α} : addAll ks (a ++ b) = addAll (addAll ks a) b := List.foldl_append
/-- a dict whose keys these are -/
theorem putT_add {enc : α → List D} (inj : ∀ a b, eqDs (enc a) (enc b) = decide (a = b)) (ks : List α) (k : α) :
    putT (ks.map fun a => (enc a, D.bl true)) (enc k) (.bl true) = (addK ks k).map fun a => (enc a, D.bl true) := by
  unfold putT addK
  have e : ((ks.map fun a => (enc a, D.bl true)).any fun kv => eqDs kv.1 (enc k)) = decide (k ∈ ks) := by
    rw [List.any_map, Bool.eq_iff_iff, List.any_eq_true, decide_eq_true_iff]
    constructor
    · rintro ⟨a, ma, ea⟩
      rw [Function.comp_apply, inj, decide_eq_true_iff] at ea
      exact ea ▸ ma
    · exact fun m => ⟨k, m, by rw [Function.comp_apply, inj]; exact decide_eq_true rfl⟩
  rw [e]
  by_cases h : k ∈ ks
  · rw [if_pos (decide_eq_true h), if_pos h, List.map_map]
    refine List.map_congr_left fun a _ => ?_
    show (if eqDs (enc a) (enc k) then (enc a, D.bl true) else (enc a, D.bl true)) = _
    split <;> rfl
  · rw [if_neg (by simpa using h), if_neg h, List.map_append]
    rfl
theorem perm_dec {f : α → D} {g : D → α} (gf : ∀ a, g (f a) = a) {ks : List α} {ys : List D} (p : ys.Perm (ks.map f)) : ∃ zs : List α, zs.Perm ks ∧ ys = zs.map f := by
  refine ⟨ys.map g, ?_, ?_⟩
  · have := p.map g
    rw [List.map_map, show (g ∘ f) = id from funext gf, List.map_id] at this
    exact this
  · rw [List.map_map]
    conv => lhs; rw [← List.map_id ys]
    refine List.map_congr_left fun y m => ?_
    obtain ⟨a, _, rfl⟩ := List.mem_map.mp (p.mem_iff.mp m)
    show f a = f (g (f a))
    rw [gf]
end
/-! ### calls with their mode -/
abbrev Ck := Str × Int
def kE (k : Ck) : List D := [.str k.1, .int k.2]
def kT (k : Ck) : D := .tup (kE k)
def unK : D → Ck
  | .tup [.str x, .int i] => (x, i)
  | _ => (w_a, 0)
theorem unK_kT (k : Ck) : unK (kT k) = k := rfl
theorem kE_inj (a b : Ck) : eqDs (kE a) (kE b) = decide (a = b) := by
  show (strEq a.1 b.1 && ((a.2 == b.2) && true)) = _
  rw [Bool.eq_iff_iff]
  simp only [Bool.and_eq_true, strEq_iff, beq_iff_eq, and_true, decide_eq_true_eq]
  exact ⟨fun z => Prod.ext z.1 z.2, fun z => ⟨congrArg Prod.fst z, congrArg Prod.snd z⟩⟩
theorem srtok_k (ks : List Ck) : SrtOk (ks.map kT) := by
  refine .inr (.inr (.inr ⟨fun x m => ?_, .inr fun x m => ?_, fun x m y m2 => ?_⟩))
  · obtain ⟨k, _, rfl⟩ := List.mem_map.mp m
    exact ⟨rfl, by simp [kT, kE, D.dep, D.deps]⟩
  · obtain ⟨k, _, rfl⟩ := List.mem_map.mp m
    rfl
  · obtain ⟨k, _, rfl⟩ := List.mem_map.mp m
    obtain ⟨j, _, rfl⟩ := List.mem_map.mp m2
    show cmpDs (kE k) (kE j) = true
    simp only [kE, cmpDs]
    split
    · split <;> rfl
    · rfl
def hdOf (hd : Int) : St → Int
  | .hold _ => 1
  | _ => hd
mutual
/-- what a statement adds to the table -/
def St.c1 (hd : Int) : St → List Ck
  | .var _ e => e.cl.map (·, hd)
  | .set _ e => e.cl.map (·, hd)
  | .call x as => (x :: (as.map Ep.cl).flatten).map (·, hd)
  | .hold b => St.ct 1 b
  | .whl e b => e.cl.map (·, hd) ++ St.ct hd b
  | .ifs e b c => e.cl.map (·, hd) ++ (St.ct hd b ++ St.ct hd c)
  | .ret e => e.cl.map (·, hd)
  | .out e => e.cl.map (·, hd)
def St.ct (hd : Int) : List St → List Ck
  | [] => []
  | s :: b => s.c1 hd ++ St.ct hd b
end
theorem c1_eq (hd : Int) (s : St) : s.c1 hd = s.cl.map (·, hd) ++ (s.bs.map (St.ct (hdOf hd s))).flatten := by
  cases s <;> simp [St.c1, St.cl, St.c0, St.es, St.bs, hdOf]
theorem acl_len : ∀ as : List Ep, ((as.map Ep.cl).flatten).length ≤ grs (Ep.ds as)
  | [] => Nat.le_refl _
  | a :: as => by
    have h1 := cl_len a
    have h2 := acl_len as
    simp only [List.map_cons, List.flatten_cons, List.length_append, Ep.ds, grs]
    omega
mutual
theorem c1_len : ∀ (hd : Int) (s : St), (s.c1 hd).length ≤ gr s.d
  | hd, .var x e => by have := cl_len e; simp only [St.c1, St.d, gr, grs, List.length_map]; omega
  | hd, .set x e => by have := cl_len e; simp only [St.c1, St.d, gr, grs, List.length_map]; omega
  | hd, .call x as => by have := acl_len as; simp only [St.c1, St.d, gr, grs, List.length_map, List.length_cons]; omega
  | hd, .hold b => by have := ct_len 1 b; simp only [St.c1, St.d, gr, grs]; omega
  | hd, .whl e b => by have := cl_len e; have := ct_len hd b; simp only [St.c1, St.d, gr, grs, List.length_map, List.length_append]; omega
  | hd, .ifs e b c => by have := cl_len e; have := ct_len hd b; have := ct_len hd c; simp only [St.c1, St.d, gr, grs, List.length_map, List.length_append]; omega
  | hd, .ret e => by have := cl_len e; simp only [St.c1, St.d, gr, grs, List.length_map]; omega
  | hd, .out e => by have := cl_len e; simp only [St.c1, St.d, gr, grs, List.length_map]; omega
theorem ct_len : ∀ (hd : Int) (b : List St), (St.ct hd b).length ≤ grs (St.ds b)
  | hd, [] => Nat.le_refl _
  | hd, s :: b => by have := c1_len hd s; have := ct_len hd b; simp only [St.ct, St.ds, grs, List.length_append]; omega
end
theorem ct_app (hd : Int) : ∀ a b : List St, St.ct hd (a ++ b) = St.ct hd a ++ St.ct hd b
  | [], b => rfl
  | s :: a, b => by show s.c1 hd ++ St.ct hd (a ++ b) = _; rw [ct_app hd a b, ← List.append_assoc]; rfl
/-- the table -/
abbrev kM (ks : List Ck) : List (List D × D) := ks.map fun a => (kE a, D.bl true)
theorem ct_ok : ∀ (n : Nat) (b : List St) (hd : Int) (ks : List Ck) (t : Nat) (h : Hh) (Q : Kd) (X : Ex), St.bht b + 14 ≤ n → St.fits b → grs (St.ds b) < 1000000 → ks.length + (St.bht b + 1) * grs (St.ds b) < 10000000 → h[t]? = some (.dtp (kM ks)) →
    (∀ h', h'[t]? = some (.dtp (kM (addAll ks (St.ct hd b)))) → Keep [t] h h' → Q .non h') → rn n i_calls_table [bD b, .int hd, .ref t] h Q X
  | 0, b, _, _, _, _, _, _, hn, _, _, _, _, _ => absurd hn (by omega)
  | n + 1, b, hd, ks, t, h, Q, X, hn, hf, hg, hk0, et, w => by
    have lt0 := lt_of et
    rw [Nat.succ_mul] at hk0
    have hk : ks.length + grs (St.ds b) < 10000000 := by omega
    refine u_calls_table ?_
    generalize hB : D.tup (St.ds b) = bd
    have W0 : ∀ {R : Prop}, (wB gls (rn n) X b_calls_table (R0 Q) [some bd, some (.int hd), some (.ref t), none, none, none] h → R) → (wB gls (rn n) X b_calls_table (R0 Q) [some (bD b), some (.int hd), some (.ref t), none, none, none] h → R) := fun z y => z (by rw [← hB]; exact y)
    show wB gls (rn n) X b_calls_table (R0 Q) [some (.tup (St.ds b)), some (.int hd), some (.ref t), none, none, none] h
    conv => whnf
    refine loop_i (I := fun r σ h' => ∃ z1 z2 x3 x4 x5, b = z1 ++ z2 ∧ r = St.ds z2 ∧ σ = [some (.tup (St.ds b)), some (.int hd), some (.ref t), x3, x4, x5] ∧ h'[t]? = some (.dtp (kM (addAll ks (St.ct hd z1)))) ∧ h.length ≤ h'.length ∧ Keep [t] h h') ?_ ?_ _ _ _ ⟨[], b, _, _, _, rfl, rfl, rfl, et, Nat.le_refl _, Keep.refl⟩
    · rintro x r σ h1 K ⟨z1, z2, x3, x4, x5, ez, er, rfl, e1, l1, k1⟩ hK
      cases z2 with
      | nil => cases er
      | cons s z2 =>
        simp only [St.ds, List.cons.injEq] at er
        obtain ⟨rfl, rfl⟩ := er
        have ms : s ∈ b := by rw [ez]; simp
        have fs := sfits_mem hf ms
        have hs := bht_mem ms
        have lg : grs (St.ds b) = grs (St.ds z1) + (gr s.d + grs (St.ds z2)) := by rw [ez, sds_app, grs_app]; rfl
        have lz1 := ct_len hd z1
        have ls := c1_len hd s
        have la := addAll_len (ks := ks) (l := St.ct hd z1)
        have c1e := c1_eq hd s
        have lcs : (s.c1 hd).length = s.cl.length + ((s.bs.map (St.ct (hdOf hd s))).flatten).length := by rw [c1e]; simp
        rw [hB]
        walk_at "go"
        refine sc_ok (by omega) fs (by omega) fun v h2 e2 g1 g2 k2 => ?_
        have l2 := k2.len
        have e12 := k2.get e1 List.not_mem_nil
        have lt1 := lt_of e1
        have k02 : Keep [t] h h2 := by walk_at "keep"
        generalize hS : s.d = sd
        conv => whnf
        refine rdO_i e2 ?_
        conv => whnf
        refine loopL_i (s.cl.map D.str) (I := fun r σ h' => ∃ v1 v2 x4, s.cl = v1 ++ v2 ∧ r = v2.map D.str ∧ σ = [some bd, some (.int hd), some (.ref t), some sd, x4, x5] ∧ h'[t]? = some (.dtp (kM (addAll (addAll ks (St.ct hd z1)) (v1.map (·, hd))))) ∧ h2.length ≤ h'.length ∧ Keep [t] h2 h') ?_ ?_ ?_ (s.cl.map D.str) _ _ _ _ (by simp) (fuel_lt (by rw [List.length_map]; omega)) ⟨[], s.cl, _, rfl, rfl, rfl, e12, Nat.le_refl _, Keep.refl⟩
        · rintro r σ h' ⟨v1, v2, z4, ev, er, es, et', l', k'⟩
          exact k'.get e2 (by walk_at "mem")
        · rintro x r σ h3 K2 ⟨v1, v2, z4, ev, er, rfl, e3, l3, k3⟩ hK2
          cases v2 with
          | nil => cases er
          | cons y v2 =>
            simp only [List.map_cons, List.cons.injEq] at er
            obtain ⟨rfl, rfl⟩ := er
            have lv := congrArg List.length ev
            simp only [List.length_append, List.length_cons] at lv
            have lb := addAll_len (ks := addAll ks (St.ct hd z1)) (l := v1.map (·, hd))
            rw [List.length_map] at lb
            have lt3 := lt_of e3
            conv => whnf
            refine chk_i rfl ?_
            conv => whnf
            refine rdO_i e3 ?_
            conv => whnf
            refine chk_i (by rw [show ([D.str y, D.int hd].all isKy) = true from rfl, Bool.true_and]; exact small_lt (by rw [List.length_map]; omega)) ?_
            refine put_i e3 fun h4 e4 l4 k4 => ?_
            refine hK2 _ _ ⟨v1 ++ [y], v2, _, by rw [ev]; simp, rfl, rfl, ?_, by omega, by walk_at "keep"⟩
            rw [e4, List.map_append, addAll_app, show [D.str y, D.int hd] = kE (y, hd) from rfl]
            exact congrArg (fun z => some (MO.dtp z)) (putT_add kE_inj _ (y, hd))
        · rintro σ h3 ⟨v1, v2, z4, ev, er, rfl, e3, l3, k3⟩
          have : v2 = [] := List.map_eq_nil_iff.mp er.symm
          subst this
          rw [List.append_nil] at ev
          rw [← ev] at e3
          have lt3 := lt_of e3
          have lb := addAll_len (ks := addAll ks (St.ct hd z1)) (l := s.cl.map (·, hd))
          rw [List.length_map] at lb
          subst hS
          conv => whnf
          refine ob_ok (by omega) fun u h4 e4 g3 g4 k4 => ?_
          have l4 := k4.len
          have e34 := k4.get e3 List.not_mem_nil
          have k04 : Keep [t] h h4 := by walk_at "keep"
          conv => whnf
          refine rdO_i e4 ?_
          conv => whnf
          refine loopL_i (s.bs.map bD) (I := fun r σ h' => ∃ w1 w2 x5, s.bs = w1 ++ w2 ∧ r = w2.map bD ∧ σ = [some bd, some (.int hd), some (.ref t), some s.d, z4, x5] ∧ h'[t]? = some (.dtp (kM (addAll (addAll (addAll ks (St.ct hd z1)) (s.cl.map (·, hd))) (w1.map (St.ct (hdOf hd s))).flatten))) ∧ h4.length ≤ h'.length ∧ Keep [t] h4 h') ?_ ?_ ?_ (s.bs.map bD) _ _ _ _ (by simp) (fuel_lt (by have := bs_len s; rw [List.length_map]; omega)) ⟨[], s.bs, _, rfl, rfl, rfl, e34, Nat.le_refl _, Keep.refl⟩
          · rintro r σ h' ⟨w1, w2, y5, eb, er, es, et', l', k'⟩
            exact k'.get e4 (by walk_at "mem")
          · rintro x r σ h5 K3 ⟨w1, w2, y5, eb, er, rfl, e5, l5, k5⟩ hK3
            cases w2 with
            | nil => cases er
            | cons ib w2 =>
              simp only [List.map_cons, List.cons.injEq] at er
              obtain ⟨rfl, rfl⟩ := er
              obtain ⟨f8, t8, gr8⟩ := bs_fit (s := s) (b := ib) fs (by rw [eb]; simp)
              have lw : ((s.bs.map (St.ct (hdOf hd s))).flatten).length = ((w1.map (St.ct (hdOf hd s))).flatten).length + ((St.ct (hdOf hd s) ib).length + ((w2.map (St.ct (hdOf hd s))).flatten).length) := by
                rw [eb, List.map_append, List.flatten_append]
                simp only [List.length_append, List.map_cons, List.flatten_cons]
              have lc := addAll_len (ks := addAll (addAll ks (St.ct hd z1)) (s.cl.map (·, hd))) (l := (w1.map (St.ct (hdOf hd s))).flatten)
              have lt5 := lt_of e5
              have CALL : rn n i_calls_table [bD ib, .int (hdOf hd s), .ref t] h5 (fun _ h1 => K3 [some bd, some (.int hd), some (.ref t), some s.d, z4, some (bD ib)] h1) X := by
                refine ct_ok n ib (hdOf hd s) _ t _ _ _ (by omega) f8 (by omega) (by have := Nat.mul_le_mul (show St.bht ib + 1 ≤ St.bht b by omega) (show grs (St.ds ib) ≤ grs (St.ds b) by omega); omega) e5 fun h6 e6 k6 => ?_
                have l6 := k6.len
                refine hK3 _ _ ⟨w1 ++ [ib], w2, _, by rw [eb]; simp, rfl, rfl, ?_, by omega, by walk_at "keep"⟩
                rw [e6, ← addAll_app]
                simp
              cases s with
              | hold b0 => walk_at "go"; exact CALL
              | ifs e0 b0 c0 => walk_at "go"; exact CALL
              | whl e0 b0 => walk_at "go"; exact CALL
              | _ => exact absurd eb.symm (by simp [St.bs])
          · rintro σ h5 ⟨w1, w2, y5, eb, er, rfl, e5, l5, k5⟩
            have : w2 = [] := List.map_eq_nil_iff.mp er.symm
            subst this
            rw [List.append_nil] at eb
            rw [← eb, ← addAll_app, ← addAll_app, ← c1e] at e5
            rw [← hB]
            refine hK _ _ ⟨z1 ++ [s], z2, _, _, _, by rw [ez]; simp, rfl, rfl, ?_, by omega, by walk_at "keep"⟩
            rw [e5, ct_app]
            simp [St.ct]
    · rintro σ h1 ⟨z1, z2, x3, x4, x5, ez, er, rfl, e1, l1, k1⟩
      cases z2 with
      | cons s z2 => cases er
      | nil =>
        rw [List.append_nil] at ez
        subst ez
        exact w _ e1 k1
/-- the calls of a block, in some order -/
theorem bc_ok {n : Nat} {b : List St} {h : Hh} {Q : Kd} {X : Ex} (hn : St.bht b + 15 ≤ n) (ht : St.bht b ≤ 6) (hf : St.fits b) (hg : grs (St.ds b) < 1000000)
    (w : ∀ (zs : List Ck) h', zs.Perm (addAll [] (St.ct 0 b)) → Keep [] h h' → Q (.tup (zs.map kT)) h') : rn n i_block_calls [bD b] h Q X := by
  cases n with
  | zero => omega
  | succ n =>
    refine u_block_calls ?_
    generalize hB : bD b = bd
    walk_at "go"
    rename_i t h1 e1 g1 g2 g3 k1
    subst hB
    refine ct_ok n b 0 [] t _ _ _ (by omega) hf hg (by have := Nat.mul_le_mul (show St.bht b + 1 ≤ 7 by omega) (Nat.le_refl (grs (St.ds b))); simp only [List.length_nil]; omega) e1 fun h2 e2 k2 => ?_
    have l2 := k2.len
    have lc := ct_len 0 b
    have la := addAll_len (ks := []) (l := St.ct 0 b)
    simp only [List.length_nil] at la
    have k02 : Keep [] h h2 := by walk_at "keep"
    generalize hB : bD b = bd
    conv => whnf
    refine rdO_i e2 ?_
    conv => whnf
    rw [List.map_map, show ((fun kv : List D × D => D.tup kv.1) ∘ fun a : Ck => (kE a, D.bl true)) = kT from rfl]
    refine srtD_i (srtok_k _) (by rw [List.length_map]; exact lenOk_i (lenOk_le (by omega))) fun ys pm st => ?_
    obtain ⟨zs, pz, rfl⟩ := perm_dec unK_kT pm
    walk_at "go"
    exact w zs _ pz (by walk_at "keep")
end Lw
namespace Lw

end Lw

set_option Elab.async false
set_option linter.all false
set_option maxRecDepth 100000
set_option maxHeartbeats 1000000
namespace Lw
open PySem PySem.Spec PyProof.Rows L2 Mi
local macro_rules | `(tactic| walk_at "mem") => `(tactic| first | exact fun _ z => absurd z List.not_mem_nil | exact List.not_mem_nil | (intro i hi; simp only [List.mem_cons, List.not_mem_nil, or_false, false_or] at hi ⊢; omega) | (simp only [List.mem_cons, List.not_mem_nil, or_false, false_or, not_or]; omega))
local macro_rules | `(tactic| walk_at "get") => `(tactic| first | assumption | (apply Keep.get; assumption; walk_at "get"; walk_at "mem"))
local macro_rules | `(tactic| walk_at "keep") => `(tactic| first | assumption | exact Keep.refl | (apply Keep.step; assumption; walk_at "keep"; walk_at "mem"))
local macro_rules | `(tactic| walk_at "one") => `(tactic| (conv => whnf) <;> first
  | (apply br_t; rfl)
  | (apply br_f; rfl)
  | (apply rdO_i; walk_at "get")
  | (apply itm_i; first | rfl | assumption | exact getAt_end _ _)
  | (apply gtD_i; assumption)
  | (apply new_i; intro p h' e1 l1 l2 l3 k)
  | (apply put_i; walk_at "get"; intro h' e1 l1 k)
  | (apply iLst_i; first | rfl | exact intsOf_map _)
  | (apply chk_i; first | rfl | exact lenOk_le (by simp only [List.length_map, List.length_cons, List.length_append, List.length_take, List.length_nil, List.length_replicate, List.length_dropLast]; omega) | exact small_lt (by simp only [List.length_map, List.length_cons, List.length_append, List.length_take, List.length_nil, List.length_replicate, List.length_dropLast]; omega) | assumption | exact mulOk_r (by decide) | exact mulOk_l (by decide) | exact lenOk_le (by omega) | exact small_lt (by omega) | (simp; omega)))
local macro_rules | `(tactic| walk_at "go") => `(tactic| (repeat walk_at "one"); try (conv => whnf))
local macro_rules | `(tactic| walk_at "br") => `(tactic| (refine br_i (fun hc => ?_) (fun hc => ?_) <;> simp only [Bool.not_eq_true', Bool.not_eq_false', beq_iff_eq, beq_eq_false_iff_ne, ne_eq, decide_eq_true_eq, decide_eq_false_iff_not, bne_iff_ne, bne_eq_false_iff_eq] at hc) <;> first | (exfalso; omega) | walk_at "go")

theorem perm_map_inv {α β : Type} {f : α → β} : ∀ {ys : List β} {xs : List α}, ys.Perm (xs.map f) → ∃ zs : List α, zs.Perm xs ∧ ys = zs.map f
  | [], xs, p => by
    have := List.map_eq_nil_iff.mp (List.nil_perm.mp p)
    subst this
    exact ⟨[], List.Perm.refl _, rfl⟩
  | y :: ys, xs, p => by
    obtain ⟨a, ma, ea⟩ := List.mem_map.mp (p.mem_iff.mp List.mem_cons_self)
    obtain ⟨s, t, rfl⟩ := List.append_of_mem ma
    subst ea
    have p2 : (f a :: ys).Perm (f a :: (s ++ t).map f) := by
      refine p.trans ?_
      rw [List.map_append, List.map_append, List.map_cons]
      exact List.perm_middle
    obtain ⟨zs, q, e⟩ := perm_map_inv (List.Perm.cons_inv p2)
    exact ⟨a :: zs, (List.Perm.cons a q).trans List.perm_middle.symm, by rw [List.map_cons, e]⟩
/-! ### units -/
abbrev Un := Int × Int × Str
def uE (u : Un) : List D := [.int u.1, .int u.2.1, .str u.2.2]
def uT (u : Un) : D := .tup (uE u)
def unU : D → Un
  | .tup [.int l, .int m, .str x] => (l, m, x)
  | _ => (0, 0, w_a)
theorem unU_uT (u : Un) : unU (uT u) = u := rfl
theorem uE_inj (a b : Un) : eqDs (uE a) (uE b) = decide (a = b) := by
  show ((a.1 == b.1) && ((a.2.1 == b.2.1) && (strEq a.2.2 b.2.2 && true))) = _
  rw [Bool.eq_iff_iff]
  simp only [Bool.and_eq_true, strEq_iff, beq_iff_eq, and_true, decide_eq_true_eq]
  exact ⟨fun z => Prod.ext z.1 (Prod.ext z.2.1 z.2.2), fun z => ⟨congrArg Prod.fst z, congrArg (fun q => q.2.1) z, congrArg (fun q => q.2.2) z⟩⟩
theorem srtok_u (us : List Un) : SrtOk (us.map uT) := by
  refine .inr (.inr (.inr ⟨fun x m => ?_, .inl fun x m => ?_, fun x m y m2 => ?_⟩))
  · obtain ⟨k, _, rfl⟩ := List.mem_map.mp m
    exact ⟨rfl, by simp [uT, uE, D.dep, D.deps]⟩
  · obtain ⟨k, _, rfl⟩ := List.mem_map.mp m
    rfl
  · obtain ⟨k, _, rfl⟩ := List.mem_map.mp m
    obtain ⟨j, _, rfl⟩ := List.mem_map.mp m2
    show cmpDs (uE k) (uE j) = true
    simp only [uE, cmpDs]
    split
    · split
      · split <;> rfl
      · rfl
    · rfl
/-- the names that a block calls -/
def cnm (b : List St) : List Str := (St.ct 0 b).map (·.1)
/-- what is asked of a tree -/
structure TA (t : Tr) : Prop where
  o : t.ok2
  fn : (t.funs.map (·.1)).Nodup
  on : (t.ons.map (·.1)).Nodup
  nm : ∀ f ∈ t.funs, f.1 ≠ w_main ∧ f.1 ≠ w_on
  cf : ∀ f ∈ t.funs, ∀ x ∈ cnm f.2.2, x ∈ t.funs.map (·.1)
  co : ∀ o ∈ t.ons, ∀ x ∈ cnm o.2, x ∈ t.funs.map (·.1)
  cm : ∀ x ∈ cnm t.main, x ∈ t.funs.map (·.1)
/-- the block of a unit -/
def UB (t : Tr) (u : Un) (b : List St) : Prop := (u.2.2 = w_main ∧ b = t.main) ∨ (u.2.2 = w_on ∧ ∃ o ∈ t.ons, o.1 = u.1 ∧ b = o.2) ∨ ∃ f ∈ t.funs, f.1 = u.2.2 ∧ b = f.2.2
section
variable {n : Nat} {t : Tr} {h : Hh} {Q : Kd} {X : Ex}
theorem fst_inj {α β : Type} {xs : List (α × β)} {a b : α × β} (nd : (xs.map (·.1)).Nodup) (ma : a ∈ xs) (mb : b ∈ xs) (e : a.1 = b.1) : a = b := by
  induction xs with
  | nil => exact absurd ma List.not_mem_nil
  | cons x xs ih =>
    obtain ⟨n1, n2⟩ := List.nodup_cons.mp (show (x.1 :: xs.map (·.1)).Nodup from nd)
    rcases List.mem_cons.mp ma with h1 | h1 <;> rcases List.mem_cons.mp mb with h2 | h2
    · rw [h1, h2]
    · subst h1
      exact absurd (by rw [e]; exact List.mem_map_of_mem h2) n1
    · subst h2
      exact absurd (by rw [← e]; exact List.mem_map_of_mem h1) n1
    · exact ih n2 h1 h2
theorem fo_ok {f : Str × List Str × List St} (hn : 1 ≤ n) (nd : (t.funs.map (·.1)).Nodup) (mf : f ∈ t.funs) (w : Q (fuD f) h) : rn n i_fun_of [t.d, .str f.1] h Q X := by
  cases n with
  | zero => omega
  | succ n =>
    refine u_fun_of ?_
    unfold Tr.d
    generalize hT : D.tup [.tup (t.cells.map cD), .tup (t.funs.map fuD), .tup (t.ons.map oD), bD t.main] = td
    have W0 : wB gls (rn n) X b_fun_of (R0 Q) [some (D.tup [.tup (t.cells.map cD), .tup (t.funs.map fuD), .tup (t.ons.map oD), bD t.main]), some (.str f.1), none] h → wB gls (rn n) X b_fun_of (R0 Q) [some td, some (.str f.1), none] h := fun z => by rw [← hT]; exact z
    refine W0 ?_
    conv => whnf
    refine itm_i rfl ?_
    conv => whnf
    refine loop_i (I := fun r σ h' => ∃ z1 z2 x2, t.funs = z1 ++ z2 ∧ r = z2.map fuD ∧ f ∈ z2 ∧ σ = [some (D.tup [.tup (t.cells.map cD), .tup (t.funs.map fuD), .tup (t.ons.map oD), bD t.main]), some (.str f.1), x2] ∧ h' = h) ?_ ?_ _ _ _ ⟨[], t.funs, _, rfl, rfl, mf, rfl, rfl⟩
    · rintro x r σ h' K ⟨z1, z2, x2, ez, er, mz, rfl, rfl⟩ hK
      cases z2 with
      | nil => cases er
      | cons g z2 =>
        simp only [List.map_cons, List.cons.injEq] at er
        obtain ⟨rfl, rfl⟩ := er
        have mg : g ∈ t.funs := by rw [ez]; simp
        have eF : fuD g = .tup [.str g.1, .tup (g.2.1.map .str), bD g.2.2] := rfl
        generalize t.funs.map fuD = F at hK ⊢
        rw [eF]
        walk_at "go"
        refine br_i (fun hc => ?_) (fun hc => ?_)
        · have ec : g.1 = f.1 := strEq_iff.mp hc
          have := fst_inj nd mg mf ec
          subst this
          walk_at "go"
          exact w
        · have ec : ¬ g.1 = f.1 := fun e => by rw [show strEq g.1 f.1 = true from strEq_iff.mpr e] at hc; cases hc
          have mz2 : f ∈ z2 := by
            rcases List.mem_cons.mp mz with rfl | m
            · exact absurd rfl ec
            · exact m
          exact hK _ _ ⟨z1 ++ [g], z2, _, by rw [ez]; simp, rfl, mz2, rfl, rfl⟩
    · rintro σ h' ⟨z1, z2, x2, ez, er, mz, rfl, rfl⟩
      have : z2 = [] := List.map_eq_nil_iff.mp er.symm
      subst this
      exact absurd mz List.not_mem_nil
theorem bo_ok {u : Un} {b : List St} (hn : 2 ≤ n) (T : TA t) (ub : UB t u b) (w : ∀ h', Keep [] h h' → Q (bD b) h') : rn n i_block_of [t.d, uT u] h Q X := by
  cases n with
  | zero => omega
  | succ n =>
    obtain ⟨l, m, x⟩ := u
    have lo := T.o.o
    refine u_block_of ?_
    have FO : ∀ (f : Str × List Str × List St) (h : Hh) (Q : Kd), f ∈ t.funs → Q (fuD f) h → rn n i_fun_of [t.d, .str f.1] h Q X := fun f h Q mf w => fo_ok (by omega) T.fn mf w
    have eT : t.d = D.tup [.tup (t.cells.map cD), .tup (t.funs.map fuD), .tup (t.ons.map oD), bD t.main] := rfl
    rw [eT] at FO ⊢
    generalize t.cells.map cD = CC at FO ⊢
    generalize hF : t.funs.map fuD = FF at FO ⊢
    have eU : uT (l, m, x) = .tup [.int l, .int m, .str x] := rfl
    rw [eU]
    rcases ub with ⟨e1, e2⟩ | ⟨e1, o, mo, e2, e3⟩ | ⟨f, mf, e1, e2⟩
    · have e1' : x = w_main := e1
      subst e1' e2
      generalize t.ons.map oD = OO
      walk_at "go"
      exact w _ Keep.refl
    · have e1' : x = w_on := e1
      have e2' : o.1 = l := e2
      subst e1' e3
      generalize bD t.main = MM at FO ⊢
      walk_at "go"
      rename_i p h1 g0 g1 g2 g3 k1
      refine flt_i oD (fun o => bD o.2) (fun q => q.1 == l) t.ons g0 (by omega) (fun q mq h2 K N k2 hK hN => ?_) fun h2 e2 k2 => ?_
      · unfold oD
        walk_at "go"
        refine br_i (fun hc => ?_) (fun hc => ?_)
        · exact hK hc _ Keep.refl
        · exact hN hc _ Keep.refl
      · have hh : ∃ r, t.ons.filter (fun q => q.1 == l) = o :: r := by
          have mo2 : o ∈ t.ons.filter (fun q => q.1 == l) := List.mem_filter.mpr ⟨mo, by simp [e2']⟩
          cases e : t.ons.filter (fun q => q.1 == l) with
          | nil => rw [e] at mo2; exact absurd mo2 List.not_mem_nil
          | cons a r =>
            have ma : a ∈ t.ons.filter (fun q => q.1 == l) := by rw [e]; exact List.mem_cons_self
            obtain ⟨m1, m2⟩ := List.mem_filter.mp ma
            have := fst_inj T.on m1 mo (by rw [e2']; simpa using m2)
            subst this
            exact ⟨r, rfl⟩
        obtain ⟨r, er⟩ := hh
        rw [er] at e2
        have k02 : Keep [] h h2 := by walk_at "keep"
        conv => whnf
        refine rdO_i e2 ?_
        conv => whnf
        refine itm_i (d := bD o.2) ?_ ?_
        · unfold getAt ixAt
          rw [if_pos (by decide), if_pos (by simp only [List.map_cons, List.length_cons]; omega)]
          rfl
        · exact w _ k02
    · have e1' : f.1 = x := e1
      obtain ⟨q1, q2⟩ := T.nm f mf
      subst e1' e2
      have n1 : strEq f.1 w_main = false := by
        cases h : strEq f.1 w_main with
        | false => rfl
        | true => exact absurd (strEq_iff.mp h) q1
      have n2 : strEq f.1 w_on = false := by
        cases h : strEq f.1 w_on with
        | false => rfl
        | true => exact absurd (strEq_iff.mp h) q2
      generalize bD t.main = MM at FO ⊢
      generalize t.ons.map oD = OO at FO ⊢
      walk_at "go"
      refine br_f n1 ?_
      walk_at "go"
      refine br_f n2 ?_
      walk_at "go"
      refine FO f _ _ mf ?_
      unfold fuD
      walk_at "go"
      exact w _ Keep.refl
theorem oD_cmp (T : TA t) : SrtOk (t.ons.map oD) := by
  refine .inr (.inr (.inr ⟨fun x m => ?_, .inl fun x m => ?_, fun x m y m2 => ?_⟩))
  · obtain ⟨o, mo, rfl⟩ := List.mem_map.mp m
    have hb := bOk_deps (T.o.ob o mo)
    refine ⟨?_, ?_⟩
    · show (true && (D.flat (bD o.2) && true)) = true
      rw [pln_flat _ (bD_pln _)]
      rfl
    · simp only [oD, bD, D.dep, D.deps]
      omega
  · obtain ⟨o, mo, rfl⟩ := List.mem_map.mp m
    rfl
  · obtain ⟨o, mo, rfl⟩ := List.mem_map.mp m
    obtain ⟨q, mq, rfl⟩ := List.mem_map.mp m2
    show cmpDs [.int o.1, bD o.2] [.int q.1, bD q.2] = true
    simp only [cmpDs]
    split
    · rename_i e
      have e1 : o.1 = q.1 := by simpa [eqD] using e
      have := fst_inj T.on mo mq e1
      subst this
      rw [if_pos (eqD_refl _ (bD_pln _))]
    · rfl
def rtO (o : Int × List St) : Un := (o.1, 0, w_on)
def rtM : Un := (0, 0, w_main)
/-- the roots, in some order -/
theorem ro_ok (hn : 1 ≤ n) (T : TA t) (w : ∀ (p : Nat) (os : List (Int × List St)) (h' : Hh), h'[p]? = some (.lst ((rtM :: os.map rtO).map uT)) → os.Perm t.ons → h.length ≤ p → p < h'.length → Keep [] h h' → Q (.ref p) h') : rn n i_roots_of [t.d] h Q X := by
  cases n with
  | zero => omega
  | succ n =>
    have lo := T.o.o
    refine u_roots_of ?_
    have eT : t.d = D.tup [.tup (t.cells.map cD), .tup (t.funs.map fuD), .tup (t.ons.map oD), bD t.main] := rfl
    rw [eT]
    generalize t.cells.map cD = CC
    generalize t.funs.map fuD = FF
    generalize bD t.main = MM
    walk_at "go"
    rename_i p h1 e1 g1 g2 g3 k1
    refine srtD_i (oD_cmp T) (by rw [List.length_map]; exact lenOk_i (lenOk_le (by omega))) fun ys pm st => ?_
    obtain ⟨os, po, rfl⟩ := perm_map_inv pm
    have lp := po.length_eq
    walk_at "go"
    rename_i q h2 e2 g4 g5 g6 k2 r h3 e3 g7 g8 g9 k3
    refine mapL_i oD (fun o => uT (rtO o)) os (by walk_at "get") e3 (by omega) (by omega) (fun o mo h4 K N k4 hK => ?_) fun h4 e4 k4 => ?_
    · unfold oD
      walk_at "go"
      exact hK _ Keep.refl
    · have e14 : h4[p]? = some (.lst [D.tup [.int 0, .int 0, .str w_main]]) := by walk_at "get"
      have k04 : Keep [] h h4 := by walk_at "keep"
      have l4 := k4.len
      walk_at "go"
      rename_i z h5 e5 g10 g11 g12 k5
      refine w z os h5 ?_ po (by omega) g11 (by walk_at "keep")
      rw [e5, List.map_cons, List.map_map]
      rfl
end

end Lw

set_option Elab.async false
set_option linter.all false
set_option maxRecDepth 100000
set_option maxHeartbeats 1000000
namespace Lw
open PySem PySem.Spec PyProof.Rows L2 Mi
local macro_rules | `(tactic| walk_at "mem") => `(tactic| first | exact fun _ z => absurd z List.not_mem_nil | exact List.not_mem_nil | (intro i hi; simp only [List.mem_cons, List.not_mem_nil, or_false, false_or] at hi ⊢; omega) | (simp only [List.mem_cons, List.not_mem_nil, or_false, false_or, not_or]; omega))
local macro_rules | `(tactic| walk_at "get") => `(tactic| first | assumption | (apply Keep.get; assumption; walk_at "get"; walk_at "mem"))
local macro_rules | `(tactic| walk_at "keep") => `(tactic| first | assumption | exact Keep.refl | (apply Keep.step; assumption; walk_at "keep"; walk_at "mem"))
local macro_rules | `(tactic| walk_at "one") => `(tactic| (conv => whnf) <;> first
  | (apply br_t; rfl)
  | (apply br_f; rfl)
  | (apply rdO_i; walk_at "get")
  | (apply itm_i; first | rfl | assumption | exact getAt_end _ _)
  | (apply gtD_i; assumption)
  | (apply new_i; intro p h' e1 l1 l2 l3 k)
  | (apply put_i; walk_at "get"; intro h' e1 l1 k)
  | (apply iLst_i; first | rfl | exact intsOf_map _)
  | (apply chk_i; first | rfl | exact lenOk_le (by simp only [List.length_map, List.length_cons, List.length_append, List.length_take, List.length_nil, List.length_replicate, List.length_dropLast]; omega) | exact small_lt (by simp only [List.length_map, List.length_cons, List.length_append, List.length_take, List.length_nil, List.length_replicate, List.length_dropLast]; omega) | assumption | exact mulOk_r (by decide) | exact mulOk_l (by decide) | exact lenOk_le (by omega) | exact small_lt (by omega) | (simp; omega)))
local macro_rules | `(tactic| walk_at "go") => `(tactic| (repeat walk_at "one"); try (conv => whnf))
local macro_rules | `(tactic| walk_at "br") => `(tactic| (refine br_i (fun hc => ?_) (fun hc => ?_) <;> simp only [Bool.not_eq_true', Bool.not_eq_false', beq_iff_eq, beq_eq_false_iff_ne, ne_eq, decide_eq_true_eq, decide_eq_false_iff_not, bne_iff_ne, bne_eq_false_iff_eq] at hc) <;> first | (exfalso; omega) | walk_at "go")

theorem nodup_len {α : Type} [DecidableEq α] : ∀ {l m : List α}, l.Nodup → (∀ x ∈ l, x ∈ m) → l.length ≤ m.length
  | [], m, _, _ => Nat.zero_le _
  | x :: l, m, nd, sub => by
    obtain ⟨n1, n2⟩ := List.nodup_cons.mp nd
    have mx := sub x List.mem_cons_self
    have h1 := nodup_len (l := l) (m := m.erase x) n2 fun y hy => (List.mem_erase_of_ne (a := y) (b := x) fun e => n1 (by rw [← e]; exact hy)).mpr (sub y (List.mem_cons_of_mem _ hy))
    have h2 := List.length_erase_of_mem mx
    have h3 := List.length_pos_of_mem mx
    rw [List.length_cons]
    omega
mutual
theorem c1_01 : ∀ (hd : Int) (s : St) (k : Ck), (hd = 0 ∨ hd = 1) → k ∈ s.c1 hd → k.2 = 0 ∨ k.2 = 1
  | hd, .var x e, k, hh, m => by obtain ⟨y, _, rfl⟩ := List.mem_map.mp m; exact hh
  | hd, .set x e, k, hh, m => by obtain ⟨y, _, rfl⟩ := List.mem_map.mp m; exact hh
  | hd, .call x as, k, hh, m => by obtain ⟨y, _, rfl⟩ := List.mem_map.mp m; exact hh
  | hd, .hold b, k, hh, m => ct_01 1 b k (.inr rfl) m
  | hd, .whl e b, k, hh, m => by
    rcases List.mem_append.mp m with m | m
    · obtain ⟨y, _, rfl⟩ := List.mem_map.mp m; exact hh
    · exact ct_01 hd b k hh m
  | hd, .ifs e b c, k, hh, m => by
    rcases List.mem_append.mp m with m | m
    · obtain ⟨y, _, rfl⟩ := List.mem_map.mp m; exact hh
    · rcases List.mem_append.mp m with m | m
      · exact ct_01 hd b k hh m
      · exact ct_01 hd c k hh m
  | hd, .ret e, k, hh, m => by obtain ⟨y, _, rfl⟩ := List.mem_map.mp m; exact hh
  | hd, .out e, k, hh, m => by obtain ⟨y, _, rfl⟩ := List.mem_map.mp m; exact hh
theorem ct_01 : ∀ (hd : Int) (b : List St) (k : Ck), (hd = 0 ∨ hd = 1) → k ∈ St.ct hd b → k.2 = 0 ∨ k.2 = 1
  | hd, [], k, hh, m => absurd m List.not_mem_nil
  | hd, s :: b, k, hh, m => by
    rcases List.mem_append.mp (show k ∈ s.c1 hd ++ St.ct hd b from m) with m | m
    · exact c1_01 hd s k hh m
    · exact ct_01 hd b k hh m
end
/-- what is reached -/
inductive Rc (t : Tr) : Str → Prop where
  | main {x : Str} (m : x ∈ cnm t.main) : Rc t x
  | on {o : Int × List St} {x : Str} (mo : o ∈ t.ons) (m : x ∈ cnm o.2) : Rc t x
  | fn {f : Str × List Str × List St} {x : Str} (mf : f ∈ t.funs) (r : Rc t f.1) (m : x ∈ cnm f.2.2) : Rc t x
def mx (m h : Int) : Int := if h > m then h else m
def lvs (t : Tr) : List Int := 0 :: t.ons.map (·.1)
def Uni (t : Tr) : List Un := (rtM :: t.ons.map rtO) ++ ((lvs t).map fun l => (t.funs.map fun f => [(l, 0, f.1), (l, 1, f.1)]).flatten).flatten
theorem uni_fn {t : Tr} {l m : Int} {x : Str} (hl : l ∈ lvs t) (hm : m = 0 ∨ m = 1) (hx : x ∈ t.funs.map (·.1)) : (l, m, x) ∈ Uni t := by
  obtain ⟨f, mf, rfl⟩ := List.mem_map.mp hx
  refine List.mem_append.mpr (.inr (List.mem_flatten.mpr ⟨_, List.mem_map_of_mem hl, List.mem_flatten.mpr ⟨_, List.mem_map_of_mem mf, ?_⟩⟩))
  rcases hm with rfl | rfl <;> simp
theorem uni_of {t : Tr} {u : Un} (h : u ∈ Uni t) : u.1 ∈ lvs t ∧ (u.2.1 = 0 ∨ u.2.1 = 1) := by
  rcases List.mem_append.mp h with h | h
  · rcases List.mem_cons.mp h with rfl | h
    · exact ⟨List.mem_cons_self, .inl rfl⟩
    · obtain ⟨o, mo, rfl⟩ := List.mem_map.mp h
      exact ⟨List.mem_cons_of_mem _ (List.mem_map_of_mem mo), .inl rfl⟩
  · obtain ⟨a, ma, hu⟩ := List.mem_flatten.mp h
    obtain ⟨l, hl, rfl⟩ := List.mem_map.mp ma
    obtain ⟨b, mb, hu⟩ := List.mem_flatten.mp hu
    obtain ⟨f, mf, rfl⟩ := List.mem_map.mp mb
    simp only [List.mem_cons, List.not_mem_nil, or_false] at hu
    rcases hu with rfl | rfl
    · exact ⟨hl, .inl rfl⟩
    · exact ⟨hl, .inr rfl⟩
theorem flat_len {α β : Type} {g : α → List β} {B : Nat} : ∀ {xs : List α}, (∀ x ∈ xs, (g x).length ≤ B) → ((xs.map g).flatten).length ≤ xs.length * B
  | [], _ => by simp
  | x :: xs, h => by
    have h1 := h x List.mem_cons_self
    have h2 := flat_len (g := g) (B := B) (xs := xs) fun y m => h y (List.mem_cons_of_mem _ m)
    rw [List.map_cons, List.flatten_cons, List.length_append, List.length_cons, Nat.add_mul]
    omega
theorem uni_len {t : Tr} (T : TA t) : (Uni t).length ≤ 95 := by
  have lf := T.o.f
  have lo := T.o.o
  have h1 : ∀ l : Int, ((t.funs.map fun f => [((l, 0, f.1) : Un), (l, 1, f.1)]).flatten).length ≤ 18 := fun l => by
    have := flat_len (g := fun f : Str × List Str × List St => [((l, 0, f.1) : Un), (l, 1, f.1)]) (B := 2) (xs := t.funs) fun _ _ => by simp
    omega
  have h2 := flat_len (g := fun l => (t.funs.map fun f => [((l, 0, f.1) : Un), (l, 1, f.1)]).flatten) (B := 18) (xs := lvs t) fun l _ => h1 l
  have h3 : (lvs t).length = t.ons.length + 1 := by simp [lvs]
  unfold Uni
  rw [List.length_append, List.length_cons, List.length_map]
  rw [h3] at h2
  omega
/-- a unit that is there -/
def Snd (t : Tr) (u : Un) : Prop := u ∈ Uni t ∧ (u = rtM ∨ (∃ o ∈ t.ons, u = rtO o) ∨ (Rc t u.2.2 ∧ u.2.2 ∈ t.funs.map (·.1)))
theorem snd_ub {t : Tr} {u : Un} (s : Snd t u) : ∃ b, UB t u b := by
  rcases s.2 with rfl | ⟨o, mo, rfl⟩ | ⟨r, m⟩
  · exact ⟨_, .inl ⟨rfl, rfl⟩⟩
  · exact ⟨_, .inr (.inl ⟨rfl, o, mo, rfl, rfl⟩)⟩
  · obtain ⟨f, mf, e⟩ := List.mem_map.mp m
    exact ⟨_, .inr (.inr ⟨f, mf, e, rfl⟩)⟩
theorem ub_uniq {t : Tr} (T : TA t) {u : Un} {b c : List St} (h1 : UB t u b) (h2 : UB t u c) : b = c := by
  have ne : w_main ≠ w_on := by decide
  rcases h1 with ⟨a1, a2⟩ | ⟨a1, o, mo, a2, a3⟩ | ⟨f, mf, a1, a2⟩ <;> rcases h2 with ⟨b1, b2⟩ | ⟨b1, q, mq, b2, b3⟩ | ⟨g, mg, b1, b2⟩
  · rw [a2, b2]
  · exact absurd (a1.symm.trans b1) ne
  · exact absurd (b1.trans a1) (T.nm g mg).1
  · exact absurd (b1.symm.trans a1) ne
  · have := fst_inj T.on mo mq (a2.trans b2.symm)
    subst this
    rw [a3, b3]
  · exact absurd (b1.trans a1) (T.nm g mg).2
  · exact absurd (a1.trans b1) (T.nm f mf).1
  · exact absurd (a1.trans b1) (T.nm f mf).2
  · have := fst_inj T.fn mf mg (a1.trans b1.symm)
    subst this
    rw [a2, b2]
theorem ub_bok {t : Tr} (T : TA t) {u : Un} {b : List St} (h : UB t u b) : bOk b := by
  rcases h with ⟨_, rfl⟩ | ⟨_, o, mo, _, rfl⟩ | ⟨f, mf, _, rfl⟩
  · exact T.o.m
  · exact T.o.ob o mo
  · exact (T.o.fb f mf).2
/-- what it calls is there, too -/
theorem snd_call {t : Tr} (T : TA t) {u : Un} {b : List St} (s : Snd t u) (h : UB t u b) {k : Ck} (m : k ∈ St.ct 0 b) : Snd t (u.1, mx u.2.1 k.2, k.1) := by
  have mk : k.1 ∈ cnm b := List.mem_map_of_mem m
  obtain ⟨s1, s2⟩ := uni_of s.1
  have hm : mx u.2.1 k.2 = 0 ∨ mx u.2.1 k.2 = 1 := by
    have := ct_01 0 b k (.inl rfl) m
    unfold mx
    split <;> assumption
  have key : k.1 ∈ t.funs.map (·.1) ∧ Rc t k.1 := by
    rcases h with ⟨_, rfl⟩ | ⟨_, o, mo, _, rfl⟩ | ⟨f, mf, e, rfl⟩
    · exact ⟨T.cm _ mk, .main mk⟩
    · exact ⟨T.co o mo _ mk, .on mo mk⟩
    · refine ⟨T.cf f mf _ mk, .fn mf ?_ mk⟩
      rcases s.2 with rfl | ⟨o, mo, rfl⟩ | ⟨r, _⟩
      · exact absurd e (T.nm f mf).1
      · exact absurd e (T.nm f mf).2
      · rw [e]; exact r
  exact ⟨uni_fn s1 hm key.1, .inr (.inr ⟨key.2, key.1⟩)⟩
section
variable {n : Nat} {t : Tr} {h : Hh} {Q : Kd} {X : Ex}
abbrev uM (us : List Un) : List (List D × D) := us.map fun a => (uE a, D.bl true)
theorem ca_ok {u : Un} {b : List St} (hn : 24 ≤ n) (T : TA t) (ub : UB t u b) (w : ∀ (us : List Un) h', us.Nodup → (∀ v, v ∈ us ↔ ∃ k ∈ St.ct 0 b, v = (u.1, mx u.2.1 k.2, k.1)) → Keep [] h h' → Q (.tup (us.map uT)) h') : rn n i_callees [t.d, uT u] h Q X := by
  cases n with
  | zero => omega
  | succ n =>
    obtain ⟨b1, b2, b3⟩ := ub_bok T ub
    have lc := ct_len 0 b
    have BO : ∀ (h : Hh) (Q : Kd), (∀ h', Keep [] h h' → Q (bD b) h') → rn n i_block_of [t.d, uT u] h Q X := fun h Q w => bo_ok (by omega) T ub w
    have BC : ∀ (h : Hh) (Q : Kd), (∀ (zs : List Ck) h', zs.Perm (addAll [] (St.ct 0 b)) → Keep [] h h' → Q (.tup (zs.map kT)) h') → rn n i_block_calls [bD b] h Q X := fun h Q w => bc_ok (by omega) b2 b1 (by omega) w
    refine u_callees ?_
    generalize t.d = td at BO ⊢
    generalize bD b = bd at BO BC
    obtain ⟨l, m, x⟩ := u
    have eU : uT (l, m, x) = .tup [.int l, .int m, .str x] := rfl
    rw [eU] at BO ⊢
    walk_at "go"
    rename_i p h1 e1 g1 g2 g3 k1
    refine BO _ _ fun h2 k2 => ?_
    walk_at "go"
    refine BC _ _ fun zs h3 pz k3 => ?_
    have k13 : Keep [] h1 h3 := by walk_at "keep"
    have e13 := k13.get e1 List.not_mem_nil
    have l13 := k13.len
    have k03 : Keep [] h h3 := by walk_at "keep"
    have lz := pz.length_eq
    have la := addAll_len (ks := []) (l := St.ct 0 b)
    simp only [List.length_nil] at la
    conv => whnf
    refine loop_i (I := fun r σ h' => ∃ z1 z2 x6 x7, zs = z1 ++ z2 ∧ r = z2.map kT ∧ σ = [some td, some (.tup [.int l, .int m, .str x]), some (.int l), some (.int m), some (.str x), some (.ref p), x6, x7] ∧ h'[p]? = some (.dtp (uM (addAll [] (z1.map fun k => (l, mx m k.2, k.1))))) ∧ h3.length ≤ h'.length ∧ Keep [p] h3 h') ?_ ?_ _ _ _ ⟨[], zs, _, _, rfl, rfl, rfl, e13, Nat.le_refl _, Keep.refl⟩
    · rintro y r σ h4 K ⟨z1, z2, x6, x7, ez, er, rfl, e4, l4, k4⟩ hK
      cases z2 with
      | nil => cases er
      | cons k z2 =>
        simp only [List.map_cons, List.cons.injEq] at er
        obtain ⟨rfl, rfl⟩ := er
        have lz2 := congrArg List.length ez
        simp only [List.length_append, List.length_cons] at lz2
        have lb := addAll_len (ks := []) (l := z1.map fun k : Ck => ((l, mx m k.2, k.1) : Un))
        rw [List.length_map, List.length_nil] at lb
        have lt4 := lt_of e4
        obtain ⟨y1, y2⟩ := k
        conv => whnf
        refine chk_i rfl ?_
        conv => whnf
        refine rdO_i e4 ?_
        conv => whnf
        refine chk_i (by rw [show ([D.int l, D.int (if y2 > m then y2 else m), D.str y1].all isKy) = true from rfl, Bool.true_and]; exact small_lt (by rw [List.length_map]; omega)) ?_
        refine put_i e4 fun h5 e5 l5 k5 => ?_
        refine hK _ _ ⟨z1 ++ [(y1, y2)], z2, _, _, by rw [ez]; simp, rfl, rfl, ?_, by omega, by walk_at "keep"⟩
        rw [e5, List.map_append, addAll_app, show [D.int l, D.int (if y2 > m then y2 else m), D.str y1] = uE (l, mx m y2, y1) from rfl]
        exact congrArg (fun z => some (MO.dtp z)) (putT_add uE_inj _ (l, mx m y2, y1))
    · rintro σ h4 ⟨z1, z2, x6, x7, ez, er, rfl, e4, l4, k4⟩
      have : z2 = [] := List.map_eq_nil_iff.mp er.symm
      subst this
      rw [List.append_nil] at ez
      subst ez
      have lb := addAll_len (ks := []) (l := zs.map fun k : Ck => ((l, mx m k.2, k.1) : Un))
      rw [List.length_map, List.length_nil] at lb
      have k04 : Keep [] h h4 := by walk_at "keep"
      conv => whnf
      refine rdO_i e4 ?_
      conv => whnf
      rw [List.map_map, show ((fun kv : List D × D => D.tup kv.1) ∘ fun a : Un => (uE a, D.bl true)) = uT from rfl]
      refine srtD_i (srtok_u _) (by rw [List.length_map]; exact lenOk_i (lenOk_le (by omega))) fun ys pm st => ?_
      obtain ⟨us, pu, rfl⟩ := perm_dec unU_uT pm
      walk_at "go"
      refine w us _ (pu.nodup_iff.mpr (addAll_nodup List.nodup_nil)) (fun v => ?_) (by walk_at "keep")
      rw [pu.mem_iff, addAll_mem, List.mem_map]
      constructor
      · rintro (h | ⟨k, mk, rfl⟩)
        · exact absurd h List.not_mem_nil
        · exact ⟨k, (addAll_mem.mp (pz.mem_iff.mp mk)).elim (fun h => absurd h List.not_mem_nil) id, rfl⟩
      · rintro ⟨k, mk, rfl⟩
        exact .inr ⟨k, pz.mem_iff.mpr (addAll_mem.mpr (.inr mk)), rfl⟩
end

end Lw

set_option Elab.async false
set_option linter.all false
set_option maxRecDepth 100000
set_option maxHeartbeats 1000000
namespace Lw
open PySem PySem.Spec PyProof.Rows L2 Mi
local macro_rules | `(tactic| walk_at "mem") => `(tactic| first | exact fun _ z => absurd z List.not_mem_nil | exact List.not_mem_nil | (intro i hi; simp only [List.mem_cons, List.not_mem_nil, or_false, false_or] at hi ⊢; omega) | (simp only [List.mem_cons, List.not_mem_nil, or_false, false_or, not_or]; omega))
local macro_rules | `(tactic| walk_at "get") => `(tactic| first | assumption | (apply Keep.get; assumption; walk_at "get"; walk_at "mem"))
local macro_rules | `(tactic| walk_at "keep") => `(tactic| first | assumption | exact Keep.refl | (apply Keep.step; assumption; walk_at "keep"; walk_at "mem"))
local macro_rules | `(tactic| walk_at "one") => `(tactic| (conv => whnf) <;> first
  | (apply br_t; rfl)
  | (apply br_f; rfl)
  | (apply rdO_i; walk_at "get")
  | (apply itm_i; first | rfl | assumption | exact getAt_end _ _)
  | (apply gtD_i; assumption)
  | (apply new_i; intro p h' e1 l1 l2 l3 k)
  | (apply put_i; walk_at "get"; intro h' e1 l1 k)
  | (apply iLst_i; first | rfl | exact intsOf_map _)
  | (apply chk_i; first | rfl | exact lenOk_le (by simp only [List.length_map, List.length_cons, List.length_append, List.length_take, List.length_nil, List.length_replicate, List.length_dropLast]; omega) | exact small_lt (by simp only [List.length_map, List.length_cons, List.length_append, List.length_take, List.length_nil, List.length_replicate, List.length_dropLast]; omega) | assumption | exact mulOk_r (by decide) | exact mulOk_l (by decide) | exact lenOk_le (by omega) | exact small_lt (by omega) | (simp; omega)))
local macro_rules | `(tactic| walk_at "go") => `(tactic| (repeat walk_at "one"); try (conv => whnf))
local macro_rules | `(tactic| walk_at "br") => `(tactic| (refine br_i (fun hc => ?_) (fun hc => ?_) <;> simp only [Bool.not_eq_true', Bool.not_eq_false', beq_iff_eq, beq_eq_false_iff_ne, ne_eq, decide_eq_true_eq, decide_eq_false_iff_not, bne_iff_ne, bne_eq_false_iff_eq] at hc) <;> first | (exfalso; omega) | walk_at "go")

/-! ### the web of units -/
abbrev Wb := List (Un × List Un)
def wM (ws : Wb) : List (List D × D) := ws.map fun z => (uE z.1, D.tup (z.2.map uT))
abbrev kys (ws : Wb) : List Un := ws.map (·.1)
theorem lkT_w (ws : Wb) (u : Un) : (lkT (wM ws) (uE u)).isSome = decide (u ∈ kys ws) := by
  induction ws with
  | nil => rfl
  | cons z ws ih =>
    show (if eqDs (uE z.1) (uE u) then some (D.tup (z.2.map uT)) else lkT (wM ws) (uE u)).isSome = decide (u ∈ z.1 :: kys ws)
    rw [uE_inj]
    by_cases h : z.1 = u
    · rw [if_pos (decide_eq_true h), decide_eq_true (by rw [h]; exact List.mem_cons_self)]
      rfl
    · rw [if_neg (by simpa using h), ih, Bool.eq_iff_iff, decide_eq_true_iff, decide_eq_true_iff, List.mem_cons]
      exact ⟨.inr, fun q => q.elim (fun e => absurd e.symm h) id⟩
theorem putT_new {ws : Wb} {u : Un} (us : List Un) (h : u ∉ kys ws) : putT (wM ws) (uE u) (.tup (us.map uT)) = wM (ws ++ [(u, us)]) := by
  have e : ((wM ws).any fun kv => eqDs kv.1 (uE u)) = false := by
    rw [List.any_eq_false]
    intro kv m
    obtain ⟨z, mz, rfl⟩ := List.mem_map.mp m
    show ¬ eqDs (uE z.1) (uE u) = true
    rw [uE_inj]
    intro q
    have : z.1 = u := of_decide_eq_true q
    exact h (this ▸ List.mem_map_of_mem mz)
  unfold putT
  rw [e, if_neg (by decide)]
  unfold wM
  rw [List.map_append]
  rfl
theorem lkT_new {ws : Wb} {u : Un} {us : List Un} (h : u ∉ kys ws) : lkT (wM (ws ++ [(u, us)])) (uE u) = some (.tup (us.map uT)) := by
  induction ws with
  | nil =>
    show (if eqDs (uE u) (uE u) then some (D.tup (us.map uT)) else none) = _
    rw [uE_inj, if_pos (decide_eq_true rfl)]
  | cons z ws ih =>
    show (if eqDs (uE z.1) (uE u) then some (D.tup (z.2.map uT)) else lkT (wM (ws ++ [(u, us)])) (uE u)) = _
    rw [uE_inj, if_neg (fun q => h (by have : z.1 = u := of_decide_eq_true q; rw [← this]; exact List.mem_cons_self))]
    exact ih fun m => h (List.mem_cons_of_mem _ m)
def isRt (t : Tr) (u : Un) : Prop := u = rtM ∨ ∃ o ∈ t.ons, u = rtO o
structure WI (t : Tr) (ws : Wb) (td : List Un) : Prop where
  nd : (kys ws).Nodup
  s : ∀ u, u ∈ kys ws ∨ u ∈ td → Snd t u
  c : ∀ z ∈ ws, ∀ v ∈ z.2, v ∈ kys ws ∨ v ∈ td
  a : ∀ z ∈ ws, ∀ b, UB t z.1 b → ∀ k ∈ St.ct 0 b, (z.1.1, mx z.1.2.1 k.2, k.1) ∈ z.2
  r : ∀ u, isRt t u → u ∈ kys ws ∨ u ∈ td
theorem WI.skip {t : Tr} {ws : Wb} {td : List Un} {u : Un} (W : WI t ws (td ++ [u])) (h : u ∈ kys ws) : WI t ws td := by
  have key : ∀ v, v ∈ kys ws ∨ v ∈ td ++ [u] → v ∈ kys ws ∨ v ∈ td := fun v q => q.elim .inl fun m => (List.mem_append.mp m).elim .inr fun e => .inl (by rw [List.mem_singleton.mp e]; exact h)
  exact ⟨W.nd, fun v q => W.s v (q.elim .inl fun m => .inr (List.mem_append.mpr (.inl m))), fun z mz v mv => key v (W.c z mz v mv), W.a, fun v q => key v (W.r v q)⟩
theorem WI.add {t : Tr} (T : TA t) {ws : Wb} {td us : List Un} {u : Un} {b : List St} (W : WI t ws (td ++ [u])) (h : u ∉ kys ws) (ub : UB t u b) (hu : ∀ v, v ∈ us ↔ ∃ k ∈ St.ct 0 b, v = (u.1, mx u.2.1 k.2, k.1)) : WI t (ws ++ [(u, us)]) (td ++ us) := by
  have ks : kys (ws ++ [(u, us)]) = kys ws ++ [u] := by simp [kys]
  have key : ∀ v, v ∈ kys ws ∨ v ∈ td ++ [u] → v ∈ kys (ws ++ [(u, us)]) ∨ v ∈ td ++ us := fun v q => by
    rw [ks]
    rcases q with m | m
    · exact .inl (List.mem_append.mpr (.inl m))
    · rcases List.mem_append.mp m with m | m
      · exact .inr (List.mem_append.mpr (.inl m))
      · exact .inl (List.mem_append.mpr (.inr m))
  have su := W.s u (.inr (by simp))
  refine ⟨?_, fun v q => ?_, fun z mz v mv => ?_, fun z mz c uc k mk => ?_, fun v q => key v (W.r v q)⟩
  · rw [ks]
    exact List.nodup_append.mpr ⟨W.nd, by simp, fun x m z mz e => h (by rw [← List.mem_singleton.mp mz, ← e]; exact m)⟩
  · rw [ks] at q
    rcases q with m | m
    · rcases List.mem_append.mp m with m | m
      · exact W.s v (.inl m)
      · rw [List.mem_singleton.mp m]; exact su
    · rcases List.mem_append.mp m with m | m
      · exact W.s v (.inr (List.mem_append.mpr (.inl m)))
      · obtain ⟨k, mk, rfl⟩ := (hu v).mp m
        exact snd_call T su ub mk
  · rcases List.mem_append.mp mz with mz | mz
    · exact key v (W.c z mz v mv)
    · obtain rfl := List.mem_singleton.mp mz
      exact .inr (List.mem_append.mpr (.inr mv))
  · rcases List.mem_append.mp mz with mz | mz
    · exact W.a z mz c uc k mk
    · obtain rfl := List.mem_singleton.mp mz
      have := ub_uniq T ub uc
      subst this
      exact (hu _).mpr ⟨k, mk, rfl⟩
theorem WI.len {t : Tr} {ws : Wb} {td : List Un} (W : WI t ws td) : ws.length ≤ (Uni t).length := by
  have := nodup_len W.nd fun u m => (W.s u (.inl m)).1
  rw [List.length_map] at this
  exact this
/-- at the end: all that is reached has a unit -/
theorem WI.all {t : Tr} {ws : Wb} (W : WI t ws []) {x : Str} (r : Rc t x) : ∃ u ∈ kys ws, u.2.2 = x := by
  have st : ∀ {u : Un} {b : List St} {x : Str}, u ∈ kys ws → UB t u b → x ∈ cnm b → ∃ v ∈ kys ws, v.2.2 = x := by
    intro u b x mu ub mx'
    obtain ⟨z, mz, rfl⟩ := List.mem_map.mp mu
    obtain ⟨k, mk, rfl⟩ := List.mem_map.mp mx'
    have h1 := W.a z mz b ub k mk
    rcases W.c z mz _ h1 with h2 | h2
    · exact ⟨_, h2, rfl⟩
    · exact absurd h2 List.not_mem_nil
  have rt : ∀ {u : Un}, isRt t u → u ∈ kys ws := fun h => (W.r _ h).elim id fun m => absurd m List.not_mem_nil
  induction r with
  | main m => exact st (rt (.inl rfl)) (.inl ⟨rfl, rfl⟩) m
  | on mo m => exact st (rt (.inr ⟨_, mo, rfl⟩)) (.inr (.inl ⟨rfl, _, mo, rfl, rfl⟩)) m
  | fn mf r m ih =>
    obtain ⟨u, mu, e⟩ := ih
    exact st mu (.inr (.inr ⟨_, mf, e.symm, rfl⟩)) m
section
variable {n : Nat} {t : Tr} {h : Hh} {Q : Kd} {X : Ex}
theorem uw_ok (hn : 26 ≤ n) (T : TA t) (w : ∀ p ws h', h'[p]? = some (.dtp (wM ws)) → WI t ws [] → h.length ≤ p → p < h'.length → Keep [] h h' → Q (.ref p) h') : rn n i_unit_web [t.d] h Q X := by
  cases n with
  | zero => omega
  | succ n =>
    have UL := uni_len T
    have lo := T.o.o
    have RO : ∀ (h : Hh) (Q : Kd), (∀ (p : Nat) (os : List (Int × List St)) (h' : Hh), h'[p]? = some (.lst ((rtM :: os.map rtO).map uT)) → os.Perm t.ons → h.length ≤ p → p < h'.length → Keep [] h h' → Q (.ref p) h') → rn n i_roots_of [t.d] h Q X := fun h Q w => ro_ok (by omega) T w
    have CA : ∀ (u : Un) (b : List St) (h : Hh) (Q : Kd), UB t u b → (∀ (us : List Un) h', us.Nodup → (∀ v, v ∈ us ↔ ∃ k ∈ St.ct 0 b, v = (u.1, mx u.2.1 k.2, k.1)) → Keep [] h h' → Q (.tup (us.map uT)) h') → rn n i_callees [t.d, uT u] h Q X := fun u b h Q ub w => ca_ok (by omega) T ub w
    refine u_unit_web ?_
    generalize t.d = td at RO CA ⊢
    walk_at "go"
    rename_i p h1 e1 g1 g2 g3 k1
    refine RO _ _ fun q os h2 e2 po g4 g5 k2 => ?_
    have l2 := k2.len
    have e12 := k2.get e1 List.not_mem_nil
    have lpo := po.length_eq
    have W0 : WI t [] (rtM :: os.map rtO) := by
      refine ⟨List.nodup_nil, fun u m => ?_, fun z m => absurd m List.not_mem_nil, fun z m => absurd m List.not_mem_nil, fun u m => ?_⟩
      · have m2 : u ∈ rtM :: os.map rtO := m.elim (fun m => absurd m List.not_mem_nil) id
        have m3 : isRt t u := by
          rcases List.mem_cons.mp m2 with rfl | m3
          · exact .inl rfl
          · obtain ⟨o, mo, rfl⟩ := List.mem_map.mp m3
            exact .inr ⟨o, po.mem_iff.mp mo, rfl⟩
        refine ⟨List.mem_append.mpr (.inl ?_), m3.elim .inl fun m => .inr (.inl m)⟩
        rcases m3 with rfl | ⟨o, mo, rfl⟩
        · exact List.mem_cons_self
        · exact List.mem_cons_of_mem _ (List.mem_map_of_mem mo)
      · rcases m with rfl | ⟨o, mo, rfl⟩
        · exact .inr List.mem_cons_self
        · exact .inr (List.mem_cons_of_mem _ (List.mem_map_of_mem (po.mem_iff.mpr mo)))
    conv => whnf
    refine while_i (fun m σ h' => ∃ (ws : Wb) (ts : List Un) (x3 : Option D) (y : Nat), m = ((Uni t).length - ws.length) * 96 + ts.length ∧ m ≤ 10000 ∧ WI t ws ts ∧ σ = [some td, some (.ref p), some (.ref y), x3] ∧ h'[p]? = some (.dtp (wM ws)) ∧ h'[y]? = some (.lst (ts.map uT)) ∧ y ≠ p ∧ h.length ≤ y ∧ h2.length ≤ h'.length ∧ Keep [] h h') ?_ _ (((Uni t).length - 0) * 96 + (rtM :: os.map rtO).length) _ _ (fuel_lt (by rw [List.length_cons, List.length_map]; omega)) ⟨[], _, _, q, rfl, by rw [List.length_cons, List.length_map]; omega, W0, rfl, e12, e2, by omega, by omega, Nat.le_refl _, by walk_at "keep"⟩
    rintro m σ h3 K ⟨ws, ts, x3, y, em, hm, W, rfl, ep, ey, ny, gy, l3, k3⟩ hK
    have lp := lt_of ep
    have ly := lt_of ey
    conv => whnf
    refine rdO_i ey ?_
    conv => whnf
    rcases List.eq_nil_or_concat ts with rfl | ⟨ts, u, rfl⟩
    · refine br_f rfl ?_
      walk_at "go"
      exact w p ws _ ep W (by omega) lp k3
    rw [List.concat_eq_append] at *
    rw [List.map_append, List.map_cons, List.map_nil] at ey
    have lts : ((ts ++ [u]).map uT).length = ts.length + 1 := by simp
    refine br_t (decide_eq_true (by rw [lts]; omega)) ?_
    conv => whnf
    refine rdO_i ey ?_
    conv => whnf
    refine rdO_i ey ?_
    conv => whnf
    refine itm_i (getAt_end _ _) ?_
    refine put_i ey fun h4 e4 l4 k4 => ?_
    rw [List.dropLast_concat] at e4
    have ep4 := k4.get ep (by simp; omega)
    have k04 : Keep [] h h4 := by walk_at "keep"
    conv => whnf
    refine rdO_i ep4 ?_
    conv => whnf
    refine chk_i rfl ?_
    conv => whnf
    rw [lkT_w]
    rw [List.length_append, List.length_singleton] at em
    by_cases hu : u ∈ kys ws
    · refine br_f (by rw [decide_eq_true hu]; rfl) ?_
      exact hK _ _ _ (by omega) ⟨ws, ts, _, y, rfl, by omega, W.skip hu, rfl, ep4, e4, ny, gy, by omega, k04⟩
    · refine br_t (by rw [decide_eq_false hu]; rfl) ?_
      have su := W.s u (.inr (by simp))
      obtain ⟨b, ub⟩ := snd_ub su
      conv => whnf
      refine CA u b _ _ ub fun us h5 nu hus k5 => ?_
      have WA := W.add T hu ub hus
      have ep5 := k5.get ep4 List.not_mem_nil
      have e5 := k5.get e4 List.not_mem_nil
      have l5 := k5.len
      have lw := WA.len
      rw [List.length_append, List.length_singleton] at lw
      have lus : us.length ≤ (Uni t).length := nodup_len nu fun v mv => (WA.s v (.inr (List.mem_append.mpr (.inr mv)))).1
      have lwM : (wM ws).length = ws.length := List.length_map ..
      conv => whnf
      refine rdO_i ep5 ?_
      conv => whnf
      refine chk_i (by rw [show ((uE u).all isKy) = true from rfl, Bool.true_and]; exact small_lt (by omega)) ?_
      refine put_i ep5 fun h6 e6 l6 k6 => ?_
      replace e6 : h6[p]? = some (.dtp (putT (wM ws) (uE u) (.tup (us.map uT)))) := e6
      rw [putT_new us hu] at e6
      have e56 := k6.get e5 (by simp; omega)
      conv => whnf
      refine rdO_i e6 ?_
      conv => whnf
      refine chk_i rfl ?_
      refine gtT_i (lkT_new hu) ?_
      conv => whnf
      refine new_i fun v h7 e7 g6 g7 g8 k7 => ?_
      have e67 := k7.get e56 List.not_mem_nil
      have ep7 := k7.get e6 List.not_mem_nil
      conv => whnf
      refine rdO_i e67 ?_
      conv => whnf
      refine rdO_i e7 ?_
      conv => whnf
      refine chk_i (lenOk_le (by rw [List.length_map, List.length_map]; omega)) ?_
      refine new_i fun y2 h8 e8 g9 g10 g11 k8 => ?_
      have ep8 := k8.get ep7 List.not_mem_nil
      have k06 : Keep [] h h6 := by
        have k05 : Keep [] h h5 := by walk_at "keep"
        walk_at "keep"
      have k08 : Keep [] h h8 := by walk_at "keep"
      have hd : (Uni t).length - ws.length = ((Uni t).length - (ws.length + 1)) + 1 := by omega
      rw [hd, Nat.succ_mul] at em
      refine hK _ _ _ ?_ ⟨ws ++ [(u, us)], ts ++ us, _, y2, rfl, ?_, WA, rfl, ep8, by rw [e8, List.map_append], by omega, by omega, by omega, k08⟩
      · rw [List.length_append, List.length_append, List.length_singleton]
        omega
      · rw [List.length_append, List.length_append, List.length_singleton]
        omega
/-- the units, in some order -/
theorem uo_ok (hn : 27 ≤ n) (T : TA t) (w : ∀ (us : List Un) h', us.length ≤ 95 → (∀ f ∈ t.funs, ((∃ u ∈ us, u.2.2 = f.1) ↔ Rc t f.1)) → Keep [] h h' → Q (.tup (us.map uT)) h') : rn n i_units_of [t.d] h Q X := by
  cases n with
  | zero => omega
  | succ n =>
    have UL := uni_len T
    refine u_units_of ?_
    have UW : ∀ (h : Hh) (Q : Kd), (∀ (p : Nat) (ws : Wb) (h' : Hh), h'[p]? = some (.dtp (wM ws)) → WI t ws [] → h.length ≤ p → p < h'.length → Keep [] h h' → Q (.ref p) h') → rn n i_unit_web [t.d] h Q X := fun h Q w => uw_ok (by omega) T w
    generalize t.d = td at UW ⊢
    conv => whnf
    refine UW _ _ fun p ws h1 e1 W g1 g2 k1 => ?_
    have lw := W.len
    conv => whnf
    refine rdO_i e1 ?_
    conv => whnf
    unfold wM
    rw [List.map_map, show ((fun kv : List D × D => D.tup kv.1) ∘ fun z : Un × List Un => (uE z.1, D.tup (z.2.map uT))) = (uT ∘ Prod.fst) from rfl, ← List.map_map]
    refine srtD_i (srtok_u _) (by rw [List.length_map, List.length_map]; exact lenOk_i (lenOk_le (by omega))) fun ys pm st => ?_
    obtain ⟨us, pu, rfl⟩ := perm_dec unU_uT pm
    have lu := pu.length_eq
    rw [List.length_map] at lu
    walk_at "go"
    refine w us _ (by omega) (fun f mf => ⟨?_, fun r => ?_⟩) (by walk_at "keep")
    · rintro ⟨u, mu, e⟩
      have s := W.s u (.inl (pu.mem_iff.mp mu))
      rcases s.2 with rfl | ⟨o, mo, rfl⟩ | ⟨r, _⟩
      · exact absurd e.symm (T.nm f mf).1
      · exact absurd e.symm (T.nm f mf).2
      · rw [← e]; exact r
    · obtain ⟨u, mu, e⟩ := W.all r
      exact ⟨u, pu.mem_iff.mpr mu, e⟩
end

end Lw

set_option Elab.async false
set_option linter.all false
set_option maxRecDepth 100000
set_option maxHeartbeats 1000000
namespace Lw
open PySem PySem.Spec PyProof.Rows L2 Mi
local macro_rules | `(tactic| walk_at "mem") => `(tactic| first | exact fun _ z => absurd z List.not_mem_nil | exact List.not_mem_nil | (intro i hi; simp only [List.mem_cons, List.not_mem_nil, or_false, false_or] at hi ⊢; omega) | (simp only [List.mem_cons, List.not_mem_nil, or_false, false_or, not_or]; omega))
local macro_rules | `(tactic| walk_at "get") => `(tactic| first | assumption | (apply Keep.get; assumption; walk_at "get"; walk_at "mem"))
local macro_rules | `(tactic| walk_at "keep") => `(tactic| first | assumption | exact Keep.refl | (apply Keep.step; assumption; walk_at "keep"; walk_at "mem"))
local macro_rules | `(tactic| walk_at "one") => `(tactic| (conv => whnf) <;> first
  | (apply br_t; rfl)
  | (apply br_f; rfl)
  | (apply rdO_i; walk_at "get")
  | (apply itm_i; first | rfl | assumption | exact getAt_end _ _)
  | (apply gtD_i; assumption)
  | (apply new_i; intro p h' e1 l1 l2 l3 k)
  | (apply put_i; walk_at "get"; intro h' e1 l1 k)
  | (apply iLst_i; first | rfl | exact intsOf_map _)
  | (apply chk_i; first | rfl | exact lenOk_le (by simp only [List.length_map, List.length_cons, List.length_append, List.length_take, List.length_nil, List.length_replicate, List.length_dropLast]; omega) | exact small_lt (by simp only [List.length_map, List.length_cons, List.length_append, List.length_take, List.length_nil, List.length_replicate, List.length_dropLast]; omega) | assumption | exact mulOk_r (by decide) | exact mulOk_l (by decide) | exact lenOk_le (by omega) | exact small_lt (by omega) | (simp; omega)))
local macro_rules | `(tactic| walk_at "go") => `(tactic| (repeat walk_at "one"); try (conv => whnf))
local macro_rules | `(tactic| walk_at "br") => `(tactic| (refine br_i (fun hc => ?_) (fun hc => ?_) <;> simp only [Bool.not_eq_true', Bool.not_eq_false', beq_iff_eq, beq_eq_false_iff_ne, ne_eq, decide_eq_true_eq, decide_eq_false_iff_not, bne_iff_ne, bne_eq_false_iff_eq] at hc) <;> first | (exfalso; omega) | walk_at "go")
theorem inFlat_strs {z : Str} : ∀ {L : List Str}, inFlat (.str z) (L.map .str) = decide (z ∈ L)
  | [] => by simp [inFlat]
  | x :: L => by
    have ih := @inFlat_strs z L
    unfold inFlat at ih ⊢
    rw [List.map_cons, List.any_cons, ih]
    show (strEq x z || _) = _
    rw [strEq_dec]
    by_cases e : x = z
    · subst e; simp
    · have : ¬ z = x := fun q => e q.symm
      simp [e, this]
theorem all_fl (L : List Str) : (L.map D.str).all isFl = true := by
  rw [List.all_map]
  exact List.all_eq_true.mpr fun _ _ => rfl

/-! ### sorted lists of names -/
theorem srtok_s (ys : List Str) : SrtOk (ys.map D.str) := .inr (.inl fun x m => by obtain ⟨y, _, rfl⟩ := List.mem_map.mp m; rfl)
def unS : D → Str
  | .str x => x
  | _ => w_a
theorem ltS_anti {a b : Str} (h1 : ltD (.str a) (.str b) = false) (h2 : ltD (.str b) (.str a) = false) : a = b := by
  have := lex_total (O := itemOrd) _ _ h1 h2
  have h3 : a.cps.toList = b.cps.toList := Sum.inr.inj (List.cons.inj this).1
  cases a; cases b
  simp only [Str.mk.injEq]
  exact Array.toList_inj.mp h3
/-- there is just one -/
theorem srt_uniq {xs ys : List Str} (p : xs.Perm ys) (h1 : Srt (xs.map D.str)) (h2 : Srt (ys.map D.str)) : xs = ys := by
  refine List.Perm.eq_of_pairwise (le := fun a b => ltD (.str b) (.str a) = false) (fun a b _ _ h3 h4 => ltS_anti h4 h3) (List.pairwise_map.mp h1) (List.pairwise_map.mp h2) p
open Classical in
noncomputable def rcB (t : Tr) (x : Str) : Bool := decide (Rc t x)
theorem rcB_iff {t : Tr} {x : Str} : rcB t x = true ↔ Rc t x := by unfold rcB; simp
/-- the tree without what is not reached -/
noncomputable def tL (t : Tr) : Tr := ⟨t.cells, t.funs.filter fun f => rcB t f.1, t.ons, t.main⟩
/-- the funs that are not reached, sorted -/
def Ndl (t : Tr) (ys : List Str) : Prop := ys.Perm ((t.funs.filter fun f => !rcB t f.1).map (·.1)) ∧ Srt (ys.map D.str)
theorem Ndl.mem {t : Tr} {ys : List Str} (h : Ndl t ys) {f : Str × List Str × List St} (mf : f ∈ t.funs) : f.1 ∈ ys ↔ rcB t f.1 = false := by
  rw [h.1.mem_iff, List.mem_map]
  constructor
  · rintro ⟨g, mg, e⟩
    have := (List.mem_filter.mp mg).2
    rw [e] at this
    simpa using this
  · intro q
    exact ⟨f, List.mem_filter.mpr ⟨mf, by simp [q]⟩, rfl⟩
section
variable {n : Nat} {t : Tr} {h : Hh} {Q : Kd} {X : Ex}
theorem nf_ok (hn : 28 ≤ n) (T : TA t) (w : ∀ ys h', Ndl t ys → Keep [] h h' → Q (.tup (ys.map .str)) h') : rn n i_needless_funs [t.d] h Q X := by
  cases n with
  | zero => omega
  | succ n =>
    have lf := T.o.f
    refine u_needless_funs ?_
    have UO : ∀ (h : Hh) (Q : Kd), (∀ (us : List Un) h', us.length ≤ 95 → (∀ f ∈ t.funs, ((∃ u ∈ us, u.2.2 = f.1) ↔ Rc t f.1)) → Keep [] h h' → Q (.tup (us.map uT)) h') → rn n i_units_of [t.d] h Q X := fun h Q w => uo_ok (by omega) T w
    have eT : t.d = D.tup [.tup (t.cells.map cD), .tup (t.funs.map fuD), .tup (t.ons.map oD), bD t.main] := rfl
    rw [eT] at UO ⊢
    generalize t.cells.map cD = CC at UO ⊢
    generalize t.ons.map oD = OO at UO ⊢
    generalize bD t.main = MM at UO ⊢
    walk_at "go"
    refine UO _ _ fun us h1 lu hu k1 => ?_
    have l1 := k1.len
    walk_at "go"
    rename_i p h2 e2 g1 g2 g3 k2
    refine map_i uT (fun u => .str u.2.2) us e2 (by omega) (fun u mu h3 K N k3 hK => ?_) fun h3 e3 k3 => ?_
    · unfold uT uE
      walk_at "go"
      exact hK _ Keep.refl
    have eu : (us.map fun u => D.str u.2.2) = (us.map fun u => u.2.2).map D.str := by rw [List.map_map]; rfl
    rw [eu] at e3
    have l3 := k3.len
    have k03 : Keep [] h h3 := by walk_at "keep"
    have lt3 := lt_of e3
    walk_at "go"
    rename_i q h4 e4 g4 g5 g6 k4
    refine flt_i fuD (fun f => .str f.1) (fun f => !rcB t f.1) t.funs e4 (by omega) (fun f mf h5 K N k5 hK hN => ?_) fun h5 e5 k5 => ?_
    · have e35 : h5[p]? = some (.lst ((us.map fun u => u.2.2).map D.str)) := by
        have := k4.get e3 List.not_mem_nil
        exact k5.get this (by simp; omega)
      have hi : inFlat (.str f.1) ((us.map fun u => u.2.2).map D.str) = rcB t f.1 := by
        rw [inFlat_strs, Bool.eq_iff_iff, decide_eq_true_iff, rcB_iff, ← hu f mf, List.mem_map]
      unfold fuD
      walk_at "go"
      refine chk_i (by show (true && _) = true; rw [all_fl]; rfl) ?_
      conv => whnf
      rw [hi]
      refine br_i (fun hc => ?_) (fun hc => ?_)
      · walk_at "go"
        exact hK hc _ Keep.refl
      · exact hN hc _ Keep.refl
    · have k05 : Keep [] h h5 := by
        have k34 : Keep [] h h4 := by walk_at "keep"
        walk_at "keep"
      have e5' : h5[q]? = some (.lst (((t.funs.filter fun f => !rcB t f.1).map (·.1)).map D.str)) := by rw [e5, List.map_map]; rfl
      have ll : ((t.funs.filter fun f => !rcB t f.1).map (·.1)).length ≤ 9 := by rw [List.length_map]; exact Nat.le_trans (List.length_filter_le _ _) lf
      walk_at "go"
      refine srtD_i (srtok_s _) (by rw [List.length_map]; exact lenOk_i (lenOk_le (by omega))) fun zs pm st => ?_
      obtain ⟨ys, py, rfl⟩ := perm_dec (f := D.str) (g := unS) (fun _ => rfl) pm
      walk_at "go"
      exact w ys _ ⟨py, st⟩ (by walk_at "keep")
theorem wn_ok (hn : 29 ≤ n) (T : TA t) (w : ∀ h', Keep [] h h' → Q (tL t).d h') : rn n i_without_needless [t.d] h Q X := by
  cases n with
  | zero => omega
  | succ n =>
    have lf := T.o.f
    refine u_without_needless ?_
    have NF : ∀ (h : Hh) (Q : Kd), (∀ ys h', Ndl t ys → Keep [] h h' → Q (.tup (ys.map .str)) h') → rn n i_needless_funs [t.d] h Q X := fun h Q w => nf_ok (by omega) T w
    have eT : t.d = D.tup [.tup (t.cells.map cD), .tup (t.funs.map fuD), .tup (t.ons.map oD), bD t.main] := rfl
    have eL : (tL t).d = D.tup [.tup (t.cells.map cD), .tup ((t.funs.filter fun f => rcB t f.1).map fuD), .tup (t.ons.map oD), bD t.main] := rfl
    rw [eL] at w
    rw [eT] at NF ⊢
    generalize t.cells.map cD = CC at NF w ⊢
    generalize t.ons.map oD = OO at NF w ⊢
    generalize bD t.main = MM at NF w ⊢
    walk_at "go"
    refine NF _ _ fun ys h1 ny k1 => ?_
    have l1 := k1.len
    walk_at "go"
    rename_i p h2 e2 g1 g2 g3 k2
    refine flt_i fuD fuD (fun f => rcB t f.1) t.funs e2 (by omega) (fun f mf h3 K N k3 hK hN => ?_) fun h3 e3 k3 => ?_
    · have hi : (!inFlat (.str f.1) (ys.map D.str)) = rcB t f.1 := by
        rw [inFlat_strs, Bool.eq_iff_iff]
        have := ny.mem mf
        cases hb : rcB t f.1 with
        | true =>
          rw [hb] at this
          simp only [Bool.not_eq_true', decide_eq_false_iff_not, iff_true]
          exact fun m => by cases this.mp m
        | false =>
          rw [hb] at this
          simp only [Bool.not_eq_true', decide_eq_false_iff_not, Bool.false_eq_true, iff_false, Decidable.not_not]
          exact this.mpr rfl
      have eF : fuD f = .tup [.str f.1, .tup (f.2.1.map .str), bD f.2.2] := rfl
      rw [eF] at hK ⊢
      walk_at "go"
      refine chk_i (by show (true && _) = true; rw [all_fl]; rfl) ?_
      conv => whnf
      rw [hi]
      refine br_i (fun hc => ?_) (fun hc => ?_)
      · walk_at "go"
        exact hK hc _ Keep.refl
      · exact hN hc _ Keep.refl
    · have k03 : Keep [] h h3 := by
        have k02 : Keep [] h h2 := by walk_at "keep"
        walk_at "keep"
      have ll : (t.funs.filter fun f => rcB t f.1).length ≤ 9 := Nat.le_trans (List.length_filter_le _ _) lf
      generalize (t.funs.filter fun f => rcB t f.1).map fuD = FL at e3 w
      walk_at "go"
      exact w _ k03
end

end Lw

set_option Elab.async false
set_option linter.all false
set_option maxRecDepth 100000
set_option maxHeartbeats 1000000
namespace Lw
open PySem PySem.Spec PyProof.Rows L2 Mi
local macro_rules | `(tactic| walk_at "mem") => `(tactic| first | exact fun _ z => absurd z List.not_mem_nil | exact List.not_mem_nil | (intro i hi; simp only [List.mem_cons, List.not_mem_nil, or_false, false_or] at hi ⊢; omega) | (simp only [List.mem_cons, List.not_mem_nil, or_false, false_or, not_or]; omega))
local macro_rules | `(tactic| walk_at "get") => `(tactic| first | assumption | (apply Keep.get; assumption; walk_at "get"; walk_at "mem"))
local macro_rules | `(tactic| walk_at "keep") => `(tactic| first | assumption | exact Keep.refl | (apply Keep.step; assumption; walk_at "keep"; walk_at "mem"))
local macro_rules | `(tactic| walk_at "one") => `(tactic| (conv => whnf) <;> first
  | (apply br_t; rfl)
  | (apply br_f; rfl)
  | (apply rdO_i; walk_at "get")
  | (apply itm_i; first | rfl | assumption | exact getAt_end _ _)
  | (apply gtD_i; assumption)
  | (apply new_i; intro p h' e1 l1 l2 l3 k)
  | (apply put_i; walk_at "get"; intro h' e1 l1 k)
  | (apply iLst_i; first | rfl | exact intsOf_map _)
  | (apply chk_i; first | rfl | exact lenOk_le (by simp only [List.length_map, List.length_cons, List.length_append, List.length_take, List.length_nil, List.length_replicate, List.length_dropLast]; omega) | exact small_lt (by simp only [List.length_map, List.length_cons, List.length_append, List.length_take, List.length_nil, List.length_replicate, List.length_dropLast]; omega) | assumption | exact mulOk_r (by decide) | exact mulOk_l (by decide) | exact lenOk_le (by omega) | exact small_lt (by omega) | (simp; omega)))
local macro_rules | `(tactic| walk_at "go") => `(tactic| (repeat walk_at "one"); try (conv => whnf))
local macro_rules | `(tactic| walk_at "br") => `(tactic| (refine br_i (fun hc => ?_) (fun hc => ?_) <;> simp only [Bool.not_eq_true', Bool.not_eq_false', beq_iff_eq, beq_eq_false_iff_ne, ne_eq, decide_eq_true_eq, decide_eq_false_iff_not, bne_iff_ne, bne_eq_false_iff_eq] at hc) <;> first | (exfalso; omega) | walk_at "go")

/-! ### dicts as sets of names -/
abbrev nM (ks : List Str) : List (Str × D) := ks.map fun x => (x, D.bl true)
theorem putD_add (ks : List Str) (x : Str) : putD (nM ks) x (.bl true) = nM (addK ks x) := by
  unfold putD addK
  have e : ((nM ks).any fun kv => strEq kv.1 x) = decide (x ∈ ks) := by
    rw [List.any_map, Bool.eq_iff_iff, List.any_eq_true, decide_eq_true_iff]
    constructor
    · rintro ⟨a, ma, ea⟩
      have : a = x := strEq_iff.mp ea
      exact this ▸ ma
    · exact fun m => ⟨x, m, strEq_self x⟩
  rw [e]
  by_cases h : x ∈ ks
  · rw [if_pos (decide_eq_true h), if_pos h]
    unfold nM
    rw [List.map_map]
    refine List.map_congr_left fun a _ => ?_
    show (if strEq a x then (a, D.bl true) else (a, D.bl true)) = _
    split <;> rfl
  · rw [if_neg (by simpa using h), if_neg h]
    unfold nM
    rw [List.map_append]
    rfl
theorem lkD_nM (ks : List Str) (x : Str) : (lkD (nM ks) x).isSome = decide (x ∈ ks) := by
  induction ks with
  | nil => rfl
  | cons y ks ih =>
    show (if strEq y x then some (D.bl true) else lkD (nM ks) x).isSome = decide (x ∈ y :: ks)
    by_cases h : y = x
    · rw [if_pos (strEq_iff.mpr h), decide_eq_true (by rw [h]; exact List.mem_cons_self)]
      rfl
    · rw [if_neg (fun q => h (strEq_iff.mp q)), ih, Bool.eq_iff_iff, decide_eq_true_iff, decide_eq_true_iff, List.mem_cons]
      exact ⟨.inr, fun q => q.elim (fun e => absurd e.symm h) id⟩
def isN : Ep → Bool
  | .nam _ => true
  | _ => false
def nmN : Ep → Str
  | .nam x => x
  | _ => w_a
/-- the names that a block reads -/
def rdn (b : List St) : List Str := ((St.eps b).filter isN).map nmN
def isSt : St → Bool
  | .set _ _ => true
  | _ => false
def nmS : St → Str
  | .set x _ => x
  | _ => w_a
/-- the names that a block sets -/
def stn (b : List St) : List Str := ((St.alls b).filter isSt).map nmS
theorem rdn_len (b : List St) : (rdn b).length ≤ grs (St.ds b) := by
  unfold rdn
  rw [List.length_map]
  exact Nat.le_trans (List.length_filter_le _ _) (eps_len b)
theorem stn_len (b : List St) : (stn b).length ≤ grs (St.ds b) := by
  unfold stn
  rw [List.length_map]
  exact Nat.le_trans (List.length_filter_le _ _) (alls_len b)
/-- the blocks of a tree -/
def blks (t : Tr) : List (List St) := t.funs.map (·.2.2) ++ t.ons.map (·.2) ++ [t.main]
theorem blks_bok {t : Tr} (T : TA t) {b : List St} (m : b ∈ blks t) : bOk b := by
  unfold blks at m
  rcases List.mem_append.mp m with m | m
  · rcases List.mem_append.mp m with m | m
    · obtain ⟨f, mf, rfl⟩ := List.mem_map.mp m
      exact (T.o.fb f mf).2
    · obtain ⟨f, mf, rfl⟩ := List.mem_map.mp m
      exact T.o.ob f mf
  · rw [List.mem_singleton.mp m]; exact T.o.m
theorem blks_len {t : Tr} (T : TA t) : (blks t).length ≤ 14 := by
  have := T.o.f
  have := T.o.o
  unfold blks
  simp only [List.length_append, List.length_map, List.length_singleton]
  omega
def Rd1 (t : Tr) (x : Str) : Prop := ∃ b ∈ blks t, x ∈ rdn b
def Nm1 (t : Tr) (x : Str) : Prop := ∃ b ∈ blks t, x ∈ rdn b ∨ x ∈ stn b
open Classical in
noncomputable def rdB (t : Tr) (x : Str) : Bool := decide (Rd1 t x)
open Classical in
noncomputable def nmB (t : Tr) (x : Str) : Bool := decide (Nm1 t x)
theorem rdB_iff {t : Tr} {x : Str} : rdB t x = true ↔ Rd1 t x := by unfold rdB; simp
theorem nmB_iff {t : Tr} {x : Str} : nmB t x = true ↔ Nm1 t x := by unfold nmB; simp
/-- cells that are not p, sorted -/
def Ndc (t : Tr) (p : Str → Bool) (ys : List Str) : Prop := ys.Perm ((t.cells.filter fun c => !p c.1).map (·.1)) ∧ Srt (ys.map D.str)
section
variable {n : Nat} {t : Tr} {h : Hh} {Q : Kd} {X : Ex}
theorem ni_ok {b : List St} (hn : 24 ≤ n) (bo : bOk b) (w : ∀ (ys : List Str) h', ys.length ≤ 800000 → (∀ x, x ∈ ys ↔ x ∈ rdn b ∨ x ∈ stn b) → Keep [] h h' → Q (.tup (ys.map .str)) h') : rn n i_names_in [bD b] h Q X := by
  cases n with
  | zero => omega
  | succ n =>
    obtain ⟨b1, b2, b3⟩ := bo
    have le := eps_len b
    have la := alls_len b
    refine u_names_in ?_
    have AE : ∀ (h : Hh) (Q : Kd), (∀ p h', h'[p]? = some (.lst ((St.eps b).map Ep.d)) → h.length ≤ p → p < h'.length → Keep [] h h' → Q (.ref p) h') → rn n i_all_expressions [bD b] h Q X := fun h Q w => ae_ok (by omega) (by omega) b1 (by omega) w
    have AS : ∀ (h : Hh) (Q : Kd), (∀ p h', h'[p]? = some (.lst ((St.alls b).map St.d)) → h.length ≤ p → p < h'.length → Keep [] h h' → Q (.ref p) h') → rn n i_all_statements [bD b] h Q X := fun h Q w => as_ok n b h Q X (by omega) b1 (by omega) w
    generalize bD b = bd at AE AS ⊢
    walk_at "go"
    rename_i p h1 e1 g1 g2 g3 k1
    refine AE _ _ fun q h2 e2 g4 g5 k2 => ?_
    have e12 := k2.get e1 List.not_mem_nil
    have l2 := k2.len
    conv => whnf
    refine rdO_i e2 ?_
    conv => whnf
    refine loopL_i ((St.eps b).map Ep.d) (I := fun r σ h' => ∃ z1 z2 x2 x3, St.eps b = z1 ++ z2 ∧ r = z2.map Ep.d ∧ σ = [some bd, some (.ref p), x2, x3] ∧ h'[p]? = some (.dic (nM (addAll [] ((z1.filter isN).map nmN)))) ∧ h2.length ≤ h'.length ∧ Keep [p] h2 h') ?_ ?_ ?_ ((St.eps b).map Ep.d) _ _ _ _ (by simp) (fuel_lt (by rw [List.length_map]; omega)) ⟨[], St.eps b, _, _, rfl, rfl, rfl, e12, Nat.le_refl _, Keep.refl⟩
    · rintro r σ h' ⟨z1, z2, y2, y3, ez, er, es, et, l', k'⟩
      exact k'.get e2 (by walk_at "mem")
    · rintro x r σ h3 K ⟨z1, z2, y2, y3, ez, er, rfl, e3, l3, k3⟩ hK
      cases z2 with
      | nil => cases er
      | cons e z2 =>
        simp only [List.map_cons, List.cons.injEq] at er
        obtain ⟨rfl, rfl⟩ := er
        have lz := congrArg List.length ez
        simp only [List.length_append, List.length_cons] at lz
        have lb := addAll_len (ks := []) (l := (z1.filter isN).map nmN)
        have lf := List.length_filter_le isN z1
        rw [List.length_map, List.length_nil] at lb
        have lt3 := lt_of e3
        have SKIP : ∀ y2, isN e = false → K [some bd, some (.ref p), y2, y3] h3 := fun y2 hf => hK _ _ ⟨z1 ++ [e], z2, _, _, by rw [ez]; simp, rfl, rfl, by rw [e3, List.filter_append, List.filter_cons_of_neg (by rw [hf]; decide)]; simp, l3, k3⟩
        cases e with
        | nam y =>
          walk_at "go"
          rename_i h4 e4 l4 k4
          refine hK _ _ ⟨z1 ++ [.nam y], z2, _, _, by rw [ez]; simp, rfl, rfl, ?_, by omega, by walk_at "keep"⟩
          rw [e4, putD_add, List.filter_append, List.map_append, addAll_app]
          rfl
        | op o a c =>
          walk_at "go"
          refine br_f (by cases o <;> rfl) ?_
          exact SKIP _ rfl
        | _ =>
          walk_at "go"
          exact SKIP _ rfl
    · rintro σ h3 ⟨z1, z2, y2, y3, ez, er, rfl, e3, l3, k3⟩
      have : z2 = [] := List.map_eq_nil_iff.mp er.symm
      subst this
      rw [List.append_nil] at ez
      rw [← ez] at e3
      have lt3 := lt_of e3
      have k03 : Keep [] h h3 := by walk_at "keep"
      conv => whnf
      refine AS _ _ fun u h4 e4 g6 g7 k4 => ?_
      have l4 := k4.len
      have e34 := k4.get e3 List.not_mem_nil
      have k04 : Keep [] h h4 := by walk_at "keep"
      have lb0 := addAll_len (ks := []) (l := rdn b)
      have lr := rdn_len b
      rw [List.length_nil] at lb0
      conv => whnf
      refine rdO_i e4 ?_
      conv => whnf
      refine loopL_i ((St.alls b).map St.d) (I := fun r σ h' => ∃ z1 z2 x2 x3, St.alls b = z1 ++ z2 ∧ r = z2.map St.d ∧ σ = [some bd, some (.ref p), x2, x3] ∧ h'[p]? = some (.dic (nM (addAll (addAll [] (rdn b)) ((z1.filter isSt).map nmS)))) ∧ h4.length ≤ h'.length ∧ Keep [p] h4 h') ?_ ?_ ?_ ((St.alls b).map St.d) _ _ _ _ (by simp) (fuel_lt (by rw [List.length_map]; omega)) ⟨[], St.alls b, _, _, rfl, rfl, rfl, e34, Nat.le_refl _, Keep.refl⟩
      · rintro r σ h' ⟨z1, z2, y2, y3, ez, er, es, et, l', k'⟩
        exact k'.get e4 (by walk_at "mem")
      · rintro x r σ h5 K ⟨z1, z2, y2, y3, ez, er, rfl, e5, l5, k5⟩ hK
        cases z2 with
        | nil => cases er
        | cons s z2 =>
          simp only [List.map_cons, List.cons.injEq] at er
          obtain ⟨rfl, rfl⟩ := er
          have lz := congrArg List.length ez
          simp only [List.length_append, List.length_cons] at lz
          have lb := addAll_len (ks := addAll [] (rdn b)) (l := (z1.filter isSt).map nmS)
          have lf := List.length_filter_le isSt z1
          rw [List.length_map] at lb
          have lt5 := lt_of e5
          have SKIP : ∀ y3, isSt s = false → K [some bd, some (.ref p), y2, y3] h5 := fun y3 hf => hK _ _ ⟨z1 ++ [s], z2, _, _, by rw [ez]; simp, rfl, rfl, by rw [e5, List.filter_append, List.filter_cons_of_neg (by rw [hf]; decide)]; simp, l5, k5⟩
          cases s with
          | set y e =>
            walk_at "go"
            rename_i h6 e6 l6 k6
            refine hK _ _ ⟨z1 ++ [.set y e], z2, _, _, by rw [ez]; simp, rfl, rfl, ?_, by omega, by walk_at "keep"⟩
            rw [e6, putD_add, List.filter_append, List.map_append, addAll_app]
            rfl
          | _ =>
            walk_at "go"
            exact SKIP _ rfl
      · rintro σ h5 ⟨z1, z2, y2, y3, ez, er, rfl, e5, l5, k5⟩
        have : z2 = [] := List.map_eq_nil_iff.mp er.symm
        subst this
        rw [List.append_nil] at ez
        rw [← ez] at e5
        replace e5 : h5[p]? = some (.dic (nM (addAll (addAll [] (rdn b)) (stn b)))) := e5
        have ls := stn_len b
        have lb := addAll_len (ks := addAll [] (rdn b)) (l := stn b)
        have k05 : Keep [] h h5 := by walk_at "keep"
        conv => whnf
        refine rdO_i e5 ?_
        conv => whnf
        rw [List.map_map, show ((fun kv : Str × D => D.str kv.1) ∘ fun x : Str => (x, D.bl true)) = D.str from rfl]
        refine srtD_i (srtok_s _) (by rw [List.length_map]; exact lenOk_i (lenOk_le (by omega))) fun zs pm st => ?_
        obtain ⟨ys, py, rfl⟩ := perm_dec (f := D.str) (g := unS) (fun _ => rfl) pm
        have ly := py.length_eq
        walk_at "go"
        refine w ys _ (by omega) (fun x => ?_) (by walk_at "keep")
        rw [py.mem_iff, addAll_mem, addAll_mem]
        simp
theorem bl_ok (hn : 1 ≤ n) (T : TA t) (w : ∀ p h', h'[p]? = some (.lst ((blks t).map bD)) → h.length ≤ p → p < h'.length → Keep [] h h' → Q (.ref p) h') : rn n i_blocks_of [t.d] h Q X := by
  cases n with
  | zero => omega
  | succ n =>
    have lf := T.o.f
    have lo := T.o.o
    refine u_blocks_of ?_
    have eT : t.d = D.tup [.tup (t.cells.map cD), .tup (t.funs.map fuD), .tup (t.ons.map oD), bD t.main] := rfl
    have eB : (blks t).map bD = t.funs.map (fun f => bD f.2.2) ++ t.ons.map (fun o => bD o.2) ++ [bD t.main] := by simp [blks, Function.comp_def]
    rw [eB] at w
    rw [eT]
    generalize t.cells.map cD = CC
    generalize bD t.main = MM at w ⊢
    walk_at "go"
    rename_i p h1 e1 g1 g2 g3 k1
    refine map_i fuD (fun f => bD f.2.2) t.funs e1 (by omega) (fun f mf h2 K N k2 hK => ?_) fun h2 e2 k2 => ?_
    · have eF : fuD f = .tup [.str f.1, .tup (f.2.1.map .str), bD f.2.2] := rfl
      rw [eF]
      generalize bD f.2.2 = BB at hK ⊢
      walk_at "go"
      exact hK _ Keep.refl
    have l2 := k2.len
    have k02 : Keep [] h h2 := by walk_at "keep"
    walk_at "go"
    rename_i q h3 e3 g4 g5 g6 k3
    refine map_i oD (fun o => bD o.2) t.ons e3 (by omega) (fun o mo h4 K N k4 hK => ?_) fun h4 e4 k4 => ?_
    · have eF : oD o = .tup [.int o.1, bD o.2] := rfl
      rw [eF]
      generalize bD o.2 = BB at hK ⊢
      walk_at "go"
      exact hK _ Keep.refl
    have l4 := k4.len
    have e24 : h4[p]? = some (.lst (t.funs.map fun f => bD f.2.2)) := by
      have := k3.get e2 List.not_mem_nil
      exact k4.get this (by simp; omega)
    have k04 : Keep [] h h4 := by
      have k03 : Keep [] h h3 := by walk_at "keep"
      walk_at "keep"
    walk_at "go"
    rename_i r h5 e5 g7 g8 g9 k5 r2 h6 e6 g10 g11 g12 k6 r3 h7 e7 g13 g14 g15 k7
    exact w r3 h7 e7 (by omega) g14 (by walk_at "keep")
end

end Lw

set_option Elab.async false
set_option linter.all false
set_option maxRecDepth 100000
set_option maxHeartbeats 1000000
namespace Lw
open PySem PySem.Spec PyProof.Rows L2 Mi
local macro_rules | `(tactic| walk_at "mem") => `(tactic| first | exact fun _ z => absurd z List.not_mem_nil | exact List.not_mem_nil | (intro i hi; simp only [List.mem_cons, List.not_mem_nil, or_false, false_or] at hi ⊢; omega) | (simp only [List.mem_cons, List.not_mem_nil, or_false, false_or, not_or]; omega))
local macro_rules | `(tactic| walk_at "get") => `(tactic| first | assumption | (apply Keep.get; assumption; walk_at "get"; walk_at "mem"))
local macro_rules | `(tactic| walk_at "keep") => `(tactic| first | assumption | exact Keep.refl | (apply Keep.step; assumption; walk_at "keep"; walk_at "mem"))
local macro_rules | `(tactic| walk_at "one") => `(tactic| (conv => whnf) <;> first
  | (apply br_t; rfl)
  | (apply br_f; rfl)
  | (apply rdO_i; walk_at "get")
  | (apply itm_i; first | rfl | assumption | exact getAt_end _ _)
  | (apply gtD_i; assumption)
  | (apply new_i; intro p h' e1 l1 l2 l3 k)
  | (apply put_i; walk_at "get"; intro h' e1 l1 k)
  | (apply iLst_i; first | rfl | exact intsOf_map _)
  | (apply chk_i; first | rfl | exact lenOk_le (by simp only [List.length_map, List.length_cons, List.length_append, List.length_take, List.length_nil, List.length_replicate, List.length_dropLast]; omega) | exact small_lt (by simp only [List.length_map, List.length_cons, List.length_append, List.length_take, List.length_nil, List.length_replicate, List.length_dropLast]; omega) | assumption | exact mulOk_r (by decide) | exact mulOk_l (by decide) | exact lenOk_le (by omega) | exact small_lt (by omega) | (simp; omega)))
local macro_rules | `(tactic| walk_at "go") => `(tactic| (repeat walk_at "one"); try (conv => whnf))
local macro_rules | `(tactic| walk_at "br") => `(tactic| (refine br_i (fun hc => ?_) (fun hc => ?_) <;> simp only [Bool.not_eq_true', Bool.not_eq_false', beq_iff_eq, beq_eq_false_iff_ne, ne_eq, decide_eq_true_eq, decide_eq_false_iff_not, bne_iff_ne, bne_eq_false_iff_eq] at hc) <;> first | (exfalso; omega) | walk_at "go")

theorem cellS {xs : List (Str × Int)} {p : Str → Bool} (l : xs.length ≤ 5) : ((xs.filter fun c => !p c.1).map (·.1)).length ≤ 5 := by rw [List.length_map]; exact Nat.le_trans (List.length_filter_le _ _) l
section
variable {n : Nat} {t : Tr} {h : Hh} {Q : Kd} {X : Ex}
theorem nc_ok (hn : 25 ≤ n) (T : TA t) (w : ∀ ys h', Ndc t (nmB t) ys → Keep [] h h' → Q (.tup (ys.map .str)) h') : rn n i_needless_cells [t.d] h Q X := by
  cases n with
  | zero => omega
  | succ n =>
    have lc := T.o.c
    have lb := blks_len T
    refine u_needless_cells ?_
    have BL : ∀ (h : Hh) (Q : Kd), (∀ p h', h'[p]? = some (.lst ((blks t).map bD)) → h.length ≤ p → p < h'.length → Keep [] h h' → Q (.ref p) h') → rn n i_blocks_of [t.d] h Q X := fun h Q w => bl_ok (by omega) T w
    have NI : ∀ (b : List St) (h : Hh) (Q : Kd), b ∈ blks t → (∀ (ys : List Str) h', ys.length ≤ 800000 → (∀ x, x ∈ ys ↔ x ∈ rdn b ∨ x ∈ stn b) → Keep [] h h' → Q (.tup (ys.map .str)) h') → rn n i_names_in [bD b] h Q X := fun b h Q m w => ni_ok (by omega) (blks_bok T m) w
    have eT : t.d = D.tup [.tup (t.cells.map cD), .tup (t.funs.map fuD), .tup (t.ons.map oD), bD t.main] := rfl
    rw [eT] at BL ⊢
    generalize t.ons.map oD = OO at BL ⊢
    generalize t.funs.map fuD = FF at BL ⊢
    generalize bD t.main = MM at BL ⊢
    walk_at "go"
    rename_i p h1 e1 g1 g2 g3 k1
    refine BL _ _ fun q h2 e2 g4 g5 k2 => ?_
    have l2 := k2.len
    have e12 := k2.get e1 List.not_mem_nil
    conv => whnf
    refine rdO_i e2 ?_
    conv => whnf
    refine loopL_i ((blks t).map bD) (I := fun r σ h' => ∃ z1 z2 ks x2 x3, blks t = z1 ++ z2 ∧ r = z2.map bD ∧ σ = [some (.tup [.tup (t.cells.map cD), .tup FF, .tup OO, MM]), some (.ref p), x2, x3, none] ∧ h'[p]? = some (.dic (nM ks)) ∧ (∀ x, x ∈ ks ↔ ∃ b ∈ z1, x ∈ rdn b ∨ x ∈ stn b) ∧ ks.length ≤ z1.length * 800000 ∧ h2.length ≤ h'.length ∧ Keep [p] h2 h') ?_ ?_ ?_ ((blks t).map bD) _ _ _ _ (by simp) (fuel_lt (by rw [List.length_map]; omega)) ⟨[], blks t, [], _, _, rfl, rfl, rfl, e12, by simp, by simp, Nat.le_refl _, Keep.refl⟩
    · rintro r σ h' ⟨z1, z2, ks, y2, y3, ez, er, es, et, hk, lk, l', k'⟩
      exact k'.get e2 (by walk_at "mem")
    · rintro x r σ h3 K ⟨z1, z2, ks, y2, y3, ez, er, rfl, e3, hk, lk, l3, k3⟩ hK
      cases z2 with
      | nil => cases er
      | cons b z2 =>
        simp only [List.map_cons, List.cons.injEq] at er
        obtain ⟨rfl, rfl⟩ := er
        have mb : b ∈ blks t := by rw [ez]; simp
        have lz := congrArg List.length ez
        simp only [List.length_append, List.length_cons] at lz
        have lt3 := lt_of e3
        generalize hB : bD b = bd
        conv => whnf
        rw [← hB]
        refine NI b _ _ mb fun ys h4 ly hy k4 => ?_
        have l4 := k4.len
        have e34 := k4.get e3 List.not_mem_nil
        rw [hB]
        conv => whnf
        refine loop_i (I := fun r σ h' => ∃ v1 v2 x3, ys = v1 ++ v2 ∧ r = v2.map D.str ∧ σ = [some (.tup [.tup (t.cells.map cD), .tup FF, .tup OO, MM]), some (.ref p), some bd, x3, none] ∧ h'[p]? = some (.dic (nM (addAll ks v1))) ∧ h4.length ≤ h'.length ∧ Keep [p] h4 h') ?_ ?_ _ _ _ ⟨[], ys, _, rfl, rfl, rfl, e34, Nat.le_refl _, Keep.refl⟩
        · rintro x r σ h5 K2 ⟨v1, v2, z3, ev, er, rfl, e5, l5, k5⟩ hK2
          cases v2 with
          | nil => cases er
          | cons y v2 =>
            simp only [List.map_cons, List.cons.injEq] at er
            obtain ⟨rfl, rfl⟩ := er
            have lv := congrArg List.length ev
            simp only [List.length_append, List.length_cons] at lv
            have la := addAll_len (ks := ks) (l := v1)
            have lt5 := lt_of e5
            walk_at "go"
            rename_i h6 e6 l6 k6
            refine hK2 _ _ ⟨v1 ++ [y], v2, _, by rw [ev]; simp, rfl, rfl, ?_, by omega, by walk_at "keep"⟩
            rw [e6, putD_add, addAll_app]
            rfl
        · rintro σ h5 ⟨v1, v2, z3, ev, er, rfl, e5, l5, k5⟩
          have : v2 = [] := List.map_eq_nil_iff.mp er.symm
          subst this
          rw [List.append_nil] at ev
          subst ev
          have la := addAll_len (ks := ks) (l := ys)
          refine hK _ _ ⟨z1 ++ [b], z2, addAll ks ys, _, _, by rw [ez]; simp, rfl, rfl, e5, fun x => ?_, by rw [List.length_append, List.length_singleton, Nat.add_mul]; omega, by omega, by walk_at "keep"⟩
          rw [addAll_mem, hk, hy]
          constructor
          · rintro (⟨c, mc, hc⟩ | hc)
            · exact ⟨c, List.mem_append.mpr (.inl mc), hc⟩
            · exact ⟨b, by simp, hc⟩
          · rintro ⟨c, mc, hc⟩
            rcases List.mem_append.mp mc with mc | mc
            · exact .inl ⟨c, mc, hc⟩
            · rw [List.mem_singleton.mp mc] at hc
              exact .inr hc
    · rintro σ h3 ⟨z1, z2, ks, y2, y3, ez, er, rfl, e3, hk, lk, l3, k3⟩
      have : z2 = [] := List.map_eq_nil_iff.mp er.symm
      subst this
      rw [List.append_nil] at ez
      subst ez
      have lt3 := lt_of e3
      have k03 : Keep [] h h3 := by walk_at "keep"
      walk_at "go"
      rename_i u h4 e4 g6 g7 g8 k4
      refine flt_i cD (fun c => .str c.1) (fun c => !nmB t c.1) t.cells e4 (by omega) (fun c mc h5 K N k5 hK hN => ?_) fun h5 e5 k5 => ?_
      · have e35 : h5[p]? = some (.dic (nM ks)) := by
          have := k4.get e3 List.not_mem_nil
          exact k5.get this (by simp; omega)
        have hi : (!(lkD (nM ks) c.1).isSome) = !nmB t c.1 := by
          rw [lkD_nM]
          congr 1
          rw [Bool.eq_iff_iff, decide_eq_true_iff, hk, nmB_iff]
          rfl
        have eC : cD c = .tup [.str c.1, .int c.2] := rfl
        rw [eC]
        conv => whnf
        refine rdO_i e35 ?_
        conv => whnf
        rw [hi]
        refine br_i (fun hc => ?_) (fun hc => ?_)
        · walk_at "go"
          exact hK hc _ Keep.refl
        · exact hN hc _ Keep.refl
      · have k04 : Keep [] h h4 := by walk_at "keep"
        have l34 := k03.len
        have k05 : Keep [] h h5 := by walk_at "keep"
        have e5' : h5[u]? = some (.lst (((t.cells.filter fun c => !nmB t c.1).map (·.1)).map D.str)) := by rw [e5, List.map_map]; rfl
        have ll := cellS (p := nmB t) lc
        walk_at "go"
        refine srtD_i (srtok_s _) (by rw [List.length_map]; exact lenOk_i (lenOk_le (by omega))) fun zs pm st => ?_
        obtain ⟨ys, py, rfl⟩ := perm_dec (f := D.str) (g := unS) (fun _ => rfl) pm
        have ly := py.length_eq
        walk_at "go"
        exact w ys _ ⟨py, st⟩ (by walk_at "keep")
theorem uc_ok (hn : 25 ≤ n) (T : TA t) (w : ∀ ys h', Ndc t (rdB t) ys → Keep [] h h' → Q (.tup (ys.map .str)) h') : rn n i_unread_cells [t.d] h Q X := by
  cases n with
  | zero => omega
  | succ n =>
    have lc := T.o.c
    have lb := blks_len T
    refine u_unread_cells ?_
    have BL : ∀ (h : Hh) (Q : Kd), (∀ p h', h'[p]? = some (.lst ((blks t).map bD)) → h.length ≤ p → p < h'.length → Keep [] h h' → Q (.ref p) h') → rn n i_blocks_of [t.d] h Q X := fun h Q w => bl_ok (by omega) T w
    have AE : ∀ (b : List St) (h : Hh) (Q : Kd), b ∈ blks t → (∀ p h', h'[p]? = some (.lst ((St.eps b).map Ep.d)) → h.length ≤ p → p < h'.length → Keep [] h h' → Q (.ref p) h') → rn n i_all_expressions [bD b] h Q X := fun b h Q m w => by
      obtain ⟨b1, b2, b3⟩ := blks_bok T m
      exact ae_ok (by omega) (by omega) b1 (by omega) w
    have eT : t.d = D.tup [.tup (t.cells.map cD), .tup (t.funs.map fuD), .tup (t.ons.map oD), bD t.main] := rfl
    rw [eT] at BL ⊢
    generalize t.ons.map oD = OO at BL ⊢
    generalize t.funs.map fuD = FF at BL ⊢
    generalize bD t.main = MM at BL ⊢
    walk_at "go"
    rename_i p h1 e1 g1 g2 g3 k1
    refine BL _ _ fun q h2 e2 g4 g5 k2 => ?_
    have l2 := k2.len
    have e12 := k2.get e1 List.not_mem_nil
    conv => whnf
    refine rdO_i e2 ?_
    conv => whnf
    refine loopL_i ((blks t).map bD) (I := fun r σ h' => ∃ z1 z2 ks x2 x3, blks t = z1 ++ z2 ∧ r = z2.map bD ∧ σ = [some (.tup [.tup (t.cells.map cD), .tup FF, .tup OO, MM]), some (.ref p), x2, x3, none, none] ∧ h'[p]? = some (.dic (nM ks)) ∧ (∀ x, x ∈ ks ↔ ∃ b ∈ z1, x ∈ rdn b) ∧ ks.length ≤ z1.length * 400000 ∧ h2.length ≤ h'.length ∧ Keep [p] h2 h') ?_ ?_ ?_ ((blks t).map bD) _ _ _ _ (by simp) (fuel_lt (by rw [List.length_map]; omega)) ⟨[], blks t, [], _, _, rfl, rfl, rfl, e12, by simp, by simp, Nat.le_refl _, Keep.refl⟩
    · rintro r σ h' ⟨z1, z2, ks, y2, y3, ez, er, es, et, hk, lk, l', k'⟩
      exact k'.get e2 (by walk_at "mem")
    · rintro x r σ h3 K ⟨z1, z2, ks, y2, y3, ez, er, rfl, e3, hk, lk, l3, k3⟩ hK
      cases z2 with
      | nil => cases er
      | cons b z2 =>
        simp only [List.map_cons, List.cons.injEq] at er
        obtain ⟨rfl, rfl⟩ := er
        have mb : b ∈ blks t := by rw [ez]; simp
        have bo := (blks_bok T mb).2.2
        have le := eps_len b
        have lr := rdn_len b
        have lz := congrArg List.length ez
        simp only [List.length_append, List.length_cons] at lz
        have lt3 := lt_of e3
        generalize hB : bD b = bd
        conv => whnf
        rw [← hB]
        refine AE b _ _ mb fun v h4 e4 g6 g7 k4 => ?_
        have l4 := k4.len
        have e34 := k4.get e3 List.not_mem_nil
        rw [hB]
        conv => whnf
        refine rdO_i e4 ?_
        conv => whnf
        refine loopL_i ((St.eps b).map Ep.d) (I := fun r σ h' => ∃ v1 v2 x3, St.eps b = v1 ++ v2 ∧ r = v2.map Ep.d ∧ σ = [some (.tup [.tup (t.cells.map cD), .tup FF, .tup OO, MM]), some (.ref p), some bd, x3, none, none] ∧ h'[p]? = some (.dic (nM (addAll ks ((v1.filter isN).map nmN)))) ∧ h4.length ≤ h'.length ∧ Keep [p] h4 h') ?_ ?_ ?_ ((St.eps b).map Ep.d) _ _ _ _ (by simp) (fuel_lt (by rw [List.length_map]; omega)) ⟨[], St.eps b, _, rfl, rfl, rfl, e34, Nat.le_refl _, Keep.refl⟩
        · rintro r σ h' ⟨v1, v2, z3, ev, er, es, et, l', k'⟩
          exact k'.get e4 (by walk_at "mem")
        · rintro x r σ h5 K2 ⟨v1, v2, z3, ev, er, rfl, e5, l5, k5⟩ hK2
          cases v2 with
          | nil => cases er
          | cons e v2 =>
            simp only [List.map_cons, List.cons.injEq] at er
            obtain ⟨rfl, rfl⟩ := er
            have lv := congrArg List.length ev
            simp only [List.length_append, List.length_cons] at lv
            have la := addAll_len (ks := ks) (l := (v1.filter isN).map nmN)
            have lf := List.length_filter_le isN v1
            rw [List.length_map] at la
            have lt5 := lt_of e5
            have SKIP : ∀ y3, isN e = false → K2 [some (.tup [.tup (t.cells.map cD), .tup FF, .tup OO, MM]), some (.ref p), some bd, y3, none, none] h5 := fun y3 hf => hK2 _ _ ⟨v1 ++ [e], v2, _, by rw [ev]; simp, rfl, rfl, by rw [e5, List.filter_append, List.filter_cons_of_neg (by rw [hf]; decide)]; simp, l5, k5⟩
            cases e with
            | nam y =>
              walk_at "go"
              rename_i h6 e6 l6 k6
              refine hK2 _ _ ⟨v1 ++ [.nam y], v2, _, by rw [ev]; simp, rfl, rfl, ?_, by omega, by walk_at "keep"⟩
              rw [e6, putD_add, List.filter_append, List.map_append, addAll_app]
              rfl
            | op o a c =>
              walk_at "go"
              refine br_f (by cases o <;> rfl) ?_
              exact SKIP _ rfl
            | _ =>
              walk_at "go"
              exact SKIP _ rfl
        · rintro σ h5 ⟨v1, v2, z3, ev, er, rfl, e5, l5, k5⟩
          have : v2 = [] := List.map_eq_nil_iff.mp er.symm
          subst this
          rw [List.append_nil] at ev
          rw [← ev] at e5
          have la := addAll_len (ks := ks) (l := rdn b)
          refine hK _ _ ⟨z1 ++ [b], z2, addAll ks (rdn b), _, _, by rw [ez]; simp, rfl, rfl, e5, fun x => ?_, by rw [List.length_append, List.length_singleton, Nat.add_mul]; omega, by omega, by walk_at "keep"⟩
          rw [addAll_mem, hk]
          constructor
          · rintro (⟨c, mc, hc⟩ | hc)
            · exact ⟨c, List.mem_append.mpr (.inl mc), hc⟩
            · exact ⟨b, by simp, hc⟩
          · rintro ⟨c, mc, hc⟩
            rcases List.mem_append.mp mc with mc | mc
            · exact .inl ⟨c, mc, hc⟩
            · rw [List.mem_singleton.mp mc] at hc
              exact .inr hc
    · rintro σ h3 ⟨z1, z2, ks, y2, y3, ez, er, rfl, e3, hk, lk, l3, k3⟩
      have : z2 = [] := List.map_eq_nil_iff.mp er.symm
      subst this
      rw [List.append_nil] at ez
      subst ez
      have lt3 := lt_of e3
      have k03 : Keep [] h h3 := by walk_at "keep"
      walk_at "go"
      rename_i u h4 e4 g6 g7 g8 k4
      refine flt_i cD (fun c => .str c.1) (fun c => !rdB t c.1) t.cells e4 (by omega) (fun c mc h5 K N k5 hK hN => ?_) fun h5 e5 k5 => ?_
      · have e35 : h5[p]? = some (.dic (nM ks)) := by
          have := k4.get e3 List.not_mem_nil
          exact k5.get this (by simp; omega)
        have hi : (!(lkD (nM ks) c.1).isSome) = !rdB t c.1 := by
          rw [lkD_nM]
          congr 1
          rw [Bool.eq_iff_iff, decide_eq_true_iff, hk, rdB_iff]
          rfl
        have eC : cD c = .tup [.str c.1, .int c.2] := rfl
        rw [eC]
        conv => whnf
        refine rdO_i e35 ?_
        conv => whnf
        rw [hi]
        refine br_i (fun hc => ?_) (fun hc => ?_)
        · walk_at "go"
          exact hK hc _ Keep.refl
        · exact hN hc _ Keep.refl
      · have k04 : Keep [] h h4 := by walk_at "keep"
        have l34 := k03.len
        have k05 : Keep [] h h5 := by walk_at "keep"
        have e5' : h5[u]? = some (.lst (((t.cells.filter fun c => !rdB t c.1).map (·.1)).map D.str)) := by rw [e5, List.map_map]; rfl
        have ll := cellS (p := rdB t) lc
        walk_at "go"
        refine srtD_i (srtok_s _) (by rw [List.length_map]; exact lenOk_i (lenOk_le (by omega))) fun zs pm st => ?_
        obtain ⟨ys, py, rfl⟩ := perm_dec (f := D.str) (g := unS) (fun _ => rfl) pm
        have ly := py.length_eq
        walk_at "go"
        exact w ys _ ⟨py, st⟩ (by walk_at "keep")
end

end Lw

set_option Elab.async false
set_option linter.all false
set_option maxRecDepth 100000
set_option maxHeartbeats 1000000
namespace Lw
open PySem PySem.Spec PyProof.Rows L2 Mi
local macro_rules | `(tactic| walk_at "mem") => `(tactic| first | exact fun _ z => absurd z List.not_mem_nil | exact List.not_mem_nil | (intro i hi; simp only [List.mem_cons, List.not_mem_nil, or_false, false_or] at hi ⊢; omega) | (simp only [List.mem_cons, List.not_mem_nil, or_false, false_or, not_or]; omega))
local macro_rules | `(tactic| walk_at "get") => `(tactic| first | assumption | (apply Keep.get; assumption; walk_at "get"; walk_at "mem"))
local macro_rules | `(tactic| walk_at "keep") => `(tactic| first | assumption | exact Keep.refl | (apply Keep.step; assumption; walk_at "keep"; walk_at "mem"))
local macro_rules | `(tactic| walk_at "one") => `(tactic| (conv => whnf) <;> first
  | (apply br_t; rfl)
  | (apply br_f; rfl)
  | (apply rdO_i; walk_at "get")
  | (apply itm_i; first | rfl | assumption | exact getAt_end _ _)
  | (apply gtD_i; assumption)
  | (apply new_i; intro p h' e1 l1 l2 l3 k)
  | (apply put_i; walk_at "get"; intro h' e1 l1 k)
  | (apply iLst_i; first | rfl | exact intsOf_map _)
  | (apply chk_i; first | rfl | exact lenOk_le (by simp only [List.length_map, List.length_cons, List.length_append, List.length_take, List.length_nil, List.length_replicate, List.length_dropLast]; omega) | exact small_lt (by simp only [List.length_map, List.length_cons, List.length_append, List.length_take, List.length_nil, List.length_replicate, List.length_dropLast]; omega) | assumption | exact mulOk_r (by decide) | exact mulOk_l (by decide) | exact lenOk_le (by omega) | exact small_lt (by omega) | (simp; omega)))
local macro_rules | `(tactic| walk_at "go") => `(tactic| (repeat walk_at "one"); try (conv => whnf))
local macro_rules | `(tactic| walk_at "br") => `(tactic| (refine br_i (fun hc => ?_) (fun hc => ?_) <;> simp only [Bool.not_eq_true', Bool.not_eq_false', beq_iff_eq, beq_eq_false_iff_ne, ne_eq, decide_eq_true_eq, decide_eq_false_iff_not, bne_iff_ne, bne_eq_false_iff_eq] at hc) <;> first | (exfalso; omega) | walk_at "go")

/-! ### the tuples within a value -/
mutual
def subs : D → List D
  | .tup xs => .tup xs :: subsL xs
  | .non => []
  | .bl _ => []
  | .int _ => []
  | .str _ => []
  | .ref _ => []
  | .fn _ => []
def subsL : List D → List D
  | [] => []
  | x :: xs => subs x ++ subsL xs
end
theorem subsL_app : ∀ a b : List D, subsL (a ++ b) = subsL a ++ subsL b
  | [], b => rfl
  | x :: a, b => by show subs x ++ subsL (a ++ b) = _; rw [subsL_app a b, ← List.append_assoc]; rfl
mutual
theorem subs_tup : ∀ (d y : D), y ∈ subs d → ∃ xs, y = .tup xs
  | .tup xs, y, m => by
    rcases List.mem_cons.mp (show y ∈ D.tup xs :: subsL xs from m) with rfl | m
    · exact ⟨_, rfl⟩
    · exact subsL_tup xs y m
  | .non, y, m => absurd m List.not_mem_nil
  | .bl _, y, m => absurd m List.not_mem_nil
  | .int _, y, m => absurd m List.not_mem_nil
  | .str _, y, m => absurd m List.not_mem_nil
  | .ref _, y, m => absurd m List.not_mem_nil
  | .fn _, y, m => absurd m List.not_mem_nil
theorem subsL_tup : ∀ (ds : List D) (y : D), y ∈ subsL ds → ∃ xs, y = .tup xs
  | [], y, m => absurd m List.not_mem_nil
  | d :: ds, y, m => by
    rcases List.mem_append.mp (show y ∈ subs d ++ subsL ds from m) with m | m
    · exact subs_tup d y m
    · exact subsL_tup ds y m
end
mutual
theorem subs_pln : ∀ (d y : D), pln d = true → y ∈ subs d → pln y = true
  | .tup xs, y, p, m => by
    rcases List.mem_cons.mp (show y ∈ D.tup xs :: subsL xs from m) with rfl | m
    · exact p
    · exact subsL_pln xs y p m
  | .non, y, p, m => absurd m List.not_mem_nil
  | .bl _, y, p, m => absurd m List.not_mem_nil
  | .int _, y, p, m => absurd m List.not_mem_nil
  | .str _, y, p, m => absurd m List.not_mem_nil
  | .ref _, y, p, m => absurd m List.not_mem_nil
  | .fn _, y, p, m => absurd m List.not_mem_nil
theorem subsL_pln : ∀ (ds : List D) (y : D), plns ds = true → y ∈ subsL ds → pln y = true
  | [], y, p, m => absurd m List.not_mem_nil
  | d :: ds, y, p, m => by
    have p' : (pln d && plns ds) = true := p
    obtain ⟨p1, p2⟩ := Bool.and_eq_true_iff.mp p'
    rcases List.mem_append.mp (show y ∈ subs d ++ subsL ds from m) with m | m
    · exact subs_pln d y p1 m
    · exact subsL_pln ds y p2 m
end
theorem wk_ok {n : Nat} {d : D} {h : Hh} {Q : Kd} {X : Ex} (hn : 1 ≤ n) (hp : pln d = true) (hg : gr d < 10000000) (w : ∀ p ts h', h'[p]? = some (.lst ts) → (∀ y, y ∈ ts ↔ y ∈ subs d) → ts.length ≤ gr d → h.length ≤ p → p < h'.length → Keep [] h h' → Q (.ref p) h') : rn n i_law_walk [d] h Q X := by
  cases n with
  | zero => omega
  | succ n =>
    refine u_law_walk ?_
    walk_at "go"
    rename_i p h1 e1 g1 g2 g3 k1 q h2 e2 g4 g5 g6 k2
    have e12 := k2.get e1 List.not_mem_nil
    refine while_i (fun m σ h' => ∃ (zs acc : List D) (x3 : Option D), m = grs zs ∧ acc.length + grs zs ≤ gr d ∧ plns zs = true ∧ (∀ y, (y ∈ acc ∨ y ∈ subsL zs) ↔ y ∈ subs d) ∧ σ = [some d, some (.ref p), some (.ref q), x3] ∧ h'[p]? = some (.lst acc) ∧ h'[q]? = some (.lst zs) ∧ h2.length ≤ h'.length ∧ Keep [p, q] h2 h') ?_ _ (gr d) _ _ (fuel_lt (by omega)) ⟨[d], [], _, by simp [grs], by simp [grs], by simp [plns, hp], fun y => by simp [subsL], rfl, e12, e2, Nat.le_refl _, Keep.refl⟩
    rintro m σ h3 K ⟨zs, acc, x3, rfl, hz, hpl, hs, rfl, ep, eq, l3, k3⟩ hK
    conv => whnf
    refine rdO_i eq ?_
    conv => whnf
    rcases List.eq_nil_or_concat zs with rfl | ⟨zs, y, rfl⟩
    · refine br_f rfl ?_
      have k03 : Keep [] h h3 := by walk_at "keep"
      walk_at "go"
      exact w p acc _ ep (fun y => by rw [← hs]; simp [subsL]) (by omega) (by omega) (lt_of ep) k03
    rw [List.concat_eq_append] at *
    simp only [grs_app, plns_app, grs, plns, Bool.and_true, Bool.and_eq_true, Nat.add_zero] at hK hz hpl
    have hlz := len_grs zs
    refine br_t (decide_eq_true (by rw [List.length_append, List.length_singleton]; omega)) ?_
    have gy : 1 ≤ gr y := by cases y <;> simp [gr]
    conv => whnf
    refine rdO_i eq ?_
    conv => whnf
    refine rdO_i eq ?_
    conv => whnf
    refine itm_i (getAt_end _ _) ?_
    refine put_i eq fun h4 e4 l4 k4 => ?_
    rw [List.dropLast_concat] at e4
    have ep4 := k4.get ep (by simp; omega)
    have k24 : Keep [p, q] h2 h4 := by walk_at "keep"
    have SK : subs y = [] → wB gls (rn n) X c_law_walk_0 (R0 Q) [] [] → True := fun _ _ => trivial
    have SKIP : subs y = [] → K [some d, some (.ref p), some (.ref q), some y] h4 := fun e0 => by
      refine hK _ _ _ (by omega) ⟨zs, acc, _, rfl, by omega, hpl.1, fun z => ?_, rfl, ep4, e4, by omega, k24⟩
      rw [← hs, subsL_app]
      simp [subsL, e0]
    cases y with
    | ref _ => cases hpl.2
    | fn _ => cases hpl.2
    | tup xs =>
      have hx2 := len_grs xs
      simp only [gr] at hz hK
      walk_at "go"
      rename_i h5 e5 l5 k5 h6 e6 l6 k6
      have ep6 := k6.get e5 (by simp; omega)
      refine hK _ _ _ ?_ ⟨zs ++ xs, acc ++ [.tup xs], _, rfl, ?_, ?_, fun z => ?_, rfl, ep6, e6, by omega, by walk_at "keep"⟩
      · rw [grs_app]; omega
      · rw [grs_app, List.length_append, List.length_singleton]; omega
      · rw [plns_app, hpl.1]; exact hpl.2
      · rw [← hs, subsL_app, subsL_app]
        simp only [List.mem_append, subsL, subs, List.append_nil, List.mem_cons, List.not_mem_nil, or_false]
        constructor
        · rintro ((h | h) | h | h)
          · exact .inl h
          · exact .inr (.inr (.inl h))
          · exact .inr (.inl h)
          · exact .inr (.inr (.inr h))
        · rintro (h | h | h | h)
          · exact .inl (.inl h)
          · exact .inr (.inl h)
          · exact .inl (.inr h)
          · exact .inr (.inr h)
    | _ =>
      walk_at "go"
      exact SKIP rfl
/-! ### of blocks -/
def isTu : D → Bool
  | .tup _ => true
  | _ => false
/-- a tuple of tuples -/
def ltD2 : D → Bool
  | .tup xs => xs.all isTu
  | _ => false
theorem eds_tu : ∀ as : List Ep, (Ep.ds as).all isTu = true
  | [] => rfl
  | a :: as => by
    show (isTu a.d && (Ep.ds as).all isTu) = true
    rw [eds_tu as]
    cases a <;> rfl
theorem sds_tu : ∀ b : List St, (St.ds b).all isTu = true
  | [] => rfl
  | a :: b => by
    show (isTu a.d && (St.ds b).all isTu) = true
    rw [sds_tu b]
    cases a <;> rfl
mutual
theorem esub : ∀ (e : Ep) (d : D), d ∈ subs e.d → ltD2 d = true ∨ ∃ a ∈ e.all, d = a.d
  | .num z, d, m => by
    rcases List.mem_cons.mp (show d ∈ (Ep.num z).d :: [] from m) with rfl | m
    · exact .inr ⟨_, List.mem_singleton_self _, rfl⟩
    · exact absurd m List.not_mem_nil
  | .nam x, d, m => by
    rcases List.mem_cons.mp (show d ∈ (Ep.nam x).d :: [] from m) with rfl | m
    · exact .inr ⟨_, List.mem_singleton_self _, rfl⟩
    · exact absurd m List.not_mem_nil
  | .inn, d, m => by
    rcases List.mem_cons.mp (show d ∈ Ep.inn.d :: [] from m) with rfl | m
    · exact .inr ⟨_, List.mem_singleton_self _, rfl⟩
    · exact absurd m List.not_mem_nil
  | .op o a b, d, m => by
    rcases List.mem_cons.mp (show d ∈ (Ep.op o a b).d :: (subs a.d ++ (subs b.d ++ [])) from m) with rfl | m
    · exact .inr ⟨_, List.mem_cons_self, rfl⟩
    · rw [List.append_nil] at m
      rcases List.mem_append.mp m with m | m
      · exact (esub a d m).imp id fun ⟨c, mc, e⟩ => ⟨c, List.mem_cons_of_mem _ (List.mem_append.mpr (.inl mc)), e⟩
      · exact (esub b d m).imp id fun ⟨c, mc, e⟩ => ⟨c, List.mem_cons_of_mem _ (List.mem_append.mpr (.inr mc)), e⟩
  | .call x as, d, m => by
    rcases List.mem_cons.mp (show d ∈ (Ep.call x as).d :: ((D.tup (Ep.ds as) :: subsL (Ep.ds as)) ++ []) from m) with rfl | m
    · exact .inr ⟨_, List.mem_cons_self, rfl⟩
    · rw [List.append_nil] at m
      rcases List.mem_cons.mp m with rfl | m
      · exact .inl (eds_tu as)
      · exact (esubs as d m).imp id fun ⟨c, mc, e⟩ => ⟨c, List.mem_cons_of_mem _ mc, e⟩
theorem esubs : ∀ (as : List Ep) (d : D), d ∈ subsL (Ep.ds as) → ltD2 d = true ∨ ∃ a ∈ Ep.alls as, d = a.d
  | [], d, m => absurd m List.not_mem_nil
  | a :: as, d, m => by
    rcases List.mem_append.mp (show d ∈ subs a.d ++ subsL (Ep.ds as) from m) with m | m
    · exact (esub a d m).imp id fun ⟨c, mc, e⟩ => ⟨c, List.mem_append.mpr (.inl mc), e⟩
    · exact (esubs as d m).imp id fun ⟨c, mc, e⟩ => ⟨c, List.mem_append.mpr (.inr mc), e⟩
end
mutual
theorem esub_i : ∀ (e a : Ep), a ∈ e.all → a.d ∈ subs e.d
  | .num z, a, m => by rw [List.mem_singleton.mp m]; exact List.mem_cons_self
  | .nam x, a, m => by rw [List.mem_singleton.mp m]; exact List.mem_cons_self
  | .inn, a, m => by rw [List.mem_singleton.mp m]; exact List.mem_cons_self
  | .op o x y, a, m => by
    show a.d ∈ (Ep.op o x y).d :: (subs x.d ++ (subs y.d ++ []))
    rw [List.append_nil]
    rcases List.mem_cons.mp (show a ∈ Ep.op o x y :: (x.all ++ y.all) from m) with rfl | m
    · exact List.mem_cons_self
    · refine List.mem_cons_of_mem _ (List.mem_append.mpr ?_)
      rcases List.mem_append.mp m with m | m
      · exact .inl (esub_i x a m)
      · exact .inr (esub_i y a m)
  | .call x as, a, m => by
    show a.d ∈ (Ep.call x as).d :: ((D.tup (Ep.ds as) :: subsL (Ep.ds as)) ++ [])
    rw [List.append_nil]
    rcases List.mem_cons.mp (show a ∈ Ep.call x as :: Ep.alls as from m) with rfl | m
    · exact List.mem_cons_self
    · exact List.mem_cons_of_mem _ (List.mem_cons_of_mem _ (esubs_i as a m))
theorem esubs_i : ∀ (as : List Ep) (a : Ep), a ∈ Ep.alls as → a.d ∈ subsL (Ep.ds as)
  | [], a, m => absurd m List.not_mem_nil
  | x :: as, a, m => by
    refine List.mem_append.mpr ?_
    rcases List.mem_append.mp (show a ∈ x.all ++ Ep.alls as from m) with m | m
    · exact .inl (esub_i x a m)
    · exact .inr (esubs_i as a m)
end
/-- what a tuple within a statement is -/
def Wh (d : D) (ss : List St) (es : List Ep) : Prop := ltD2 d = true ∨ (∃ q ∈ ss, d = q.d) ∨ ∃ e ∈ es, d = e.d
theorem Wh.ex {d : D} {ss : List St} {es : List Ep} {e : Ep} (h : ltD2 d = true ∨ ∃ a ∈ e.all, d = a.d) (s : ∀ a ∈ e.all, a ∈ es) : Wh d ss es := h.elim .inl fun ⟨a, m, z⟩ => .inr (.inr ⟨a, s a m, z⟩)
theorem Wh.mono {d : D} {ss ss' : List St} {es es' : List Ep} (h : Wh d ss es) (h1 : ∀ x ∈ ss, x ∈ ss') (h2 : ∀ x ∈ es, x ∈ es') : Wh d ss' es' := h.elim .inl fun h => .inr (h.elim (fun ⟨q, m, z⟩ => .inl ⟨q, h1 q m, z⟩) fun ⟨q, m, z⟩ => .inr ⟨q, h2 q m, z⟩)
mutual
theorem ssub : ∀ (s : St) (d : D), d ∈ subs s.d → Wh d s.all s.ep
  | .var x e, d, m => by
    rcases List.mem_cons.mp (show d ∈ (St.var x e).d :: (subs e.d ++ []) from m) with rfl | m
    · exact .inr (.inl ⟨_, List.mem_cons_self, rfl⟩)
    · rw [List.append_nil] at m
      exact Wh.ex (esub e d m) fun a m => m
  | .set x e, d, m => by
    rcases List.mem_cons.mp (show d ∈ (St.set x e).d :: (subs e.d ++ []) from m) with rfl | m
    · exact .inr (.inl ⟨_, List.mem_cons_self, rfl⟩)
    · rw [List.append_nil] at m
      exact Wh.ex (esub e d m) fun a m => m
  | .call x as, d, m => by
    rcases List.mem_cons.mp (show d ∈ (St.call x as).d :: ((D.tup (Ep.ds as) :: subsL (Ep.ds as)) ++ []) from m) with rfl | m
    · exact .inr (.inl ⟨_, List.mem_cons_self, rfl⟩)
    · rw [List.append_nil] at m
      rcases List.mem_cons.mp m with rfl | m
      · exact .inl (eds_tu as)
      · exact (esubs as d m).elim .inl fun ⟨a, ma, z⟩ => .inr (.inr ⟨a, ma, z⟩)
  | .hold b, d, m => by
    rcases List.mem_cons.mp (show d ∈ (St.hold b).d :: ((D.tup (St.ds b) :: subsL (St.ds b)) ++ []) from m) with rfl | m
    · exact .inr (.inl ⟨_, List.mem_cons_self, rfl⟩)
    · rw [List.append_nil] at m
      rcases List.mem_cons.mp m with rfl | m
      · exact .inl (sds_tu b)
      · exact (ssubs b d m).mono (fun x m => List.mem_cons_of_mem _ m) fun x m => m
  | .whl e b, d, m => by
    rcases List.mem_cons.mp (show d ∈ (St.whl e b).d :: (subs e.d ++ ((D.tup (St.ds b) :: subsL (St.ds b)) ++ [])) from m) with rfl | m
    · exact .inr (.inl ⟨_, List.mem_cons_self, rfl⟩)
    · rw [List.append_nil] at m
      rcases List.mem_append.mp m with m | m
      · exact Wh.ex (esub e d m) fun a m => List.mem_append.mpr (.inl m)
      · rcases List.mem_cons.mp m with rfl | m
        · exact .inl (sds_tu b)
        · exact (ssubs b d m).mono (fun x m => List.mem_cons_of_mem _ m) fun x m => List.mem_append.mpr (.inr m)
  | .ifs e b c, d, m => by
    rcases List.mem_cons.mp (show d ∈ (St.ifs e b c).d :: (subs e.d ++ ((D.tup (St.ds b) :: subsL (St.ds b)) ++ ((D.tup (St.ds c) :: subsL (St.ds c)) ++ []))) from m) with rfl | m
    · exact .inr (.inl ⟨_, List.mem_cons_self, rfl⟩)
    · rw [List.append_nil] at m
      rcases List.mem_append.mp m with m | m
      · exact Wh.ex (esub e d m) fun a m => List.mem_append.mpr (.inl m)
      · rcases List.mem_append.mp m with m | m
        · rcases List.mem_cons.mp m with rfl | m
          · exact .inl (sds_tu b)
          · exact (ssubs b d m).mono (fun x m => List.mem_cons_of_mem _ (List.mem_append.mpr (.inl m))) fun x m => List.mem_append.mpr (.inr (List.mem_append.mpr (.inl m)))
        · rcases List.mem_cons.mp m with rfl | m
          · exact .inl (sds_tu c)
          · exact (ssubs c d m).mono (fun x m => List.mem_cons_of_mem _ (List.mem_append.mpr (.inr m))) fun x m => List.mem_append.mpr (.inr (List.mem_append.mpr (.inr m)))
  | .ret e, d, m => by
    rcases List.mem_cons.mp (show d ∈ (St.ret e).d :: (subs e.d ++ []) from m) with rfl | m
    · exact .inr (.inl ⟨_, List.mem_cons_self, rfl⟩)
    · rw [List.append_nil] at m
      exact Wh.ex (esub e d m) fun a m => m
  | .out e, d, m => by
    rcases List.mem_cons.mp (show d ∈ (St.out e).d :: (subs e.d ++ []) from m) with rfl | m
    · exact .inr (.inl ⟨_, List.mem_cons_self, rfl⟩)
    · rw [List.append_nil] at m
      exact Wh.ex (esub e d m) fun a m => m
theorem ssubs : ∀ (b : List St) (d : D), d ∈ subsL (St.ds b) → Wh d (St.alls b) (St.eps b)
  | [], d, m => absurd m List.not_mem_nil
  | s :: b, d, m => by
    rcases List.mem_append.mp (show d ∈ subs s.d ++ subsL (St.ds b) from m) with m | m
    · exact (ssub s d m).mono (fun x m => List.mem_append.mpr (.inl m)) fun x m => List.mem_append.mpr (.inl m)
    · exact (ssubs b d m).mono (fun x m => List.mem_append.mpr (.inr m)) fun x m => List.mem_append.mpr (.inr m)
end
mutual
theorem ssub_i : ∀ (s : St), (∀ q ∈ s.all, q.d ∈ subs s.d) ∧ ∀ e ∈ s.ep, e.d ∈ subs s.d
  | .var x e => ⟨fun q m => by rw [List.mem_singleton.mp m]; exact List.mem_cons_self, fun a m => by show a.d ∈ (St.var x e).d :: (subs e.d ++ []); rw [List.append_nil]; exact List.mem_cons_of_mem _ (esub_i e a m)⟩
  | .set x e => ⟨fun q m => by rw [List.mem_singleton.mp m]; exact List.mem_cons_self, fun a m => by show a.d ∈ (St.set x e).d :: (subs e.d ++ []); rw [List.append_nil]; exact List.mem_cons_of_mem _ (esub_i e a m)⟩
  | .call x as => ⟨fun q m => by rw [List.mem_singleton.mp m]; exact List.mem_cons_self, fun a m => by show a.d ∈ (St.call x as).d :: ((D.tup (Ep.ds as) :: subsL (Ep.ds as)) ++ []); rw [List.append_nil]; exact List.mem_cons_of_mem _ (List.mem_cons_of_mem _ (esubs_i as a m))⟩
  | .hold b => by
    obtain ⟨h1, h2⟩ := ssubs_i b
    refine ⟨fun q m => ?_, fun a m => ?_⟩
    · show q.d ∈ (St.hold b).d :: ((D.tup (St.ds b) :: subsL (St.ds b)) ++ [])
      rw [List.append_nil]
      rcases List.mem_cons.mp (show q ∈ St.hold b :: St.alls b from m) with rfl | m
      · exact List.mem_cons_self
      · exact List.mem_cons_of_mem _ (List.mem_cons_of_mem _ (h1 q m))
    · show a.d ∈ (St.hold b).d :: ((D.tup (St.ds b) :: subsL (St.ds b)) ++ [])
      rw [List.append_nil]
      exact List.mem_cons_of_mem _ (List.mem_cons_of_mem _ (h2 a m))
  | .whl e b => by
    obtain ⟨h1, h2⟩ := ssubs_i b
    refine ⟨fun q m => ?_, fun a m => ?_⟩
    · show q.d ∈ (St.whl e b).d :: (subs e.d ++ ((D.tup (St.ds b) :: subsL (St.ds b)) ++ []))
      rw [List.append_nil]
      rcases List.mem_cons.mp (show q ∈ St.whl e b :: St.alls b from m) with rfl | m
      · exact List.mem_cons_self
      · exact List.mem_cons_of_mem _ (List.mem_append.mpr (.inr (List.mem_cons_of_mem _ (h1 q m))))
    · show a.d ∈ (St.whl e b).d :: (subs e.d ++ ((D.tup (St.ds b) :: subsL (St.ds b)) ++ []))
      rw [List.append_nil]
      refine List.mem_cons_of_mem _ (List.mem_append.mpr ?_)
      rcases List.mem_append.mp (show a ∈ e.all ++ St.eps b from m) with m | m
      · exact .inl (esub_i e a m)
      · exact .inr (List.mem_cons_of_mem _ (h2 a m))
  | .ifs e b c => by
    obtain ⟨h1, h2⟩ := ssubs_i b
    obtain ⟨h3, h4⟩ := ssubs_i c
    refine ⟨fun q m => ?_, fun a m => ?_⟩
    · show q.d ∈ (St.ifs e b c).d :: (subs e.d ++ ((D.tup (St.ds b) :: subsL (St.ds b)) ++ ((D.tup (St.ds c) :: subsL (St.ds c)) ++ [])))
      rw [List.append_nil]
      rcases List.mem_cons.mp (show q ∈ St.ifs e b c :: (St.alls b ++ St.alls c) from m) with rfl | m
      · exact List.mem_cons_self
      · refine List.mem_cons_of_mem _ (List.mem_append.mpr (.inr (List.mem_append.mpr ?_)))
        rcases List.mem_append.mp m with m | m
        · exact .inl (List.mem_cons_of_mem _ (h1 q m))
        · exact .inr (List.mem_cons_of_mem _ (h3 q m))
    · show a.d ∈ (St.ifs e b c).d :: (subs e.d ++ ((D.tup (St.ds b) :: subsL (St.ds b)) ++ ((D.tup (St.ds c) :: subsL (St.ds c)) ++ [])))
      rw [List.append_nil]
      refine List.mem_cons_of_mem _ (List.mem_append.mpr ?_)
      rcases List.mem_append.mp (show a ∈ e.all ++ (St.eps b ++ St.eps c) from m) with m | m
      · exact .inl (esub_i e a m)
      · refine .inr (List.mem_append.mpr ?_)
        rcases List.mem_append.mp m with m | m
        · exact .inl (List.mem_cons_of_mem _ (h2 a m))
        · exact .inr (List.mem_cons_of_mem _ (h4 a m))
  | .ret e => ⟨fun q m => by rw [List.mem_singleton.mp m]; exact List.mem_cons_self, fun a m => by show a.d ∈ (St.ret e).d :: (subs e.d ++ []); rw [List.append_nil]; exact List.mem_cons_of_mem _ (esub_i e a m)⟩
  | .out e => ⟨fun q m => by rw [List.mem_singleton.mp m]; exact List.mem_cons_self, fun a m => by show a.d ∈ (St.out e).d :: (subs e.d ++ []); rw [List.append_nil]; exact List.mem_cons_of_mem _ (esub_i e a m)⟩
theorem ssubs_i : ∀ (b : List St), (∀ q ∈ St.alls b, q.d ∈ subsL (St.ds b)) ∧ ∀ e ∈ St.eps b, e.d ∈ subsL (St.ds b)
  | [] => ⟨fun _ m => absurd m List.not_mem_nil, fun _ m => absurd m List.not_mem_nil⟩
  | s :: b => by
    obtain ⟨h1, h2⟩ := ssub_i s
    obtain ⟨h3, h4⟩ := ssubs_i b
    refine ⟨fun q m => List.mem_append.mpr ?_, fun a m => List.mem_append.mpr ?_⟩
    · exact (List.mem_append.mp (show q ∈ s.all ++ St.alls b from m)).imp (h1 q) (h3 q)
    · exact (List.mem_append.mp (show a ∈ s.ep ++ St.eps b from m)).imp (h2 a) (h4 a)
end

end Lw

set_option Elab.async false
set_option linter.all false
set_option maxRecDepth 100000
set_option maxHeartbeats 1000000
namespace Lw
open PySem PySem.Spec PyProof.Rows L2 Mi
local macro_rules | `(tactic| walk_at "mem") => `(tactic| first | exact fun _ z => absurd z List.not_mem_nil | exact List.not_mem_nil | (intro i hi; simp only [List.mem_cons, List.not_mem_nil, or_false, false_or] at hi ⊢; omega) | (simp only [List.mem_cons, List.not_mem_nil, or_false, false_or, not_or]; omega))
local macro_rules | `(tactic| walk_at "get") => `(tactic| first | assumption | (apply Keep.get; assumption; walk_at "get"; walk_at "mem"))
local macro_rules | `(tactic| walk_at "keep") => `(tactic| first | assumption | exact Keep.refl | (apply Keep.step; assumption; walk_at "keep"; walk_at "mem"))
local macro_rules | `(tactic| walk_at "one") => `(tactic| (conv => whnf) <;> first
  | (apply br_t; rfl)
  | (apply br_f; rfl)
  | (apply rdO_i; walk_at "get")
  | (apply itm_i; first | rfl | assumption | exact getAt_end _ _)
  | (apply gtD_i; assumption)
  | (apply new_i; intro p h' e1 l1 l2 l3 k)
  | (apply put_i; walk_at "get"; intro h' e1 l1 k)
  | (apply iLst_i; first | rfl | exact intsOf_map _)
  | (apply chk_i; first | rfl | exact lenOk_le (by simp only [List.length_map, List.length_cons, List.length_append, List.length_take, List.length_nil, List.length_replicate, List.length_dropLast]; omega) | exact small_lt (by simp only [List.length_map, List.length_cons, List.length_append, List.length_take, List.length_nil, List.length_replicate, List.length_dropLast]; omega) | assumption | exact mulOk_r (by decide) | exact mulOk_l (by decide) | exact lenOk_le (by omega) | exact small_lt (by omega) | (simp; omega)))
local macro_rules | `(tactic| walk_at "go") => `(tactic| (repeat walk_at "one"); try (conv => whnf))
local macro_rules | `(tactic| walk_at "br") => `(tactic| (refine br_i (fun hc => ?_) (fun hc => ?_) <;> simp only [Bool.not_eq_true', Bool.not_eq_false', beq_iff_eq, beq_eq_false_iff_ne, ne_eq, decide_eq_true_eq, decide_eq_false_iff_not, bne_iff_ne, bne_eq_false_iff_eq] at hc) <;> first | (exfalso; omega) | walk_at "go")

/-! ### which names are called, read, set -/
theorem cl_iff {e : Ep} {x : Str} : x ∈ e.cl ↔ ∃ as, Ep.call x as ∈ e.all := by
  unfold Ep.cl
  rw [List.mem_map]
  constructor
  · rintro ⟨a, ma, rfl⟩
    obtain ⟨m1, m2⟩ := List.mem_filter.mp ma
    cases a <;> first | exact ⟨_, m1⟩ | cases m2
  · rintro ⟨as, m⟩
    exact ⟨_, List.mem_filter.mpr ⟨m, rfl⟩, rfl⟩
theorem cls_iff {as : List Ep} {x : Str} : x ∈ (as.map Ep.cl).flatten ↔ ∃ bs, Ep.call x bs ∈ Ep.alls as := by
  rw [ealls_flat]
  simp only [List.mem_flatten, List.mem_map]
  constructor
  · rintro ⟨l, ⟨a, ma, rfl⟩, hx⟩
    obtain ⟨bs, m⟩ := cl_iff.mp hx
    exact ⟨bs, _, ⟨a, ma, rfl⟩, m⟩
  · rintro ⟨bs, l, ⟨a, ma, rfl⟩, hx⟩
    exact ⟨_, ⟨a, ma, rfl⟩, cl_iff.mpr ⟨bs, hx⟩⟩
theorem fst_map (hd : Int) (xs : List Str) : (xs.map fun x => ((x, hd) : Ck)).map (·.1) = xs := by
  rw [List.map_map]
  exact List.map_id' xs
mutual
theorem nC1 : ∀ (hd : Int) (s : St) (x : Str), x ∈ (s.c1 hd).map (·.1) ↔ (∃ as, St.call x as ∈ s.all) ∨ ∃ as, Ep.call x as ∈ s.ep
  | hd, .var y e, x => by show x ∈ (e.cl.map fun x => ((x, hd) : Ck)).map (·.1) ↔ _; rw [fst_map, cl_iff]; simp [St.all, St.ep]
  | hd, .set y e, x => by show x ∈ (e.cl.map fun x => ((x, hd) : Ck)).map (·.1) ↔ _; rw [fst_map, cl_iff]; simp [St.all, St.ep]
  | hd, .ret e, x => by show x ∈ (e.cl.map fun x => ((x, hd) : Ck)).map (·.1) ↔ _; rw [fst_map, cl_iff]; simp [St.all, St.ep]
  | hd, .out e, x => by show x ∈ (e.cl.map fun x => ((x, hd) : Ck)).map (·.1) ↔ _; rw [fst_map, cl_iff]; simp [St.all, St.ep]
  | hd, .call y as, x => by
    show x ∈ ((y :: (as.map Ep.cl).flatten).map fun x => ((x, hd) : Ck)).map (·.1) ↔ _
    rw [fst_map, List.mem_cons, cls_iff]
    simp only [St.all, St.ep, List.mem_singleton, St.call.injEq]
    constructor
    · rintro (rfl | h)
      · exact .inl ⟨as, rfl, rfl⟩
      · exact .inr h
    · rintro (⟨bs, rfl, _⟩ | h)
      · exact .inl rfl
      · exact .inr h
  | hd, .hold b, x => by
    show x ∈ (St.ct 1 b).map (·.1) ↔ _
    rw [nCt 1 b x]
    simp [St.all, St.ep]
  | hd, .whl e b, x => by
    show x ∈ (e.cl.map (fun x => ((x, hd) : Ck)) ++ St.ct hd b).map (·.1) ↔ _
    rw [List.map_append, List.mem_append, fst_map, cl_iff, nCt hd b x]
    simp only [St.all, St.ep, List.mem_cons, List.mem_append, reduceCtorEq, false_or]
    constructor
    · rintro (⟨as, h⟩ | ⟨as, h⟩ | ⟨as, h⟩)
      · exact .inr ⟨as, .inl h⟩
      · exact .inl ⟨as, h⟩
      · exact .inr ⟨as, .inr h⟩
    · rintro (⟨as, h⟩ | ⟨as, h | h⟩)
      · exact .inr (.inl ⟨as, h⟩)
      · exact .inl ⟨as, h⟩
      · exact .inr (.inr ⟨as, h⟩)
  | hd, .ifs e b c, x => by
    show x ∈ (e.cl.map (fun x => ((x, hd) : Ck)) ++ (St.ct hd b ++ St.ct hd c)).map (·.1) ↔ _
    rw [List.map_append, List.mem_append, List.map_append, List.mem_append, fst_map, cl_iff, nCt hd b x, nCt hd c x]
    simp only [St.all, St.ep, List.mem_cons, List.mem_append, reduceCtorEq, false_or]
    constructor
    · rintro (⟨as, h⟩ | (⟨as, h⟩ | ⟨as, h⟩) | (⟨as, h⟩ | ⟨as, h⟩))
      · exact .inr ⟨as, .inl h⟩
      · exact .inl ⟨as, .inl h⟩
      · exact .inr ⟨as, .inr (.inl h)⟩
      · exact .inl ⟨as, .inr h⟩
      · exact .inr ⟨as, .inr (.inr h)⟩
    · rintro (⟨as, h | h⟩ | ⟨as, h | h | h⟩)
      · exact .inr (.inl (.inl ⟨as, h⟩))
      · exact .inr (.inr (.inl ⟨as, h⟩))
      · exact .inl ⟨as, h⟩
      · exact .inr (.inl (.inr ⟨as, h⟩))
      · exact .inr (.inr (.inr ⟨as, h⟩))
theorem nCt : ∀ (hd : Int) (b : List St) (x : Str), x ∈ (St.ct hd b).map (·.1) ↔ (∃ as, St.call x as ∈ St.alls b) ∨ ∃ as, Ep.call x as ∈ St.eps b
  | hd, [], x => by simp [St.ct, St.alls, St.eps]
  | hd, s :: b, x => by
    show x ∈ (s.c1 hd ++ St.ct hd b).map (·.1) ↔ _
    rw [List.map_append, List.mem_append, nC1 hd s x, nCt hd b x]
    simp only [St.alls, St.eps, List.mem_append]
    constructor
    · rintro ((⟨as, h⟩ | ⟨as, h⟩) | (⟨as, h⟩ | ⟨as, h⟩))
      · exact .inl ⟨as, .inl h⟩
      · exact .inr ⟨as, .inl h⟩
      · exact .inl ⟨as, .inr h⟩
      · exact .inr ⟨as, .inr h⟩
    · rintro (⟨as, h | h⟩ | ⟨as, h | h⟩)
      · exact .inl (.inl ⟨as, h⟩)
      · exact .inr (.inl ⟨as, h⟩)
      · exact .inl (.inr ⟨as, h⟩)
      · exact .inr (.inr ⟨as, h⟩)
end
theorem cnm_iff {b : List St} {x : Str} : x ∈ cnm b ↔ (∃ as, St.call x as ∈ St.alls b) ∨ ∃ as, Ep.call x as ∈ St.eps b := nCt 0 b x
theorem rdn_iff {b : List St} {x : Str} : x ∈ rdn b ↔ Ep.nam x ∈ St.eps b := by
  unfold rdn
  rw [List.mem_map]
  constructor
  · rintro ⟨a, ma, rfl⟩
    obtain ⟨m1, m2⟩ := List.mem_filter.mp ma
    cases a <;> first | exact m1 | cases m2
  · exact fun m => ⟨_, List.mem_filter.mpr ⟨m, rfl⟩, rfl⟩
theorem stn_iff {b : List St} {x : Str} : x ∈ stn b ↔ ∃ e, St.set x e ∈ St.alls b := by
  unfold stn
  rw [List.mem_map]
  constructor
  · rintro ⟨a, ma, rfl⟩
    obtain ⟨m1, m2⟩ := List.mem_filter.mp ma
    cases a <;> first | exact ⟨_, m1⟩ | cases m2
  · exact fun ⟨e, m⟩ => ⟨_, List.mem_filter.mpr ⟨m, rfl⟩, rfl⟩
/-! ### the law's looks -/
def sel3 (w : Str) : D → Bool
  | .tup [.str z, _, _] => strEq z w
  | _ => false
def selN : D → Bool
  | .tup [.str z, .str _] => strEq z w_name
  | _ => false
def nm2 : D → Str
  | .tup (_ :: .str x :: _) => x
  | _ => w_a
theorem bsub {b : List St} {d : D} (m : d ∈ subs (bD b)) : Wh d (St.alls b) (St.eps b) := by
  rcases List.mem_cons.mp (show d ∈ D.tup (St.ds b) :: subsL (St.ds b) from m) with rfl | m
  · exact .inl (sds_tu b)
  · exact ssubs b d m
theorem bsub_s {b : List St} {s : St} (m : s ∈ St.alls b) : s.d ∈ subs (bD b) := List.mem_cons_of_mem _ ((ssubs_i b).1 s m)
theorem bsub_e {b : List St} {e : Ep} (m : e ∈ St.eps b) : e.d ∈ subs (bD b) := List.mem_cons_of_mem _ ((ssubs_i b).2 e m)
theorem lt_sel3 {w : Str} {d : D} (h : ltD2 d = true) : sel3 w d = false := by
  match d, h with
  | .tup [], _ => rfl
  | .tup [.tup _], _ => rfl
  | .tup [.tup _, _], _ => rfl
  | .tup [.tup _, _, _], _ => rfl
  | .tup (.tup _ :: _ :: _ :: _ :: _), _ => rfl
theorem lt_selN {d : D} (h : ltD2 d = true) : selN d = false := by
  match d, h with
  | .tup [], _ => rfl
  | .tup [.tup _], _ => rfl
  | .tup [.tup _, _], _ => rfl
  | .tup (.tup _ :: _ :: _ :: _), _ => rfl
theorem no_eq {a w : Str} (h : strEq a w = true) (n : strEq a w = false) {P : Prop} : P := by rw [n] at h; cases h
theorem sel_call {b : List St} {d : D} (m : d ∈ subs (bD b)) (h : sel3 w_call d = true) : ∃ x y, d = .tup [.str w_call, .str x, y] ∧ x ∈ cnm b := by
  rcases bsub m with l | ⟨q, mq, rfl⟩ | ⟨e, me, rfl⟩
  · rw [lt_sel3 l] at h; cases h
  · cases q with
    | call x as => exact ⟨x, _, rfl, cnm_iff.mpr (.inl ⟨as, mq⟩)⟩
    | var x e => exact no_eq (a := w_var) h rfl
    | set x e => exact no_eq (a := w_set) h rfl
    | whl e b => exact no_eq (a := w_while) h rfl
    | _ => cases h
  · cases e with
    | call x as => exact ⟨x, _, rfl, cnm_iff.mpr (.inr ⟨as, me⟩)⟩
    | op o x y => exact no_eq (a := o.s) h (by cases o <;> rfl)
    | _ => cases h
theorem call_sel {b : List St} {x : Str} (h : x ∈ cnm b) : ∃ y, D.tup [.str w_call, .str x, y] ∈ subs (bD b) := by
  rcases cnm_iff.mp h with ⟨as, m⟩ | ⟨as, m⟩
  · exact ⟨_, bsub_s m⟩
  · exact ⟨_, bsub_e m⟩
theorem sel_set {b : List St} {d : D} (m : d ∈ subs (bD b)) (h : sel3 w_set d = true) : ∃ x y, d = .tup [.str w_set, .str x, y] ∧ x ∈ stn b := by
  rcases bsub m with l | ⟨q, mq, rfl⟩ | ⟨e, me, rfl⟩
  · rw [lt_sel3 l] at h; cases h
  · cases q with
    | call x as => exact no_eq (a := w_call) h rfl
    | var x e => exact no_eq (a := w_var) h rfl
    | set x e => exact ⟨x, _, rfl, stn_iff.mpr ⟨e, mq⟩⟩
    | whl e b => exact no_eq (a := w_while) h rfl
    | _ => cases h
  · cases e with
    | call x as => exact no_eq (a := w_call) h rfl
    | op o x y => exact no_eq (a := o.s) h (by cases o <;> rfl)
    | _ => cases h
theorem set_sel {b : List St} {x : Str} (h : x ∈ stn b) : ∃ y, D.tup [.str w_set, .str x, y] ∈ subs (bD b) := by
  obtain ⟨e, m⟩ := stn_iff.mp h
  exact ⟨_, bsub_s m⟩
theorem sel_nam {b : List St} {d : D} (m : d ∈ subs (bD b)) (h : selN d = true) : ∃ x, d = .tup [.str w_name, .str x] ∧ x ∈ rdn b := by
  rcases bsub m with l | ⟨q, mq, rfl⟩ | ⟨e, me, rfl⟩
  · rw [lt_selN l] at h; cases h
  · cases q with
    | ret e => cases e <;> cases h
    | out e => cases e <;> cases h
    | whl e b => cases e <;> cases h
    | ifs e b c => cases e <;> cases h
    | _ => cases h
  · cases e with
    | nam x => exact ⟨x, rfl, rdn_iff.mpr me⟩
    | op o a b => cases a <;> cases h
    | _ => cases h
theorem nam_sel {b : List St} {x : Str} (h : x ∈ rdn b) : D.tup [.str w_name, .str x] ∈ subs (bD b) := bsub_e (rdn_iff.mp h)
section
variable {n : Nat} {h : Hh} {Q : Kd} {X : Ex}
theorem sel_iff {b : List St} {ts : List D} {pr : D → Bool} {P : Str → Prop} (ht : ∀ y, y ∈ ts ↔ y ∈ subs (bD b)) (h1 : ∀ d, d ∈ subs (bD b) → pr d = true → P (nm2 d)) (h2 : ∀ x, P x → ∃ d, d ∈ subs (bD b) ∧ pr d = true ∧ nm2 d = x) (x : Str) : x ∈ (ts.filter pr).map nm2 ↔ P x := by
  rw [List.mem_map]
  constructor
  · rintro ⟨d, md, rfl⟩
    obtain ⟨m1, m2⟩ := List.mem_filter.mp md
    exact h1 d ((ht d).mp m1) m2
  · intro p
    obtain ⟨d, m, e, q⟩ := h2 x p
    exact ⟨d, List.mem_filter.mpr ⟨(ht d).mpr m, e⟩, q⟩
theorem lc_ok {b : List St} (hn : 2 ≤ n) (hg : gr (bD b) < 1000000) (w : ∀ (p : Nat) (cs : List Str) (h' : Hh), h'[p]? = some (.lst (cs.map .str)) → (∀ x, x ∈ cs ↔ x ∈ cnm b) → cs.length ≤ gr (bD b) → h.length ≤ p → p < h'.length → Keep [] h h' → Q (.ref p) h') : rn n i_law_calls [bD b] h Q X := by
  cases n with
  | zero => omega
  | succ n =>
    refine u_law_calls ?_
    have WK : ∀ (h : Hh) (Q : Kd), (∀ p ts h', h'[p]? = some (.lst ts) → (∀ y, y ∈ ts ↔ y ∈ subs (bD b)) → ts.length ≤ gr (bD b) → h.length ≤ p → p < h'.length → Keep [] h h' → Q (.ref p) h') → rn n i_law_walk [bD b] h Q X := fun h Q w => wk_ok (by omega) (bD_pln b) (by omega) w
    generalize hB : bD b = bd at WK ⊢
    conv => whnf
    refine WK _ _ fun q ts h1 e1 ht lt g1 g2 k1 => ?_
    have l1 := k1.len
    walk_at "go"
    rename_i p h2 e2 g3 g4 g5 k2
    refine fltL_i (fun d : D => d) (fun d => .str (nm2 d)) (sel3 w_call) ts (by rw [List.map_id']; exact k2.get e1 List.not_mem_nil) e2 (by omega) (by rw [← hB] at lt; omega) (fun d md h3 K N k3 hK hN => ?_) fun h3 e3 k3 => ?_
    · have ms := (ht d).mp md
      have mp := subs_pln bd d (by rw [← hB]; exact bD_pln b) ms
      obtain ⟨xs, rfl⟩ := subs_tup bd d ms
      match xs, ms, mp, hK, hN with
      | [], ms, mp, hK, hN => walk_at "go"; exact hN rfl _ Keep.refl
      | [a], ms, mp, hK, hN => walk_at "go"; exact hN (by cases a <;> rfl) _ Keep.refl
      | [a, c], ms, mp, hK, hN => walk_at "go"; exact hN (by cases a <;> rfl) _ Keep.refl
      | [a, c, e], ms, mp, hK, hN =>
        cases a with
        | ref _ => cases mp
        | fn _ => cases mp
        | str z =>
          have SH : sel3 w_call (.tup [.str z, c, e]) = true → ∃ x, c = .str x := fun hs => by
            rw [← hB] at ms
            obtain ⟨x, y, ed, _⟩ := sel_call ms hs
            injection ed with ed
            injection ed with _ ed
            injection ed with ed _
            exact ⟨x, ed⟩
          walk_at "go"
          refine br_i (fun hc => ?_) (fun hc => ?_)
          · obtain ⟨x, rfl⟩ := SH hc
            walk_at "go"
            exact hK hc _ Keep.refl
          · exact hN hc _ Keep.refl
        | _ => walk_at "go"; exact hN rfl _ Keep.refl
      | a :: c :: e :: f :: r, ms, mp, hK, hN =>
        walk_at "go"
        exact hN (by cases a <;> rfl) _ Keep.refl
    · have e3' : h3[p]? = some (.lst (((ts.filter (sel3 w_call)).map nm2).map D.str)) := by rw [e3, List.map_map]; rfl
      have lf := List.length_filter_le (sel3 w_call) ts
      have k03 : Keep [] h h3 := by walk_at "keep"
      walk_at "go"
      subst hB
      refine w p _ h3 e3' (sel_iff ht (fun d m hs => ?_) fun x hx => ?_) (by rw [List.length_map]; omega) (by omega) (lt_of e3) k03
      · obtain ⟨x, y, rfl, hx⟩ := sel_call m hs
        exact hx
      · obtain ⟨y, hy⟩ := call_sel hx
        exact ⟨_, hy, rfl, rfl⟩
theorem ln_ok {b : List St} (hn : 2 ≤ n) (hg : gr (bD b) < 1000000) (w : ∀ (p q : Nat) (rs ss : List Str) (h' : Hh), h'[p]? = some (.lst (rs.map .str)) → h'[q]? = some (.lst (ss.map .str)) → (∀ x, x ∈ rs ↔ x ∈ rdn b) → (∀ x, x ∈ ss ↔ x ∈ stn b) → rs.length ≤ gr (bD b) → ss.length ≤ gr (bD b) → h.length ≤ p → h.length ≤ q → Keep [] h h' → Q (.tup [.ref p, .ref q]) h') : rn n i_law_named [bD b] h Q X := by
  cases n with
  | zero => omega
  | succ n =>
    refine u_law_named ?_
    have WK : ∀ (h : Hh) (Q : Kd), (∀ p ts h', h'[p]? = some (.lst ts) → (∀ y, y ∈ ts ↔ y ∈ subs (bD b)) → ts.length ≤ gr (bD b) → h.length ≤ p → p < h'.length → Keep [] h h' → Q (.ref p) h') → rn n i_law_walk [bD b] h Q X := fun h Q w => wk_ok (by omega) (bD_pln b) (by omega) w
    generalize hB : bD b = bd at WK ⊢
    conv => whnf
    refine WK _ _ fun q ts h1 e1 ht lt g1 g2 k1 => ?_
    have l1 := k1.len
    walk_at "go"
    rename_i p h2 e2 g3 g4 g5 k2
    refine fltL_i (fun d : D => d) (fun d => .str (nm2 d)) selN ts (by rw [List.map_id']; exact k2.get e1 List.not_mem_nil) e2 (by omega) (by rw [← hB] at lt; omega) (fun d md h3 K N k3 hK hN => ?_) fun h3 e3 k3 => ?_
    · have ms := (ht d).mp md
      have mp := subs_pln bd d (by rw [← hB]; exact bD_pln b) ms
      obtain ⟨xs, rfl⟩ := subs_tup bd d ms
      match xs, ms, mp, hK, hN with
      | [], ms, mp, hK, hN => walk_at "go"; exact hN rfl _ Keep.refl
      | [a], ms, mp, hK, hN => walk_at "go"; exact hN (by cases a <;> rfl) _ Keep.refl
      | [a, c], ms, mp, hK, hN =>
        have mp' : (pln a && (pln c && true)) = true := mp
        obtain ⟨pa, pc⟩ := Bool.and_eq_true_iff.mp mp'
        rw [Bool.and_true] at pc
        cases a with
        | ref _ => cases pa
        | fn _ => cases pa
        | str z =>
          walk_at "go"
          refine br_i (fun hc => ?_) (fun hc => ?_)
          · cases c with
            | ref _ => cases pc
            | fn _ => cases pc
            | str x => walk_at "go"; exact hK hc _ Keep.refl
            | _ => walk_at "go"; exact hN rfl _ Keep.refl
          · have sf : selN (.tup [.str z, c]) = false := by cases c <;> first | rfl | exact hc
            walk_at "go"
            exact hN sf _ Keep.refl
        | _ => walk_at "go"; exact hN rfl _ Keep.refl
      | a :: c :: e :: r, ms, mp, hK, hN =>
        walk_at "go"
        exact hN (by cases a <;> cases c <;> rfl) _ Keep.refl
    · have e3' : h3[p]? = some (.lst (((ts.filter selN).map nm2).map D.str)) := by rw [e3, List.map_map]; rfl
      have lf := List.length_filter_le selN ts
      have l3 := k3.len
      have k03 : Keep [] h h3 := by walk_at "keep"
      have HR : ∀ x, x ∈ (ts.filter selN).map nm2 ↔ x ∈ rdn b := by
        rw [← hB] at ht
        refine sel_iff ht (fun d m hs => ?_) fun x hx => ⟨_, nam_sel hx, rfl, rfl⟩
        obtain ⟨x, rfl, hx⟩ := sel_nam m hs
        exact hx
      have LR : ((ts.filter selN).map nm2).length ≤ gr bd := by rw [List.length_map]; omega
      generalize (ts.filter selN).map nm2 = rs at e3' HR LR
      clear e3
      conv => whnf
      refine WK _ _ fun q2 ts2 h4 e4 ht2 lt2 g6 g7 k4 => ?_
      have l4 := k4.len
      walk_at "go"
      rename_i p2 h5 e5 g8 g9 g10 k5
      refine fltL_i (fun d : D => d) (fun d => .str (nm2 d)) (sel3 w_set) ts2 (by rw [List.map_id']; exact k5.get e4 List.not_mem_nil) e5 (by omega) (by rw [← hB] at lt2; omega) (fun d md h6 K N k6 hK hN => ?_) fun h6 e6 k6 => ?_
      · have ms := (ht2 d).mp md
        have mp := subs_pln bd d (by rw [← hB]; exact bD_pln b) ms
        obtain ⟨xs, rfl⟩ := subs_tup bd d ms
        match xs, ms, mp, hK, hN with
        | [], ms, mp, hK, hN => walk_at "go"; exact hN rfl _ Keep.refl
        | [a], ms, mp, hK, hN => walk_at "go"; exact hN (by cases a <;> rfl) _ Keep.refl
        | [a, c], ms, mp, hK, hN => walk_at "go"; exact hN (by cases a <;> rfl) _ Keep.refl
        | [a, c, e], ms, mp, hK, hN =>
          cases a with
          | ref _ => cases mp
          | fn _ => cases mp
          | str z =>
            have SH : sel3 w_set (.tup [.str z, c, e]) = true → ∃ x, c = .str x := fun hs => by
              rw [← hB] at ms
              obtain ⟨x, y, ed, _⟩ := sel_set ms hs
              injection ed with ed
              injection ed with _ ed
              injection ed with ed _
              exact ⟨x, ed⟩
            walk_at "go"
            refine br_i (fun hc => ?_) (fun hc => ?_)
            · obtain ⟨x, rfl⟩ := SH hc
              walk_at "go"
              exact hK hc _ Keep.refl
            · exact hN hc _ Keep.refl
          | _ => walk_at "go"; exact hN rfl _ Keep.refl
        | a :: c :: e :: f :: r, ms, mp, hK, hN =>
          walk_at "go"
          exact hN (by cases a <;> rfl) _ Keep.refl
      · have e6' : h6[p2]? = some (.lst (((ts2.filter (sel3 w_set)).map nm2).map D.str)) := by rw [e6, List.map_map]; rfl
        have lf2 := List.length_filter_le (sel3 w_set) ts2
        have k35 : Keep [] h3 h5 := by walk_at "keep"
        have e36 : h6[p]? = some (.lst (rs.map .str)) := k6.get (k35.get e3' List.not_mem_nil) (by have := lt_of e3'; simp; omega)
        have k06 : Keep [] h h6 := by
          have k05 : Keep [] h h5 := by walk_at "keep"
          have l5 := k05.len
          walk_at "keep"
        walk_at "go"
        subst hB
        refine w p p2 rs _ h6 e36 e6' HR (sel_iff ht2 (fun d m hs => ?_) fun x hx => ?_) LR (by rw [List.length_map]; omega) (by omega) (by omega) k06
        · obtain ⟨x, y, rfl, hx⟩ := sel_set m hs
          exact hx
        · obtain ⟨y, hy⟩ := set_sel hx
          exact ⟨_, hy, rfl, rfl⟩
end

end Lw

set_option Elab.async false
set_option linter.all false
set_option maxRecDepth 100000
set_option maxHeartbeats 1000000
namespace Lw
open PySem PySem.Spec PyProof.Rows L2 Mi
local macro_rules | `(tactic| walk_at "mem") => `(tactic| first | exact fun _ z => absurd z List.not_mem_nil | exact List.not_mem_nil | (intro i hi; simp only [List.mem_cons, List.not_mem_nil, or_false, false_or] at hi ⊢; omega) | (simp only [List.mem_cons, List.not_mem_nil, or_false, false_or, not_or]; omega))
local macro_rules | `(tactic| walk_at "get") => `(tactic| first | assumption | (apply Keep.get; assumption; walk_at "get"; walk_at "mem"))
local macro_rules | `(tactic| walk_at "keep") => `(tactic| first | assumption | exact Keep.refl | (apply Keep.step; assumption; walk_at "keep"; walk_at "mem"))
local macro_rules | `(tactic| walk_at "one") => `(tactic| (conv => whnf) <;> first
  | (apply br_t; rfl)
  | (apply br_f; rfl)
  | (apply rdO_i; walk_at "get")
  | (apply itm_i; first | rfl | assumption | exact getAt_end _ _)
  | (apply gtD_i; assumption)
  | (apply new_i; intro p h' e1 l1 l2 l3 k)
  | (apply put_i; walk_at "get"; intro h' e1 l1 k)
  | (apply iLst_i; first | rfl | exact intsOf_map _)
  | (apply chk_i; first | rfl | exact lenOk_le (by simp only [List.length_map, List.length_cons, List.length_append, List.length_take, List.length_nil, List.length_replicate, List.length_dropLast]; omega) | exact small_lt (by simp only [List.length_map, List.length_cons, List.length_append, List.length_take, List.length_nil, List.length_replicate, List.length_dropLast]; omega) | assumption | exact mulOk_r (by decide) | exact mulOk_l (by decide) | exact lenOk_le (by omega) | exact small_lt (by omega) | (simp; omega)))
local macro_rules | `(tactic| walk_at "go") => `(tactic| (repeat walk_at "one"); try (conv => whnf))
local macro_rules | `(tactic| walk_at "br") => `(tactic| (refine br_i (fun hc => ?_) (fun hc => ?_) <;> simp only [Bool.not_eq_true', Bool.not_eq_false', beq_iff_eq, beq_eq_false_iff_ne, ne_eq, decide_eq_true_eq, decide_eq_false_iff_not, bne_iff_ne, bne_eq_false_iff_eq] at hc) <;> first | (exfalso; omega) | walk_at "go")

theorem rc_mem {t : Tr} (T : TA t) {x : Str} (r : Rc t x) : x ∈ t.funs.map (·.1) := by
  cases r with
  | main m => exact T.cm _ m
  | on mo m => exact T.co _ mo _ m
  | fn mf r m => exact T.cf _ mf _ m
abbrev bM (fl : List (Str × List Str × List St)) : List (Str × D) := fl.map fun f => (f.1, bD f.2.2)
theorem putD_new {fl : List (Str × List Str × List St)} {f : Str × List Str × List St} (h : f.1 ∉ fl.map (·.1)) : putD (bM fl) f.1 (bD f.2.2) = bM (fl ++ [f]) := by
  have e : ((bM fl).any fun kv => strEq kv.1 f.1) = false := by
    rw [List.any_eq_false]
    intro kv m q
    obtain ⟨g, mg, rfl⟩ := List.mem_map.mp m
    have e2 : g.1 = f.1 := strEq_iff.mp q
    exact h (e2 ▸ List.mem_map_of_mem mg)
  unfold putD
  rw [e, if_neg (by decide)]
  unfold bM
  rw [List.map_append]
  rfl
theorem lkD_bM {fl : List (Str × List Str × List St)} {f : Str × List Str × List St} (nd : (fl.map (·.1)).Nodup) (m : f ∈ fl) : lkD (bM fl) f.1 = some (bD f.2.2) := by
  induction fl with
  | nil => exact absurd m List.not_mem_nil
  | cons g fl ih =>
    obtain ⟨n1, n2⟩ := List.nodup_cons.mp (show (g.1 :: fl.map (·.1)).Nodup from nd)
    show (if strEq g.1 f.1 then some (bD g.2.2) else lkD (bM fl) f.1) = _
    by_cases h : g.1 = f.1
    · have := fst_inj nd List.mem_cons_self m h
      subst this
      rw [if_pos (strEq_self _)]
    · rw [if_neg (fun q => h (strEq_iff.mp q))]
      rcases List.mem_cons.mp m with rfl | m
      · exact absurd rfl h
      · exact ih n2 m
structure CI (t : Tr) (ms wt : List Str) : Prop where
  nd : ms.Nodup
  s : ∀ x, x ∈ ms ∨ x ∈ wt → Rc t x
  c : ∀ f ∈ t.funs, f.1 ∈ ms → ∀ y ∈ cnm f.2.2, y ∈ ms ∨ y ∈ wt
  r : ∀ x, (x ∈ cnm t.main ∨ ∃ o ∈ t.ons, x ∈ cnm o.2) → x ∈ ms ∨ x ∈ wt
theorem CI.skip {t : Tr} {ms wt : List Str} {x : Str} (W : CI t ms (wt ++ [x])) (h : x ∈ ms) : CI t ms wt := by
  have key : ∀ y, y ∈ ms ∨ y ∈ wt ++ [x] → y ∈ ms ∨ y ∈ wt := fun y q => q.elim .inl fun m => (List.mem_append.mp m).elim .inr fun e => .inl (by rw [List.mem_singleton.mp e]; exact h)
  exact ⟨W.nd, fun y q => W.s y (q.elim .inl fun m => .inr (List.mem_append.mpr (.inl m))), fun f mf mm y my => key y (W.c f mf mm y my), fun y q => key y (W.r y q)⟩
theorem CI.add {t : Tr} (T : TA t) {ms wt cs : List Str} {f : Str × List Str × List St} (W : CI t ms (wt ++ [f.1])) (mf : f ∈ t.funs) (h : f.1 ∉ ms) (hc : ∀ y, y ∈ cs ↔ y ∈ cnm f.2.2) : CI t (ms ++ [f.1]) (wt ++ cs) := by
  have key : ∀ y, y ∈ ms ∨ y ∈ wt ++ [f.1] → y ∈ ms ++ [f.1] ∨ y ∈ wt ++ cs := fun y q => by
    rcases q with m | m
    · exact .inl (List.mem_append.mpr (.inl m))
    · rcases List.mem_append.mp m with m | m
      · exact .inr (List.mem_append.mpr (.inl m))
      · exact .inl (List.mem_append.mpr (.inr m))
  have sf := W.s f.1 (.inr (by simp))
  refine ⟨List.nodup_append.mpr ⟨W.nd, by simp, fun a ma b mb e => h (by rw [← List.mem_singleton.mp mb, ← e]; exact ma)⟩, fun y q => ?_, fun g mg mm y my => ?_, fun y q => key y (W.r y q)⟩
  · rcases q with m | m
    · rcases List.mem_append.mp m with m | m
      · exact W.s y (.inl m)
      · rw [List.mem_singleton.mp m]; exact sf
    · rcases List.mem_append.mp m with m | m
      · exact W.s y (.inr (List.mem_append.mpr (.inl m)))
      · exact .fn mf sf ((hc y).mp m)
  · rcases List.mem_append.mp mm with mm | mm
    · exact key y (W.c g mg mm y my)
    · have := fst_inj T.fn mg mf (List.mem_singleton.mp mm)
      subst this
      exact .inr (List.mem_append.mpr (.inr ((hc y).mpr my)))
theorem CI.all {t : Tr} (T : TA t) {ms : List Str} (W : CI t ms []) (x : Str) : x ∈ ms ↔ Rc t x := by
  refine ⟨fun m => W.s x (.inl m), fun r => ?_⟩
  have nn : ∀ {y}, y ∈ ms ∨ y ∈ ([] : List Str) → y ∈ ms := fun h => h.elim id fun m => absurd m List.not_mem_nil
  induction r with
  | main m => exact nn (W.r _ (.inl m))
  | on mo m => exact nn (W.r _ (.inr ⟨_, mo, m⟩))
  | fn mf r m ih => exact nn (W.c _ mf ih _ m)
theorem CI.len {t : Tr} (T : TA t) {ms wt : List Str} (W : CI t ms wt) : ms.length ≤ t.funs.length := by
  have := nodup_len W.nd fun x m => rc_mem T (W.s x (.inl m))
  rw [List.length_map] at this
  exact this
section
variable {n : Nat} {t : Tr} {h : Hh} {Q : Kd} {X : Ex}
theorem lm_ok (hn : 3 ≤ n) (T : TA t) (w : ∀ (p : Nat) (ms : List Str) (h' : Hh), h'[p]? = some (.lst (ms.map .str)) → (∀ x, x ∈ ms ↔ Rc t x) → ms.length ≤ 9 → h.length ≤ p → Keep [] h h' → Q (.ref p) h') : rn n i_law_come_to [t.d] h Q X := by
  cases n with
  | zero => omega
  | succ n =>
    have lf := T.o.f
    have lo := T.o.o
    have LC : ∀ (b : List St) (h : Hh) (Q : Kd), bOk b → (∀ (p : Nat) (cs : List Str) (h' : Hh), h'[p]? = some (.lst (cs.map .str)) → (∀ x, x ∈ cs ↔ x ∈ cnm b) → cs.length ≤ 400001 → h.length ≤ p → p < h'.length → Keep [] h h' → Q (.ref p) h') → rn n i_law_calls [bD b] h Q X := fun b h Q bo w => by
      have hb : gr (bD b) ≤ 400001 := by have := bo.2.2; show grs (St.ds b) + 1 ≤ _; omega
      exact lc_ok (by omega) (by omega) fun p cs h' e1 e2 e3 e4 e5 e6 => w p cs h' e1 e2 (by omega) e4 e5 e6
    refine u_law_come_to ?_
    have eT : t.d = D.tup [.tup (t.cells.map cD), .tup (t.funs.map fuD), .tup (t.ons.map oD), bD t.main] := rfl
    rw [eT]
    generalize t.cells.map cD = CC
    generalize hM : bD t.main = MM
    walk_at "go"
    rename_i q h1 e1 g1 g2 g3 k1
    generalize hT : D.tup [.tup CC, .tup (t.funs.map fuD), .tup (t.ons.map oD), MM] = td
    refine loop_i (I := fun r σ h' => ∃ z1 z2 x6 x7 x8, t.funs = z1 ++ z2 ∧ r = z2.map fuD ∧ σ = [some td, some (.tup CC), some (.tup (t.funs.map fuD)), some (.tup (t.ons.map oD)), some MM, some (.ref q), x6, x7, x8, none, none, none] ∧ h'[q]? = some (.dic (bM z1)) ∧ h1.length ≤ h'.length ∧ Keep [q] h1 h') ?_ ?_ _ _ _ ⟨[], t.funs, _, _, _, rfl, rfl, by rw [← hT]; rfl, e1, Nat.le_refl _, Keep.refl⟩
    · rintro y r σ h2 K ⟨z1, z2, x6, x7, x8, ez, er, rfl, e2, l2, k2⟩ hK
      cases z2 with
      | nil => cases er
      | cons f z2 =>
        simp only [List.map_cons, List.cons.injEq] at er
        obtain ⟨rfl, rfl⟩ := er
        have lz := congrArg List.length ez
        simp only [List.length_append, List.length_cons] at lz
        have nf : f.1 ∉ z1.map (·.1) := fun m => by
          have := T.fn
          rw [ez, List.map_append] at this
          exact (List.nodup_append.mp this).2.2 _ m _ List.mem_cons_self rfl
        have lt2 := lt_of e2
        have eF : fuD f = .tup [.str f.1, .tup (f.2.1.map .str), bD f.2.2] := rfl
        generalize t.funs.map fuD = FF at hK ⊢
        rw [eF]
        generalize hB : bD f.2.2 = BB
        walk_at "go"
        rename_i h3 e3 l3 k3
        refine hK _ _ ⟨z1 ++ [f], z2, _, _, _, by rw [ez]; simp, rfl, rfl, ?_, by omega, by walk_at "keep"⟩
        rw [e3, ← hB, putD_new nf]
    · rintro σ h2 ⟨z1, z2, x6, x7, x8, ez, er, rfl, e2, l2, k2⟩
      have : z2 = [] := List.map_eq_nil_iff.mp er.symm
      subst this
      rw [List.append_nil] at ez
      rw [← ez] at e2
      have lt2 := lt_of e2
      have k02 : Keep [] h h2 := by walk_at "keep"
      have l02 := k02.len
      walk_at "go"
      rename_i p h3 e3 g4 g5 g6 k3
      rw [← hM]
      refine LC _ _ _ T.o.m fun y cs h4 e4 hc lc g7 g8 k4 => ?_
      rw [hM]
      have l4 := k4.len
      have e34 := k4.get e3 List.not_mem_nil
      have e24 := k4.get (k3.get e2 List.not_mem_nil) List.not_mem_nil
      have k04 : Keep [] h h4 := by walk_at "keep"
      conv => whnf
      refine loop_i (I := fun r σ h' => ∃ z1 z2 x8 x11 ws y, t.ons = z1 ++ z2 ∧ r = z2.map oD ∧ σ = [some td, some (.tup CC), some (.tup (t.funs.map fuD)), some (.tup (t.ons.map oD)), some MM, some (.ref q), x6, x7, x8, some (.ref p), some (.ref y), x11] ∧ h'[y]? = some (.lst (ws.map D.str)) ∧ (∀ x, x ∈ ws ↔ x ∈ cnm t.main ∨ ∃ o ∈ z1, x ∈ cnm o.2) ∧ ws.length ≤ 400001 * (z1.length + 1) ∧ h3.length ≤ y ∧ h4.length ≤ h'.length ∧ Keep [] h4 h') ?_ ?_ _ _ _ ⟨[], t.ons, _, _, cs, y, rfl, rfl, rfl, e4, fun x => by rw [hc]; simp, by simp; omega, g7, Nat.le_refl _, Keep.refl⟩
      · rintro d r σ h5 K ⟨z1, z2, x8', x11, ws, y', ez', er', rfl, e5, hw, lw, gy, l5, k5⟩ hK
        cases z2 with
        | nil => cases er'
        | cons o z2 =>
          simp only [List.map_cons, List.cons.injEq] at er'
          obtain ⟨rfl, rfl⟩ := er'
          have mo : o ∈ t.ons := by rw [ez']; simp
          have lz := congrArg List.length ez'
          simp only [List.length_append, List.length_cons] at lz
          have eF : oD o = .tup [.int o.1, bD o.2] := rfl
          generalize t.ons.map oD = OO at hK ⊢
          rw [eF]
          generalize hB : bD o.2 = BB
          conv => whnf
          rw [← hB]
          refine LC _ _ _ (T.o.ob o mo) fun v cs h6 e6 hc6 lc6 g9 g10 k6 => ?_
          rw [hB]
          have e56 := k6.get e5 List.not_mem_nil
          have l6 := k6.len
          have lb : 400001 * (z1.length + 1) ≤ 400001 * 5 := Nat.mul_le_mul_left _ (by omega)
          walk_at "go"
          rename_i u h7 e7 g11 g12 g13 k7
          refine hK _ _ ⟨z1 ++ [o], z2, _, _, ws ++ cs, u, by rw [ez']; simp, rfl, rfl, by rw [e7, List.map_append], fun x => ?_, by rw [List.length_append, List.length_append, List.length_singleton, Nat.mul_add]; omega, by omega, by omega, by walk_at "keep"⟩
          rw [List.mem_append, hw, hc6]
          constructor
          · rintro ((h | ⟨a, ma, h⟩) | h)
            · exact .inl h
            · exact .inr ⟨a, List.mem_append.mpr (.inl ma), h⟩
            · exact .inr ⟨o, by simp, h⟩
          · rintro (h | ⟨a, ma, h⟩)
            · exact .inl (.inl h)
            · rcases List.mem_append.mp ma with ma | ma
              · exact .inl (.inr ⟨a, ma, h⟩)
              · rw [List.mem_singleton.mp ma] at h
                exact .inr h
      · rintro σ h5 ⟨z1, z2, x8', x11, ws, y', ez', er', rfl, e5, hw, lw, gy, l5, k5⟩
        have : z2 = [] := List.map_eq_nil_iff.mp er'.symm
        subst this
        rw [List.append_nil] at ez'
        rw [← ez'] at hw lw
        have lw2 : 400001 * (t.ons.length + 1) ≤ 400001 * 5 := Nat.mul_le_mul_left _ (by omega)
        have e35 := k5.get e34 List.not_mem_nil
        have e25 := k5.get e24 List.not_mem_nil
        have k05 : Keep [] h h5 := by walk_at "keep"
        have lt3 := lt_of e3
        have W0 : CI t [] ws := by
          refine ⟨List.nodup_nil, fun x m => ?_, fun f mf m => absurd m List.not_mem_nil, fun x m => .inr ((hw x).mpr m)⟩
          rcases (hw x).mp (m.elim (fun m => absurd m List.not_mem_nil) id) with h | ⟨o, mo, h⟩
          · exact .main h
          · exact .on mo h
        conv => whnf
        refine while_i (fun m σ h' => ∃ (ms wt : List Str) (y6 : Option D), m = (t.funs.length - ms.length) * 1000000 + wt.length ∧ m ≤ 12000000 ∧ CI t ms wt ∧ σ = [some td, some (.tup CC), some (.tup (t.funs.map fuD)), some (.tup (t.ons.map oD)), some MM, some (.ref q), y6, x7, x8', some (.ref p), some (.ref y'), x11] ∧ h'[p]? = some (.lst (ms.map D.str)) ∧ h'[y']? = some (.lst (wt.map D.str)) ∧ h'[q]? = some (.dic (bM t.funs)) ∧ h5.length ≤ h'.length ∧ Keep [] h h') ?_ _ ((t.funs.length - 0) * 1000000 + ws.length) _ _ (fuel_lt (by omega)) ⟨[], ws, _, rfl, by omega, W0, rfl, e35, e5, e25, Nat.le_refl _, k05⟩
        rintro m σ h6 K ⟨ms, wt, y6, em, hm, W, rfl, ep, ey, eq, l6, k6⟩ hK
        conv => whnf
        refine rdO_i ey ?_
        conv => whnf
        rcases List.eq_nil_or_concat wt with rfl | ⟨wt, x, rfl⟩
        · refine br_f rfl ?_
          walk_at "go"
          exact w p ms _ ep (W.all T) (by have := W.len T; omega) (by omega) k6
        rw [List.concat_eq_append] at *
        rw [List.map_append, List.map_cons, List.map_nil] at ey
        rw [List.length_append, List.length_singleton] at em
        have lwt : ((wt ++ [x]).map D.str).length = wt.length + 1 := by simp
        refine br_t (decide_eq_true (by rw [lwt]; omega)) ?_
        conv => whnf
        refine rdO_i ey ?_
        conv => whnf
        refine rdO_i ey ?_
        conv => whnf
        refine itm_i (getAt_end _ _) ?_
        refine put_i ey fun h7 e7 l7 k7 => ?_
        rw [List.dropLast_concat] at e7
        have ep7 := k7.get ep (by simp; omega)
        have eq7 := k7.get eq (by simp; omega)
        have k07 : Keep [] h h7 := by walk_at "keep"
        conv => whnf
        refine rdO_i ep7 ?_
        conv => whnf
        refine chk_i (by show (true && _) = true; rw [all_fl]; rfl) ?_
        conv => whnf
        rw [inFlat_strs]
        by_cases hx : x ∈ ms
        · refine br_f (by rw [decide_eq_true hx]; rfl) ?_
          exact hK _ _ _ (by omega) ⟨ms, wt, _, rfl, by omega, W.skip hx, rfl, ep7, e7, eq7, by omega, k07⟩
        · refine br_t (by rw [decide_eq_false hx]; rfl) ?_
          have lm := W.len T
          obtain ⟨f, mf, ef⟩ := List.mem_map.mp (rc_mem T (W.s x (.inr (by simp))))
          subst ef
          have lt7 := lt_of ep7
          have lty := lt_of e7
          conv => whnf
          refine rdO_i ep7 ?_
          conv => whnf
          refine rdO_i ep7 ?_
          conv => whnf
          refine chk_i (small_lt (by rw [List.length_map]; omega)) ?_
          refine put_i ep7 fun h8 e8 l8 k8 => ?_
          have ey8 := k8.get e7 (by simp; omega)
          have eq8 := k8.get eq7 (by simp; omega)
          have k08 : Keep [] h h8 := by walk_at "keep"
          conv => whnf
          refine rdO_i ey8 ?_
          conv => whnf
          refine rdO_i eq8 ?_
          conv => whnf
          refine gtD_i (lkD_bM T.fn mf) ?_
          generalize hB : bD f.2.2 = BB
          conv => whnf
          rw [← hB]
          refine LC _ _ _ (T.o.fb f mf).2 fun v cs h9 e9 hc9 lc9 g14 g15 k9 => ?_
          have l9 := k9.len
          have ey9 := k9.get ey8 List.not_mem_nil
          have ep9 := k9.get e8 List.not_mem_nil
          have eq9 := k9.get eq8 List.not_mem_nil
          have k09 : Keep [] h h9 := by walk_at "keep"
          have lty9 := lt_of ey9
          conv => whnf
          refine rdO_i ey9 ?_
          conv => whnf
          refine rdO_i e9 ?_
          conv => whnf
          refine chk_i (lenOk_le (by rw [List.length_map, List.length_map]; omega)) ?_
          refine put_i ey9 fun h10 e10 l10 k10 => ?_
          have WA := W.add T mf hx hc9
          have lWA := WA.len T
          rw [List.length_append, List.length_singleton] at lWA
          have hd : t.funs.length - ms.length = (t.funs.length - (ms.length + 1)) + 1 := by omega
          rw [hd, Nat.succ_mul] at em
          refine hK _ _ _ ?_ ⟨ms ++ [f.1], wt ++ cs, _, rfl, ?_, WA, rfl, ?_, ?_, k10.get eq9 (by simp; omega), by omega, by walk_at "keep"⟩
          · rw [List.length_append, List.length_append, List.length_singleton]; omega
          · rw [List.length_append, List.length_append, List.length_singleton]; omega
          · rw [k10.get ep9 (by simp; omega), List.map_append]; rfl
          · rw [e10, List.map_append]
end

end Lw

set_option Elab.async false
set_option linter.all false
set_option maxRecDepth 100000
set_option maxHeartbeats 1000000
namespace Lw
open PySem PySem.Spec PyProof.Rows L2 Mi
local macro_rules | `(tactic| walk_at "mem") => `(tactic| first | exact fun _ z => absurd z List.not_mem_nil | exact List.not_mem_nil | (intro i hi; simp only [List.mem_cons, List.not_mem_nil, or_false, false_or] at hi ⊢; omega) | (simp only [List.mem_cons, List.not_mem_nil, or_false, false_or, not_or]; omega))
local macro_rules | `(tactic| walk_at "get") => `(tactic| first | assumption | (apply Keep.get; assumption; walk_at "get"; walk_at "mem"))
local macro_rules | `(tactic| walk_at "keep") => `(tactic| first | assumption | exact Keep.refl | (apply Keep.step; assumption; walk_at "keep"; walk_at "mem"))
local macro_rules | `(tactic| walk_at "one") => `(tactic| (conv => whnf) <;> first
  | (apply br_t; rfl)
  | (apply br_f; rfl)
  | (apply rdO_i; walk_at "get")
  | (apply itm_i; first | rfl | assumption | exact getAt_end _ _)
  | (apply gtD_i; assumption)
  | (apply new_i; intro p h' e1 l1 l2 l3 k)
  | (apply put_i; walk_at "get"; intro h' e1 l1 k)
  | (apply iLst_i; first | rfl | exact intsOf_map _)
  | (apply chk_i; first | rfl | exact lenOk_le (by simp only [List.length_map, List.length_cons, List.length_append, List.length_take, List.length_nil, List.length_replicate, List.length_dropLast]; omega) | exact small_lt (by simp only [List.length_map, List.length_cons, List.length_append, List.length_take, List.length_nil, List.length_replicate, List.length_dropLast]; omega) | assumption | exact mulOk_r (by decide) | exact mulOk_l (by decide) | exact lenOk_le (by omega) | exact small_lt (by omega) | (simp; omega)))
local macro_rules | `(tactic| walk_at "go") => `(tactic| (repeat walk_at "one"); try (conv => whnf))
local macro_rules | `(tactic| walk_at "br") => `(tactic| (refine br_i (fun hc => ?_) (fun hc => ?_) <;> simp only [Bool.not_eq_true', Bool.not_eq_false', beq_iff_eq, beq_eq_false_iff_ne, ne_eq, decide_eq_true_eq, decide_eq_false_iff_not, bne_iff_ne, bne_eq_false_iff_eq] at hc) <;> first | (exfalso; omega) | walk_at "go")

theorem rc_left {t : Tr} {x : Str} : Rc (tL t) x ↔ Rc t x := by
  constructor
  · intro r
    induction r with
    | main m => exact .main m
    | on mo m => exact .on mo m
    | fn mf r m ih => exact .fn (List.mem_filter.mp mf).1 ih m
  · intro r
    induction r with
    | main m => exact .main (t := tL t) m
    | on mo m => exact .on (t := tL t) mo m
    | fn mf r m ih => exact .fn (t := tL t) (List.mem_filter.mpr ⟨mf, rcB_iff.mpr r⟩) ih m
theorem TA.left {t : Tr} (T : TA t) : TA (tL t) := by
  have inL : ∀ {x}, Rc t x → x ∈ (tL t).funs.map (·.1) := fun r => by
    obtain ⟨f, mf, rfl⟩ := List.mem_map.mp (rc_mem T r)
    exact List.mem_map_of_mem (List.mem_filter.mpr ⟨mf, rcB_iff.mpr r⟩)
  refine ⟨⟨T.o.c, Nat.le_trans (List.length_filter_le _ _) T.o.f, T.o.o, fun f m => T.o.fb f (List.mem_filter.mp m).1, T.o.ob, T.o.m⟩, ?_, T.on, fun f m => T.nm f (List.mem_filter.mp m).1, fun f m x mx => ?_, fun o mo x mx => inL (.on mo mx), fun x mx => inL (.main mx)⟩
  · exact T.fn.sublist (List.filter_sublist.map _)
  · obtain ⟨m1, m2⟩ := List.mem_filter.mp m
    exact inL (.fn m1 (rcB_iff.mp m2) mx)
theorem left_all {t : Tr} {f : Str × List Str × List St} (m : f ∈ (tL t).funs) : rcB (tL t) f.1 = true := rcB_iff.mpr (rc_left.mpr (rcB_iff.mp (List.mem_filter.mp m).2))
theorem left_left (t : Tr) : tL (tL t) = tL t := by
  have : (tL t).funs.filter (fun f => rcB (tL t) f.1) = (tL t).funs := List.filter_eq_self.mpr fun f m => left_all m
  show (⟨t.cells, (tL t).funs.filter (fun f => rcB (tL t) f.1), t.ons, t.main⟩ : Tr) = ⟨t.cells, (tL t).funs, t.ons, t.main⟩
  rw [this]
theorem ndl_left {t : Tr} {ys : List Str} (h : Ndl (tL t) ys) : ys = [] := by
  have e : (tL t).funs.filter (fun f => !rcB (tL t) f.1) = [] := List.filter_eq_nil_iff.mpr fun f m => by rw [left_all m]; decide
  have p := h.1
  rw [e] at p
  exact List.perm_nil.mp p
theorem Ndl.uniq {t : Tr} {xs ys : List Str} (h : Ndl t xs) (g : Ndl t ys) : xs = ys := srt_uniq (h.1.trans g.1.symm) h.2 g.2
theorem Ndc.uniq {t : Tr} {p : Str → Bool} {xs ys : List Str} (h : Ndc t p xs) (g : Ndc t p ys) : xs = ys := srt_uniq (h.1.trans g.1.symm) h.2 g.2
theorem strs_pln (ys : List Str) : pln (.tup (ys.map .str)) = true := plns_map (f := D.str) fun _ _ => rfl
theorem strs_gr (ys : List Str) : gr (.tup (ys.map .str)) ≤ ys.length + 1 := by
  have := grs_map (f := D.str) (B := 1) (xs := ys) fun _ _ => by simp [gr]
  show grs (ys.map D.str) + 1 ≤ _
  omega
section
variable {n : Nat} {t : Tr} {h : Hh} {Q : Kd} {X : Ex}
theorem same2 {d : D} (hn : 1 ≤ n) (hp : pln d = true) (hg : gr d < 10000000) (w : ∀ h', Keep [] h h' → Q (.bl true) h') : rn n i_law_same [d, d] h Q X := same_ok hn hp hg fun h' _ k => w h' k
theorem asked_ok (hn : 32 ≤ n) (T : TA t) (w : ∀ h', Keep [] h h' → Q (.bl true) h') : rn n i_law_asked [t.d] h Q X := by
  cases n with
  | zero => omega
  | succ n =>
    have lc := T.o.c
    have lf := T.o.f
    have lo := T.o.o
    have TL := T.left
    have LM : ∀ (h : Hh) (Q : Kd), (∀ (p : Nat) (ms : List Str) (h' : Hh), h'[p]? = some (.lst (ms.map .str)) → (∀ x, x ∈ ms ↔ Rc t x) → ms.length ≤ 9 → h.length ≤ p → Keep [] h h' → Q (.ref p) h') → rn n i_law_come_to [t.d] h Q X := fun h Q w => lm_ok (by omega) T w
    have NF : ∀ (h : Hh) (Q : Kd), (∀ ys h', Ndl t ys → Keep [] h h' → Q (.tup (ys.map .str)) h') → rn n i_needless_funs [t.d] h Q X := fun h Q w => nf_ok (by omega) T w
    have WN : ∀ (h : Hh) (Q : Kd), (∀ h', Keep [] h h' → Q (tL t).d h') → rn n i_without_needless [t.d] h Q X := fun h Q w => wn_ok (by omega) T w
    have NFL : ∀ (h : Hh) (Q : Kd), (∀ h', Keep [] h h' → Q (.tup []) h') → rn n i_needless_funs [(tL t).d] h Q X := fun h Q w => nf_ok (by omega) TL fun ys h' ny k => by
      rw [ndl_left ny]
      exact w h' k
    have WNL : ∀ (h : Hh) (Q : Kd), (∀ h', Keep [] h h' → Q (tL t).d h') → rn n i_without_needless [(tL t).d] h Q X := fun h Q w => wn_ok (by omega) TL fun h' k => by rw [left_left]; exact w h' k
    have UC : ∀ (h : Hh) (Q : Kd), (∀ ys h', Ndc t (rdB t) ys → Keep [] h h' → Q (.tup (ys.map .str)) h') → rn n i_unread_cells [t.d] h Q X := fun h Q w => uc_ok (by omega) T w
    have NC : ∀ (h : Hh) (Q : Kd), (∀ ys h', Ndc t (nmB t) ys → Keep [] h h' → Q (.tup (ys.map .str)) h') → rn n i_needless_cells [t.d] h Q X := fun h Q w => nc_ok (by omega) T w
    have LN : ∀ (b : List St) (h : Hh) (Q : Kd), b ∈ blks t → (∀ (p q : Nat) (rs ss : List Str) (h' : Hh), h'[p]? = some (.lst (rs.map .str)) → h'[q]? = some (.lst (ss.map .str)) → (∀ x, x ∈ rs ↔ x ∈ rdn b) → (∀ x, x ∈ ss ↔ x ∈ stn b) → rs.length ≤ 400001 → ss.length ≤ 400001 → h.length ≤ p → h.length ≤ q → Keep [] h h' → Q (.tup [.ref p, .ref q]) h') → rn n i_law_named [bD b] h Q X := fun b h Q mb w => by
      have hb : gr (bD b) ≤ 400001 := by have := (blks_bok T mb).2.2; show grs (St.ds b) + 1 ≤ _; omega
      exact ln_ok (by omega) (by omega) fun p q rs ss h' e1 e2 e3 e4 e5 e6 e7 e8 e9 => w p q rs ss h' e1 e2 e3 e4 (by omega) (by omega) e7 e8 e9
    have SS : ∀ (ys : List Str) (h : Hh) (Q : Kd), ys.length ≤ 9 → (∀ h', Keep [] h h' → Q (.bl true) h') → rn n i_law_same [.tup (ys.map .str), .tup (ys.map .str)] h Q X := fun ys h Q l w => same2 (by omega) (strs_pln ys) (by have := strs_gr ys; omega) w
    have SL : ∀ (h : Hh) (Q : Kd), (∀ h', Keep [] h h' → Q (.bl true) h') → rn n i_law_same [(tL t).d, (tL t).d] h Q X := fun h Q w => same2 (by omega) (tr_pln _) (tr_gr TL.o) w
    have S0 : ∀ (h : Hh) (Q : Kd), (∀ h', Keep [] h h' → Q (.bl true) h') → rn n i_law_same [.tup [], .tup []] h Q X := fun h Q w => same2 (by omega) rfl (by simp [gr, grs]) w
    refine u_law_asked ?_
    have eT : t.d = D.tup [.tup (t.cells.map cD), .tup (t.funs.map fuD), .tup (t.ons.map oD), bD t.main] := rfl
    have eL : (tL t).d = D.tup [.tup (t.cells.map cD), .tup ((t.funs.filter fun f => rcB t f.1).map fuD), .tup (t.ons.map oD), bD t.main] := rfl
    have eB : (blks t).map bD = t.funs.map (fun f => bD f.2.2) ++ t.ons.map (fun o => bD o.2) ++ [bD t.main] := by simp [blks, Function.comp_def]
    rw [eT] at LM NF WN UC NC ⊢
    rw [eL] at WN NFL WNL SL
    generalize hM : bD t.main = MM at LM NF WN UC NC NFL WNL SL eB ⊢
    walk_at "go"
    refine LM _ _ fun p ms h1 e1 hms lms g1 k1 => ?_
    have hin : ∀ x, inFlat (.str x) (ms.map D.str) = rcB t x := fun x => by
      rw [inFlat_strs, Bool.eq_iff_iff, decide_eq_true_iff, rcB_iff, hms]
    have l1 := k1.len
    have lt1 := lt_of e1
    walk_at "go"
    rename_i q h2 e2 g2 g3 g4 k2
    refine flt_i fuD (fun f => .str f.1) (fun f => !rcB t f.1) t.funs e2 (by omega) (fun f mf h3 K N k3 hK hN => ?_) fun h3 e3 k3 => ?_
    · have e13 : h3[p]? = some (.lst (ms.map D.str)) := k3.get (k2.get e1 List.not_mem_nil) (by simp; omega)
      have eF : fuD f = .tup [.str f.1, .tup (f.2.1.map .str), bD f.2.2] := rfl
      generalize bD f.2.2 = BB at eF
      generalize t.funs.map fuD = FF
      rw [eF]
      conv => whnf
      refine rdO_i e13 ?_
      conv => whnf
      refine chk_i (by show (true && _) = true; rw [all_fl]; rfl) ?_
      conv => whnf
      rw [hin]
      refine br_i (fun hc => ?_) (fun hc => ?_)
      · walk_at "go"
        exact hK hc _ Keep.refl
      · exact hN hc _ Keep.refl
    have l3 := k3.len
    have e13 : h3[p]? = some (.lst (ms.map D.str)) := k3.get (k2.get e1 List.not_mem_nil) (by simp; omega)
    have k03 : Keep [] h h3 := by
      have k02 : Keep [] h h2 := by walk_at "keep"
      walk_at "keep"
    have e3' : h3[q]? = some (.lst (((t.funs.filter fun f => !rcB t f.1).map (·.1)).map D.str)) := by rw [e3, List.map_map]; rfl
    have ll : ((t.funs.filter fun f => !rcB t f.1).map (·.1)).length ≤ 9 := by rw [List.length_map]; exact Nat.le_trans (List.length_filter_le _ _) lf
    walk_at "go"
    refine srtD_i (srtok_s _) (by rw [List.length_map]; exact lenOk_i (lenOk_le (by omega))) fun zs pm st => ?_
    obtain ⟨ys, py, rfl⟩ := perm_dec (f := D.str) (g := unS) (fun _ => rfl) pm
    have NY : Ndl t ys := ⟨py, st⟩
    have ly : ys.length ≤ 9 := by rw [py.length_eq]; exact ll
    walk_at "go"
    rename_i v h4 e4 g5 g6 g7 k4
    refine NF _ _ fun ys2 h5 ny2 k5 => ?_
    have := ny2.uniq NY
    subst this
    walk_at "go"
    refine SS ys2 _ _ ly fun h6 k6 => ?_
    have k36 : Keep [] h3 h6 := by walk_at "keep"
    have e16 := k36.get e13 List.not_mem_nil
    have l6 := k36.len
    have k06 : Keep [] h h6 := by walk_at "keep"
    have lt6 := lt_of e16
    walk_at "go"
    rename_i r h7 e7 g8 g9 g10 k7
    refine flt_i fuD fuD (fun f => rcB t f.1) t.funs e7 (by omega) (fun f mf h8 K N k8 hK hN => ?_) fun h8 e8 k8 => ?_
    · have e18 : h8[p]? = some (.lst (ms.map D.str)) := k8.get (k7.get e16 List.not_mem_nil) (by simp; omega)
      have eF : fuD f = .tup [.str f.1, .tup (f.2.1.map .str), bD f.2.2] := rfl
      generalize t.funs.map fuD = FF
      rw [eF] at hK ⊢
      generalize bD f.2.2 = BB at hK ⊢
      conv => whnf
      refine itm_i rfl ?_
      conv => whnf
      refine rdO_i e18 ?_
      conv => whnf
      refine chk_i (by show (true && _) = true; rw [all_fl]; rfl) ?_
      conv => whnf
      rw [hin]
      refine br_i (fun hc => ?_) (fun hc => ?_)
      · walk_at "go"
        exact hK hc _ Keep.refl
      · exact hN hc _ Keep.refl
    have l8 := k8.len
    have k08 : Keep [] h h8 := by
      have k07 : Keep [] h h7 := by walk_at "keep"
      have l7 := k07.len
      walk_at "keep"
    generalize hLF : (t.funs.filter fun f => rcB t f.1).map fuD = LF at e8 WN NFL WNL SL
    walk_at "go"
    refine WN _ _ fun h9 k9 => ?_
    walk_at "go"
    refine SL _ _ fun h10 k10 => ?_
    walk_at "go"
    refine NFL _ _ fun h11 k11 => ?_
    walk_at "go"
    refine S0 _ _ fun h12 k12 => ?_
    walk_at "go"
    refine WNL _ _ fun h13 k13 => ?_
    walk_at "go"
    refine SL _ _ fun h14 k14 => ?_
    have k014 : Keep [] h h14 := by walk_at "keep"
    have l014 := k014.len
    walk_at "go"
    rename_i a h15 e15 g11 g12 g13 k15 b h16 e16b g14 g15 g16 k16 c h17 e17 g17 g18 g19 k17
    have ea17 : h17[a]? = some (.lst []) := k17.get (k16.get e15 List.not_mem_nil) List.not_mem_nil
    have eb17 : h17[b]? = some (.lst []) := k17.get e16b List.not_mem_nil
    have k017 : Keep [] h h17 := by walk_at "keep"
    refine map_i fuD (fun f => bD f.2.2) t.funs e17 (by omega) (fun f mf h18 K N k18 hK => ?_) fun h18 e18 k18 => ?_
    · have eF : fuD f = .tup [.str f.1, .tup (f.2.1.map .str), bD f.2.2] := rfl
      generalize t.funs.map fuD = FF
      rw [eF]
      generalize bD f.2.2 = BB at hK ⊢
      walk_at "go"
      exact hK _ Keep.refl
    have l18 := k18.len
    have l017 := k017.len
    have k018 : Keep [] h h18 := by walk_at "keep"
    have ea18 : h18[a]? = some (.lst []) := k18.get ea17 (by simp; omega)
    have eb18 : h18[b]? = some (.lst []) := k18.get eb17 (by simp; omega)
    walk_at "go"
    rename_i d h19 e19 g20 g21 g22 k19
    refine map_i oD (fun o => bD o.2) t.ons e19 (by omega) (fun o mo h20 K N k20 hK => ?_) fun h20 e20 k20 => ?_
    · have eF : oD o = .tup [.int o.1, bD o.2] := rfl
      generalize t.ons.map oD = OO
      rw [eF]
      generalize bD o.2 = BB at hK ⊢
      walk_at "go"
      exact hK _ Keep.refl
    have l20 := k20.len
    have e1820 : h20[c]? = some (.lst (t.funs.map fun f => bD f.2.2)) := k20.get (k19.get e18 List.not_mem_nil) (by simp; omega)
    have ea20 : h20[a]? = some (.lst []) := k20.get (k19.get ea18 List.not_mem_nil) (by simp; omega)
    have eb20 : h20[b]? = some (.lst []) := k20.get (k19.get eb18 List.not_mem_nil) (by simp; omega)
    have l018 := k018.len
    have k020 : Keep [] h h20 := by
      have k019 : Keep [] h h19 := by walk_at "keep"
      walk_at "keep"
    walk_at "go"
    rename_i u1 h21 e21 g23 g24 g25 k21 u2 h22 e22 g26 g27 g28 k22 u3 h23 e23 g29 g30 g31 k23
    rw [← eB] at e23
    have k2023 : Keep [] h20 h23 := by walk_at "keep"
    have ea23 := k2023.get ea20 List.not_mem_nil
    have eb23 := k2023.get eb20 List.not_mem_nil
    have k023 : Keep [] h h23 := by walk_at "keep"
    have lb := blks_len T
    have l2023 := k2023.len
    refine loopL_i ((blks t).map bD) (I := fun rr σ h' => ∃ (z1 z2 : List (List St)) (x10 x11 x12 : Option D) (ra rb : Nat) (rs ss : List Str), blks t = z1 ++ z2 ∧ rr = z2.map bD ∧ σ = [some (.tup [.tup (t.cells.map cD), .tup (t.funs.map fuD), .tup (t.ons.map oD), MM]), some (.tup (t.cells.map cD)), some (.tup (t.funs.map fuD)), some (.tup (t.ons.map oD)), some MM, some (.ref p), some (.tup (ys2.map .str)), some (.tup [.tup (t.cells.map cD), .tup LF, .tup (t.ons.map oD), MM]), some (.ref ra), some (.ref rb), x10, x11, x12, none, none, none, none, none] ∧ h'[ra]? = some (.lst (rs.map .str)) ∧ h'[rb]? = some (.lst (ss.map .str)) ∧ (∀ x, x ∈ rs ↔ ∃ b ∈ z1, x ∈ rdn b) ∧ (∀ x, x ∈ ss ↔ ∃ b ∈ z1, x ∈ stn b) ∧ rs.length ≤ 400001 * z1.length ∧ ss.length ≤ 400001 * z1.length ∧ h23.length ≤ h'.length ∧ Keep [] h23 h') ?_ ?_ ?_ ((blks t).map bD) _ _ _ _ (by simp) (fuel_lt (by rw [List.length_map]; omega)) ⟨[], blks t, _, _, _, a, b, [], [], rfl, rfl, rfl, ea23, eb23, by simp, by simp, by simp, by simp, Nat.le_refl _, Keep.refl⟩
    · rintro rr σ h' ⟨z1, z2, x10, x11, x12, ra, rb, rs, ss, ez, er, es, _, _, _, _, _, _, _, k'⟩
      exact k'.get e23 List.not_mem_nil
    · rintro x rr σ h24 K ⟨z1, z2, x10, x11, x12, ra, rb, rs, ss, ez, er, rfl, era, erb, hrs, hss, lrs, lss, l24, k24⟩ hK
      cases z2 with
      | nil => cases er
      | cons bl z2 =>
        simp only [List.map_cons, List.cons.injEq] at er
        obtain ⟨rfl, rfl⟩ := er
        have mb : bl ∈ blks t := by rw [ez]; simp
        have lz := congrArg List.length ez
        simp only [List.length_append, List.length_cons] at lz
        have lm : 400001 * z1.length ≤ 400001 * 14 := Nat.mul_le_mul_left _ (by omega)
        generalize t.cells.map cD = CC at hK ⊢
        generalize t.funs.map fuD = FF at hK ⊢
        generalize t.ons.map oD = OO at hK ⊢
        generalize hB : bD bl = BB
        conv => whnf
        rw [← hB]
        refine LN bl _ _ mb fun p1 p2 rs2 ss2 h25 ep1 ep2 hr2 hs2 lr2 ls2 g32 g33 k25 => ?_
        have era5 := k25.get era List.not_mem_nil
        have erb5 := k25.get erb List.not_mem_nil
        have l25 := k25.len
        walk_at "go"
        rename_i q1 h26 e26 g34 g35 g36 k26 q2 h27 e27 g37 g38 g39 k27
        have eq1 := k27.get e26 List.not_mem_nil
        refine hK _ _ ⟨z1 ++ [bl], z2, _, _, _, q1, q2, rs ++ rs2, ss ++ ss2, by rw [ez]; simp, rfl, rfl, by rw [eq1, List.map_append], by rw [e27, List.map_append], fun x => ?_, fun x => ?_, ?_, ?_, by omega, by walk_at "keep"⟩
        · rw [List.mem_append, hrs, hr2]
          constructor
          · rintro (⟨c, mc, hc⟩ | hc)
            · exact ⟨c, List.mem_append.mpr (.inl mc), hc⟩
            · exact ⟨bl, by simp, hc⟩
          · rintro ⟨c, mc, hc⟩
            rcases List.mem_append.mp mc with mc | mc
            · exact .inl ⟨c, mc, hc⟩
            · rw [List.mem_singleton.mp mc] at hc
              exact .inr hc
        · rw [List.mem_append, hss, hs2]
          constructor
          · rintro (⟨c, mc, hc⟩ | hc)
            · exact ⟨c, List.mem_append.mpr (.inl mc), hc⟩
            · exact ⟨bl, by simp, hc⟩
          · rintro ⟨c, mc, hc⟩
            rcases List.mem_append.mp mc with mc | mc
            · exact .inl ⟨c, mc, hc⟩
            · rw [List.mem_singleton.mp mc] at hc
              exact .inr hc
        · rw [List.length_append, List.length_append, List.length_singleton, Nat.mul_add]; omega
        · rw [List.length_append, List.length_append, List.length_singleton, Nat.mul_add]; omega
    · rintro σ h24 ⟨z1, z2, x10, x11, x12, ra, rb, rs, ss, ez, er, rfl, era, erb, hrs, hss, lrs, lss, l24, k24⟩
      have : z2 = [] := List.map_eq_nil_iff.mp er.symm
      subst this
      rw [List.append_nil] at ez
      rw [← ez] at hrs hss
      have hir : ∀ x, inFlat (.str x) (rs.map D.str) = rdB t x := fun x => by
        rw [inFlat_strs, Bool.eq_iff_iff, decide_eq_true_iff, rdB_iff, hrs]
        rfl
      have hin2 : ∀ x, (inFlat (.str x) (rs.map D.str) || inFlat (.str x) (ss.map D.str)) = nmB t x := fun x => by
        rw [Bool.eq_iff_iff, Bool.or_eq_true, inFlat_strs, inFlat_strs, decide_eq_true_iff, decide_eq_true_iff, nmB_iff, hrs, hss]
        constructor
        · rintro (⟨b, mb, h⟩ | ⟨b, mb, h⟩)
          · exact ⟨b, mb, .inl h⟩
          · exact ⟨b, mb, .inr h⟩
        · rintro ⟨b, mb, h | h⟩
          · exact .inl ⟨b, mb, h⟩
          · exact .inr ⟨b, mb, h⟩
      have lra := lt_of era
      have lrb := lt_of erb
      have k024 : Keep [] h h24 := by walk_at "keep"
      have l024 := k024.len
      generalize t.funs.map fuD = FF at UC NC ⊢
      generalize t.ons.map oD = OO at UC NC ⊢
      walk_at "go"
      refine UC _ _ fun us h25 nu k25 => ?_
      have era5 := k25.get era List.not_mem_nil
      have erb5 := k25.get erb List.not_mem_nil
      have l25 := k25.len
      walk_at "go"
      rename_i w1 h26 e26 g32 g33 g34 k26
      refine flt_i cD (fun c => .str c.1) (fun c => !rdB t c.1) t.cells e26 (by omega) (fun c mc h27 K N k27 hK hN => ?_) fun h27 e27 k27 => ?_
      · have e6 : h27[ra]? = some (.lst (rs.map D.str)) := k27.get (k26.get era5 List.not_mem_nil) (by simp; omega)
        generalize t.cells.map cD = CC
        have eC : cD c = .tup [.str c.1, .int c.2] := rfl
        rw [eC]
        conv => whnf
        refine rdO_i e6 ?_
        conv => whnf
        refine chk_i (by show (true && _) = true; rw [all_fl]; rfl) ?_
        conv => whnf
        rw [hir]
        refine br_i (fun hc => ?_) (fun hc => ?_)
        · walk_at "go"
          exact hK hc _ Keep.refl
        · exact hN hc _ Keep.refl
      have l27 := k27.len
      have era7 : h27[ra]? = some (.lst (rs.map D.str)) := k27.get (k26.get era5 List.not_mem_nil) (by simp; omega)
      have erb7 : h27[rb]? = some (.lst (ss.map D.str)) := k27.get (k26.get erb5 List.not_mem_nil) (by simp; omega)
      have k027 : Keep [] h h27 := by
        have k026 : Keep [] h h26 := by walk_at "keep"
        walk_at "keep"
      have e27' : h27[w1]? = some (.lst (((t.cells.filter fun c => !rdB t c.1).map (·.1)).map D.str)) := by rw [e27, List.map_map]; rfl
      have ll2 := cellS (p := rdB t) lc
      walk_at "go"
      refine srtD_i (srtok_s _) (by rw [List.length_map]; exact lenOk_i (lenOk_le (by omega))) fun zs pm st => ?_
      obtain ⟨us2, pu, rfl⟩ := perm_dec (f := D.str) (g := unS) (fun _ => rfl) pm
      have lu : us2.length ≤ 9 := by rw [pu.length_eq]; omega
      have := nu.uniq ⟨pu, st⟩
      subst this
      walk_at "go"
      rename_i w2 h28 e28 g35 g36 g37 k28
      refine SS us _ _ lu fun h29 k29 => ?_
      have k2729 : Keep [] h27 h29 := by walk_at "keep"
      have era9 := k2729.get era7 List.not_mem_nil
      have erb9 := k2729.get erb7 List.not_mem_nil
      have k029 : Keep [] h h29 := by walk_at "keep"
      walk_at "go"
      refine NC _ _ fun vs h30 nv k30 => ?_
      have era10 := k30.get era9 List.not_mem_nil
      have erb10 := k30.get erb9 List.not_mem_nil
      have lra10 := lt_of era10
      have lrb10 := lt_of erb10
      walk_at "go"
      rename_i w3 h31 e31 g38 g39 g40 k31
      refine flt_i cD (fun c => .str c.1) (fun c => !nmB t c.1) t.cells e31 (by omega) (fun c mc h32 K N k32 hK hN => ?_) fun h32 e32 k32 => ?_
      · have e6 : h32[ra]? = some (.lst (rs.map D.str)) := k32.get (k31.get era10 List.not_mem_nil) (by simp; omega)
        have e7 : h32[rb]? = some (.lst (ss.map D.str)) := k32.get (k31.get erb10 List.not_mem_nil) (by simp; omega)
        generalize t.cells.map cD = CC
        have eC : cD c = .tup [.str c.1, .int c.2] := rfl
        rw [eC]
        have H2 := hin2 c.1
        conv => whnf
        refine rdO_i e6 ?_
        conv => whnf
        refine chk_i (by show (true && _) = true; rw [all_fl]; rfl) ?_
        conv => whnf
        refine br_i (fun hc => ?_) (fun hc => ?_)
        · have hc' : inFlat (.str c.1) (rs.map D.str) = false := by simpa using hc
          rw [hc', Bool.false_or] at H2
          conv => whnf
          refine rdO_i e7 ?_
          conv => whnf
          refine chk_i (by show (true && _) = true; rw [all_fl]; rfl) ?_
          conv => whnf
          rw [H2]
          refine br_i (fun hc2 => ?_) (fun hc2 => ?_)
          · walk_at "go"
            exact hK hc2 _ Keep.refl
          · exact hN hc2 _ Keep.refl
        · have hc' : inFlat (.str c.1) (rs.map D.str) = true := by simpa using hc
          rw [hc', Bool.true_or] at H2
          walk_at "go"
          exact hN (by rw [← H2]; rfl) _ Keep.refl
      have l030 := (k029.len)
      have k032 : Keep [] h h32 := by
        have k031 : Keep [] h h31 := by walk_at "keep"
        have l31 := k031.len
        have l30 := k30.len
        walk_at "keep"
      have e32' : h32[w3]? = some (.lst (((t.cells.filter fun c => !nmB t c.1).map (·.1)).map D.str)) := by rw [e32, List.map_map]; rfl
      have ll3 := cellS (p := nmB t) lc
      walk_at "go"
      refine srtD_i (srtok_s _) (by rw [List.length_map]; exact lenOk_i (lenOk_le (by omega))) fun zs2 pm2 st2 => ?_
      obtain ⟨vs2, pv, rfl⟩ := perm_dec (f := D.str) (g := unS) (fun _ => rfl) pm2
      have lv : vs2.length ≤ 9 := by rw [pv.length_eq]; omega
      have := nv.uniq ⟨pv, st2⟩
      subst this
      walk_at "go"
      exact SS vs _ _ lv fun h33 k33 => w h33 (by walk_at "keep")
end

end Lw

set_option Elab.async false
set_option linter.all false
set_option maxRecDepth 100000
set_option maxHeartbeats 1000000
namespace Lw
open PySem PySem.Spec PyProof.Rows L2 Mi
local macro_rules | `(tactic| walk_at "mem") => `(tactic| first | exact fun _ z => absurd z List.not_mem_nil | exact List.not_mem_nil | (intro i hi; simp only [List.mem_cons, List.not_mem_nil, or_false, false_or] at hi ⊢; omega) | (simp only [List.mem_cons, List.not_mem_nil, or_false, false_or, not_or]; omega))
local macro_rules | `(tactic| walk_at "get") => `(tactic| first | assumption | (apply Keep.get; assumption; walk_at "get"; walk_at "mem"))
local macro_rules | `(tactic| walk_at "keep") => `(tactic| first | assumption | exact Keep.refl | (apply Keep.step; assumption; walk_at "keep"; walk_at "mem"))
local macro_rules | `(tactic| walk_at "one") => `(tactic| (conv => whnf) <;> first
  | (apply br_t; rfl)
  | (apply br_f; rfl)
  | (apply rdO_i; walk_at "get")
  | (apply itm_i; first | rfl | assumption | exact getAt_end _ _)
  | (apply gtD_i; assumption)
  | (apply new_i; intro p h' e1 l1 l2 l3 k)
  | (apply put_i; walk_at "get"; intro h' e1 l1 k)
  | (apply iLst_i; first | rfl | exact intsOf_map _)
  | (apply chk_i; first | rfl | exact lenOk_le (by simp only [List.length_map, List.length_cons, List.length_append, List.length_take, List.length_nil, List.length_replicate, List.length_dropLast]; omega) | exact small_lt (by simp only [List.length_map, List.length_cons, List.length_append, List.length_take, List.length_nil, List.length_replicate, List.length_dropLast]; omega) | assumption | exact mulOk_r (by decide) | exact mulOk_l (by decide) | exact lenOk_le (by omega) | exact small_lt (by omega) | (simp; omega)))
local macro_rules | `(tactic| walk_at "go") => `(tactic| (repeat walk_at "one"); try (conv => whnf))
local macro_rules | `(tactic| walk_at "br") => `(tactic| (refine br_i (fun hc => ?_) (fun hc => ?_) <;> simp only [Bool.not_eq_true', Bool.not_eq_false', beq_iff_eq, beq_eq_false_iff_ne, ne_eq, decide_eq_true_eq, decide_eq_false_iff_not, bne_iff_ne, bne_eq_false_iff_eq] at hc) <;> first | (exfalso; omega) | walk_at "go")

/-! ### drawn trees are such trees -/
mutual
theorem esc_all {P F : Str → Prop} : ∀ (e a : Ep), e.sc P F → a ∈ e.all → a.sc P F
  | .num z, a, s, m => by rw [List.mem_singleton.mp m]; exact s
  | .nam x, a, s, m => by rw [List.mem_singleton.mp m]; exact s
  | .inn, a, s, m => by rw [List.mem_singleton.mp m]; exact s
  | .op o x y, a, s, m => by
    rcases List.mem_cons.mp (show a ∈ Ep.op o x y :: (x.all ++ y.all) from m) with rfl | m
    · exact s
    · rcases List.mem_append.mp m with m | m
      · exact esc_all x a s.1 m
      · exact esc_all y a s.2 m
  | .call x as, a, s, m => by
    rcases List.mem_cons.mp (show a ∈ Ep.call x as :: Ep.alls as from m) with rfl | m
    · exact s
    · exact escs_all as a s.2 m
theorem escs_all {P F : Str → Prop} : ∀ (as : List Ep) (a : Ep), Ep.scs P F as → a ∈ Ep.alls as → a.sc P F
  | [], a, s, m => absurd m List.not_mem_nil
  | x :: as, a, s, m => by
    rcases List.mem_append.mp (show a ∈ x.all ++ Ep.alls as from m) with m | m
    · exact esc_all x a s.1 m
    · exact escs_all as a s.2 m
end
mutual
theorem ssc_all {P F : Str → Prop} : ∀ (s : St), s.sc P F → (∀ q ∈ s.all, q.sc P F) ∧ ∀ e ∈ s.ep, e.sc P F
  | .var x e, s => ⟨fun q m => by rw [List.mem_singleton.mp m]; exact s, fun a m => esc_all e a s.2 m⟩
  | .set x e, s => ⟨fun q m => by rw [List.mem_singleton.mp m]; exact s, fun a m => esc_all e a s.2 m⟩
  | .call x as, s => ⟨fun q m => by rw [List.mem_singleton.mp m]; exact s, fun a m => escs_all as a s.2 m⟩
  | .hold b, s => by
    obtain ⟨h1, h2⟩ := sscs_all b s
    refine ⟨fun q m => ?_, h2⟩
    rcases List.mem_cons.mp (show q ∈ St.hold b :: St.alls b from m) with rfl | m
    · exact s
    · exact h1 q m
  | .whl e b, s => by
    obtain ⟨h1, h2⟩ := sscs_all b s.2
    refine ⟨fun q m => ?_, fun a m => ?_⟩
    · rcases List.mem_cons.mp (show q ∈ St.whl e b :: St.alls b from m) with rfl | m
      · exact s
      · exact h1 q m
    · exact (List.mem_append.mp (show a ∈ e.all ++ St.eps b from m)).elim (esc_all e a s.1) (h2 a)
  | .ifs e b c, s => by
    obtain ⟨h1, h2⟩ := sscs_all b s.2.1
    obtain ⟨h3, h4⟩ := sscs_all c s.2.2
    refine ⟨fun q m => ?_, fun a m => ?_⟩
    · rcases List.mem_cons.mp (show q ∈ St.ifs e b c :: (St.alls b ++ St.alls c) from m) with rfl | m
      · exact s
      · exact (List.mem_append.mp m).elim (h1 q) (h3 q)
    · exact (List.mem_append.mp (show a ∈ e.all ++ (St.eps b ++ St.eps c) from m)).elim (esc_all e a s.1) fun m => (List.mem_append.mp m).elim (h2 a) (h4 a)
  | .ret e, s => ⟨fun q m => by rw [List.mem_singleton.mp m]; exact s, fun a m => esc_all e a s m⟩
  | .out e, s => ⟨fun q m => by rw [List.mem_singleton.mp m]; exact s, fun a m => esc_all e a s m⟩
theorem sscs_all {P F : Str → Prop} : ∀ (b : List St), St.scs P F b → (∀ q ∈ St.alls b, q.sc P F) ∧ ∀ e ∈ St.eps b, e.sc P F
  | [], s => ⟨fun _ m => absurd m List.not_mem_nil, fun _ m => absurd m List.not_mem_nil⟩
  | t :: b, s => by
    obtain ⟨h1, h2⟩ := ssc_all t s.1
    obtain ⟨h3, h4⟩ := sscs_all b s.2
    exact ⟨fun q m => (List.mem_append.mp (show q ∈ t.all ++ St.alls b from m)).elim (h1 q) (h3 q), fun a m => (List.mem_append.mp (show a ∈ t.ep ++ St.eps b from m)).elim (h2 a) (h4 a)⟩
end
theorem scs_cnm {P F : Str → Prop} {b : List St} (s : St.scs P F b) {x : Str} (m : x ∈ cnm b) : F x := by
  obtain ⟨h1, h2⟩ := sscs_all b s
  rcases cnm_iff.mp m with ⟨as, m⟩ | ⟨as, m⟩
  · exact (h1 _ m).1
  · exact (h2 _ m).1
theorem nm_main {x : Str} {k : Nat} (h : Nm x k) : x ≠ w_main ∧ x ≠ w_on := by
  obtain ⟨a, c, r, e, h1, h2⟩ := h.second
  refine ⟨fun z => ?_, fun z => ?_⟩
  · rw [z] at e
    have e' : [109, 97, 105, 110] = a :: c :: r := e
    injection e' with _ e'
    injection e' with e' _
    omega
  · rw [z] at e
    have e' : [111, 110] = a :: c :: r := e
    injection e' with _ e'
    injection e' with e' _
    omega
theorem ta_of {t : Tr} {nr : Nat} (o : t.ok) (g : t.good) (nd : (t.ons.map (·.1)).Nodup) (tn : TN nr t) : TA t :=
  ⟨⟨by have := o.c; omega, by have := o.f; omega, o.o, fun f m => ⟨(o.fb f m).1.1, (o.fb f m).2⟩, o.ob, o.m⟩, g.fn, nd, fun f m => by
      obtain ⟨k, _, hk⟩ := tn.f f m f.1 (by simp)
      exact nm_main hk, fun f m x mx => scs_cnm (g.fg f m).2 mx, fun f m x mx => scs_cnm (g.og f m).2 mx, fun x mx => scs_cnm g.mg.2 mx⟩
/-! ### what the law puts in -/
def mkB : Option (Str × Nat) → List St
  | none => [.out (.num 1)]
  | some (x, k) => [.call x (List.replicate k .inn), .out (.num 1)]
theorem mkB_ok {c : Option (Str × Nat)} (h : ∀ z, c = some z → z.2 ≤ 3) : bOk (mkB c) := by
  cases c with
  | none => refine bOk_i ?_ ?_ ?_ <;> simp [mkB, St.fits, St.fit, Ep.fit, Ep.ht, St.bht, St.ht, St.ds, St.d, Ep.d, gr, grs]
  | some z =>
    obtain ⟨x, k⟩ := z
    have hk : k ≤ 3 := h _ rfl
    match k, hk with
    | 0, _ => refine bOk_i ?_ ?_ ?_ <;> simp [mkB, St.fits, St.fit, Ep.fit, Ep.fits, Ep.ht, Ep.hts, St.bht, St.ht, St.ds, St.d, Ep.d, Ep.ds, gr, grs, List.replicate]
    | 1, _ => refine bOk_i ?_ ?_ ?_ <;> simp [mkB, St.fits, St.fit, Ep.fit, Ep.fits, Ep.ht, Ep.hts, St.bht, St.ht, St.ds, St.d, Ep.d, Ep.ds, gr, grs, List.replicate]
    | 2, _ => refine bOk_i ?_ ?_ ?_ <;> simp [mkB, St.fits, St.fit, Ep.fit, Ep.fits, Ep.ht, Ep.hts, St.bht, St.ht, St.ds, St.d, Ep.d, Ep.ds, gr, grs, List.replicate]
    | 3, _ => refine bOk_i ?_ ?_ ?_ <;> simp [mkB, St.fits, St.fit, Ep.fit, Ep.fits, Ep.ht, Ep.hts, St.bht, St.ht, St.ds, St.d, Ep.d, Ep.ds, gr, grs, List.replicate]
    | _ + 4, h => omega
theorem inn_cl : ∀ k : Nat, ((List.replicate k Ep.inn).map Ep.cl).flatten = []
  | 0 => rfl
  | k + 1 => by rw [List.replicate_succ, List.map_cons, List.flatten_cons, inn_cl k]; rfl
theorem mkB_cnm {c : Option (Str × Nat)} {x : Str} (m : x ∈ cnm (mkB c)) : ∃ z, c = some z ∧ x = z.1 := by
  cases c with
  | none => exact absurd m List.not_mem_nil
  | some z =>
    obtain ⟨y, k⟩ := z
    have e : cnm (mkB (some (y, k))) = [y] := by
      show (((y :: ((List.replicate k Ep.inn).map Ep.cl).flatten).map fun x => ((x, 0) : Ck)) ++ (([] : List Ck) ++ ([] : List Ck))).map (fun z : Ck => z.1) = [y]
      rw [inn_cl]
      rfl
    rw [e] at m
    exact ⟨_, rfl, List.mem_singleton.mp m⟩
abbrev Fn := Str × List Str × List St
structure MI (t : Tr) (nr : Nat) (fs : List Fn) (he : List (Str × Nat)) : Prop where
  k : ∀ f ∈ fs, ∃ k, k ≤ nr ∧ Nm f.1 k
  nd : (fs.map (·.1)).Nodup
  fb : ∀ f ∈ fs, f.2.1.length ≤ 3 ∧ bOk f.2.2
  cf : ∀ f ∈ fs, ∀ x ∈ cnm f.2.2, x ∈ fs.map (·.1)
  sub : ∀ x ∈ t.funs.map (·.1), x ∈ fs.map (·.1)
  hd : ∀ z ∈ he, z.1 ∈ fs.map (·.1) ∧ z.2 ≤ 3
  hn : (he.map (·.1)).Nodup
  hl : he.length ≤ 5
theorem ins_perm {α : Type} (xs : List α) (i : Nat) (x : α) : (xs.take i ++ [x] ++ xs.drop i).Perm (x :: xs) := by
  rw [List.append_assoc]
  refine (show (xs.take i ++ x :: xs.drop i).Perm (x :: (xs.take i ++ xs.drop i)) from List.perm_middle).trans ?_
  rw [List.take_append_drop]
theorem MI.ins {t : Tr} {nr : Nat} {fs : List Fn} {hd : List (Str × Nat)} (M : MI t nr fs hd) {x : Str} (hx : Nm x (nr + 1)) {c : Option (Str × Nat)} (hc : ∀ z, c = some z → z ∈ hd) (i : Nat) : MI t (nr + 1) (fs.take i ++ [(x, [], mkB c)] ++ fs.drop i) [(x, 0)] := by
  have p := ins_perm fs i ((x, [], mkB c) : Fn)
  have pn := p.map (·.1)
  have mem : ∀ {f : Fn}, f ∈ fs.take i ++ [((x, [], mkB c) : Fn)] ++ fs.drop i → f = (x, [], mkB c) ∨ f ∈ fs := fun m => List.mem_cons.mp (p.mem_iff.mp m)
  have up : ∀ {y}, y ∈ fs.map (·.1) → y ∈ (fs.take i ++ [((x, [], mkB c) : Fn)] ++ fs.drop i).map (·.1) := fun m => pn.mem_iff.mpr (List.mem_cons_of_mem _ m)
  have hx2 : x ∈ (fs.take i ++ [((x, [], mkB c) : Fn)] ++ fs.drop i).map (·.1) := pn.mem_iff.mpr List.mem_cons_self
  refine ⟨fun f m => ?_, ?_, fun f m => ?_, fun f m y my => ?_, fun y my => up (M.sub y my), fun z mz => ?_, by simp, by simp⟩
  · rcases mem m with rfl | m
    · exact ⟨nr + 1, Nat.le_refl _, hx⟩
    · obtain ⟨k, k1, k2⟩ := M.k f m
      exact ⟨k, by omega, k2⟩
  · rw [pn.nodup_iff]
    refine List.nodup_cons.mpr ⟨fun m => ?_, M.nd⟩
    obtain ⟨f, mf, e⟩ := List.mem_map.mp m
    obtain ⟨k, k1, k2⟩ := M.k f mf
    rw [e] at k2
    have := k2.inj hx
    omega
  · rcases mem m with rfl | m
    · exact ⟨Nat.zero_le _, mkB_ok fun z e => (M.hd z (hc z e)).2⟩
    · exact M.fb f m
  · rcases mem m with rfl | m
    · obtain ⟨z, e, rfl⟩ := mkB_cnm my
      exact up (M.hd z (hc z e)).1
    · exact up (M.cf f m y my)
  · rw [List.mem_singleton.mp mz]
    exact ⟨hx2, Nat.zero_le _⟩
theorem MI.start {t : Tr} {nr : Nat} (T : TA t) (o : t.ok) (tn : TN nr t) : MI t nr t.funs (t.funs.map fun f => (f.1, f.2.1.length)) :=
  ⟨fun f m => tn.f f m f.1 (by simp), T.fn, T.o.fb, T.cf, fun x m => m, fun z mz => by
    obtain ⟨f, mf, rfl⟩ := List.mem_map.mp mz
    exact ⟨List.mem_map_of_mem mf, (T.o.fb f mf).1⟩, by rw [List.map_map]; exact T.fn, by rw [List.length_map]; exact o.f⟩
theorem MI.mono {t : Tr} {nr nr' : Nat} {fs : List Fn} {hd : List (Str × Nat)} (M : MI t nr fs hd) (h : nr ≤ nr') : MI t nr' fs hd := ⟨fun f m => let ⟨k, a, b⟩ := M.k f m; ⟨k, by omega, b⟩, M.nd, M.fb, M.cf, M.sub, M.hd, M.hn, M.hl⟩
/-- the trees that come of it -/
theorem MI.tree {t : Tr} (T : TA t) {nr : Nat} {fs : List Fn} {hd : List (Str × Nat)} (M : MI t nr fs hd) (hl : fs.length ≤ 9) {cs : List (Str × Int)} (hc : cs.length ≤ 5) {b : List St} (hb : bOk b) (hm : ∀ x ∈ cnm b, x ∈ cnm t.main) : TA ⟨cs, fs, t.ons, b⟩ :=
  ⟨⟨hc, hl, T.o.o, M.fb, T.o.ob, hb⟩, M.nd, T.on, fun f m => by
      obtain ⟨k, _, hk⟩ := M.k f m
      exact nm_main hk, M.cf, fun o m x mx => M.sub x (T.co o m x mx), fun x mx => M.sub x (T.cm x (hm x mx))⟩
def putS (a : Str) : St := .set a .inn
theorem put_0 {a : Str} {b : List St} (h : bOk b) (hg : grs (St.ds b) ≤ 300000) : bOk (putS a :: b) ∧ ∀ x ∈ cnm (putS a :: b), x ∈ cnm b := by
  refine ⟨⟨⟨⟨trivial, by simp [Ep.ht]⟩, h.1⟩, ?_, ?_⟩, fun x m => m⟩
  · show max 0 (St.bht b) ≤ 6
    have := h.2.1
    omega
  · simp only [putS, St.ds, St.d, Ep.d, gr, grs]
    omega
theorem pfits_app : ∀ {a b : List St}, St.fits a → St.fits b → St.fits (a ++ b)
  | [], b, _, h => h
  | s :: a, b, g, h => ⟨g.1, pfits_app g.2 h⟩
theorem pbht_app : ∀ {a b : List St}, St.bht (a ++ b) = max (St.bht a) (St.bht b)
  | [], b => by show St.bht b = max 0 (St.bht b); omega
  | s :: a, b => by show max s.ht (St.bht (a ++ b)) = max (max s.ht (St.bht a)) (St.bht b); rw [pbht_app]; omega
def putE (a : Str) : St := .hold [.ifs .inn [] [putS a]]
theorem put_1 {a : Str} {b : List St} (h : bOk b) (hg : grs (St.ds b) ≤ 300000) : bOk (b ++ [putE a]) ∧ ∀ x ∈ cnm (b ++ [putE a]), x ∈ cnm b := by
  refine ⟨⟨pfits_app h.1 ?_, ?_, ?_⟩, fun x m => ?_⟩
  · simp [putE, putS, St.fits, St.fit, Ep.fit, Ep.ht]
  · rw [pbht_app]
    have := h.2.1
    have e : St.bht [putE a] ≤ 6 := by simp [putE, putS, St.bht, St.ht]
    omega
  · rw [sds_app, grs_app]
    have e : grs (St.ds [putE a]) ≤ 100 := by simp [putE, putS, St.ds, St.d, Ep.d, gr, grs]
    omega
  · unfold cnm at m ⊢
    rw [ct_app, List.map_append] at m
    rcases List.mem_append.mp m with m | m
    · exact m
    · exact absurd m List.not_mem_nil
def putF (x a : Str) : Fn := (x, [w_p], [.whl (.nam w_p) [putS a]])
theorem MI.end_ {t : Tr} {nr : Nat} {fs : List Fn} {hd : List (Str × Nat)} (M : MI t nr fs hd) {x a : Str} (hx : Nm x (nr + 1)) : MI t (nr + 1) (fs ++ [putF x a]) [] := by
  have mem : ∀ {f : Fn}, f ∈ fs ++ [putF x a] → f ∈ fs ∨ f = putF x a := fun m => (List.mem_append.mp m).imp id List.mem_singleton.mp
  have up : ∀ {y}, y ∈ fs.map (·.1) → y ∈ (fs ++ [putF x a]).map (·.1) := fun m => by rw [List.map_append]; exact List.mem_append.mpr (.inl m)
  refine ⟨fun f m => ?_, ?_, fun f m => ?_, fun f m y my => ?_, fun y my => up (M.sub y my), fun z mz => absurd mz List.not_mem_nil, by simp, by simp⟩
  · rcases mem m with m | rfl
    · obtain ⟨k, k1, k2⟩ := M.k f m
      exact ⟨k, by omega, k2⟩
    · exact ⟨nr + 1, Nat.le_refl _, hx⟩
  · rw [List.map_append]
    refine List.nodup_append.mpr ⟨M.nd, by simp, fun y my z mz e => ?_⟩
    obtain ⟨f, mf, ef⟩ := List.mem_map.mp my
    obtain ⟨k, k1, k2⟩ := M.k f mf
    have ez : z = x := List.mem_singleton.mp mz
    rw [ef, e, ez] at k2
    have := k2.inj hx
    omega
  · rcases mem m with m | rfl
    · exact M.fb f m
    · refine ⟨by simp [putF], bOk_i ?_ ?_ ?_⟩
      · simp [putF, putS, St.fits, St.fit, Ep.fit, Ep.ht]
      · simp [putF, putS, St.bht, St.ht]
      · simp [putF, putS, St.ds, St.d, Ep.d, gr, grs]
  · rcases mem m with m | rfl
    · exact up (M.cf f m y my)
    · exact absurd my List.not_mem_nil

end Lw

set_option Elab.async false
set_option linter.all false
set_option maxRecDepth 100000
set_option maxHeartbeats 1000000
namespace Lw
open PySem PySem.Spec PyProof.Rows L2 Mi
local macro_rules | `(tactic| walk_at "mem") => `(tactic| first | exact fun _ z => absurd z List.not_mem_nil | exact List.not_mem_nil | (intro i hi; simp only [List.mem_cons, List.not_mem_nil, or_false, false_or] at hi ⊢; omega) | (simp only [List.mem_cons, List.not_mem_nil, or_false, false_or, not_or]; omega))
local macro_rules | `(tactic| walk_at "get") => `(tactic| first | assumption | (apply Keep.get; assumption; walk_at "get"; walk_at "mem"))
local macro_rules | `(tactic| walk_at "keep") => `(tactic| first | assumption | exact Keep.refl | (apply Keep.step; assumption; walk_at "keep"; walk_at "mem"))
local macro_rules | `(tactic| walk_at "one") => `(tactic| (conv => whnf) <;> first
  | (apply br_t; rfl)
  | (apply br_f; rfl)
  | (apply rdO_i; walk_at "get")
  | (apply itm_i; first | rfl | assumption | exact getAt_end _ _)
  | (apply gtD_i; assumption)
  | (apply new_i; intro p h' e1 l1 l2 l3 k)
  | (apply put_i; walk_at "get"; intro h' e1 l1 k)
  | (apply iLst_i; first | rfl | exact intsOf_map _)
  | (apply chk_i; first | rfl | exact lenOk_le (by simp only [List.length_map, List.length_cons, List.length_append, List.length_take, List.length_nil, List.length_replicate, List.length_dropLast]; omega) | exact small_lt (by simp only [List.length_map, List.length_cons, List.length_append, List.length_take, List.length_nil, List.length_replicate, List.length_dropLast]; omega) | assumption | exact mulOk_r (by decide) | exact mulOk_l (by decide) | exact lenOk_le (by omega) | exact small_lt (by omega) | (simp; omega)))
local macro_rules | `(tactic| walk_at "go") => `(tactic| (repeat walk_at "one"); try (conv => whnf))
local macro_rules | `(tactic| walk_at "br") => `(tactic| (refine br_i (fun hc => ?_) (fun hc => ?_) <;> simp only [Bool.not_eq_true', Bool.not_eq_false', beq_iff_eq, beq_eq_false_iff_ne, ne_eq, decide_eq_true_eq, decide_eq_false_iff_not, bne_iff_ne, bne_eq_false_iff_eq] at hc) <;> first | (exfalso; omega) | walk_at "go")

def hdD (z : Str × Nat) : D := .tup [.str z.1, .int z.2]
def calD : Option (Str × Nat) → List D
  | none => []
  | some (x, k) => [.tup [.str w_call, .str x, .tup (List.replicate k (.tup [.str w_in]))]]
theorem inn_ds : ∀ k : Nat, Ep.ds (List.replicate k Ep.inn) = List.replicate k (.tup [.str w_in])
  | 0 => rfl
  | k + 1 => by rw [List.replicate_succ, List.replicate_succ]; show _ :: Ep.ds _ = _; rw [inn_ds k]; rfl
theorem mkB_d (x : Str) (c : Option (Str × Nat)) : fuD (x, [], mkB c) = .tup [.str x, .tup [], .tup (calD c ++ [.tup [.str w_out, .tup [.str w_number, .int 1]]])] := by
  cases c with
  | none => rfl
  | some z =>
    obtain ⟨y, k⟩ := z
    show D.tup [.str x, .tup [], .tup [.tup [.str w_call, .str y, .tup (Ep.ds (List.replicate k .inn))], _]] = _
    rw [inn_ds]
    rfl
theorem cutL2 {xs : List D} {i : Nat} (h : i ≤ xs.length) : Mi.cutD xs none (some (i : Int)) = xs.take i := by
  unfold Mi.cutD
  rw [HT.sIx_nat, HT.sIx_none, List.drop_zero, Nat.min_eq_left h, Nat.sub_zero]
theorem cutR2 {xs : List D} {i : Nat} (h : i ≤ xs.length) : Mi.cutD xs (some (i : Int)) none = xs.drop i := by
  unfold Mi.cutD
  rw [HT.sIx_nat, HT.sIx_none, Nat.min_eq_left h]
  exact List.take_of_length_le (by rw [List.length_drop]; omega)
theorem nil_i {n : Nat} {X : Ex} {bb : MB} {R : Es} {σ : Sg} {h : Hh} (w : wB gls (rn n) X bb R σ h) : wB gls (rn n) X .nil (seqE (wB gls (rn n) X bb) R) σ h := w
section
variable {n p c : Nat} {nr : Nat} {t : Tr} {h : Hh} {Q : Kd} {X : Ex}
/-- a fun is put in -/
theorem in_ok {x : Str} {cc : Option (Str × Nat)} {fs : List Fn} {hd : List (Str × Nat)} {q r : Nat} {td : D} {s2 s3 s4 s5 x6 x8 x11 : Option D} {E : Es} (hn : 2 ≤ n) (hx : Nm x (nr + 1)) (M : MI t nr fs hd) (hcc : ∀ z, cc = some z → z ∈ hd) (pl : Pl h p c ((nr + 1 : Nat) : Int)) (hl : fs.length ≤ 8) (eq : h[q]? = some (.lst (fs.map fuD))) (nq : q ≠ p) (nc : q ≠ c)
    (w : ∀ (i : Nat) (r' : Nat) (h' : Hh), MI t (nr + 1) (fs.take i ++ [(x, [], mkB cc)] ++ fs.drop i) [(x, 0)] → Pl h' p c ((nr + 1 : Nat) : Int) → h'[q]? = some (.lst ((fs.take i ++ [((x, [], mkB cc) : Fn)] ++ fs.drop i).map fuD)) → h'[r']? = some (.lst ([(x, 0)].map hdD)) → r' ≠ p → r' ≠ c → r' ≠ q → h.length ≤ r' → h.length ≤ h'.length → Keep [p, q] h h' → E.nx [some (.ref p), some td, s2, s3, s4, s5, some (.ref r'), some (.ref q), x8, some (.str x), some (.tup (calD cc)), x11, none, none, none, none, none, none, none, none, none] h') :
    wB gls (rn n) X c_law_more_12 E [some (.ref p), some td, s2, s3, s4, s5, x6, some (.ref q), x8, some (.str x), some (.tup (calD cc)), x11, none, none, none, none, none, none, none, none, none] h := by
  have s1 := pl.lt
  have lq := lt_of eq
  have lc : (calD cc).length ≤ 1 := by cases cc <;> simp [calD]
  have ll : (fs.map fuD).length = fs.length := List.length_map ..
  have MD := mkB_d x cc
  generalize calD cc = CD at MD lc w ⊢
  conv => whnf
  refine rdO_i eq ?_
  conv => whnf
  refine rdO_i eq ?_
  conv => whnf
  refine take_ok (m := (((fs.map fuD).length : Nat) : Int) + 1) pl (by omega) (by omega) (by omega) fun v h1 v0 v1 pl1 l1 k1 => ?_
  have e1 := k1.get eq (by simp; omega)
  obtain ⟨i, rfl⟩ : ∃ i : Nat, v = i := ⟨v.toNat, by omega⟩
  have s11 := pl1.lt
  have lq1 := lt_of e1
  walk_at "go"
  refine chk_i (by rw [Bool.and_eq_true, Bool.and_eq_true]; exact ⟨small_lt (by omega), decide_eq_true (by omega), decide_eq_true (by omega)⟩) ?_
  refine put_i e1 fun h2 e2 l2 k2 => ?_
  walk_at "go"
  rename_i r' h3 e3 g1 g2 g3 k3
  have pl3 := (pl1.mono k2 (by simp; omega) (by simp; omega)).mono k3 List.not_mem_nil List.not_mem_nil
  have e23 := k3.get e2 List.not_mem_nil
  refine w i r' h3 (M.ins hx hcc i) pl3 ?_ e3 (by omega) (by omega) (by omega) (by omega) (by omega) (by walk_at "keep")
  rw [e23, List.map_append, List.map_append, List.map_take, List.map_drop, List.map_cons, List.map_nil, MD]
  rfl

theorem me_ok {fs : List Fn} {hd : List (Str × Nat)} {q : Nat} {td : D} {x6 x8 x9 x10 x11 : Option D} (hn : 4 ≤ n) (T : TA t) (o : t.ok) (hg : grs (St.ds t.main) ≤ 300000) (M : MI t nr fs hd) (pl : Pl h p c (nr : Int)) (hr : nr < 90000000) (hl : fs.length ≤ 8) (eq : h[q]? = some (.lst (fs.map fuD))) (nq : q ≠ p) (nc : q ≠ c)
    (w : ∀ (t2 : Tr) (nr' : Nat) (h' : Hh), TA t2 → Pl h' p c nr' → nr ≤ nr' → nr' ≤ nr + 3 → Keep [p] h h' → Q t2.d h') :
    wB gls (rn n) X c_law_more_10 (R0 Q) [some (.ref p), some td, some (.tup (t.cells.map cD)), some (.tup (t.funs.map fuD)), some (.tup (t.ons.map oD)), some (bD t.main), x6, some (.ref q), x8, x9, x10, x11, none, none, none, none, none, none, none, none, none] h := by
  have lc := o.c
  have lo := o.o
  have s1 := pl.lt
  have lq := lt_of eq
  have ll : (fs.map fuD).length = fs.length := List.length_map ..
  have lcc : (t.cells.map cD).length = t.cells.length := List.length_map ..
  have lm := len_grs (St.ds t.main)
  have eM : bD t.main = .tup (St.ds t.main) := rfl
  rw [eM]
  generalize t.funs.map fuD = FF
  conv => whnf
  refine name_ok pl (by omega) (by omega) fun a h1 na pl1 l1 k1 => ?_
  conv => whnf
  refine name_ok pl1 (by omega) (by omega) fun b h2 nb pl2 l2 k2 => ?_
  walk_at "go"
  refine take_ok (m := (((t.cells.map cD).length : Nat) : Int) + 1) pl2 (by omega) (by omega) (by omega) fun v h3 v0 v1 pl3 l3 k3 => ?_
  obtain ⟨i, rfl⟩ : ∃ i : Nat, v = i := ⟨v.toNat, by omega⟩
  have eC : (t.cells.map cD).take i ++ [D.tup [.str a, .int 1]] ++ (t.cells.map cD).drop i ++ [D.tup [.str b, .int 0]] = (t.cells.take i ++ [(a, 1)] ++ t.cells.drop i ++ [(b, 0)]).map cD := by
    rw [List.map_append, List.map_append, List.map_append, List.map_take, List.map_drop]
    rfl
  have lC : (t.cells.take i ++ [(a, (1 : Int))] ++ t.cells.drop i ++ [(b, 0)]).length ≤ 5 := by
    simp only [List.length_append, List.length_take, List.length_drop, List.length_singleton]
    omega
  have e3 := (k1.get eq (by simp; omega))
  have e3 := k3.get (k2.get e3 (by simp; omega)) (by simp; omega)
  have c1 : Mi.cutD (t.cells.map cD) none (some (i : Int)) = (t.cells.map cD).take i := cutL2 (by omega)
  have c2 : Mi.cutD (t.cells.map cD) (some (i : Int)) none = (t.cells.map cD).drop i := cutR2 (by omega)
  have lt1 : ((t.cells.map cD).take i).length ≤ 3 := by rw [List.length_take]; omega
  have lt2 : ((t.cells.map cD).drop i).length ≤ 3 := by rw [List.length_drop]; omega
  generalize t.cells.map cD = CC at c1 c2 eC lt1 lt2 ⊢
  walk_at "go"
  rw [c1]
  walk_at "go"
  rw [c2]
  walk_at "go"
  refine take_ok (m := 3) pl3 (by decide) (by decide) (by omega) fun u h4 u0 u1 pl4 l4 k4 => ?_
  have e4 := k4.get e3 (by simp; omega)
  have M2 := M.mono (show nr ≤ nr + 1 + 1 by omega)
  have k04 : Keep [p] h h4 := by walk_at "keep"
  rw [eC]
  walk_at "go"
  refine br_i (fun hc => ?_) (fun hc => ?_)
  · obtain ⟨q1, q2⟩ := put_0 (a := b) T.o.m hg
    have TT := M2.tree T (by omega) lC q1 q2
    have W := w _ (nr + 1 + 1) h4 TT pl4 (by omega) (by omega) k04
    unfold Tr.d at W
    walk_at "go"
    exact W
  · walk_at "go"
    refine br_i (fun hc2 => ?_) (fun hc2 => ?_)
    · obtain ⟨q1, q2⟩ := put_1 (a := b) T.o.m hg
      have TT := M2.tree T (by omega) lC q1 q2
      have W := w _ (nr + 1 + 1) h4 TT pl4 (by omega) (by omega) k04
      unfold Tr.d bD at W
      rw [sds_app] at W
      walk_at "go"
      exact W
    · walk_at "go"
      refine name_ok pl4 (by omega) (by omega) fun z h5 nz pl5 l5 k5 => ?_
      have ME := M2.end_ (a := b) nz
      have TT := ME.tree T (by rw [List.length_append, List.length_singleton]; omega) lC T.o.m (fun x m => m)
      have W := w _ (nr + 1 + 1 + 1) h5 TT pl5 (by omega) (by omega) (by walk_at "keep")
      have eF : (fs ++ [putF z b]).map fuD = fs.map fuD ++ [fuD (putF z b)] := by rw [List.map_append]; rfl
      dsimp only [Tr.d, bD] at W
      rw [eF] at W
      walk_at "go"
      exact W
end

end Lw

set_option Elab.async false
set_option linter.all false
set_option maxRecDepth 100000
set_option maxHeartbeats 1000000
namespace Lw
open PySem PySem.Spec PyProof.Rows L2 Mi
local macro_rules | `(tactic| walk_at "mem") => `(tactic| first | exact fun _ z => absurd z List.not_mem_nil | exact List.not_mem_nil | (intro i hi; simp only [List.mem_cons, List.not_mem_nil, or_false, false_or] at hi ⊢; omega) | (simp only [List.mem_cons, List.not_mem_nil, or_false, false_or, not_or]; omega))
local macro_rules | `(tactic| walk_at "get") => `(tactic| first | assumption | (apply Keep.get; assumption; walk_at "get"; walk_at "mem"))
local macro_rules | `(tactic| walk_at "keep") => `(tactic| first | assumption | exact Keep.refl | (apply Keep.step; assumption; walk_at "keep"; walk_at "mem"))
local macro_rules | `(tactic| walk_at "one") => `(tactic| (conv => whnf) <;> first
  | (apply br_t; rfl)
  | (apply br_f; rfl)
  | (apply rdO_i; walk_at "get")
  | (apply itm_i; first | rfl | assumption | exact getAt_end _ _)
  | (apply gtD_i; assumption)
  | (apply new_i; intro p h' e1 l1 l2 l3 k)
  | (apply put_i; walk_at "get"; intro h' e1 l1 k)
  | (apply iLst_i; first | rfl | exact intsOf_map _)
  | (apply chk_i; first | rfl | exact lenOk_le (by simp only [List.length_map, List.length_cons, List.length_append, List.length_take, List.length_nil, List.length_replicate, List.length_dropLast]; omega) | exact small_lt (by simp only [List.length_map, List.length_cons, List.length_append, List.length_take, List.length_nil, List.length_replicate, List.length_dropLast]; omega) | assumption | exact mulOk_r (by decide) | exact mulOk_l (by decide) | exact lenOk_le (by omega) | exact small_lt (by omega) | (simp; omega)))
local macro_rules | `(tactic| walk_at "go") => `(tactic| (repeat walk_at "one"); try (conv => whnf))
local macro_rules | `(tactic| walk_at "br") => `(tactic| (refine br_i (fun hc => ?_) (fun hc => ?_) <;> simp only [Bool.not_eq_true', Bool.not_eq_false', beq_iff_eq, beq_eq_false_iff_ne, ne_eq, decide_eq_true_eq, decide_eq_false_iff_not, bne_iff_ne, bne_eq_false_iff_eq] at hc) <;> first | (exfalso; omega) | walk_at "go")

section
variable {n p c : Nat} {nr : Nat} {t : Tr} {h : Hh} {Q : Kd} {X : Ex}
theorem mo_ok (hn : 5 ≤ n) (T : TA t) (o : t.ok) (tn : TN nr t) (hg : grs (St.ds t.main) ≤ 300000) (pl : Pl h p c (nr : Int)) (hr : nr < 80000000)
    (w : ∀ (t2 : Tr) (nr' : Nat) (h' : Hh), TA t2 → Pl h' p c nr' → nr ≤ nr' → nr' ≤ nr + 10 → Keep [p] h h' → Q t2.d h') : rn n i_law_more [.ref p, t.d] h Q X := by
  cases n with
  | zero => omega
  | succ n =>
    have s1 := pl.lt
    have lf := o.f
    refine u_law_more ?_
    have ME : ∀ (fs : List Fn) (hd : List (Str × Nat)) (nr1 q : Nat) (td : D) (x6 x8 x9 x10 x11 : Option D) (h1 : Hh), nr ≤ nr1 → nr1 ≤ nr + 3 → MI t nr1 fs hd → Pl h1 p c (nr1 : Int) → fs.length ≤ 8 → h1[q]? = some (.lst (fs.map fuD)) → q ≠ p → q ≠ c → Keep [p] h h1 → wB gls (rn n) X c_law_more_10 (R0 Q) [some (.ref p), some td, some (.tup (t.cells.map cD)), some (.tup (t.funs.map fuD)), some (.tup (t.ons.map oD)), some (bD t.main), x6, some (.ref q), x8, x9, x10, x11, none, none, none, none, none, none, none, none, none] h1 :=
      fun fs hd nr1 q td x6 x8 x9 x10 x11 h1 l1 l2 M pl1 hl eq nq nc k1 => me_ok (by omega) T o hg M pl1 (by omega) hl eq nq nc fun t2 nr' h' T2 pl' l3 l4 k' => w t2 nr' h' T2 pl' (by omega) (by omega) (Keep.trans k1 k')
    have M0 := MI.start T o tn
    have eT : t.d = D.tup [.tup (t.cells.map cD), .tup (t.funs.map fuD), .tup (t.ons.map oD), bD t.main] := rfl
    rw [eT]
    generalize t.cells.map cD = CC at ME ⊢
    generalize t.ons.map oD = OO at ME ⊢
    generalize bD t.main = MM at ME ⊢
    walk_at "go"
    rename_i r h1 e1 g1 g2 g3 k1
    refine map_i fuD (fun f => hdD (f.1, f.2.1.length)) t.funs e1 (by omega) (fun f mf h2 K N k2 hK => ?_) fun h2 e2 k2 => ?_
    · have eF : fuD f = .tup [.str f.1, .tup (f.2.1.map .str), bD f.2.2] := rfl
      have l3 := (T.o.fb f mf).1
      have ll : (f.2.1.map D.str).length = f.2.1.length := List.length_map ..
      generalize t.funs.map fuD = FF
      rw [eF]
      generalize bD f.2.2 = BB
      have eH : hdD (f.1, f.2.1.length) = .tup [.str f.1, .int ((f.2.1.map D.str).length : Nat)] := by rw [ll]; rfl
      rw [eH] at hK
      generalize f.2.1.map D.str = PP at hK ⊢
      walk_at "go"
      exact hK _ Keep.refl
    have l2 := k2.len
    have e2' : h2[r]? = some (.lst ((t.funs.map fun f => (f.1, f.2.1.length)).map hdD)) := by rw [e2, List.map_map]; rfl
    have k02 : Keep [] h h2 := by walk_at "keep"
    generalize hFF : t.funs.map fuD = FF at ME ⊢
    walk_at "go"
    rename_i q h3 e3 g4 g5 g6 k3
    rw [← hFF] at e3
    have er3 := k3.get e2' List.not_mem_nil
    have lr3 := lt_of e2'
    have pl3 := (pl.mono k02 List.not_mem_nil List.not_mem_nil).mono k3 List.not_mem_nil List.not_mem_nil
    refine take_ok (m := 4) pl3 (by decide) (by decide) (by omega) fun v h4 v0 v1 pl4 l4 k4 => ?_
    have eq4 := k4.get e3 (by simp; omega)
    have er4 := k4.get er3 (by simp; omega)
    have k04 : Keep [p] h h4 := by walk_at "keep"
    have s4 := pl4.lt
    have lq4 := lt_of eq4
    conv => whnf
    refine chk_i (decide_eq_true (by omega)) ?_
    conv => whnf
    refine loop_i (I := fun rr σ h' => ∃ (nr' : Nat) (fs : List Fn) (hd : List (Str × Nat)) (r' : Nat) (x8 x9 x10 x11 : Option D), σ = [some (.ref p), some (.tup [.tup CC, .tup FF, .tup OO, MM]), some (.tup CC), some (.tup FF), some (.tup OO), some MM, some (.ref r'), some (.ref q), x8, x9, x10, x11, none, none, none, none, none, none, none, none, none] ∧ rr.length ≤ 3 ∧ MI t nr' fs hd ∧ nr ≤ nr' ∧ nr' + rr.length ≤ nr + 3 ∧ fs.length + rr.length ≤ 8 ∧ Pl h' p c (nr' : Int) ∧ h'[q]? = some (.lst (fs.map fuD)) ∧ h'[r']? = some (.lst (hd.map hdD)) ∧ r' ≠ p ∧ r' ≠ c ∧ r' ≠ q ∧ h4.length ≤ h'.length ∧ Keep [p] h h') ?_ ?_ _ _ _ ⟨nr, t.funs, _, r, _, _, _, _, rfl, by rw [range_len]; omega, M0, Nat.le_refl _, by rw [range_len]; omega, by rw [range_len]; omega, pl4, eq4, er4, by omega, by omega, by omega, Nat.le_refl _, k04⟩
    · rintro d rr σ h5 K ⟨nr5, fs, hd, r5, x8, x9, x10, x11, rfl, lr, M, a1, a2, a3, pl5, eq5, er5, nr1, nr2, nr3, l5, k5⟩ hK
      simp only [List.length_cons] at lr a2 a3
      have lq5 := lt_of eq5
      have lr5 := lt_of er5
      have s5 := pl5.lt
      walk_at "go"
      refine name_ok pl5 (by omega) (by omega) fun x h6 nx pl6 l6 k6 => ?_
      have eq6 := k6.get eq5 (by simp; omega)
      have er6 := k6.get er5 (by simp; omega)
      have k06 : Keep [p] h h6 := by walk_at "keep"
      -- the rest, once it is known what is called
      have REST : ∀ (cc : Option (Str × Nat)) (x11' : Option D) (h7 : Hh), (∀ z, cc = some z → z ∈ hd) → Pl h7 p c ((nr5 + 1 : Nat) : Int) → h7[q]? = some (.lst (fs.map fuD)) → h6.length ≤ h7.length → Keep [p] h h7 → wB gls (rn n) X c_law_more_12 (lpE K (seqE (wB gls (rn n) X c_law_more_10) (R0 Q))) [some (.ref p), some (.tup [.tup CC, .tup FF, .tup OO, MM]), some (.tup CC), some (.tup FF), some (.tup OO), some MM, some (.ref r5), some (.ref q), some d, some (.str x), some (.tup (calD cc)), x11', none, none, none, none, none, none, none, none, none] h7 := by
        intro cc x11' h7 hcc pl7 eq7 l7 k7
        refine in_ok (r := 0) (by omega) nx M hcc pl7 (by omega) eq7 (by omega) (by omega) fun i r8 h8 M8 pl8 eq8 er8 n1 n2 n3 g8 l8 k8 => ?_
        exact hK _ _ ⟨nr5 + 1, _, _, r8, _, _, _, _, rfl, by omega, M8, by omega, by omega, by rw [(ins_perm fs i _).length_eq, List.length_cons]; omega, pl8, eq8, er8, n1, n2, n3, by omega, by
          refine ⟨by have := k7.len; have := k8.len; omega, fun j ob ej nj => ?_⟩
          refine k8.at_ j ob (k7.at_ j ob ej nj) ?_
          have := lt_of ej
          have := k04.len
          simp only [List.mem_cons, List.not_mem_nil, or_false] at nj ⊢
          omega⟩
      have lhd : (hd.map hdD).length = hd.length := List.length_map ..
      have hl5 := M.hl
      walk_at "go"
      refine br_i (fun hc => ?_) (fun hc => ?_)
      · have hpos : 0 < hd.length := by have := of_decide_eq_true hc; omega
        walk_at "go"
        refine take_ok (m := 2) pl6 (by decide) (by decide) (by omega) fun v2 h7 v20 v21 pl7 l7 k7 => ?_
        have eq7 := k7.get eq6 (by simp; omega)
        have er7 := k7.get er6 (by simp; omega)
        have k07 : Keep [p] h h7 := by walk_at "keep"
        walk_at "go"
        refine br_i (fun hc2 => ?_) (fun hc2 => ?_)
        · walk_at "go"
          refine take_ok (m := ((hd.map hdD).length : Nat)) pl7 (by omega) (by omega) (by omega) fun v3 h8 v30 v31 pl8 l8 k8 => ?_
          have eq8 := k8.get eq7 (by simp; omega)
          have er8 := k8.get er7 (by simp; omega)
          have k08 : Keep [p] h h8 := by walk_at "keep"
          obtain ⟨z, mz, gz'⟩ := getAt_ok (f := hdD) (xs := hd) v30 (by omega)
          have gz : getAt (hd.map hdD) v3 = some (.tup [.str z.1, .int z.2]) := gz'
          have hz := (M.hd z mz).2
          walk_at "go"
          rename_i u h9 e9 g9 g10 g11 k9
          refine fltL_i hdD (fun y => .int y.2) (fun y => strEq y.1 z.1) hd (k9.get er8 List.not_mem_nil) e9 (by have := lt_of er8; omega) (by omega) (fun y my h10 K2 N k10 hK2 hN => ?_) fun h10 e10 k10 => ?_
          · have eH : hdD y = .tup [.str y.1, .int y.2] := rfl
            rw [eH]
            walk_at "go"
            refine br_i (fun hc3 => ?_) (fun hc3 => ?_)
            · walk_at "go"
              exact hK2 hc3 _ Keep.refl
            · exact hN hc3 _ Keep.refl
          have hh : ∃ rs, hd.filter (fun y => strEq y.1 z.1) = z :: rs := by
            have mz2 : z ∈ hd.filter (fun y => strEq y.1 z.1) := List.mem_filter.mpr ⟨mz, strEq_self _⟩
            cases e : hd.filter (fun y => strEq y.1 z.1) with
            | nil => rw [e] at mz2; exact absurd mz2 List.not_mem_nil
            | cons a rs =>
              have ma : a ∈ hd.filter (fun y => strEq y.1 z.1) := by rw [e]; exact List.mem_cons_self
              obtain ⟨m1, m2⟩ := List.mem_filter.mp ma
              have := fst_inj M.hn m1 mz (strEq_iff.mp m2)
              subst this
              exact ⟨rs, rfl⟩
          obtain ⟨rs, ers⟩ := hh
          rw [ers] at e10
          have lu := lt_of e9
          have l10 := k10.len
          have pl9 := pl8.mono k9 List.not_mem_nil List.not_mem_nil
          have s8 := pl8.lt
          have pl10 := pl9.mono k10 (by simp; omega) (by simp; omega)
          have eq10 := k10.get (k9.get eq8 List.not_mem_nil) (by have := lt_of eq8; simp; omega)
          have k010 : Keep [p] h h10 := by
            have k09 : Keep [p] h h9 := by walk_at "keep"
            have := k04.len
            walk_at "keep"
          conv => whnf
          refine rdO_i e10 ?_
          conv => whnf
          refine itm_i (d := .int z.2) ?_ ?_
          · unfold getAt ixAt
            rw [if_pos (by decide), if_pos (by simp only [List.map_cons, List.length_cons]; omega)]
            rfl
          conv => whnf
          refine itm_i rfl ?_
          conv => whnf
          refine itm_i rfl ?_
          conv => whnf
          refine chk_i (decide_eq_true (by omega)) ?_
          refine new_i fun y2 h11 e11 g12 g13 g14 k11 => ?_
          refine comp_i (I := fun rr acc h' => acc = List.replicate acc.length (.tup [.str w_in]) ∧ acc.length + rr.length = z.2 ∧ Keep [y2] h11 h') ?_ ?_ _ _ _ e11 ⟨rfl, by rw [range_len]; simp, Keep.refl⟩
          · rintro a rr acc h12 K3 e12 ⟨ea, la, k12⟩ hK3
            simp only [List.length_cons] at la
            walk_at "go"
            rename_i h13 e13 l13 k13
            refine hK3 _ _ e13 ⟨?_, by rw [List.length_append, List.length_singleton]; omega, by walk_at "keep"⟩
            rw [List.length_append, List.length_singleton, List.replicate_succ', ← ea]
          · rintro acc h12 e12 ⟨ea, la, k12⟩
            have la' : acc.length = z.2 := by simpa using la
            rw [la'] at ea
            subst ea
            have l12 := k12.len
            have pl11 := pl10.mono k11 List.not_mem_nil List.not_mem_nil
            have pl12 := pl11.mono k12 (by simp; omega) (by simp; omega)
            have eq12 := k12.get (k11.get eq10 List.not_mem_nil) (by have := lt_of eq10; simp; omega)
            have k012 : Keep [p] h h12 := by
              have k011 : Keep [p] h h11 := by walk_at "keep"
              have := k04.len
              walk_at "keep"
            have W := REST (some z) (some (.int z.2)) h12 (fun z' e => by cases e; exact mz) pl12 eq12 (by omega) k012
            obtain ⟨z1, z2⟩ := z
            have eCal : calD (some (z1, z2)) = [.tup [.str w_call, .str z1, .tup (List.replicate z2 (.tup [.str w_in]))]] := rfl
            rw [eCal] at W
            generalize List.replicate z2 (D.tup [.str w_in]) = RR at e12 W
            conv => whnf
            refine rdO_i e12 ?_
            conv => whnf
            refine chk_i rfl ?_
            conv => whnf
            refine chk_i rfl ?_
            exact W
        · have W := REST none x11 h7 (fun z e => by cases e) pl7 eq7 (by omega) k07
          conv => whnf
          refine chk_i rfl ?_
          conv => whnf
          refine br_f rfl ?_
          exact nil_i W
      · have W := REST none x11 h6 (fun z e => by cases e) pl6 eq6 (Nat.le_refl _) k06
        conv => whnf
        refine br_f rfl ?_
        conv => whnf
        refine chk_i rfl ?_
        conv => whnf
        refine br_f rfl ?_
        exact nil_i W
    · rintro σ h5 ⟨nr5, fs, hd, r5, x8, x9, x10, x11, rfl, lr, M, a1, a2, a3, pl5, eq5, er5, nr1, nr2, nr3, l5, k5⟩
      simp only [List.length_nil, Nat.add_zero] at a2 a3
      exact ME fs hd nr5 q _ _ _ _ _ _ h5 a1 a2 M pl5 a3 eq5 (by omega) (by omega) k5
end

end Lw

set_option Elab.async false
set_option linter.all false
set_option maxRecDepth 100000
set_option maxHeartbeats 1000000
namespace Lw
open PySem PySem.Spec PyProof.Rows L2 Mi
local macro_rules | `(tactic| walk_at "mem") => `(tactic| first | exact fun _ z => absurd z List.not_mem_nil | exact List.not_mem_nil | (intro i hi; simp only [List.mem_cons, List.not_mem_nil, or_false, false_or] at hi ⊢; omega) | (simp only [List.mem_cons, List.not_mem_nil, or_false, false_or, not_or]; omega))
local macro_rules | `(tactic| walk_at "get") => `(tactic| first | assumption | (apply Keep.get; assumption; walk_at "get"; walk_at "mem"))
local macro_rules | `(tactic| walk_at "keep") => `(tactic| first | assumption | exact Keep.refl | (apply Keep.step; assumption; walk_at "keep"; walk_at "mem"))
local macro_rules | `(tactic| walk_at "one") => `(tactic| (conv => whnf) <;> first
  | (apply br_t; rfl)
  | (apply br_f; rfl)
  | (apply rdO_i; walk_at "get")
  | (apply itm_i; first | rfl | assumption | exact getAt_end _ _)
  | (apply gtD_i; assumption)
  | (apply new_i; intro p h' e1 l1 l2 l3 k)
  | (apply put_i; walk_at "get"; intro h' e1 l1 k)
  | (apply iLst_i; first | rfl | exact intsOf_map _)
  | (apply chk_i; first | rfl | exact lenOk_le (by simp only [List.length_map, List.length_cons, List.length_append, List.length_take, List.length_nil, List.length_replicate, List.length_dropLast]; omega) | exact small_lt (by simp only [List.length_map, List.length_cons, List.length_append, List.length_take, List.length_nil, List.length_replicate, List.length_dropLast]; omega) | assumption | exact mulOk_r (by decide) | exact mulOk_l (by decide) | exact lenOk_le (by omega) | exact small_lt (by omega) | (simp; omega)))
local macro_rules | `(tactic| walk_at "go") => `(tactic| (repeat walk_at "one"); try (conv => whnf))
local macro_rules | `(tactic| walk_at "br") => `(tactic| (refine br_i (fun hc => ?_) (fun hc => ?_) <;> simp only [Bool.not_eq_true', Bool.not_eq_false', beq_iff_eq, beq_eq_false_iff_ne, ne_eq, decide_eq_true_eq, decide_eq_false_iff_not, bne_iff_ne, bne_eq_false_iff_eq] at hc) <;> first | (exfalso; omega) | walk_at "go")
theorem pool_ok {n m : Nat} {ns : List Int} {h : Hh} {Q : Kd} {X : Ex} (hn : 1 ≤ n) (e : h[m]? = some (.frz (ns.map D.int))) (hl : ns.length < 1000) (w : ∀ p c h', Pl h' p c 0 → Q (.ref p) h') : rn n i_law_pool [.ref m] h Q X := by
  cases n with
  | zero => omega
  | succ n =>
    refine u_law_pool ?_
    walk_at "go"
    rename_i c h1 e1 g1 g2 g3 k1
    refine map_i D.int (fun n : Int => D.int (if n < 0 then -n else n)) ns e1 (by omega) (fun x hx h2 K N k2 hK => ?_) fun h2 e2 k2 => ?_
    · walk_at "go"
      exact hK _ Keep.refl
    · have := k2.len
      walk_at "go"
      rename_i p h3 e3 g4 g5 g6 k3
      refine w p c h3 ⟨by omega, 0, 0, 70877, ns.map (fun n => if n < 0 then -n else n), by omega, by rw [List.length_map]; exact hl, e3, ?_⟩
      rw [k3.get e2 List.not_mem_nil, List.map_map]
      rfl


def fF : Fn := (w_f, [], [.ret (.num 1)])
def fG : Fn := (w_g, [], [.ret (.call w_f [])])
def fH : Fn := (w_h, [], [.call w_g [], .call w_k [.nam w_c]])
def fK : Fn := (w_k, [w_a], [.set w_d (.nam w_a)])
def hO : Int × List St := (2, [.call w_k [.inn]])
def hM : List St := [.out (.call w_f [])]
def hS : Tr := ⟨[(w_e, 0), (w_d, 0), (w_c, 0)], [fF, fG, fH, fK], [hO], hM⟩
theorem cF : cnm fF.2.2 = [] := rfl
theorem cG : cnm fG.2.2 = [w_f] := rfl
theorem cH : cnm fH.2.2 = [w_g, w_k] := rfl
theorem cK : cnm fK.2.2 = [] := rfl
theorem cO : cnm hO.2 = [w_k] := rfl
theorem cM : cnm hM = [w_f] := rfl
theorem hS_in {f : Fn} (m : f ∈ hS.funs) : f = fF ∨ f = fG ∨ f = fH ∨ f = fK := by
  simpa [hS] using m
theorem hS_ta : TA hS := by
  have nmS : hS.funs.map (·.1) = [w_f, w_g, w_h, w_k] := rfl
  refine ⟨⟨by decide, by decide, by decide, fun f m => ?_, fun o m => ?_, ?_⟩, by rw [nmS]; decide, by decide, fun f m => ?_, fun f m x mx => ?_, fun o m x mx => ?_, fun x mx => ?_⟩
  · rcases hS_in m with rfl | rfl | rfl | rfl
    · refine ⟨by decide, bOk_i ?_ ?_ ?_⟩ <;> simp [fF, St.fits, St.fit, Ep.fit, Ep.fits, Ep.ht, Ep.hts, St.bht, St.ht, St.ds, St.d, Ep.d, Ep.ds, gr, grs]
    · refine ⟨by decide, bOk_i ?_ ?_ ?_⟩ <;> simp [fG, St.fits, St.fit, Ep.fit, Ep.fits, Ep.ht, Ep.hts, St.bht, St.ht, St.ds, St.d, Ep.d, Ep.ds, gr, grs]
    · refine ⟨by decide, bOk_i ?_ ?_ ?_⟩ <;> simp [fH, St.fits, St.fit, Ep.fit, Ep.fits, Ep.ht, Ep.hts, St.bht, St.ht, St.ds, St.d, Ep.d, Ep.ds, gr, grs]
    · refine ⟨by decide, bOk_i ?_ ?_ ?_⟩ <;> simp [fK, St.fits, St.fit, Ep.fit, Ep.fits, Ep.ht, Ep.hts, St.bht, St.ht, St.ds, St.d, Ep.d, Ep.ds, gr, grs]
  · have : o = hO := by simpa [hS] using m
    subst this
    refine bOk_i ?_ ?_ ?_ <;> simp [hO, St.fits, St.fit, Ep.fit, Ep.fits, Ep.ht, Ep.hts, St.bht, St.ht, St.ds, St.d, Ep.d, Ep.ds, gr, grs]
  · show bOk hM
    refine bOk_i ?_ ?_ ?_ <;> simp [hM, St.fits, St.fit, Ep.fit, Ep.fits, Ep.ht, Ep.hts, St.bht, St.ht, St.ds, St.d, Ep.d, Ep.ds, gr, grs]
  · rcases hS_in m with rfl | rfl | rfl | rfl <;> exact ⟨by decide, by decide⟩
  · rw [nmS]
    rcases hS_in m with rfl | rfl | rfl | rfl
    · rw [cF] at mx; exact absurd mx List.not_mem_nil
    · rw [cG] at mx; rw [List.mem_singleton.mp mx]; simp
    · rw [cH] at mx
      simp only [List.mem_cons, List.not_mem_nil, or_false] at mx ⊢
      rcases mx with rfl | rfl
      · exact .inr (.inl rfl)
      · exact .inr (.inr (.inr rfl))
    · rw [cK] at mx; exact absurd mx List.not_mem_nil
  · have : o = hO := by simpa [hS] using m
    subst this
    rw [nmS]
    rw [cO] at mx
    rw [List.mem_singleton.mp mx]
    simp
  · rw [nmS]
    have mx' : x ∈ cnm hM := mx
    rw [cM] at mx'
    rw [List.mem_singleton.mp mx']
    simp
theorem rc_h {x : Str} : Rc hS x ↔ x = w_f ∨ x = w_k := by
  constructor
  · intro r
    induction r with
    | main m =>
      have m' : _ ∈ cnm hM := m
      rw [cM] at m'
      exact .inl (List.mem_singleton.mp m')
    | @on o x mo m =>
      have : o = hO := by simpa [hS] using mo
      subst this
      rw [cO] at m
      exact .inr (List.mem_singleton.mp m)
    | @fn f x mf r m ih =>
      rcases hS_in mf with rfl | rfl | rfl | rfl
      · rw [cF] at m; exact absurd m List.not_mem_nil
      · exact absurd ih (by decide)
      · exact absurd ih (by decide)
      · rw [cK] at m; exact absurd m List.not_mem_nil
  · rintro (rfl | rfl)
    · exact .main (by show _ ∈ cnm hM; rw [cM]; simp)
    · exact .on (o := hO) (by simp [hS]) (by rw [cO]; simp)
theorem rcB_h (x : Str) : rcB hS x = (decide (x = w_f) || decide (x = w_k)) := by
  rw [Bool.eq_iff_iff, rcB_iff, rc_h]
  simp
theorem h_needless : (hS.funs.filter fun f => !rcB hS f.1).map (·.1) = [w_g, w_h] := by
  have e : (fun f : Fn => !rcB hS f.1) = fun f => !(decide (f.1 = w_f) || decide (f.1 = w_k)) := funext fun f => by rw [rcB_h]
  rw [e]
  decide
theorem h_left : (tL hS).funs = [fF, fK] := by
  show hS.funs.filter (fun f => rcB hS f.1) = _
  have e : (fun f : Fn => rcB hS f.1) = fun f => (decide (f.1 = w_f) || decide (f.1 = w_k)) := funext fun f => rcB_h f.1
  rw [e]
  have h1 : (decide (fF.1 = w_f) || decide (fF.1 = w_k)) = true := by decide
  have h2 : (decide (fG.1 = w_f) || decide (fG.1 = w_k)) = false := by decide
  have h3 : (decide (fH.1 = w_f) || decide (fH.1 = w_k)) = false := by decide
  have h4 : (decide (fK.1 = w_f) || decide (fK.1 = w_k)) = true := by decide
  show [fF, fG, fH, fK].filter _ = _
  rw [List.filter_cons_of_pos (by simpa using h1), List.filter_cons_of_neg (by rw [h2]; decide), List.filter_cons_of_neg (by rw [h3]; decide), List.filter_cons_of_pos (by simpa using h4), List.filter_nil]
theorem h_ndl {ys : List Str} (h : Ndl hS ys) : ys = [w_g, w_h] := by
  have p := h.1
  rw [h_needless] at p
  exact srt_uniq p h.2 (List.Pairwise.cons (fun a m => by rw [show a = _ from List.mem_singleton.mp m]; decide +kernel) (List.pairwise_singleton _ _))
def rdL (t : Tr) (x : Str) : Bool := (blks t).any fun b => decide (x ∈ rdn b)
def nmL (t : Tr) (x : Str) : Bool := (blks t).any fun b => decide (x ∈ rdn b) || decide (x ∈ stn b)
theorem rdB_eq (t : Tr) (x : Str) : rdB t x = rdL t x := by
  rw [Bool.eq_iff_iff, rdB_iff]
  unfold rdL Rd1
  rw [List.any_eq_true]
  exact ⟨fun ⟨b, m, h⟩ => ⟨b, m, decide_eq_true h⟩, fun ⟨b, m, h⟩ => ⟨b, m, of_decide_eq_true h⟩⟩
theorem nmB_eq (t : Tr) (x : Str) : nmB t x = nmL t x := by
  rw [Bool.eq_iff_iff, nmB_iff]
  unfold nmL Nm1
  rw [List.any_eq_true]
  constructor
  · rintro ⟨b, m, h⟩
    refine ⟨b, m, ?_⟩
    rw [Bool.or_eq_true, decide_eq_true_iff, decide_eq_true_iff]
    exact h
  · rintro ⟨b, m, h⟩
    rw [Bool.or_eq_true, decide_eq_true_iff, decide_eq_true_iff] at h
    exact ⟨b, m, h⟩
theorem h_c1 : (hS.cells.filter fun c => !nmB hS c.1).map (·.1) = [w_e] := by
  have e : (fun c : Str × Int => !nmB hS c.1) = fun c => !nmL hS c.1 := funext fun f => by rw [nmB_eq]
  rw [e]
  decide +kernel
theorem h_c2 : (hS.cells.filter fun c => !rdB hS c.1).map (·.1) = [w_e, w_d] := by
  have e : (fun c : Str × Int => !rdB hS c.1) = fun c => !rdL hS c.1 := funext fun f => by rw [rdB_eq]
  rw [e]
  decide +kernel
theorem h_nc {ys : List Str} (h : Ndc hS (nmB hS) ys) : ys = [w_e] := by
  have p := h.1
  rw [h_c1] at p
  exact srt_uniq p h.2 (List.pairwise_singleton _ _)
theorem h_uc {ys : List Str} (h : Ndc hS (rdB hS) ys) : ys = [w_d, w_e] := by
  have p := h.1
  rw [h_c2] at p
  have p2 : ys.Perm [w_d, w_e] := p.trans (List.Perm.swap _ _ _)
  exact srt_uniq p2 h.2 (List.Pairwise.cons (fun a m => by rw [show a = _ from List.mem_singleton.mp m]; decide +kernel) (List.pairwise_singleton _ _))
section
variable {n : Nat} {h : Hh} {Q : Kd} {X : Ex}
theorem hand_2 {x1 x2 : Option D} (hn : 30 ≤ n) (w : ∀ h', Keep [] h h' → Q (.bl true) h') : wB gls (rn n) X c_law_hand_2 (R0 Q) [some (fuD fF), x1, x2, some (fuD fK), some hS.d] h := by
  have T := hS_ta
  have NF : ∀ (h : Hh) (Q : Kd), (∀ h', Keep [] h h' → Q (.tup [.str w_g, .str w_h]) h') → rn n i_needless_funs [hS.d] h Q X := fun h Q w => nf_ok (by omega) T fun ys h' ny k => by rw [h_ndl ny]; exact w h' k
  have eL : (tL hS).d = .tup [.tup (hS.cells.map cD), .tup [fuD fF, fuD fK], .tup (hS.ons.map oD), bD hS.main] := by
    show D.tup [.tup ((tL hS).cells.map cD), .tup ((tL hS).funs.map fuD), .tup ((tL hS).ons.map oD), bD (tL hS).main] = _
    rw [h_left]
    rfl
  have WN : ∀ (h : Hh) (Q : Kd), (∀ h', Keep [] h h' → Q (.tup [.tup (hS.cells.map cD), .tup [fuD fF, fuD fK], .tup (hS.ons.map oD), bD hS.main]) h') → rn n i_without_needless [hS.d] h Q X := fun h Q w => wn_ok (by omega) T fun h' k => by rw [eL]; exact w h' k
  have UC : ∀ (h : Hh) (Q : Kd), (∀ h', Keep [] h h' → Q (.tup [.str w_d, .str w_e]) h') → rn n i_unread_cells [hS.d] h Q X := fun h Q w => uc_ok (by omega) T fun ys h' ny k => by rw [h_uc ny]; exact w h' k
  have NC : ∀ (h : Hh) (Q : Kd), (∀ h', Keep [] h h' → Q (.tup [.str w_e]) h') → rn n i_needless_cells [hS.d] h Q X := fun h Q w => nc_ok (by omega) T fun ys h' ny k => by rw [h_nc ny]; exact w h' k
  have S1 : ∀ (h : Hh) (Q : Kd), (∀ h', Keep [] h h' → Q (.bl true) h') → rn n i_law_same [.tup [.str w_g, .str w_h], .tup [.str w_g, .str w_h]] h Q X := fun h Q w => same2 (by omega) rfl (by simp [gr, grs]) w
  have S2 : ∀ (h : Hh) (Q : Kd), (∀ h', Keep [] h h' → Q (.bl true) h') → rn n i_law_same [.tup [fuD fF, fuD fK], .tup [fuD fF, fuD fK]] h Q X := fun h Q w => same2 (by omega) (by decide +kernel) (by decide +kernel) w
  have S3 : ∀ (h : Hh) (Q : Kd), (∀ h', Keep [] h h' → Q (.bl true) h') → rn n i_law_same [.tup [.str w_e], .tup [.str w_e]] h Q X := fun h Q w => same2 (by omega) rfl (by simp [gr, grs]) w
  have S4 : ∀ (h : Hh) (Q : Kd), (∀ h', Keep [] h h' → Q (.bl true) h') → rn n i_law_same [.tup [.str w_d, .str w_e], .tup [.str w_d, .str w_e]] h Q X := fun h Q w => same2 (by omega) rfl (by simp [gr, grs]) w
  generalize hS.d = S at NF WN UC NC ⊢
  generalize hS.cells.map cD = CC at WN
  generalize hS.ons.map oD = OO at WN
  generalize bD hS.main = MM at WN
  generalize fuD fF = F1 at WN S2 ⊢
  generalize fuD fK = F2 at WN S2 ⊢
  walk_at "go"
  refine NF _ _ fun h1 k1 => ?_
  walk_at "go"
  refine S1 _ _ fun h2 k2 => ?_
  walk_at "go"
  refine WN _ _ fun h3 k3 => ?_
  walk_at "go"
  refine S2 _ _ fun h4 k4 => ?_
  walk_at "go"
  refine NC _ _ fun h5 k5 => ?_
  walk_at "go"
  refine S3 _ _ fun h6 k6 => ?_
  walk_at "go"
  refine UC _ _ fun h7 k7 => ?_
  walk_at "go"
  exact S4 _ _ fun h8 k8 => w h8 (by walk_at "keep")
end
theorem hand_ok {n : Nat} {h : Hh} {Q : Kd} {X : Ex} (hn : 31 ≤ n) (w : ∀ h', Keep [] h h' → Q (.bl true) h') : rn n i_law_hand [] h Q X := by
  cases n with
  | zero => omega
  | succ n =>
    refine u_law_hand ?_
    refine asgP (d := fuD fF) rfl ?_
    refine asgP (d := fuD fG) rfl ?_
    refine asgP (d := fuD fH) rfl ?_
    refine asgP (d := fuD fK) rfl ?_
    refine asgP (d := hS.d) rfl ?_
    exact hand_2 (by omega) w
abbrev lev : Nat := 60
theorem main (ns : List Int) (hns : ns.length ≤ 63) : run gls (pds.map (·.m)) lev i_law [.ref 0] [.frz (ns.map D.int)] (fun d _ => d = .bl true) EX0 := by
  suffices H : ∀ n X, 50 ≤ n → rn n i_law [.ref 0] [.frz (ns.map D.int)] (fun d _ => d = .bl true) X from H lev EX0 (by decide)
  intro n X hn
  cases n with
  | zero => omega
  | succ n =>
    refine u_law ?_
    walk_at "go"
    refine pool_ok (by omega) (ns := ns) rfl (by omega) fun p c h1 pl1 => ?_
    walk_at "go"
    refine hand_ok (by omega) fun h2 k2 => ?_
    have pl2 := pl1.mono k2 List.not_mem_nil List.not_mem_nil
    walk_at "one"
    walk_at "one"
    refine loop_i (I := fun r σ h' => ∃ (nr : Nat) (x2 x3 : Option D), σ = [some (.ref 0), some (.ref p), x2, x3] ∧ r.length ≤ 3 ∧ Pl h' p c (nr : Int) ∧ nr ≤ 6000 * (3 - r.length)) ?_ ?_ _ _ _ ⟨0, _, _, rfl, ?_, pl2, by omega⟩
    · rintro x r σ h3 K ⟨nr, x2, x3, rfl, lr, pl3, r1⟩ hK
      simp only [List.length_cons] at lr r1
      walk_at "go"
      refine tree_ok (by omega) pl3 (by omega) fun t nr4 h4 ⟨o4, g4, gm4, lv4, nd4, tn4⟩ pl4 r2 r3 k4 => ?_
      have T4 := ta_of o4 g4 nd4 tn4
      have AS : ∀ (h : Hh) (Q : Kd), (∀ h', Keep [] h h' → Q (.bl true) h') → rn n i_law_asked [t.d] h Q X := fun h Q w => asked_ok (by omega) T4 w
      have MO : ∀ (h : Hh) (Q : Kd), Pl h p c (nr4 : Int) → (∀ (t2 : Tr) (nr' : Nat) (h' : Hh), TA t2 → Pl h' p c nr' → nr4 ≤ nr' → nr' ≤ nr4 + 10 → Keep [p] h h' → Q t2.d h') → rn n i_law_more [.ref p, t.d] h Q X := fun h Q pl w => mo_ok (by omega) T4 o4 tn4 gm4 pl (by omega) w
      generalize t.d = TD at AS MO ⊢
      walk_at "go"
      refine AS _ _ fun h5 k5 => ?_
      walk_at "go"
      refine MO _ _ (pl4.mono k5 List.not_mem_nil List.not_mem_nil) fun t2 nr6 h6 T6 pl6 r4 r5 k6 => ?_
      have AS2 : ∀ (h : Hh) (Q : Kd), (∀ h', Keep [] h h' → Q (.bl true) h') → rn n i_law_asked [t2.d] h Q X := fun h Q w => asked_ok (by omega) T6 w
      generalize t2.d = TD2 at AS2 ⊢
      walk_at "go"
      refine AS2 _ _ fun h7 k7 => ?_
      walk_at "go"
      exact hK _ _ ⟨nr6, _, _, rfl, by omega, pl6.mono k7 List.not_mem_nil List.not_mem_nil, by omega⟩
    · rintro σ h3 ⟨nr, x2, x3, rfl, lr, pl3, r1⟩
      walk_at "go"
    · rw [range_len]; decide

end Lw

namespace Lw
open PySem PySem.Spec PyProof.Rows L2 Mi
abbrev R : PySem.W.OpenRow := PySem.W.OpenLaw.row PySem.Challenge.rw_placesforgood_k30_needless_parts
abbrev hk : PySem.W.Hook := hookM 4 cns pds xds hns
def ob (s : PySem.W.SharedT) : He.AlD := obsMG 4 cns pds (HandSHeadRun.getT s) xds hns
theorem ob_eq (s : PySem.W.SharedT) : ob s = hk.obs s.abs := obsMG_eq (HandSHeadRun.getT_eq s)
def loose : List PySem.Str := [("inner_expressions" : PySem.Str), ("own_expressions" : PySem.Str), ("own_blocks" : PySem.Str), ("all_inner" : PySem.Str), ("all_statements" : PySem.Str), ("all_expressions" : PySem.Str), ("blocks_of" : PySem.Str), ("names_in" : PySem.Str), ("fun_of" : PySem.Str), ("statement_calls" : PySem.Str), ("calls_table" : PySem.Str), ("block_calls" : PySem.Str), ("roots_of" : PySem.Str), ("block_of" : PySem.Str), ("callees" : PySem.Str), ("unit_web" : PySem.Str), ("units_of" : PySem.Str), ("needless_funs" : PySem.Str), ("without_needless" : PySem.Str), ("needless_cells" : PySem.Str), ("unread_cells" : PySem.Str), ("_law_pool" : PySem.Str), ("_law_take" : PySem.Str), ("_law_same" : PySem.Str), ("_law_name" : PySem.Str), ("_law_expression" : PySem.Str), ("_law_block" : PySem.Str), ("_law_tree" : PySem.Str), ("_law_walk" : PySem.Str), ("_law_calls" : PySem.Str), ("_law_named" : PySem.Str), ("_law_come_to" : PySem.Str), ("_law_more" : PySem.Str), ("_law_asked" : PySem.Str), ("_law_hand" : PySem.Str), ("PAIRED" : PySem.Str)]
theorem run_top (w : World) : HandSHeadRun.RunEq R (PySem.W.view R.prog [43]) hk ob 3000 loose w := by
  intro os
  kernel_rfl
end Lw
open PySem PySem.W PySem.Calls PyProof.Rows
set_option maxRecDepth 100000 in
set_option maxHeartbeats 0 in
theorem PySem.Challenge.cw_placesforgood_k30_needless_parts_holds : PySem.Challenge.rw_placesforgood_k30_needless_parts.Holds := by
  w_on; o_law
  refine HandSHeadRun.head_any (r := OpenLaw.row PySem.Challenge.rw_placesforgood_k30_needless_parts) (q := view (OpenLaw.row PySem.Challenge.rw_placesforgood_k30_needless_parts).prog [43]) (H := Lw.hk) (ob := Lw.ob) (M := 3000) (loose := Lw.loose) (d := HandSHeadRun.topDef (OpenLaw.row PySem.Challenge.rw_placesforgood_k30_needless_parts).prog 43) (kwd := []) Lw.ob_eq
    (by kernel_rfl) (fun s => by kernel_rfl) Lw.run_top (by kernel_rfl) (by kernel_rfl) (by kernel_rfl) (by rfl) (by first | assumption | decide +kernel) (by decide +kernel) ⟨rfl, rfl, rfl, rfl, rfl, by decide +kernel⟩ ?hw ?hc
  case hw => w_witness2
  case hc =>
    refine L2.walk_ofE (l := PySem.Challenge.rw_placesforgood_k30_needless_parts) (n := 63) (k := Lw.lev + 2) (x := "script") (CX := L2.CX0) rfl (by decide) (by kernel_rfl) ⟨rfl, by decide, by decide⟩ ?F (fun _ _ _ _ z => z)
    intro w mg fa h Y G hmg0
    have hmg : mg ("law" : PySem.Str) = some (.ref fa) := by
      have e : (HandSHeadRun.topDef (OpenLaw.row PySem.Challenge.rw_placesforgood_k30_needless_parts).prog 43).name = ("law" : PySem.Str) := by kernel_rfl
      rw [← e]
      exact hmg0
    exact Mi.law_F (p := ⟨"law", Lw.topS 43, ["script", "pool", "lap", "tree"], Lw.m_law⟩) (iL := 35) Y G hmg rfl rfl Lw.all_chk Lw.all_xs Lw.main

