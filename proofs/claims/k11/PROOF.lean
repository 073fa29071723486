import PyProof.Rows.All
import Wide.All
import OpenK.AllK
import Wide.FinOn
import KE.DataEq
import KE.DataCmp
import KE.DataIsa
import KE.DataAny
import KE.SortData
import HandS.ForMost
import HandS.Conv
import HandS.TupAny
import HandS.TupMul
import HandS.IsInst
import HandS.Flow
import HandS.Zip
import HandS.Style
import HandS.Defaults
import HandS.Lambda
import HandS.WordsExc
import HandS.CallSlots
import HandS.ExcOwn
import KE.KeyNested
import KE.KDictKeyed
import KE.KDictWalk
import KE.KDictCopyH
import KE.KDictSum
import HandS.Wide
import KE.GoesMore
import KE.GoesZip
import HandS.NoneIn
import KE.KDictDisplayH
import KE.KDictPairs
import HandS.TupLen
import HandS.Deep
import HandS.ExcIs
import HandS.Codes
import HandS.SetFor
import HandS.TupSets
import HandS.Strs
import KE.GoesDict
import PyProof.ReprRoads
import PyProof.DictStraight
import HandS.HeadEnd
import HandS.HeadHook1
import HandS.HeadHook2
import HandS.HeadHook4
import HandS.HeadWalk
import KE.KNestM
import KE.KStateDown
import Lean
import HandS.Base
import HandS.Call
import HandS.Ends
import HandS.More
import HandS.Words
import HandS.Head0
import HandS.Head1
import HandS.Head2
import HandS.HeadHook3
import PySem.Challenge.RW_fewspaces_k11_spaces_and_rows_looked_at
section
set_option linter.all false
set_option autoImplicit false
namespace MA
abbrev Rw := List Int
def at_ (v : Rw) (i : Nat) : Int := v.getD i 0
def Row (p : Int) (n : Nat) (v : Rw) : Prop := v.length = n ∧ ∀ x ∈ v, 0 ≤ x ∧ x < p
def addm (p : Int) (v : Rw) (k : Int) (w : Rw) : Rw := List.zipWith (fun x y => (x + k * y) % p) v w
def zr (n : Nat) : Rw := List.replicate n 0
def hx (v : Rw) : Nat := v.findIdx fun x => decide (x ≠ 0)
def Pr (p : Int) : Prop := p = 2 ∨ p = 3 ∨ p = 5
theorem Pr.pos {p : Int} (h : Pr p) : 0 < p := by unfold Pr at h; omega
section arith
variable {p : Int}
theorem m1 (x y : Int) : (x % p + y) % p = (x + y) % p := by rw [Int.emod_add_emod]
theorem m2 (x k y : Int) : (x + k * (y % p)) % p = (x + k * y) % p := by
  have e : x + k * (y % p) = (x + k * y) + p * (-(k * (y / p))) := by rw [Int.emod_def]; grind
  rw [e, Int.add_mul_emod_self_left]
theorem m3 (x k y : Int) : (x + (k % p) * y) % p = (x + k * y) % p := by
  have e : x + (k % p) * y = (x + k * y) + p * (-((k / p) * y)) := by rw [Int.emod_def]; grind
  rw [e, Int.add_mul_emod_self_left]
theorem m4 (x k y : Int) : (x + (-(k % p)) * y) % p = (x + (-k) * y) % p := by
  have e : x + (-(k % p)) * y = (x + (-k) * y) + p * (((k / p) * y)) := by rw [Int.emod_def]; grind
  rw [e, Int.add_mul_emod_self_left]
theorem m5 (k y : Int) : (k * (y % p)) % p = (k * y) % p := by
  have := m2 (p := p) 0 k y
  simpa using this
end arith
section rows
variable {p : Int} {n : Nat} {u v w : Rw}
theorem Row.ln (h : Row p n v) : v.length = n := h.1
theorem at_out {i : Nat} (h : v.length ≤ i) : at_ v i = 0 := by
  unfold at_
  rw [List.getD_eq_getElem?_getD, List.getElem?_eq_none h]
  rfl
theorem Row.lim (h : Row p n v) (hp : 0 < p) (i : Nat) : 0 ≤ at_ v i ∧ at_ v i < p := by
  by_cases hi : i < v.length
  · unfold at_
    rw [List.getD_eq_getElem?_getD, List.getElem?_eq_getElem hi]
    exact h.2 _ (List.getElem_mem hi)
  · rw [at_out (by omega)]
    omega
theorem Row.md (h : Row p n v) (hp : 0 < p) (i : Nat) : at_ v i % p = at_ v i := Int.emod_eq_of_lt (h.lim hp i).1 (h.lim hp i).2
theorem ext_at (hv : v.length = n) (hw : w.length = n) (h : ∀ i, i < n → at_ v i = at_ w i) : v = w := by
  refine List.ext_getElem (by omega) fun i h1 h2 => ?_
  have q := h i (by omega)
  unfold at_ at q
  rw [List.getD_eq_getElem?_getD, List.getD_eq_getElem?_getD, List.getElem?_eq_getElem h1, List.getElem?_eq_getElem h2] at q
  exact q
theorem len_addm {k : Int} (hv : v.length = n) (hw : w.length = n) : (addm p v k w).length = n := by
  unfold addm
  rw [List.length_zipWith, hv, hw, Nat.min_self]
theorem at_addm {k : Int} (hv : v.length = n) (hw : w.length = n) (i : Nat) : at_ (addm p v k w) i = (at_ v i + k * at_ w i) % p := by
  by_cases hi : i < n
  · unfold at_ addm
    rw [List.getD_eq_getElem?_getD, List.getD_eq_getElem?_getD, List.getD_eq_getElem?_getD, List.getElem?_zipWith, List.getElem?_eq_getElem (by omega : i < v.length), List.getElem?_eq_getElem (by omega : i < w.length)]
    rfl
  · rw [at_out (by rw [len_addm hv hw]; omega), at_out (by omega : v.length ≤ i), at_out (by omega : w.length ≤ i)]
    simp
theorem row_of_lim (hl : v.length = n) (h : ∀ i, i < n → 0 ≤ at_ v i ∧ at_ v i < p) : Row p n v := by
  refine ⟨hl, fun x hx => ?_⟩
  obtain ⟨i, hi, e⟩ := List.mem_iff_getElem.mp hx
  have q := h i (by omega)
  unfold at_ at q
  rw [List.getD_eq_getElem?_getD, List.getElem?_eq_getElem hi, e] at q
  exact q
theorem Row.addm (hp : 0 < p) {k : Int} (hv : Row p n v) (hw : Row p n w) : Row p n (addm p v k w) := by
  refine row_of_lim (len_addm hv.1 hw.1) fun i _ => ?_
  rw [at_addm hv.1 hw.1]
  exact ⟨Int.emod_nonneg _ (by omega), Int.emod_lt_of_pos _ hp⟩
theorem zr_len : (zr n).length = n := List.length_replicate
theorem at_zr (i : Nat) : at_ (zr n) i = 0 := by
  unfold at_ zr
  rw [List.getD_eq_getElem?_getD]
  by_cases hi : i < n
  · rw [List.getElem?_replicate, if_pos hi]; rfl
  · rw [List.getElem?_replicate, if_neg hi]; rfl
theorem Row.zr (hp : 0 < p) : Row p n (zr n) := row_of_lim zr_len fun i _ => by rw [at_zr]; omega
theorem addm_zr (hp : 0 < p) {k : Int} (hv : Row p n v) : MA.addm p v k (MA.zr n) = v := by
  refine ext_at (len_addm hv.1 zr_len) hv.1 fun i _ => ?_
  rw [at_addm hv.1 zr_len, at_zr, Int.mul_zero, Int.add_zero, hv.md hp]
theorem zr_addm_one (hp : 0 < p) (hv : Row p n v) : MA.addm p (MA.zr n) 1 v = v := by
  refine ext_at (len_addm zr_len hv.1) hv.1 fun i _ => ?_
  rw [at_addm zr_len hv.1, at_zr, Int.zero_add, Int.one_mul, hv.md hp]
theorem addm_assoc {k c : Int} (hu : u.length = n) (hv : v.length = n) (hw : w.length = n) : MA.addm p u k (MA.addm p v c w) = MA.addm p (MA.addm p u k v) (k * c) w := by
  refine ext_at (len_addm hu (len_addm hv hw)) (len_addm (len_addm hu hv) hw) fun i _ => ?_
  rw [at_addm hu (len_addm hv hw), at_addm hv hw, at_addm (len_addm hu hv) hw, at_addm hu hv, m1, m2]
  congr 1
  grind
theorem hx_le : hx v ≤ v.length := List.findIdx_le_length
theorem at_before {i : Nat} (h : i < hx v) : at_ v i = 0 := by
  have hi : i < v.length := Nat.lt_of_lt_of_le h hx_le
  have q := List.not_of_lt_findIdx h
  unfold at_
  rw [List.getD_eq_getElem?_getD, List.getElem?_eq_getElem hi]
  simpa using q
theorem at_hx (h : hx v < v.length) : at_ v (hx v) ≠ 0 := by
  have q := List.findIdx_getElem (w := h)
  unfold at_
  rw [List.getD_eq_getElem?_getD, List.getElem?_eq_getElem h]
  simpa [hx] using q
theorem zr_of_hx (hl : v.length = n) (h : ¬ hx v < n) : v = zr n := by
  have e : hx v = n := by have := hx_le (v := v); omega
  exact ext_at hl zr_len fun i hi => by rw [at_zr]; exact at_before (by omega)
theorem hx_zr : hx (zr n) = n := by
  have h1 := hx_le (v := zr n)
  rw [zr_len] at h1
  rcases Nat.lt_or_ge (hx (zr n)) n with q | q
  · exact absurd (at_zr _) (at_hx (by rw [zr_len]; exact q))
  · omega
theorem hx_lt_iff (hl : v.length = n) : hx v < n ↔ v ≠ zr n := by
  constructor
  · intro h e
    rw [e, hx_zr] at h
    omega
  · intro h
    by_cases q : hx v < n
    · exact q
    · exact absurd (zr_of_hx hl q) h
end rows
inductive Span (p : Int) (n : Nat) (A : List Rw) : Rw → Prop
  | zero : Span p n A (zr n)
  | add {v a : Rw} (k : Int) : Span p n A v → a ∈ A → Span p n A (addm p v k a)
section span
variable {p : Int} {n : Nat} {A B : List Rw} {u v w : Rw}
theorem Span.row (hp : 0 < p) (hA : ∀ a ∈ A, Row p n a) (h : Span p n A v) : Row p n v := by
  induction h with
  | zero => exact Row.zr hp
  | add k _ ha ih => exact ih.addm hp (hA _ ha)
theorem Span.mem (hp : 0 < p) (hA : ∀ a ∈ A, Row p n a) (h : v ∈ A) : Span p n A v := by
  have q := Span.add 1 (Span.zero (p := p) (n := n)) h
  rwa [zr_addm_one hp (hA _ h)] at q
theorem Span.plus (hp : 0 < p) (hA : ∀ a ∈ A, Row p n a) {k : Int} (hv : Span p n A v) (hw : Span p n A w) : Span p n A (addm p v k w) := by
  induction hw with
  | zero => rw [addm_zr hp (hv.row hp hA)]; exact hv
  | add c h1 ha ih =>
    rw [addm_assoc (hv.row hp hA).1 (h1.row hp hA).1 (hA _ ha).1]
    exact .add _ ih ha
theorem Span.mono (hp : 0 < p) (hB : ∀ a ∈ B, Row p n a) (h : ∀ a ∈ A, Span p n B a) (hv : Span p n A v) : Span p n B v := by
  induction hv with
  | zero => exact .zero
  | add k _ ha ih => exact ih.plus hp hB (h _ ha)
theorem Span.sub (hv : Span p n A v) (h : ∀ a ∈ A, a ∈ B) : Span p n B v := by
  induction hv with
  | zero => exact .zero
  | add k _ ha ih => exact .add k ih (h _ ha)
end span
end MA
end
section
set_option linter.all false
set_option autoImplicit false
namespace MA
structure Lead (p : Int) (n : Nat) (a : Rw) : Prop where
  row : Row p n a
  lt : hx a < n
  one : at_ a (hx a) = 1
def Apart (a b : Rw) : Prop := at_ a (hx b) = 0 ∧ at_ b (hx a) = 0
theorem Apart.symm {a b : Rw} (h : Apart a b) : Apart b a := ⟨h.2, h.1⟩
structure Sys (p : Int) (n : Nat) (A : List Rw) : Prop where
  lead : ∀ a ∈ A, Lead p n a
  ap : A.Pairwise Apart
def stp (p : Int) (v a : Rw) : Rw := addm p v (0 - at_ v (hx a)) a
def red (p : Int) (A : List Rw) (v : Rw) : Rw := A.foldl (stp p) v
section
variable {p : Int} {n : Nat} {A B : List Rw} {a b u v w : Rw}
theorem Sys.rows (h : Sys p n A) : ∀ a ∈ A, Row p n a := fun a ha => (h.lead a ha).row
theorem Sys.apart (h : Sys p n A) (ha : a ∈ A) (hb : b ∈ A) (hne : a ≠ b) : Apart a b := by
  obtain ⟨i, hi, rfl⟩ := List.mem_iff_getElem.mp ha
  obtain ⟨j, hj, rfl⟩ := List.mem_iff_getElem.mp hb
  rcases Nat.lt_trichotomy i j with q | q | q
  · exact List.pairwise_iff_getElem.mp h.ap i j hi hj q
  · subst q; exact absurd rfl hne
  · exact (List.pairwise_iff_getElem.mp h.ap j i hj hi q).symm
theorem not_apart_self (h : Lead p n a) : ¬ Apart a a := fun q => by
  have := q.1
  rw [h.one] at this
  omega
theorem Sys.nodup (h : Sys p n A) : A.Nodup := List.Pairwise.imp_of_mem (fun ha _ q e => not_apart_self (h.lead _ ha) (by subst e; exact q)) h.ap
theorem Sys.tail (h : Sys p n (a :: A)) : Sys p n A := ⟨fun b hb => h.lead b (.tail _ hb), (List.pairwise_cons.mp h.ap).2⟩
theorem Sys.head (h : Sys p n (a :: A)) : ∀ b ∈ A, Apart a b := (List.pairwise_cons.mp h.ap).1
theorem Row.stp (hp : 0 < p) (hv : Row p n v) (ha : Row p n a) : Row p n (stp p v a) := hv.addm hp ha
theorem Row.red (hp : 0 < p) : ∀ {A : List Rw} {v : Rw}, (∀ a ∈ A, Row p n a) → Row p n v → Row p n (red p A v)
  | [], _, _, hv => hv
  | a :: A, v, h, hv => Row.red hp (A := A) (fun b hb => h b (.tail _ hb)) (hv.stp hp (h a (.head _)))
theorem Lead.ne (h : Lead p n a) : a ≠ zr n := (hx_lt_iff h.row.1).mp h.lt
structure Part (p : Int) (n : Nat) (A : List Rw) : Prop where
  sys : Sys p n A
  up : A.Pairwise fun a b => hx a < hx b
end
end MA
end
section
set_option linter.all false
set_option autoImplicit false
namespace MA
def scal (p m : Int) (w : Rw) : Rw := w.map fun x => m * x % p
def rngI (n : Nat) : List Int := (List.range n).map fun (i : Nat) => (i : Int)
def invs (p x : Int) : List Int := (rngI p.toNat).filter fun m => decide (m * x % p = 1)
def inv (p x : Int) : Int := (invs p x).headD 0
def putIn (p : Int) (found : List Rw) (w : Rw) : List Rw :=
  if hx w < w.length then
    found.map (fun f => addm p f (0 - at_ f (hx w)) (scal p (inv p (at_ w (hx w))) w)) ++ [scal p (inv p (at_ w (hx w))) w]
  else found
def redStep (p : Int) (found : List Rw) (row : Rw) : List Rw := putIn p found (red p found row)
def redU (p : Int) (rows : List Rw) : List Rw := rows.foldl (redStep p) []
section
variable {p : Int} {n : Nat} {A B : List Rw} {a b u v w : Rw}
theorem at_scal {m : Int} (i : Nat) : at_ (scal p m w) i = m * at_ w i % p := by
  unfold at_ scal
  rw [List.getD_eq_getElem?_getD, List.getD_eq_getElem?_getD, List.getElem?_map]
  cases w[i]? with
  | none => simp
  | some x => rfl
theorem len_scal {m : Int} : (scal p m w).length = w.length := List.length_map _
theorem Row.scal (hp : 0 < p) {m : Int} (hw : Row p n w) : Row p n (scal p m w) := row_of_lim (by rw [len_scal]; exact hw.1) fun i _ => by
  rw [at_scal]
  exact ⟨Int.emod_nonneg _ (by omega), Int.emod_lt_of_pos _ hp⟩
def rk (p : Int) (A : List Rw) : Nat := (redU p A).length
end
end MA
end
section
set_option linter.all false
set_option autoImplicit false
namespace MA
section
variable {p : Int} {n : Nat} {A B : List Rw} {a b u v w : Rw}
theorem rngI_len (n : Nat) : (rngI n).length = n := by unfold rngI; rw [List.length_map, List.length_range]
end
end MA
end
section
set_option Elab.async false
set_option linter.all false
set_option maxRecDepth 100000
set_option autoImplicit false
/-! D1: a data layer over the hand layer: values that read as data, slots that hold data, owned lists and the drawing state. -/
namespace DP
open PySem PySem.Spec PyProof.Rows L2

/-! ### dicts whose keys are tuples of numbers, nested -/
mutual
/-- data as a key -/
def nkey : PyData → NestedKey
  | .int i => .num i
  | .tuple ds => .tup (nkeys ds)
  | _ => .none
def nkeys : List PyData → List NestedKey
  | [] => []
  | d :: ds => nkey d :: nkeys ds
end
mutual
def nkB : PyData → Bool
  | .int _ => true
  | .tuple ds => nkBs ds
  | _ => false
def nkBs : List PyData → Bool
  | [] => true
  | d :: ds => nkB d && nkBs ds
end
def keyB (d : PyData) : Bool := d.isTuple && nkB d && decide (d.depth ≤ 8)
mutual
theorem nkey_hash (w w' : World) : ∀ d, nkB d = true → (nkey d).hash w = (nkey d).hash w'
  | .int i, _ => by rw [nkey, NestedKey.hash, NestedKey.hash]
  | .tuple ds, h => by
    rw [nkB] at h
    rw [nkey, NestedKey.hash, NestedKey.hash, nkeys_hash w w' ds h]
  | .none, h => by simp [nkB] at h
  | .bool _, h => by simp [nkB] at h
  | .str _, h => by simp [nkB] at h
  | .list _, h => by simp [nkB] at h
  | .dict _, h => by simp [nkB] at h
theorem nkeys_hash (w w' : World) : ∀ ds, nkBs ds = true → NestedKey.hashes w (nkeys ds) = NestedKey.hashes w' (nkeys ds)
  | [], _ => by rw [nkeys, NestedKey.hashes, NestedKey.hashes]
  | d :: ds, h => by
    rw [nkBs, Bool.and_eq_true] at h
    rw [nkeys, NestedKey.hashes, NestedKey.hashes, nkey_hash w w' d h.1, nkeys_hash w w' ds h.2]
end
mutual
theorem nkey_depth : ∀ d, nkB d = true → (nkey d).depth = d.depth
  | .int i, _ => by rw [nkey, NestedKey.depth, PyData.depth]
  | .tuple ds, h => by
    rw [nkB] at h
    rw [nkey, NestedKey.depth, PyData.depth, nkeys_depth ds h]
  | .none, h => by simp [nkB] at h
  | .bool _, h => by simp [nkB] at h
  | .str _, h => by simp [nkB] at h
  | .list _, h => by simp [nkB] at h
  | .dict _, h => by simp [nkB] at h
theorem nkeys_depth : ∀ ds, nkBs ds = true → NestedKey.depthAll (nkeys ds) = PyData.depthAll ds
  | [], _ => by rw [nkeys, NestedKey.depthAll, PyData.depthAll]
  | d :: ds, h => by
    rw [nkBs, Bool.and_eq_true] at h
    rw [nkeys, NestedKey.depthAll, PyData.depthAll, nkey_depth d h.1, nkeys_depth ds h.2]
end
mutual
theorem nkey_inj : ∀ d e, nkB d = true → nkB e = true → nkey d = nkey e → d = e
  | .int i, e, _, he, q => by
    cases e with
    | int j => rw [nkey, nkey] at q; cases q; rfl
    | tuple ds => rw [nkey, nkey] at q; cases q
    | _ => simp [nkB] at he
  | .tuple ds, e, hd, he, q => by
    cases e with
    | int j => rw [nkey, nkey] at q; cases q
    | tuple es =>
      rw [nkB] at hd he
      rw [nkey, nkey] at q
      rw [nkeys_inj ds es hd he (NestedKey.tup.inj q)]
    | _ => simp [nkB] at he
  | .none, _, h, _, _ => by simp [nkB] at h
  | .bool _, _, h, _, _ => by simp [nkB] at h
  | .str _, _, h, _, _ => by simp [nkB] at h
  | .list _, _, h, _, _ => by simp [nkB] at h
  | .dict _, _, h, _, _ => by simp [nkB] at h
theorem nkeys_inj : ∀ ds es, nkBs ds = true → nkBs es = true → nkeys ds = nkeys es → ds = es
  | [], [], _, _, _ => rfl
  | [], e :: es, _, _, q => by rw [nkeys, nkeys] at q; cases q
  | d :: ds, [], _, _, q => by rw [nkeys, nkeys] at q; cases q
  | d :: ds, e :: es, hd, he, q => by
    rw [nkBs, Bool.and_eq_true] at hd he
    rw [nkeys, nkeys] at q
    obtain ⟨q1, q2⟩ := List.cons.inj q
    rw [nkey_inj d e hd.1 he.1 q1, nkeys_inj ds es hd.2 he.2 q2]
end
/-- just this object stands at a -/
def OB (a : Addr) (o : Obj) : HO := .ext fun h => h.get? a = some o
theorem ob_new {P : Program} {w : World} {H : Hp} {h : Heap} {a : Addr} {o : Obj} (e : h.get? a = some o) : ObjOk P w H h a (OB a o) :=
  ⟨e, ⟨o, e⟩, fun _ _ p k => k _ p⟩
/-- the object of a dict with these entries -/
def DictObj (o : Obj) (xs : List (NestedKey × Addr × Value)) : Prop :=
  o.ExactDict ∧ (xs.map (·.1)).Nodup ∧ ∃ es ep, o.data = .dict es ep ∧ ∀ w : World, es.toList = xs.map fun x => ⟨x.1.hash w, .ref x.2.1, x.2.2⟩
theorem DictObj.ofH {P : Program} {w : World} {h : Heap} {a : Addr} {xs : List (NestedKey × Addr × Value)} (d : h.DictOfH (nestedKind P w) a xs) (hs : ∀ x ∈ xs, ∃ d, nkB d = true ∧ x.1 = nkey d) : ∃ o, h.get? a = some o ∧ DictObj o xs := by
  obtain ⟨o, es, ep, h1, h2, h3, h4, h5, h6⟩ := d
  refine ⟨o, h1, h2, h6, es, ep, h3, fun w' => ?_⟩
  rw [h4]
  refine List.map_congr_left fun x hx => ?_
  obtain ⟨d, e1, e2⟩ := hs x hx
  show (⟨x.1.hash w, .ref x.2.1, x.2.2⟩ : DictEntry) = _
  rw [e2, nkey_hash w w' d e1]
theorem DictObj.toH {P : Program} {w : World} {h : Heap} {a : Addr} {o : Obj} {xs : List (NestedKey × Addr × Value)} (d : DictObj o xs) (e : h.get? a = some o) (hs : ∀ x ∈ xs, (nestedKind P w).is h x.1 x.2.1) : h.DictOfH (nestedKind P w) a xs := by
  obtain ⟨h2, h6, es, ep, h3, h4⟩ := d
  exact ⟨o, es, ep, e, h2, h3, h4 w, hs, h6⟩
theorem DictObj.raw {h : Heap} {a : Addr} {o : Obj} {xs : List (NestedKey × Addr × Value)} (w : World) (d : DictObj o xs) (e : h.get? a = some o) : ∃ es ep, h.DictRaw a es ep ∧ o.data = .dict es ep ∧ es.toList = xs.map fun x => (⟨x.1.hash w, .ref x.2.1, x.2.2⟩ : DictEntry) := by
  obtain ⟨h2, h6, es, ep, h3, h4⟩ := d
  exact ⟨es, ep, ⟨o, e, h2, h3⟩, h3, h4 w⟩
/-! ### values that are data in an abstract heap -/
mutual
inductive Rp (H : Hp) : V → PyData → Prop
  | non : Rp H .non .none
  | bl (b : Bool) : Rp H (.bl b) (.bool b)
  | int (i : Int) : Rp H (.int i) (.int i)
  | str (x : Str) : Rp H (.str x) (.str x)
  | lst {a : Addr} {xs : List V} {ds : List PyData} : Rd H a (.lst xs) → xs.length ≤ sizeLine → RpA H xs ds → Rp H (.ref a) (.list ds)
  | tup {a : Addr} {xs : List V} {ds : List PyData} : H a = some (.tup xs) → xs.length ≤ sizeLine → RpA H xs ds → Rp H (.ref a) (.tuple ds)
  | dct {a : Addr} : H a = some (.dK []) → Rp H (.ref a) (.dict [])
  | dct1 {a : Addr} (i j : Int) : H a = some (.dK [(.inl i, .int j)]) → Rp H (.ref a) (.dict [(.int i, .int j)])
  | dctN {a : Addr} {o : Obj} {xs : List (NestedKey × Addr × Value)} {kvs : List (PyData × PyData)} : H a = some (OB a o) → DictObj o xs → (a == sysModules) = false → xs.length ≤ sizeLine → RpD H xs kvs → Rp H (.ref a) (.dict kvs)
inductive RpA (H : Hp) : List V → List PyData → Prop
  | nil : RpA H [] []
  | cons {v : V} {vs : List V} {d : PyData} {ds : List PyData} : Rp H v d → RpA H vs ds → RpA H (v :: vs) (d :: ds)
inductive RpD (H : Hp) : List (NestedKey × Addr × Value) → List (PyData × PyData) → Prop
  | nil : RpD H [] []
  | cons {b : Addr} {u : Value} {v : V} {dk dv : PyData} {xs : List (NestedKey × Addr × Value)} {kvs : List (PyData × PyData)} : keyB dk = true → Rp H (.ref b) dk → RelV v u → Rp H v dv → RpD H xs kvs → RpD H ((nkey dk, b, u) :: xs) ((dk, dv) :: kvs)
end
theorem Rd.mono {H H' : Hp} (s : Same H H') {a : Addr} {o : HO} (h : Rd H a o) : Rd H' a o := by
  rcases h with h | ⟨u, h⟩
  · exact .inl (s _ _ h)
  · exact .inr ⟨u, s _ _ h⟩
mutual
theorem Rp.mono {H H' : Hp} (s : Same H H') : ∀ (d : PyData) (v : V), Rp H v d → Rp H' v d
  | .none, _, h => by cases h; exact .non
  | .bool _, _, h => by cases h; exact .bl _
  | .int _, _, h => by cases h; exact .int _
  | .str _, _, h => by cases h; exact .str _
  | .list ds, _, h => by
    cases h with
    | lst a b c => exact .lst (Rd.mono s a) b (RpA.mono s ds _ c)
  | .tuple ds, _, h => by
    cases h with
    | tup a b c => exact .tup (s _ _ a) b (RpA.mono s ds _ c)
  | .dict kvs, _, h => by
    cases h with
    | dct a => exact .dct (s _ _ a)
    | dct1 i j a => exact .dct1 i j (s _ _ a)
    | dctN a b c d e => exact .dctN (s _ _ a) b c d (RpD.mono s _ _ e)
theorem RpA.mono {H H' : Hp} (s : Same H H') : ∀ (ds : List PyData) (vs : List V), RpA H vs ds → RpA H' vs ds
  | [], _, h => by cases h; exact .nil
  | d :: ds, _, h => by
    cases h with
    | cons a b => exact .cons (Rp.mono s d _ a) (RpA.mono s ds _ b)
theorem RpD.mono {H H' : Hp} (s : Same H H') : ∀ (kvs : List (PyData × PyData)) (xs : List (NestedKey × Addr × Value)), RpD H xs kvs → RpD H' xs kvs
  | [], _, h => by cases h; exact .nil
  | (dk, dv) :: kvs, _, h => by
    cases h with
    | cons a b c d e => exact .cons a (Rp.mono s dk _ b) c (Rp.mono s dv _ d) (RpD.mono s kvs _ e)
end
theorem Rp.up {H H' : Hp} {v : V} {d : PyData} (h : Rp H v d) (s : Same H H') : Rp H' v d := Rp.mono s d v h
theorem RpD.up {H H' : Hp} {v : List (NestedKey × Addr × Value)} {d : List (PyData × PyData)} (h : RpD H v d) (s : Same H H') : RpD H' v d := RpD.mono s d v h
theorem RpD.length {H : Hp} : ∀ {vs : List (NestedKey × Addr × Value)} {ds : List (PyData × PyData)}, RpD H vs ds → vs.length = ds.length
  | _, _, .nil => rfl
  | _, _, .cons _ _ _ _ t => by rw [List.length_cons, List.length_cons, RpD.length t]
theorem RpA.up {H H' : Hp} {v : List V} {d : List PyData} (h : RpA H v d) (s : Same H H') : RpA H' v d := RpA.mono s d v h
theorem RpA.length {H : Hp} : ∀ {vs : List V} {ds : List PyData}, RpA H vs ds → vs.length = ds.length
  | _, _, .nil => rfl
  | _, _, .cons _ t => by rw [List.length_cons, List.length_cons, RpA.length t]
theorem RpA.append {H : Hp} : ∀ {vs ws : List V} {ds es : List PyData}, RpA H vs ds → RpA H ws es → RpA H (vs ++ ws) (ds ++ es)
  | _, _, _, _, .nil, s => s
  | _, _, _, _, .cons r t, s => .cons r (RpA.append t s)
theorem RpA.get {H : Hp} : ∀ {vs : List V} {ds : List PyData} {i : Nat} {d : PyData}, RpA H vs ds → ds[i]? = some d → ∃ v, vs[i]? = some v ∧ Rp H v d
  | _, _, _, _, .nil, e => by simp at e
  | _, _, 0, _, .cons r _, e => by simp at e; subst e; exact ⟨_, rfl, r⟩
  | _, _, i + 1, d, .cons _ t, e => by
    obtain ⟨u, h1, h2⟩ := RpA.get (i := i) (d := d) t (by simpa using e)
    exact ⟨u, by simpa using h1, h2⟩
theorem RpA.getV {H : Hp} : ∀ {vs : List V} {ds : List PyData} {i : Nat} {v : V}, RpA H vs ds → vs[i]? = some v → ∃ d, ds[i]? = some d ∧ Rp H v d
  | _, _, _, _, .nil, e => by simp at e
  | _, _, 0, _, .cons r _, e => by simp at e; subst e; exact ⟨_, rfl, r⟩
  | _, _, i + 1, d, .cons _ t, e => by
    obtain ⟨u, h1, h2⟩ := RpA.getV (i := i) t (by simpa using e)
    exact ⟨u, by simpa using h1, h2⟩
theorem RpA.take {H : Hp} : ∀ {vs : List V} {ds : List PyData} (n : Nat), RpA H vs ds → RpA H (vs.take n) (ds.take n)
  | _, _, 0, _ => .nil
  | _, _, _ + 1, .nil => .nil
  | _, _, n + 1, .cons r t => .cons r (RpA.take n t)
theorem RpA.drop {H : Hp} : ∀ {vs : List V} {ds : List PyData} (n : Nat), RpA H vs ds → RpA H (vs.drop n) (ds.drop n)
  | _, _, 0, r => r
  | _, _, _ + 1, .nil => .nil
  | _, _, n + 1, .cons _ t => RpA.drop n t
theorem RpA.reverse {H : Hp} : ∀ {vs : List V} {ds : List PyData}, RpA H vs ds → RpA H vs.reverse ds.reverse
  | _, _, .nil => .nil
  | _, _, .cons r t => by
    rw [List.reverse_cons, List.reverse_cons]
    exact RpA.append (RpA.reverse t) (.cons r .nil)
theorem RpA.replicate {H : Hp} {vs : List V} {ds : List PyData} (h : RpA H vs ds) : ∀ n : Nat, RpA H (List.replicate n vs).flatten (List.replicate n ds).flatten
  | 0 => .nil
  | n + 1 => by
    rw [List.replicate_succ, List.replicate_succ, List.flatten_cons, List.flatten_cons]
    exact h.append (RpA.replicate h n)
section
variable {X : Cx} {pins : List (Addr × Obj)} {σ : L2.St} {H : Hp} {s : Shared}
theorem lstR (I : Inv X pins σ H s) {a : Addr} {xs : List V} (h : Rd H a (.lst xs)) : ∃ (its : List Value) (n : Nat), xs.length ≤ sizeLine ∧ Vals xs its ∧ s.heap.get? a = some { cls := .type "list", data := .seq its.toArray n } := by
  obtain ⟨z, its, n, r, e⟩ := h.ok I.hok
  exact ⟨its, n, z, r, e⟩
theorem tupR (I : Inv X pins σ H s) {a : Addr} {xs : List V} (h : H a = some (.tup xs)) : ∃ its : List Value, xs.length ≤ sizeLine ∧ Vals xs its ∧ IsTup s.heap a its.toArray := by
  obtain ⟨z, its, r, e⟩ := I.hok a _ h
  exact ⟨its, z, r, e⟩
mutual
theorem Rp.reads (I : Inv X pins σ H s) : ∀ (d : PyData) (v : V) (u : Value), Rp H v d → RelV v u → ∃ as, Reads s.heap u d as
  | .none, _, _, h, r => by
    cases h
    cases r
    exact ⟨_, Reads.none⟩
  | .bool b, _, _, h, r => by
    cases h
    cases r
    exact ⟨_, Reads.bool b⟩
  | .int i, _, _, h, r => by
    cases h
    obtain ⟨t, rfl⟩ := r
    exact ⟨_, Reads.int i t⟩
  | .str x, _, _, h, r => by
    cases h
    obtain ⟨t, rfl⟩ := r
    exact ⟨_, Reads.str x t⟩
  | .list ds, _, _, h, r => by
    cases h with
    | lst hs hl ha =>
      cases r
      obtain ⟨its, n, _, rv, ho⟩ := lstR I hs
      obtain ⟨as, hr⟩ := Rp.readsAll I ds _ its ha rv
      exact ⟨_, Reads.list ho rfl rfl hr⟩
  | .tuple ds, _, _, h, r => by
    cases h with
    | tup hs hl ha =>
      cases r
      obtain ⟨its, _, rv, ⟨o, ho, hc, n, hd⟩⟩ := tupR I hs
      obtain ⟨as, hr⟩ := Rp.readsAll I ds _ its ha rv
      exact ⟨_, Reads.tuple ho hc hd hr⟩
  | .dict kvs, _, _, h, r => by
    cases h with
    | dct ha =>
      cases r
      obtain ⟨_, _, vs, kv, o, es, ep, h1, h2, h3, h4, h5, h6⟩ := (show ObjOk X.prog X.w H s.heap _ (.dK []) from I.hok _ _ ha)
      have e0 : vs = [] := by
        cases kv
        rfl
      subst e0
      have e1 : es.toList = [] := by
        generalize es.toList = l at h5
        cases h5
        rfl
      refine ⟨_, Reads.dict (kvs := []) (as := []) (bs := []) h1 h2.1 h3 ?_ ?_⟩
      · rw [e1]; exact ReadsAll.nil
      · rw [e1]; exact ReadsAll.nil
    | dct1 i j ha =>
      cases r
      obtain ⟨_, _, vs, kv, o, es, ep, h1, h2, h3, h4, h5, h6⟩ := (show ObjOk X.prog X.w H s.heap _ (.dK [(.inl i, .int j)]) from I.hok _ _ ha)
      obtain ⟨v, e0, rv⟩ : ∃ v : Value, vs = [((.inl i : Key), v)] ∧ RelV (.int j) v := by
        cases kv with
        | cons h t =>
          cases t
          rename_i q
          obtain ⟨q1, q2⟩ := q
          obtain ⟨a1, a2⟩ := h
          have a1 : (.inl i : Key) = q1 := a1
          subst a1
          exact ⟨q2, rfl, a2⟩
      subst e0
      obtain ⟨t, rfl⟩ := rv
      obtain ⟨en, e1, e2, e3⟩ : ∃ en : DictEntry, es.toList = [en] ∧ keyIs (.inl i) en.key = true ∧ en.val = .int j t := by
        generalize es.toList = l at h5
        cases h5 with
        | cons k1 k2 k3 =>
          cases k3
          exact ⟨_, rfl, k1, k2⟩
      obtain ⟨t2, e4⟩ : ∃ t2, en.key = .int i t2 := by
        rcases keyIs_shape e2 with ⟨i2, t2, a1, a2⟩ | ⟨x, t2, a1, a2⟩
        · cases a1
          exact ⟨t2, a2⟩
        · cases a1
      refine ⟨_, Reads.dict (kvs := [(.int i, .int j)]) (as := []) (bs := []) h1 h2.1 h3 ?_ ?_⟩
      · rw [e1]
        show ReadsAll _ [en.key] [.int i] []
        rw [e4]
        exact ReadsAll.cons (Reads.int i t2) ReadsAll.nil
      · rw [e1]
        show ReadsAll _ [en.val] [.int j] []
        rw [e3]
        exact ReadsAll.cons (Reads.int j t) ReadsAll.nil
    | dctN ha od sy hl hr =>
      rename_i a o xs
      cases r
      obtain ⟨es, ep, ⟨o', e1, e2, e3⟩, e4, e5⟩ := od.raw X.w (show s.heap.get? a = some o from (I.hok _ _ ha).1)
      obtain ⟨as, bs, r1, r2⟩ := RpD.readsAll I kvs xs hr
      refine ⟨_, Reads.dict (kvs := kvs) (as := as) (bs := bs) e1 e2.1 e3 ?_ ?_⟩
      · rw [e5, List.map_map]; exact r1
      · rw [e5, List.map_map]; exact r2
theorem RpD.readsAll (I : Inv X pins σ H s) : ∀ (kvs : List (PyData × PyData)) (xs : List (NestedKey × Addr × Value)), RpD H xs kvs → ∃ as bs, ReadsAll s.heap (xs.map fun x => Value.ref x.2.1) (kvs.map (·.1)) as ∧ ReadsAll s.heap (xs.map fun x => x.2.2) (kvs.map (·.2)) bs
  | [], _, h => by
    cases h
    exact ⟨_, _, ReadsAll.nil, ReadsAll.nil⟩
  | (dk, dv) :: kvs, _, h => by
    cases h with
    | cons h1 h2 h3 h4 h5 =>
      obtain ⟨as, q1⟩ := Rp.reads I dk _ _ h2 rfl
      obtain ⟨bs, q2⟩ := Rp.reads I dv _ _ h4 h3
      obtain ⟨as', bs', q3, q4⟩ := RpD.readsAll I kvs _ h5
      exact ⟨_, _, ReadsAll.cons q1 q3, ReadsAll.cons q2 q4⟩
theorem Rp.readsAll (I : Inv X pins σ H s) : ∀ (ds : List PyData) (vs : List V) (us : List Value), RpA H vs ds → Vals vs us → ∃ as, ReadsAll s.heap us ds as
  | [], _, _, h, r => by
    cases h
    cases r
    exact ⟨_, ReadsAll.nil⟩
  | d :: ds, _, _, h, r => by
    cases h with
    | cons h1 h2 =>
      cases r with
      | cons r1 r2 =>
        obtain ⟨as, q1⟩ := Rp.reads I d _ _ h1 r1
        obtain ⟨bs, q2⟩ := Rp.readsAll I ds _ _ h2 r2
        exact ⟨_, ReadsAll.cons q1 q2⟩
end
end
/-! ### a heap without some addresses -/
def hd (H : Hp) (O : List Addr) : Hp := fun a => if a ∈ O then none else H a
theorem hd_out {H : Hp} {O : List Addr} {a : Addr} (h : a ∉ O) : hd H O a = H a := by unfold hd; rw [if_neg h]
theorem hd_in {H : Hp} {O : List Addr} {a : Addr} (h : a ∈ O) : hd H O a = none := by unfold hd; rw [if_pos h]
theorem hd_some {H : Hp} {O : List Addr} {a : Addr} {o : HO} (h : hd H O a = some o) : a ∉ O ∧ H a = some o := by
  by_cases q : a ∈ O
  · rw [hd_in q] at h; cases h
  · rw [hd_out q] at h; exact ⟨q, h⟩
theorem hd_nil (H : Hp) : hd H [] = H := by
  funext a
  exact hd_out (by simp)
theorem hd_same (H : Hp) (O : List Addr) : Same (hd H O) H := fun _ _ h => (hd_some h).2
theorem hd_sub {H : Hp} {O O' : List Addr} (h : ∀ a, a ∈ O' → a ∈ O) : Same (hd H O) (hd H O') := fun a o e => by
  obtain ⟨h1, h2⟩ := hd_some e
  rw [hd_out fun z => h1 (h a z)]
  exact h2
theorem hd_mono {H H' : Hp} {O : List Addr} (h : ∀ a o, a ∉ O → H a = some o → H' a = some o) : Same (hd H O) (hd H' O) := fun a o e => by
  obtain ⟨h1, h2⟩ := hd_some e
  rw [hd_out h1]
  exact h a o h1 h2
theorem same_hd {H H' : Hp} {O : List Addr} (s : Same H H') : Same (hd H O) (hd H' O) := hd_mono fun a o _ e => s a o e
theorem same_new {H : Hp} {p : Addr} {o : HO} (h : H p = none) : Same H (upd H p o) := fun b x e => by
  rw [upd_ne (ne_of_none e h)]
  exact e
/-! ### what a slot holds -/
/-- what may change: an owned list, an owned dict, the drawing state -/
inductive MO where
  | lst (xs : List PyData)
  | dct (kvs : List (PyData × PyData))
  | st
inductive SV where
  | d (x : PyData)
  | m (o : MO)
  | scr (ns : List Int)
abbrev SEnv := List (Option SV)
/-- the same with addresses -/
inductive DV where
  | d (x : PyData)
  | m (a : Addr) (o : MO)
  | scr (a : Addr) (ns : List Int)
abbrev DEnv := List (Option DV)
def DV.er : DV → SV
  | .d x => .d x
  | .m _ o => .m o
  | .scr _ ns => .scr ns
def er (r : DEnv) : SEnv := r.map (Option.map DV.er)
theorem er_len (r : DEnv) : (er r).length = r.length := by unfold er; rw [List.length_map]
theorem er_set (r : DEnv) (i : Nat) (x : Option DV) : er (r.set i x) = (er r).set i (x.map DV.er) := by unfold er; rw [List.map_set]
theorem er_get (r : DEnv) (i : Nat) : (er r)[i]? = (r[i]?).map (Option.map DV.er) := by unfold er; rw [List.getElem?_map]
theorem er_d {r : DEnv} {i : Nat} {x : PyData} (h : (er r)[i]? = some (some (.d x))) : r[i]? = some (some (.d x)) := by
  rw [er_get] at h
  cases q : r[i]? with
  | none => rw [q] at h; cases h
  | some o =>
    rw [q] at h
    cases o with
    | none => cases h
    | some y =>
      cases y with
      | d z => cases h; rfl
      | m a o => cases h
      | scr a ns => cases h
theorem er_m {r : DEnv} {i : Nat} {o : MO} (h : (er r)[i]? = some (some (.m o))) : ∃ a, r[i]? = some (some (.m a o)) := by
  rw [er_get] at h
  cases q : r[i]? with
  | none => rw [q] at h; cases h
  | some u =>
    rw [q] at h
    cases u with
    | none => cases h
    | some y =>
      cases y with
      | d z => cases h
      | m a o => cases h; exact ⟨a, rfl⟩
      | scr a ns => cases h
theorem er_scr {r : DEnv} {i : Nat} {ns : List Int} (h : (er r)[i]? = some (some (.scr ns))) : ∃ a, r[i]? = some (some (.scr a ns)) := by
  rw [er_get] at h
  cases q : r[i]? with
  | none => rw [q] at h; cases h
  | some u =>
    rw [q] at h
    cases u with
    | none => cases h
    | some y =>
      cases y with
      | d z => cases h
      | m a o => cases h
      | scr a ns => cases h; exact ⟨a, rfl⟩
def adr : DV → Option Addr
  | .m a _ => some a
  | _ => none
def oA (r : DEnv) : List Addr := r.filterMap fun x => x.bind adr
theorem mem_oA {a : Addr} {r : DEnv} : a ∈ oA r ↔ ∃ (i : Nat) (o : MO), r[i]? = some (some (.m a o)) := by
  unfold oA
  rw [List.mem_filterMap]
  constructor
  · rintro ⟨x, hx, e⟩
    obtain ⟨i, hi⟩ := List.mem_iff_getElem?.mp hx
    cases x with
    | none => cases e
    | some y =>
      cases y with
      | d z => cases e
      | scr b ns => cases e
      | m b o =>
        have e' : some b = some a := e
        cases e'
        exact ⟨i, o, hi⟩
  · rintro ⟨i, o, h⟩
    exact ⟨_, List.mem_iff_getElem?.mpr ⟨i, h⟩, rfl⟩
/-- the drawing state: a list of a number and a truth -/
def StOk (H : Hp) (a : Addr) : Prop := ∃ (x : Int) (b : Bool), H a = some (.lst [.int x, .bl b]) ∧ 0 ≤ x ∧ (b = false → x < 2147483647)
theorem StOk.ne {H : Hp} {a : Addr} (h : StOk H a) : H a ≠ none := by
  obtain ⟨x, b, e, _⟩ := h
  rw [e]
  simp
theorem StOk.keep {H H' : Hp} {a : Addr} (h : StOk H a) (k : ∀ o, H a = some o → H' a = some o) : StOk H' a := by
  obtain ⟨x, b, e, q⟩ := h
  exact ⟨x, b, k _ e, q⟩
/-- objects that callers share: drawing states, tables of code objects -/
inductive SK where
  | dr
  | tab (q : Str)
def SInv (H : Hp) : Addr × SK → Prop
  | (a, .dr) => StOk H a
  | (a, .tab q) => LamX.TabS H a q
theorem SInv.obj {H : Hp} {s : Addr × SK} (h : SInv H s) : (∃ vs, H s.1 = some (.lst vs)) ∨ ∃ ps, H s.1 = some (.tbl ps) := by
  obtain ⟨a, k⟩ := s
  cases k with
  | dr =>
    obtain ⟨x, b, e, _⟩ := (show StOk H a from h)
    exact .inl ⟨_, e⟩
  | tab q =>
    obtain ⟨ps, e, _⟩ := (show LamX.TabS H a q from h)
    exact .inr ⟨ps, e⟩
theorem SInv.ne {H : Hp} {s : Addr × SK} (h : SInv H s) : H s.1 ≠ none := by
  rcases h.obj with ⟨vs, e⟩ | ⟨ps, e⟩ <;> (rw [e]; simp)
theorem SInv.mono {H H' : Hp} {s : Addr × SK} (h : SInv H s) (k : Same H H') : SInv H' s := by
  obtain ⟨a, t⟩ := s
  cases t with
  | dr => exact StOk.keep (show StOk H a from h) fun o e => k _ _ e
  | tab q => exact LamX.TabS.ext (show LamX.TabS H a q from h) k
/-- an object that is no code object is changed elsewhere -/
theorem SInv.upd {H : Hp} {s : Addr × SK} {a : Addr} {o u : HO} (h : SInv H s) (e : H a = some o) (n : ∀ c q, o ≠ LamX.CodeO c q) (ne : s.1 ≠ a) : SInv (upd H a u) s := by
  obtain ⟨b, t⟩ := s
  cases t with
  | dr => exact StOk.keep (show StOk H b from h) fun o e => by rw [upd_ne ne]; exact e
  | tab q =>
    obtain ⟨ps, h1, h2, h3⟩ := (show LamX.TabS H b q from h)
    refine ⟨ps, by rw [upd_ne ne]; exact h1, h2, fun pos cv hc => ?_⟩
    obtain ⟨c, e1, e2⟩ := h3 pos cv hc
    refine ⟨c, e1, ?_⟩
    rw [upd_ne]
    · exact e2
    · rintro rfl
      rw [e] at e2
      exact n _ _ (Option.some.inj e2)
def MOk (H : Hp) (Os : List Addr) (a : Addr) : MO → Prop
  | .lst xs => ∃ vs, H a = some (.lst vs) ∧ vs.length ≤ sizeLine ∧ RpA (hd H Os) vs xs
  | .dct kvs => ∃ o xs, H a = some (OB a o) ∧ DictObj o xs ∧ (a == sysModules) = false ∧ xs.length ≤ sizeLine ∧ RpD (hd H Os) xs kvs
  | .st => StOk H a
theorem MOk.keep {H H' : Hp} {Os Os' : List Addr} {a : Addr} {o : MO} (h : MOk H Os a o) (k : ∀ u, H a = some u → H' a = some u) (s : Same (hd H Os) (hd H' Os')) : MOk H' Os' a o := by
  cases o with
  | lst xs =>
    obtain ⟨vs, h1, h2, h3⟩ := h
    exact ⟨vs, k _ h1, h2, h3.up s⟩
  | dct kvs =>
    obtain ⟨o, xs, h1, h2, h3, h4, h5⟩ := h
    exact ⟨o, xs, k _ h1, h2, h3, h4, h5.up s⟩
  | st => exact StOk.keep h k
theorem MOk.ne {H : Hp} {Os : List Addr} {a : Addr} {o : MO} (h : MOk H Os a o) : H a ≠ none := by
  cases o with
  | lst xs => obtain ⟨vs, h1, _⟩ := h; rw [h1]; simp
  | dct xs => obtain ⟨_, _, h1, _⟩ := h; rw [h1]; simp
  | st => exact StOk.ne h
/-- a dict is no code object -/
theorem ob_code {a c : Addr} {o : Obj} {q : Str} {es : Array DictEntry} {ep : Nat} (d : o.data = .dict es ep) : OB a o ≠ LamX.CodeO c q := by
  intro e
  unfold OB LamX.CodeO at e
  have e1 := congrFun (HO.ext.inj e) { objs := Array.replicate (a + 1) o }
  have gg : ∀ b u, ({ objs := Array.replicate (a + 1) o } : Heap).get? b = some u → u = o := fun b u z => by
    unfold Heap.get? at z
    split at z
    · cases z
    · rw [Array.getElem?_replicate] at z
      split at z
      · cases z; rfl
      · cases z
  have g0 : ({ objs := Array.replicate (a + 1) o } : Heap).get? a = some o := by
    unfold Heap.get?
    have e2 : (Array.replicate (a + 1) o)[a]? = some o := by rw [Array.getElem?_replicate, if_pos (Nat.lt_succ_self a)]
    rw [e2]
    obtain ⟨c1, c2, c3, c4⟩ := o
    have d : c3 = .dict es ep := d
    subst d
    rfl
  have g1 := e1.mp g0
  obtain ⟨oc, vs, t, h1, h2, _⟩ := g1
  rw [gg _ _ h1, d] at h2
  cases h2
theorem MOk.noext {H : Hp} {Os : List Addr} {a : Addr} {o : MO} (h : MOk H Os a o) : ∃ u, H a = some u ∧ ∀ c q, u ≠ LamX.CodeO c q := by
  cases o with
  | lst xs => obtain ⟨vs, h1, _⟩ := h; exact ⟨_, h1, fun c q z => by unfold LamX.CodeO at z; cases z⟩
  | dct xs => obtain ⟨o, _, h1, h2, _⟩ := h; exact ⟨_, h1, fun c q => by obtain ⟨es, ep, d, _⟩ := h2.2.2; exact ob_code d⟩
  | st => obtain ⟨x, b, h1, _⟩ := h; exact ⟨_, h1, fun c q z => by unfold LamX.CodeO at z; cases z⟩
/-- the script -/
def ScrOk (K : PySem.W.Frag) (H : Hp) (a : Addr) (ns : List Int) : Prop := (∃ o, H a = some (.frz o (.lst (ns.map V.int)))) ∨
  ∃ (o : Obj) (its : Array Value) (n : Nat), K.lookup a = some o ∧ o.cls = .type "list" ∧ o.dict = none ∧ o.data = .seq its n ∧ its.size ≤ sizeLine ∧ Vals (ns.map V.int) its.toList
theorem ScrOk.sq {K : PySem.W.Frag} {H : Hp} {a : Addr} {ns : List Int} (h : ScrOk K H a ns) : SqL K H a (ns.map V.int) := by
  rcases h with ⟨o, h⟩ | h
  · exact .inl (.inr ⟨o, h⟩)
  · exact .inr h
theorem ScrOk.keep {K : PySem.W.Frag} {H H' : Hp} {a : Addr} {ns : List Int} (h : ScrOk K H a ns) (k : ∀ o u, H a = some (.frz o u) → H' a = some (.frz o u)) : ScrOk K H' a ns := by
  rcases h with ⟨o, h⟩ | h
  · exact .inl ⟨o, k _ _ h⟩
  · exact .inr h
structure Cfg where
  K : PySem.W.Frag
  n : Nat
  O : List Addr
  H_0 : Hp
  S : List (Addr × SK)
def RepV (K : PySem.W.Frag) (H : Hp) (Os : List Addr) : V → DV → Prop
  | v, .d x => Rp (hd H Os) v x
  | v, .m a o => v = .ref a ∧ MOk H Os a o
  | v, .scr a ns => v = .ref a ∧ ScrOk K H a ns
/-- the shared objects: the callers', the drawing states of the slots -/
def sA (r : DEnv) : List (Addr × SK) := r.filterMap fun x => match x with
  | some (.m a .st) => some (a, .dr)
  | _ => none
theorem mem_sA {s : Addr × SK} {r : DEnv} : s ∈ sA r ↔ s.2 = .dr ∧ ∃ i : Nat, r[i]? = some (some (.m s.1 .st)) := by
  unfold sA
  rw [List.mem_filterMap]
  obtain ⟨a, k⟩ := s
  constructor
  · rintro ⟨x, hx, e⟩
    obtain ⟨i, hi⟩ := List.mem_iff_getElem?.mp hx
    split at e
    · cases e
      exact ⟨rfl, i, hi⟩
    · cases e
  · rintro ⟨e, i, h⟩
    have e' : k = .dr := e
    subst e'
    exact ⟨_, List.mem_iff_getElem?.mpr ⟨i, h⟩, rfl⟩
def sh (C : Cfg) (r : DEnv) : List (Addr × SK) := C.S ++ sA r
def Shared_ (C : Cfg) (r : DEnv) (a : Addr) : Prop := ∃ k, (a, k) ∈ sh C r
structure RepE (C : Cfg) (σ : L2.St) (H : Hp) (r : DEnv) : Prop where
  lenS : σ.length = C.n
  len : r.length = C.n
  slot : ∀ (i : Nat) (x : DV), r[i]? = some (some x) → ∃ v, σ[i]? = some (some v) ∧ RepV C.K H (C.O ++ oA r) v x
  sep : ∀ (i : Nat) (a : Addr) (o : MO), r[i]? = some (some (.m a o)) → o ≠ .st → a ∉ C.O ∧ ∀ (j : Nat) (y : DV), j ≠ i → r[j]? = some (some y) → adr y ≠ some a
  dom : ∀ a ∈ C.O, H a ≠ none
  ext : ∀ a o, (∀ k, (a, k) ∉ C.S) → C.H_0 a = some o → H a = some o
  ownf : ∀ (i : Nat) (a : Addr) (o : MO), r[i]? = some (some (.m a o)) → o ≠ .st → C.H_0 a = none
  stf : ∀ (i : Nat) (a : Addr), r[i]? = some (some (.m a .st)) → (a, .dr) ∈ C.S ∨ (C.H_0 a = none ∧ a ∉ C.O)
  sto : ∀ s ∈ C.S, SInv H s
  szo : ∀ s ∈ C.S, s.1 ∈ C.O ∧ C.H_0 s.1 ≠ none
/-- how the heap may change while an expression is evaluated -/
def Gr (C : Cfg) (r : DEnv) (H H' : Hp) : Prop := (∀ a o, (∀ k, (a, k) ∉ sh C r) → H a = some o → H' a = some o) ∧ ∀ s ∈ sh C r, SInv H' s
section
variable {C : Cfg} {σ : L2.St} {H H' H1 H2 : Hp} {r : DEnv}
theorem RepE.shI (R : RepE C σ H r) : ∀ s ∈ sh C r, SInv H s := fun s hs => by
  rcases List.mem_append.mp hs with h | h
  · exact R.sto s h
  · obtain ⟨e, i, q⟩ := mem_sA.mp h
    obtain ⟨v, _, _, z⟩ := R.slot i _ q
    obtain ⟨a, k⟩ := s
    have e' : k = .dr := e
    subst e'
    exact z
theorem Gr.of_same (R : RepE C σ H r) (s : Same H H') : Gr C r H H' := ⟨fun a o _ e => s a o e, fun x hx => (R.shI x hx).mono s⟩
theorem Gr.refl (R : RepE C σ H r) : Gr C r H H := Gr.of_same R (Same.refl H)
theorem Gr.trans (a : Gr C r H H1) (b : Gr C r H1 H2) : Gr C r H H2 := ⟨fun x o n e => b.1 x o n (a.1 x o n e), b.2⟩
theorem Gr.then_same (a : Gr C r H H1) (b : Same H1 H2) : Gr C r H H2 := ⟨fun x o n e => b x o (a.1 x o n e), fun x h => (a.2 x h).mono b⟩
/-- shared addresses are among those that data don't name -/
theorem RepE.shO (R : RepE C σ H r) {a : Addr} {k : SK} (h : (a, k) ∈ sh C r) : a ∈ C.O ++ oA r := by
  rcases List.mem_append.mp h with h | h
  · exact List.mem_append_left _ (R.szo _ h).1
  · obtain ⟨_, i, q⟩ := mem_sA.mp h
    exact List.mem_append_right _ (mem_oA.mpr ⟨i, _, q⟩)
theorem Gr.hd (R : RepE C σ H r) (g : Gr C r H H') : Same (DP.hd H (C.O ++ oA r)) (DP.hd H' (C.O ++ oA r)) := hd_mono fun a o ho e => g.1 a o (fun k z => ho (R.shO z)) e
/-- an owned object is not shared -/
theorem RepE.ownN (R : RepE C σ H r) {i : Nat} {a : Addr} {o : MO} (e : r[i]? = some (some (.m a o))) (n : o ≠ .st) : ∀ k, (a, k) ∉ sh C r := fun k h => by
  rcases List.mem_append.mp h with h | h
  · exact (R.sep i a o e n).1 (R.szo _ h).1
  · obtain ⟨_, j, q⟩ := mem_sA.mp h
    by_cases hj : j = i
    · subst hj
      rw [e] at q
      cases q
      exact n rfl
    · exact (R.sep i a o e n).2 j _ hj q rfl
theorem RepE.keepM (R : RepE C σ H r) (g : Gr C r H H') {i : Nat} {a : Addr} {o : MO} (e : r[i]? = some (some (.m a o))) : MOk H' (C.O ++ oA r) a o := by
  obtain ⟨v, _, _, z⟩ := R.slot i _ e
  by_cases n : o = .st
  · subst n
    exact g.2 (a, .dr) (List.mem_append_right _ (mem_sA.mpr ⟨rfl, i, e⟩))
  · exact z.keep (fun u q => g.1 a u (R.ownN e n) q) (g.hd R)
theorem RepE.grow (R : RepE C σ H r) (g : Gr C r H H') : RepE C σ H' r where
  lenS := R.lenS
  len := R.len
  slot := fun i x e => by
    obtain ⟨v, h1, h2⟩ := R.slot i x e
    refine ⟨v, h1, ?_⟩
    cases x with
    | d y => exact Rp.up h2 (g.hd R)
    | m a o => exact ⟨h2.1, R.keepM g e⟩
    | scr a ns =>
      refine ⟨h2.1, h2.2.keep fun o u q => g.1 a _ (fun k z => ?_) q⟩
      rcases (R.shI _ z).obj with ⟨vs, w⟩ | ⟨ps, w⟩
      · rw [q] at w; cases w
      · rw [q] at w; cases w
  sep := R.sep
  dom := fun a ha => by
    by_cases h : ∃ k, (a, k) ∈ sh C r
    · obtain ⟨k, h⟩ := h
      exact (g.2 _ h).ne
    · intro z
      cases q : H a with
      | none => exact R.dom a ha q
      | some o => rw [g.1 a o (fun k z => h ⟨k, z⟩) q] at z; cases z
  ext := fun a o hn e => by
    refine g.1 a o (fun k z => ?_) (R.ext a o hn e)
    rcases List.mem_append.mp z with h | h
    · exact hn k h
    · obtain ⟨_, j, q⟩ := mem_sA.mp h
      rcases R.stf j a q with w | ⟨w, _⟩
      · exact hn _ w
      · rw [w] at e; cases e
  ownf := R.ownf
  stf := R.stf
  sto := fun s hs => g.2 s (List.mem_append_left _ hs)
  szo := R.szo
theorem RepE.domA (R : RepE C σ H r) : ∀ a ∈ C.O ++ oA r, H a ≠ none := fun a ha => by
  rcases List.mem_append.mp ha with h | h
  · exact R.dom a h
  · obtain ⟨i, o, e⟩ := mem_oA.mp h
    obtain ⟨v, _, _, z⟩ := R.slot i _ e
    exact z.ne
theorem RepE.fresh (R : RepE C σ H r) {p : Addr} (h : H p = none) : p ∉ C.O ++ oA r := fun z => R.domA p z h
theorem RepE.h0 (R : RepE C σ H r) {a : Addr} (h : H a = none) : C.H_0 a = none := by
  cases q : C.H_0 a with
  | none => rfl
  | some o =>
    have hs : ∀ k, (a, k) ∉ C.S := fun k z => (R.sto _ z).ne h
    rw [R.ext a o hs q] at h
    cases h
/-- what stood at the entry, outside of O, is data still -/
theorem RepE.base (R : RepE C σ H r) : Same (DP.hd C.H_0 C.O) (DP.hd H (C.O ++ oA r)) := fun a o e => by
  obtain ⟨h1, h2⟩ := hd_some e
  have hs : ∀ k, (a, k) ∉ C.S := fun k z => h1 (R.szo _ z).1
  have h3 := R.ext a o hs h2
  rw [hd_out]
  · exact h3
  · intro z
    rcases List.mem_append.mp z with z | z
    · exact h1 z
    · obtain ⟨i, y, e'⟩ := mem_oA.mp z
      by_cases n : y = .st
      · subst n
        rcases R.stf i a e' with w | w
        · exact hs _ w
        · rw [w.1] at h2; cases h2
      · rw [R.ownf i a y e' n] at h2; cases h2
theorem Gr.none (R : RepE C σ H r) (g : Gr C r H H') {p : Addr} (h : H' p = none) : H p = none := by
  by_cases z : ∃ k, (p, k) ∈ sh C r
  · obtain ⟨k, z⟩ := z
    exact absurd h (g.2 _ z).ne
  · cases q : H p with
    | none => rfl
    | some o => rw [g.1 p o (fun k w => z ⟨k, w⟩) q] at h; cases h
/-- the same from here on: what stands now stays, but for what may change -/
def Cfg.at (C : Cfg) (H : Hp) (r : DEnv) : Cfg := { C with H_0 := fun a => if a ∈ oA r ∧ a ∉ C.S.map Prod.fst then none else H a }
theorem notS {a : Addr} : a ∉ C.S.map Prod.fst ↔ ∀ k, (a, k) ∉ C.S := by
  constructor
  · intro h k z
    exact h (List.mem_map.mpr ⟨_, z, rfl⟩)
  · intro h z
    obtain ⟨⟨b, k⟩, z', e⟩ := List.mem_map.mp z
    have e' : b = a := e
    subst e'
    exact h k z'
theorem at_eq (a : Addr) : (C.at H r).H_0 a = if a ∈ oA r ∧ a ∉ C.S.map Prod.fst then none else H a := rfl
theorem at_out {a : Addr} (h : a ∉ oA r) : (C.at H r).H_0 a = H a := by
  rw [at_eq, if_neg fun z => h z.1]
theorem at_sh {a : Addr} {k : SK} (h : (a, k) ∈ C.S) : (C.at H r).H_0 a = H a := by
  rw [at_eq, if_neg fun z => notS.mp z.2 k h]
theorem at_own {a : Addr} (h : a ∈ oA r) (n : ∀ k, (a, k) ∉ C.S) : (C.at H r).H_0 a = Option.none := by
  rw [at_eq, if_pos ⟨h, notS.mpr n⟩]
theorem RepE.toAt (R : RepE C σ H r) : RepE (C.at H r) σ H r where
  lenS := R.lenS
  len := R.len
  slot := R.slot
  sep := R.sep
  dom := R.dom
  ext := fun a o _ e => by
    by_cases h : a ∈ oA r ∧ a ∉ C.S.map Prod.fst
    · rw [at_own h.1 (notS.mp h.2)] at e; cases e
    · have z : (C.at H r).H_0 a = H a := by
        rw [at_eq, if_neg h]
      rw [← z]
      exact e
  ownf := fun i a o e n => at_own (mem_oA.mpr ⟨i, o, e⟩) fun k z => (R.sep i a o e n).1 (R.szo _ z).1
  stf := fun i a e => by
    rcases R.stf i a e with h | h
    · exact .inl h
    · exact .inr ⟨at_own (mem_oA.mpr ⟨i, _, e⟩) fun k z => h.2 (R.szo _ z).1, h.2⟩
  sto := R.sto
  szo := fun s hs => ⟨(R.szo s hs).1, by
    rw [at_sh (C := C) (k := s.2) hs]
    exact (R.sto s hs).ne⟩
theorem RepE.at_ge (R : RepE C σ H r) {a : Addr} {o : HO} (hs : ∀ k, (a, k) ∉ C.S) (e : C.H_0 a = some o) : (C.at H r).H_0 a = some o := by
  rw [at_out]
  · exact R.ext a o hs e
  · intro h
    obtain ⟨i, y, q⟩ := mem_oA.mp h
    by_cases n : y = .st
    · subst n
      rcases R.stf i a q with w | w
      · exact hs _ w
      · rw [w.1] at e; cases e
    · rw [R.ownf i a y q n] at e; cases e
theorem RepE.ofAt (R : RepE C σ H r) {σ' : L2.St} {H' : Hp} {r' : DEnv} (R' : RepE (C.at H r) σ' H' r') : RepE C σ' H' r' where
  lenS := R'.lenS
  len := R'.len
  slot := R'.slot
  sep := R'.sep
  dom := R'.dom
  ext := fun a o hn e => R'.ext a o hn (R.at_ge hn e)
  ownf := fun i a o e n => by
    cases q : C.H_0 a with
    | none => rfl
    | some u =>
      have hs : ∀ k, (a, k) ∉ C.S := fun k z => (R'.sep i a o e n).1 (R.szo _ z).1
      have w := R'.ownf i a o e n
      rw [R.at_ge hs q] at w
      cases w
  stf := fun i a e => by
    rcases R'.stf i a e with h | ⟨h1, h2⟩
    · exact .inl h
    · refine .inr ⟨?_, h2⟩
      cases q : C.H_0 a with
      | none => rfl
      | some u =>
        have hs : ∀ k, (a, k) ∉ C.S := fun k z => h2 (R.szo _ z).1
        rw [R.at_ge hs q] at h1
        cases h1
  sto := R'.sto
  szo := R.szo
/-- data of now are data at any later time -/
theorem RepE.later (R : RepE C σ H r) {σ' : L2.St} {H' : Hp} {r' : DEnv} (R' : RepE (C.at H r) σ' H' r') : Same (DP.hd H (C.O ++ oA r)) (DP.hd H' (C.O ++ oA r')) := fun a o e => by
  obtain ⟨h1, h2⟩ := hd_some e
  refine R'.base a o ?_
  have h3 : a ∉ (C.at H r).O := fun z => h1 (List.mem_append_left _ z)
  rw [hd_out h3, at_out fun z => h1 (List.mem_append_right _ z)]
  exact h2
end
end DP

end
section
set_option Elab.async false
set_option linter.all false
set_option maxRecDepth 100000
set_option autoImplicit false
namespace DP
open PySem PySem.Spec PyProof.Rows L2
/-! ### readings over data -/
abbrev TD := SEnv → (PyData → Prop) → Prop
abbrev TTD := SEnv → (Bool → Prop) → Prop
abbrev TAD := SEnv → (List PyData → Prop) → Prop
def up (C : Cfg) (t : TD) : TE := fun σ H Q => ∃ (r : DEnv) (Q' : PyData → Prop), RepE C σ H r ∧ t (er r) Q' ∧ ∀ v H' x, Gr C r H H' → Rp (hd H' (C.O ++ oA r)) v x → Q' x → Q v H'
def upT (C : Cfg) (t : TTD) : TT := fun σ H Q => ∃ (r : DEnv) (Q' : Bool → Prop), RepE C σ H r ∧ t (er r) Q' ∧ ∀ b H', Gr C r H H' → Q' b → Q b H'
def upA (C : Cfg) (t : TAD) : TA := fun σ H Q => ∃ (r : DEnv) (Q' : List PyData → Prop), RepE C σ H r ∧ t (er r) Q' ∧ ∀ vs H' xs, Gr C r H H' → RpA (hd H' (C.O ++ oA r)) vs xs → Q' xs → Q vs H'
/-- a new list that nothing else holds -/
def upF (C : Cfg) (t : TAD) : TE := fun σ H Q => ∃ (r : DEnv) (Q' : List PyData → Prop), RepE C σ H r ∧ t (er r) Q' ∧ ∀ a H' vs xs, Gr C r H H' → H a = none → H' a = some (.lst vs) → vs.length ≤ sizeLine → RpA (hd H' (a :: (C.O ++ oA r))) vs xs → Q' xs → Q (.ref a) H'
def PD (X : Cx) (C : Cfg) (e : Expr) (t : TD) : Prop := PE X e (up C t)
def PDT (X : Cx) (C : Cfg) (e : Expr) (t : TTD) : Prop := PT X e (upT C t)
def PDW (X : Cx) (C : Cfg) (e : Expr) (t : TTD) : Prop := PW X e (upT C t)
def PDA (X : Cx) (C : Cfg) (es : List Expr) (t : TAD) : Prop := PA X es (upA C t)
def PF (X : Cx) (C : Cfg) (e : Expr) (t : TAD) : Prop := PE X e (upF C t)
section
variable {X : Cx} {C : Cfg} {e a b : Expr} {es : List Expr} {pos : Pos}
theorem PE_imp {t u : TE} (h : PE X e t) (q : ∀ σ H Q, u σ H Q → t σ H Q) : PE X e u := ⟨fun pins s σ H Q I hw => h.run pins s σ H Q I (q σ H Q hw)⟩
theorem PT_imp {t u : TT} (h : PT X e t) (q : ∀ σ H Q, u σ H Q → t σ H Q) : PT X e u := ⟨fun pins s σ H Q I hw => h.run pins s σ H Q I (q σ H Q hw)⟩
theorem PW_imp {t u : TT} (h : PW X e t) (q : ∀ σ H Q, u σ H Q → t σ H Q) : PW X e u := ⟨fun w pins s σ H Q I hw => h.run w pins s σ H Q I (q σ H Q hw)⟩
theorem PA_imp {t u : TA} (h : PA X es t) (q : ∀ σ H Q, u σ H Q → t σ H Q) : PA X es u := ⟨fun p pins s σ H Q I hw => h.run p pins s σ H Q I (q σ H Q hw)⟩
theorem PS_imp {st : Stmt} {t u : TS} (h : PS X st t) (q : ∀ D σ H, u D σ H → t D σ H) : PS X st u := ⟨fun pins s σ H D I hw => h.run pins s σ H D I (q D σ H hw)⟩
theorem PSs_imp {st : List Stmt} {t u : TS} (h : PSs X st t) (q : ∀ D σ H, u D σ H → t D σ H) : PSs X st u := ⟨fun pins s σ H D I hw => h.run pins s σ H D I (q D σ H hw)⟩
theorem new_hd {σ : L2.St} {H : Hp} {r : DEnv} (R : RepE C σ H r) {p : Addr} {o : HO} (h : H p = none) : hd (upd H p o) (C.O ++ oA r) p = some o := by
  rw [hd_out (R.fresh h), upd_same]
/-! ### names, constants -/
def dVar (i : Nat) : TD := fun r Q => match r[i]? with
  | some (some (.d x)) => Q x
  | _ => False
theorem dVar_get {i : Nat} {r : DEnv} {Q : PyData → Prop} (h : dVar i (er r) Q) : ∃ x, r[i]? = some (some (DV.d x)) ∧ Q x := by
  unfold dVar at h
  split at h
  · rename_i x e
    exact ⟨x, er_d e, h⟩
  · exact h.elim
def dC (x : PyData) : TD := fun _ Q => Q x
theorem pd_var (i : Nat) {x : Str} (hN : X.N[i]? = some x := by rfl) (hv : Vis X.env.scope x := by first | exact Or.inl rfl | exact Or.inr (Or.inl rfl) | exact Or.inr (Or.inr rfl)) (hd' : (x == ("__debug__" : Str)) = false := by decide)
    (hcd : (x == ("__classdict__" : Str)) = false := by decide) : PD X C (.Name x pos) (dVar i) := by
  refine PE_imp (pe_var hN hv hd' hcd) ?_
  rintro σ H Q ⟨r, Q', R, w, k⟩
  obtain ⟨x, e1, q⟩ := dVar_get w
  obtain ⟨v, e2, h⟩ := R.slot i _ e1
  exact ⟨v, e2, k v H x (Gr.refl R) h q⟩
theorem pd_int {i : Int} {j : Nat} : PD X C (.Constant (.int i) j pos) (dC (.int i)) := PE_imp pe_int fun σ H Q ⟨r, Q', R, q, k⟩ => k _ H _ (Gr.refl R) (.int i) q
theorem pd_bl {i : Bool} {j : Nat} : PD X C (.Constant (.bool i) j pos) (dC (.bool i)) := PE_imp pe_bl fun σ H Q ⟨r, Q', R, q, k⟩ => k _ H _ (Gr.refl R) (.bl i) q
theorem pd_non {j : Nat} : PD X C (.Constant .none j pos) (dC .none) := PE_imp pe_non fun σ H Q ⟨r, Q', R, q, k⟩ => k _ H _ (Gr.refl R) .non q
theorem pd_str {i : Str} {j : Nat} : PD X C (.Constant (.str i) j pos) (dC (.str i)) := PE_imp pe_str fun σ H Q ⟨r, Q', R, q, k⟩ => k _ H _ (Gr.refl R) (.str i) q
/-- a module's constant that is a number or a text -/
theorem pd_globI {x : Str} {u : Value} {i : Int} (hg : Gl X x) (hm : X.mg x = some u) (rv : RelV (.int i) u) (hd' : (x == ("__debug__" : Str)) = false := by decide) : PD X C (.Name x pos) (dC (.int i)) :=
  PE_imp (pe_glob hg hm rv hd') fun σ H Q ⟨r, Q', R, q, k⟩ => k _ H _ (Gr.refl R) (.int i) q
theorem pd_globS {x : Str} {u : Value} {i : Str} (hg : Gl X x) (hm : X.mg x = some u) (rv : RelV (.str i) u) (hd' : (x == ("__debug__" : Str)) = false := by decide) : PD X C (.Name x pos) (dC (.str i)) :=
  PE_imp (pe_glob hg hm rv hd') fun σ H Q ⟨r, Q', R, q, k⟩ => k _ H _ (Gr.refl R) (.str i) q
/-! ### between the judgements -/
/-- data that name no object -/
def flatD : PyData → Bool
  | .none => true
  | .bool _ => true
  | .int _ => true
  | .str _ => true
  | _ => false
theorem Rp.flat {H H' : Hp} {v : V} {d : PyData} (h : Rp H v d) (f : flatD d = true) : Rp H' v d := by
  cases h with
  | non => exact .non
  | bl b => exact .bl b
  | int b => exact .int b
  | str b => exact .str b
  | lst => cases f
  | tup => cases f
  | dct => cases f
  | dct1 => cases f
  | dctN => cases f
theorem RpA.put {H : Hp} {a : Addr} {vs : List V} {xs : List PyData} {O : List Addr} (e : H a = some (.lst vs)) (na : a ∉ O) (l : vs.length ≤ sizeLine) (h : RpA (hd H (a :: O)) vs xs) : Rp (hd H O) (.ref a) (.list xs) := by
  refine .lst (.inl ?_) l (h.up (hd_sub fun b hb => List.mem_cons_of_mem _ hb))
  rw [hd_out na]
  exact e
def dLst (t : TAD) : TD := fun r Q => t r fun xs => Q (.list xs)
theorem PF.d {t : TAD} (h : PF X C e t) : PD X C e (dLst t) := PE_imp h fun σ H Q ⟨r, Q', R, q, k⟩ => ⟨r, _, R, q, fun a H' vs xs g na e l rp qx => k _ H' _ g (RpA.put e (R.fresh na) l rp) qx⟩
/-! ### arguments -/
def dNil : TAD := fun _ Q => Q []
def dCons (t : TD) (u : TAD) : TAD := fun r Q => t r fun x => u r fun xs => Q (x :: xs)
theorem pda_nil : PDA X C [] dNil := PA_imp pa_nil fun σ H Q ⟨r, Q', R, q, k⟩ => k _ H _ (Gr.refl R) .nil q
theorem pda_cons {t : TD} {u : TAD} (ha : PD X C e t) (hr : PDA X C es u) (hs : starEach (e :: es) X.env = (false, eval e X.env) :: starEach es X.env := by rfl) : PDA X C (e :: es) (dCons t u) :=
  PA_imp (pa_cons ha hr hs) fun σ H Q ⟨r, Q', R, q, k⟩ => ⟨r, _, R, q, fun v H1 x g1 rp1 q1 => ⟨r, _, R.grow g1, q1, fun vs H2 xs g2 rp2 q2 => k _ H2 _ (g1.trans g2) (.cons (rp1.up (g2.hd (R.grow g1))) rp2) q2⟩⟩
/-! ### displays -/
def dTup (t : TAD) : TD := fun r Q => t r fun xs => xs.length ≤ sizeLine ∧ Q (.tuple xs)
theorem pd_tup {x1 : Nat} {t : TAD} (h : PDA X C es t) : PD X C (.Tuple es x1 pos) (dTup t) :=
  PE_imp (pe_tup h) fun σ H Q ⟨r, Q', R, q, k⟩ => ⟨r, _, R, q, fun vs H1 xs g rp q1 => ⟨by rw [rp.length]; exact q1.1, fun p np => by
    have R1 := R.grow g
    refine k _ _ _ (g.then_same (same_new np)) (.tup (new_hd R1 np) (by rw [rp.length]; exact q1.1) (rp.up (same_hd (same_new np)))) q1.2⟩⟩
def fLst (t : TAD) : TAD := fun r Q => t r fun xs => xs.length ≤ sizeLine ∧ Q xs
theorem new_in {H : Hp} {a : Addr} {o : HO} {O : List Addr} (h : H a = none) : Same (hd H O) (hd (upd H a o) (a :: O)) := fun b u e => by
  obtain ⟨h1, h2⟩ := hd_some e
  have ne : b ≠ a := ne_of_none h2 h
  rw [hd_out (by rw [List.mem_cons, not_or]; exact ⟨ne, h1⟩), upd_ne ne]
  exact h2
theorem pf_lst {t : TAD} (h : PDA X C es t) : PF X C (.List es pos) (fLst t) :=
  PE_imp (pe_lst h) fun σ H Q ⟨r, Q', R, q, k⟩ => ⟨r, _, R, q, fun vs H1 xs g rp q1 => ⟨by rw [rp.length]; exact q1.1, fun p np => by
    refine k p _ vs xs (g.then_same (same_new np)) (Gr.none R g np) upd_same (by rw [rp.length]; exact q1.1) (rp.up (new_in np)) q1.2⟩⟩
/-- {} -/
theorem pd_dict0 : PD X C (.Dict [] [] pos) (dC (.dict [])) :=
  PE_imp pe_dnewK fun σ H Q ⟨r, Q', R, q, k⟩ p np => k _ _ _ (Gr.of_same R (same_new np)) (.dct (new_hd R np)) q
/-- {i: j} -/
theorem pd_dict1 {i j : Int} {a b : Nat} {p1 p2 : Pos} : PD X C (.Dict [some (.Constant (.int i) a p1)] [.Constant (.int j) b p2] pos) (dC (.dict [(.int i, .int j)])) :=
  PE_imp (pe_disp (pps_cons pe_int pe_int pps_nil) rfl rfl (by simp) (by simp)) fun σ H Q ⟨r, Q', R, q, k⟩ p np => ⟨upd_same, [(.inl i, .int j)], rfl, by simp, by
    have e : upd (upd H p (.dK [])) p (.dK (mergeK [] [(.inl i, .int j)])) = upd H p (.dK [(.inl i, .int j)]) := upd_upd
    rw [e]
    exact k _ _ _ (Gr.of_same R (same_new np)) (.dct1 i j (new_hd R np)) q⟩
end
/-! ### operators -/
abbrev R2D := PyData → PyData → (PyData → Prop) → Prop
def upR (r : R2D) : R2 := fun x y H Q => ∃ (O : List Addr) (dx dy : PyData) (Q' : PyData → Prop), (∀ a ∈ O, H a ≠ none) ∧ Rp (hd H O) x dx ∧ Rp (hd H O) y dy ∧ r dx dy Q' ∧ ∀ z H' dz, Same H H' → Rp (hd H' O) z dz → Q' dz → Q z H'
def OpD (X : Cx) (f : Value → Value → Sem Value) (r : R2D) : Prop := OpR X f (upR r)
def dOp (r : R2D) (ta tb : TD) : TD := fun e Q => ta e fun x => tb e fun y => r x y Q
section
variable {X : Cx} {C : Cfg} {e a b c : Expr} {es : List Expr} {pos : Pos} {ta tb tc : TD} {r r' : R2D}
theorem op_go {σ : L2.St} {H : Hp} {Q : VK} (h : up C (dOp r ta tb) σ H Q) : tOp (upR r) (up C ta) (up C tb) σ H Q := by
  obtain ⟨ρ, Q', R, q, k⟩ := h
  exact ⟨ρ, _, R, q, fun v H1 x g1 rp1 q1 => ⟨ρ, _, R.grow g1, q1, fun w H2 y g2 rp2 q2 => ⟨C.O ++ oA ρ, x, y, Q', ((R.grow g1).grow g2).domA, rp1.up (g2.hd (R.grow g1)), rp2, q2, fun z H' dz sm rpz qz => k z H' dz ((g1.trans g2).then_same sm) rpz qz⟩⟩⟩
theorem pd_op {op : Operator} (ho : OpD X (binaryOp op) r) (ha : PD X C a ta) (hb : PD X C b tb) : PD X C (.BinOp a op b pos) (dOp r ta tb) := PE_imp (pe_op ho ha hb) fun _ _ _ => op_go
theorem pd_cmp {op : CmpOp} (ho : OpD X (compareOp op) r) (ha : PD X C a ta) (hb : PD X C b tb) (hm : behindInMarks op b = false := by first | exact nomark _ | rfl) : PD X C (.Compare a [op] [b] pos) (dOp r ta tb) := PE_imp (pe_cmpR ho ha hb hm) fun _ _ _ => op_go
/-- a test by a value that is a truth -/
def dB (t : TD) : TTD := fun r Q => t r fun x => ∃ k, x = .bool k ∧ Q k
theorem rp_bl {H : Hp} {v : V} {k : Bool} (h : Rp H v (.bool k)) : v = .bl k := by cases h; rfl
theorem test_go {t : TD} {u : TE} (h : ∀ σ H Q, up C t σ H Q → u σ H Q) {σ : L2.St} {H : Hp} {Q : Bool → Hp → Prop} (w : upT C (dB t) σ H Q) : tTest u σ H Q := by
  obtain ⟨ρ, Q', R, q, k⟩ := w
  refine h _ _ _ ⟨ρ, _, R, q, fun v H' x g rp qx => ?_⟩
  obtain ⟨b, rfl, qb⟩ := qx
  exact ⟨b, rp_bl rp, k b H' g qb⟩
theorem pt_of {t : TD} (h : PD X C e t) (he : ∀ whole, isTrue e X.env whole = (do let v ← whole; standAt e.pos; holding [v] (truthy v)) := by intro _; rfl) : PDT X C e (dB t) :=
  PT_imp (pt_val h he) fun _ _ _ w => test_go (fun _ _ _ z => z) w
theorem ptd_cmp {op : CmpOp} (ho : OpD X (compareOp op) r) (ha : PD X C a ta) (hb : PD X C b tb) (hm : behindInMarks op b = false := by first | exact nomark _ | rfl) : PDT X C (.Compare a [op] [b] pos) (dB (dOp r ta tb)) :=
  PT_imp (pt_cmpR ho ha hb hm) fun _ _ _ w => test_go (fun _ _ _ => op_go) w
/-- a op b op c -/
def dChain (r r' : R2D) (ta tb tc : TD) : TD := fun e Q => ta e fun x => tb e fun y => r x y fun z => ∃ k, z = .bool k ∧ if k = true then tc e fun w => r' y w Q else Q (.bool false)
theorem chain_go {σ : L2.St} {H : Hp} {Q : VK} (h : up C (dChain r r' ta tb tc) σ H Q) : tChain (upR r) (upR r') (up C ta) (up C tb) (up C tc) σ H Q := by
  obtain ⟨ρ, Q', R, q, k⟩ := h
  refine ⟨ρ, _, R, q, fun v H1 x g1 rp1 q1 => ⟨ρ, _, R.grow g1, q1, fun w H2 y g2 rp2 q2 => ?_⟩⟩
  have R2 := (R.grow g1).grow g2
  refine ⟨C.O ++ oA ρ, x, y, _, R2.domA, rp1.up (g2.hd (R.grow g1)), rp2, q2, fun z H3 dz sm rpz qz => ?_⟩
  obtain ⟨b, rfl, qb⟩ := qz
  refine ⟨b, rp_bl rpz, ?_⟩
  have g3 : Gr C ρ H2 H3 := Gr.of_same R2 sm
  have R3 := R2.grow g3
  cases b with
  | false =>
    rw [if_neg Bool.false_ne_true] at qb ⊢
    exact k _ H3 _ ((g1.trans g2).trans g3) (.bl false) qb
  | true =>
    rw [if_pos rfl] at qb ⊢
    refine ⟨ρ, _, R3, qb, fun w' H4 y' g4 rp4 q4 => ⟨C.O ++ oA ρ, y, y', Q', (R3.grow g4).domA, (rp2.up (g3.hd R2)).up (g4.hd R3), rp4, q4, fun z' H5 dz' sm5 rp5 q5 => k z' H5 dz' ((((g1.trans g2).trans g3).trans g4).then_same sm5) rp5 q5⟩⟩
theorem pd_chain {op op' : CmpOp} (ho : OpD X (compareOp op) r) (ho' : OpD X (compareOp op') r') (ha : PD X C a ta) (hb : PD X C b tb) (hc : PD X C c tc) (hm : lastMarks [op, op'] [b, c] = false := by rfl) : PD X C (.Compare a [op, op'] [b, c] pos) (dChain r r' ta tb tc) :=
  PE_imp (pe_chain ho ho' ha hb hc (hm := hm)) fun _ _ _ => chain_go
theorem ptd_chain {op op' : CmpOp} (ho : OpD X (compareOp op) r) (ho' : OpD X (compareOp op') r') (ha : PD X C a ta) (hb : PD X C b tb) (hc : PD X C c tc) (hm : lastMarks [op, op'] [b, c] = false := by rfl) : PDT X C (.Compare a [op, op'] [b, c] pos) (dB (dChain r r' ta tb tc)) :=
  PT_imp (pt_chain ho ho' ha hb hc (hm := hm)) fun _ _ _ w => test_go (fun _ _ _ => chain_go) w
/-! ### and, or, not -/
variable {tA tB' : TTD} {rest : List Expr}
def dAnd (t u : TTD) : TTD := fun r Q => t r fun k => if k = true then u r Q else Q false
def dOr (t u : TTD) : TTD := fun r Q => t r fun k => if k = true then Q true else u r Q
def dNot (t : TTD) : TTD := fun r Q => t r fun k => Q (!k)
theorem PDW.t (h : PDW X C e tA) : PDT X C e tA := h.pt
theorem pdw_and1 (ha : PDT X C a tA) : PDW X C (.BoolOp .And [a] pos) tA := pw_and1 ha
theorem pdw_or1 (ha : PDT X C a tA) : PDW X C (.BoolOp .Or [a] pos) tA := pw_or1 ha
theorem pdw_and (ha : PDT X C a tA) (hb : PDW X C (.BoolOp .And (b :: rest) pos) tB') : PDW X C (.BoolOp .And (a :: b :: rest) pos) (dAnd tA tB') :=
  PW_imp (pw_and ha hb) fun σ H Q ⟨ρ, Q', R, q, k⟩ => ⟨ρ, _, R, q, fun c H1 g1 q1 => by
    cases c with
    | true => rw [if_pos rfl] at q1 ⊢; exact ⟨ρ, Q', R.grow g1, q1, fun c' H2 g2 q2 => k c' H2 (g1.trans g2) q2⟩
    | false => rw [if_neg Bool.false_ne_true] at q1 ⊢; exact k _ H1 g1 q1⟩
theorem pdw_or (ha : PDT X C a tA) (hb : PDW X C (.BoolOp .Or (b :: rest) pos) tB') : PDW X C (.BoolOp .Or (a :: b :: rest) pos) (dOr tA tB') :=
  PW_imp (pw_or ha hb) fun σ H Q ⟨ρ, Q', R, q, k⟩ => ⟨ρ, _, R, q, fun c H1 g1 q1 => by
    cases c with
    | true => rw [if_pos rfl] at q1 ⊢; exact k _ H1 g1 q1
    | false => rw [if_neg Bool.false_ne_true] at q1 ⊢; exact ⟨ρ, Q', R.grow g1, q1, fun c' H2 g2 q2 => k c' H2 (g1.trans g2) q2⟩⟩
theorem pdt_not (ha : PDT X C a tA) : PDT X C (.UnaryOp .Not a pos) (dNot tA) :=
  PT_imp (pt_not ha) fun σ H Q ⟨ρ, Q', R, q, k⟩ => ⟨ρ, _, R, q, fun c H1 g1 q1 => k _ H1 g1 q1⟩
/-- as values -/
def dAndV (ta tb : TD) : TD := fun r Q => ta r fun x => ∃ k, x = .bool k ∧ if k = true then tb r Q else Q (.bool false)
def dOrV (ta tb : TD) : TD := fun r Q => ta r fun x => ∃ k, x = .bool k ∧ if k = true then Q (.bool true) else tb r Q
def dNotV (ta : TD) : TD := fun r Q => ta r fun x => ∃ k, x = .bool k ∧ Q (.bool (!k))
theorem pd_one {op : BoolOp} (h : PD X C a ta) : PD X C (.BoolOp op [a] pos) ta := pe_one h
theorem pd_and (ha : PD X C a ta) (hb : PD X C (.BoolOp .And (b :: rest) pos) tb) : PD X C (.BoolOp .And (a :: b :: rest) pos) (dAndV ta tb) :=
  PE_imp (pe_and ha hb) fun σ H Q ⟨ρ, Q', R, q, k⟩ => ⟨ρ, _, R, q, fun v H1 x g1 rp q1 => by
    obtain ⟨c, rfl, q1⟩ := q1
    refine ⟨c, rp_bl rp, ?_⟩
    cases c with
    | true => rw [if_pos rfl] at q1 ⊢; exact ⟨ρ, Q', R.grow g1, q1, fun w H2 y g2 rp2 q2 => k w H2 y (g1.trans g2) rp2 q2⟩
    | false => rw [if_neg Bool.false_ne_true] at q1 ⊢; exact k _ H1 _ g1 (.bl false) q1⟩
theorem pd_or (ha : PD X C a ta) (hb : PD X C (.BoolOp .Or (b :: rest) pos) tb) : PD X C (.BoolOp .Or (a :: b :: rest) pos) (dOrV ta tb) :=
  PE_imp (pe_or ha hb) fun σ H Q ⟨ρ, Q', R, q, k⟩ => ⟨ρ, _, R, q, fun v H1 x g1 rp q1 => by
    obtain ⟨c, rfl, q1⟩ := q1
    refine ⟨c, rp_bl rp, ?_⟩
    cases c with
    | true => rw [if_pos rfl] at q1 ⊢; exact k _ H1 _ g1 (.bl true) q1
    | false => rw [if_neg Bool.false_ne_true] at q1 ⊢; exact ⟨ρ, Q', R.grow g1, q1, fun w H2 y g2 rp2 q2 => k w H2 y (g1.trans g2) rp2 q2⟩⟩
theorem pd_not (ha : PD X C a ta) : PD X C (.UnaryOp .Not a pos) (dNotV ta) :=
  PE_imp (pe_not ha) fun σ H Q ⟨ρ, Q', R, q, k⟩ => ⟨ρ, _, R, q, fun v H1 x g1 rp q1 => by
    obtain ⟨c, rfl, q1⟩ := q1
    exact ⟨c, rp_bl rp, k _ H1 _ g1 (.bl _) q1⟩⟩
def dIf (t : TTD) (ta tb : TD) : TD := fun r Q => t r fun k => if k = true then ta r Q else tb r Q
theorem pd_ifExp (hc : PDT X C c tA) (ha : PD X C a ta) (hb : PD X C b tb) : PD X C (.IfExp c a b pos) (dIf tA ta tb) :=
  PE_imp (pe_ifExp hc ha hb) fun σ H Q ⟨ρ, Q', R, q, k⟩ => ⟨ρ, _, R, q, fun c H1 g1 q1 => by
    cases c with
    | true => rw [if_pos rfl] at q1 ⊢; exact ⟨ρ, Q', R.grow g1, q1, fun w H2 y g2 rp2 q2 => k w H2 y (g1.trans g2) rp2 q2⟩
    | false => rw [if_neg Bool.false_ne_true] at q1 ⊢; exact ⟨ρ, Q', R.grow g1, q1, fun w H2 y g2 rp2 q2 => k w H2 y (g1.trans g2) rp2 q2⟩⟩
end
end DP

end
section
set_option Elab.async false
set_option linter.all false
set_option maxRecDepth 100000
set_option autoImplicit false
set_option maxHeartbeats 4000000
namespace DP
open PySem PySem.Spec PyProof.Rows L2
/-! ### operators by data -/
theorem tuple_mul1 (l : Addr) (items : Array Value) (n : Nat) (dd : Option Addr) (sl : Array (Option Value)) (x : Int) (u : Tok) (c0 : (decide (x < -(2 ^ 63)) || decide (x ≥ 2 ^ 63)) = false) (c1 : (items.isEmpty || x == 1) = true) :
    Meets (Builtin.«tuple.__mul__» ⟨[.ref l, .int x u], []⟩) (fun _ R s => s.heap.get? l = some { cls := .type "tuple", dict := dd, data := .seq items n, slots := sl } ∧
      R (.ok (.ret (Value.ref l))) s) :=
  .of_wp fun prog w A R s h => by
    obtain ⟨hp, g, d, tk, os⟩ := s
    obtain ⟨hl, h⟩ := h
    have f1 := AutoSeq1.idx_int
    wp_walk using wpAny_loadPart' hl
    repeat (first
      | (refine wpAny_ite_false (decide_eq_false (by rw [c0]; exact Bool.false_ne_true)) ?_; wp_walk using wpAny_loadPart' hl)
      | (refine wpAny_ite_true (decide_eq_true c1) ?_; wp_walk using wpAny_loadPart' hl))
    exact ⟨_, rfl, h⟩
theorem tuple_mul0 (l : Addr) (items : Array Value) (n : Nat) (dd : Option Addr) (sl : Array (Option Value)) (x : Int) (u : Tok) (c0 : (decide (x < -(2 ^ 63)) || decide (x ≥ 2 ^ 63)) = false) (c1 : (items.isEmpty || x == 1) = false) (c2 : (decide (x ≤ 0) || items.isEmpty) = true) :
    Meets (Builtin.«tuple.__mul__» ⟨[.ref l, .int x u], []⟩) (fun _ R s => s.heap.get? l = some { cls := .type "tuple", dict := dd, data := .seq items n, slots := sl } ∧
      R (.ok (.ret (Value.ref s.heap.objs.size))) { s with heap := s.heap.push { cls := Value.type "tuple", data := Data.seq #[] }, toks := s.toks }) :=
  .of_wp fun prog w A R s h => by
    obtain ⟨hp, g, d, tk, os⟩ := s
    obtain ⟨hl, h⟩ := h
    have f1 := AutoSeq1.idx_int
    wp_walk using wpAny_loadPart' hl
    repeat (first
      | (refine wpAny_ite_false (decide_eq_false (by rw [c0]; exact Bool.false_ne_true)) ?_; wp_walk using wpAny_loadPart' hl)
      | (refine wpAny_ite_false (decide_eq_false (by rw [c1]; exact Bool.false_ne_true)) ?_; wp_walk using wpAny_loadPart' hl)
      | (refine wpAny_ite_true (decide_eq_true c2) ?_; wp_walk using wpAny_loadPart' hl))
    exact ⟨_, rfl, h⟩

section
variable {X : Cx}
theorem rp_int {H : Hp} {v : V} {i : Int} (h : Rp H v (.int i)) : v = .int i := by cases h; rfl
theorem rp_str {H : Hp} {v : V} {i : Str} (h : Rp H v (.str i)) : v = .str i := by cases h; rfl
theorem rp_tup {H : Hp} {v : V} {ds : List PyData} (h : Rp H v (.tuple ds)) : ∃ a xs, v = .ref a ∧ H a = some (.tup xs) ∧ xs.length ≤ sizeLine ∧ RpA H xs ds := by
  cases h with
  | tup a b c => exact ⟨_, _, rfl, a, b, c⟩
theorem rp_lst {H : Hp} {v : V} {ds : List PyData} (h : Rp H v (.list ds)) : ∃ a xs, v = .ref a ∧ Rd H a (.lst xs) ∧ xs.length ≤ sizeLine ∧ RpA H xs ds := by
  cases h with
  | lst a b c => exact ⟨_, _, rfl, a, b, c⟩
theorem Rd.full {H : Hp} {O : List Addr} {a : Addr} {o : HO} (h : Rd (hd H O) a o) : Rd H a o := Rd.mono (hd_same _ _) h
theorem notdom {H : Hp} {O : List Addr} {p : Addr} (h : ∀ a ∈ O, H a ≠ none) (n : H p = none) : p ∉ O := fun z => h p z n
theorem rp_new {H : Hp} {O : List Addr} {p : Addr} {xs : List V} {ds : List PyData} (h : ∀ a ∈ O, H a ≠ none) (n : H p = none) (l : xs.length ≤ sizeLine) (r : RpA (hd H O) xs ds) : Rp (hd (upd H p (.tup xs)) O) (.ref p) (.tuple ds) :=
  .tup (by rw [hd_out (notdom h n), upd_same]) l (r.up (same_hd (same_new n)))
theorem rp_newL {H : Hp} {O : List Addr} {p : Addr} {xs : List V} {ds : List PyData} (h : ∀ a ∈ O, H a ≠ none) (n : H p = none) (l : xs.length ≤ sizeLine) (r : RpA (hd H O) xs ds) : Rp (hd (upd H p (.lst xs)) O) (.ref p) (.list ds) :=
  .lst (.inl (by rw [hd_out (notdom h n), upd_same])) l (r.up (same_hd (same_new n)))
/-- ints alone -/
def rInt (c : Int → Int → Prop) (g : Int → Int → PyData) : R2D := fun x y Q => ∃ i j, x = .int i ∧ y = .int j ∧ c i j ∧ Q (g i j)
theorem opd_int {f : Value → Value → Sem Value} {c : Int → Int → Prop} {g : Int → Int → Int} (h : OpR X f (rI c fun i j => .int (g i j))) : OpD X f (rInt c fun i j => .int (g i j)) := by
  intro pins s σ H x y v u Q I rx ry w
  obtain ⟨O, dx, dy, Q', dm, hx, hy, ⟨i, j, rfl, rfl, hc, q⟩, k⟩ := w
  rw [rp_int hx] at rx
  rw [rp_int hy] at ry
  exact h pins s σ H _ _ v u Q I rx ry ⟨i, j, rfl, rfl, hc, k _ H _ (Same.refl H) (.int _) q⟩
theorem opd_sub : OpD X (binaryOp .Sub) (rInt (fun _ _ => True) fun i j => .int (i - j)) := opd_int fun pins s σ H x y v u Q I rx ry ⟨i, j, e1, e2, _, q⟩ => op_sub pins s σ H x y v u Q I rx ry ⟨i, j, e1, e2, q⟩
theorem opd_mod : OpD X (binaryOp .Mod) (rInt (fun _ j => 0 < j) fun i j => .int (i % j)) := opd_int op_mod
theorem opd_fdiv : OpD X (binaryOp .FloorDiv) (rInt CDiv fun i j => .int (i / j)) := opd_int op_fdiv
theorem opd_fdivW : OpD X (binaryOp .FloorDiv) (rInt CDivW fun i j => .int (i / j)) := opd_int op_fdivW
theorem opd_pow : OpD X (binaryOp .Pow) (rInt CPow fun i j => .int (i ^ j.toNat)) := opd_int op_pow
/-- + -/
def rAdd : R2D
  | .int i, .int j, Q => Q (.int (i + j))
  | .tuple a, .tuple b, Q => a.length + b.length ≤ sizeLine ∧ Q (.tuple (a ++ b))
  | .list a, .list b, Q => a.length + b.length ≤ sizeLine ∧ Q (.list (a ++ b))
  | .str a, .str b, Q => a.length + b.length ≤ sizeLine ∧ Q (.str (a ++ b))
  | _, _, _ => False
theorem catL {pins : List (Addr × Obj)} {s : Shared} {σ : L2.St} {H : Hp} {a b : Addr} {xs ys : List V} {Q : VK} (I : Inv X pins σ H s) (h1 : Rd H a (.lst xs)) (h2 : Rd H b (.lst ys)) (hz : xs.length + ys.length ≤ sizeLine)
    (q : ∀ p, H p = none → Q (.ref p) (upd H p (.lst (xs ++ ys)))) : wpAny (model X.prog X.w) X.A (binaryOp .Add (.ref a) (.ref b)) (EP X pins σ Q) X.xe s := by
  obtain ⟨its, n, z, r, e⟩ := lstR I h1
  obtain ⟨its2, n2, z2, r2, e2⟩ := lstR I h2
  have l1 := r.length
  have l2 := r2.length
  refine PySem.P.add_list e e2 ?_ (by rw [List.size_toArray, List.size_toArray]; omega)
  have ea : its.toArray ++ its2.toArray = (its ++ its2).toArray := by simp
  rw [ea]
  exact ⟨.ref _, _, I.lnew (t' := s.toks) (r.append r2) (by rw [List.length_append]; omega), rfl, q _ I.fresh⟩
theorem opd_add : OpD X (binaryOp .Add) rAdd := by
  intro pins s σ H x y v u Q I rx ry w
  obtain ⟨O, dx, dy, Q', dm, hx, hy, q, k⟩ := w
  cases dx with
  | int i =>
    cases dy with
    | int j =>
      rw [rp_int hx] at rx
      rw [rp_int hy] at ry
      exact op_add pins s σ H _ _ v u Q I rx ry ⟨i, j, rfl, rfl, k _ H _ (Same.refl H) (.int _) q⟩
    | _ => exact q.elim
  | tuple ds =>
    cases dy with
    | tuple es =>
      obtain ⟨a, xs, rfl, h1, h2, h3⟩ := rp_tup hx
      obtain ⟨b, ys, rfl, h4, h5, h6⟩ := rp_tup hy
      obtain ⟨q1, q2⟩ := q
      have l1 := h3.length
      have l2 := h6.length
      refine op_catA pins s σ H _ _ v u Q I rx ry ⟨a, b, xs, ys, rfl, rfl, .inl (.inl (hd_some h1).2), .inl (.inl (hd_some h4).2), by omega, fun e => ?_, fun _ e => ?_, fun _ _ p np => ?_⟩
      · subst e
        cases h3
        exact k _ H _ (Same.refl H) hy q2
      · subst e
        cases h6
        rw [List.append_nil] at q2
        exact k _ H _ (Same.refl H) hx q2
      · exact k _ _ _ (same_new np) (rp_new dm np (by rw [List.length_append]; omega) (h3.append h6)) q2
    | _ => exact q.elim
  | list ds =>
    cases dy with
    | list es =>
      obtain ⟨a, xs, rfl, h1, h2, h3⟩ := rp_lst hx
      obtain ⟨b, ys, rfl, h4, h5, h6⟩ := rp_lst hy
      obtain ⟨q1, q2⟩ := q
      have l1 := h3.length
      have l2 := h6.length
      cases (show v = Value.ref a from rx)
      cases (show u = Value.ref b from ry)
      exact catL I (DP.Rd.full h1) (DP.Rd.full h4) (by omega) fun p np => k _ _ _ (same_new np) (rp_newL dm np (by rw [List.length_append]; omega) (h3.append h6)) q2
    | _ => exact q.elim
  | str i =>
    cases dy with
    | str j =>
      rw [rp_str hx] at rx
      rw [rp_str hy] at ry
      exact op_add_str pins s σ H _ _ v u Q I rx ry ⟨i, j, rfl, rfl, q.1, k _ H _ (Same.refl H) (.str _) q.2⟩
    | _ => exact q.elim
  | _ => exact q.elim
/-- * -/
def MulD (i j : Int) : Prop := CMul i j ∨ CMulW i j
def rMul : R2D
  | .int i, .int j, Q => MulD i j ∧ Q (.int (i * j))
  | .tuple a, .int j, Q => a ≠ [] ∧ a.length ≤ 1000 ∧ 0 ≤ j ∧ j ≤ 1000 ∧ Q (.tuple (List.replicate j.toNat a).flatten)
  | _, _, _ => False
theorem opd_mul : OpD X (binaryOp .Mult) rMul := by
  intro pins s σ H x y v u Q I rx ry w
  obtain ⟨O, dx, dy, Q', dm, hx, hy, q, k⟩ := w
  cases dx with
  | int i =>
    cases dy with
    | int j =>
      rw [rp_int hx] at rx
      rw [rp_int hy] at ry
      rcases q.1 with c | c
      · exact op_mul pins s σ H _ _ v u Q I rx ry ⟨i, j, rfl, rfl, c, k _ H _ (Same.refl H) (.int _) q.2⟩
      · exact op_mulW pins s σ H _ _ v u Q I rx ry ⟨i, j, rfl, rfl, c, k _ H _ (Same.refl H) (.int _) q.2⟩
    | _ => exact q.elim
  | tuple ds =>
    cases dy with
    | int j =>
      obtain ⟨a, xs, rfl, h1, h2, h3⟩ := rp_tup hx
      rw [rp_int hy] at ry
      obtain ⟨q0, q1, q2, q3, q4⟩ := q
      have l1 := h3.length
      have hne : xs ≠ [] := fun e => q0 (List.eq_nil_of_length_eq_zero (by rw [← l1, e]; rfl))
      by_cases j2 : 2 ≤ j
      · refine op_repT pins s σ H _ _ v u Q I rx ry ⟨a, j, xs, rfl, rfl, .inl (.inl (hd_some h1).2), hne, j2, q3, by omega, fun p np => ?_⟩
        refine k _ _ _ (same_new np) (rp_new dm np ?_ (h3.replicate j.toNat)) q4
        rw [PyProof.Rows.lm_len_rep_flat, sizeLine_eq]
        have a1 : j.toNat * xs.length ≤ 1000 * 1000 := Nat.mul_le_mul (by omega) (by omega)
        omega
      · cases (show v = Value.ref a from rx)
        obtain ⟨t, rfl⟩ := (show ∃ t, u = Value.int j t from ry)
        obtain ⟨its, z, r, ⟨⟨cls, dd, data, sl⟩, ho, hc, n, hd'⟩⟩ := tupR I (hd_some h1).2
        simp only at hc hd'
        subst hc hd'
        have hi : its.toArray.isEmpty = false := by
          cases its with
          | nil => cases r; exact absurd rfl hne
          | cons a b => rfl
        have c0 : (decide (j < -(2 ^ 63)) || decide (j ≥ 2 ^ 63)) = false := by
          rw [decide_eq_false (by omega), decide_eq_false (by omega)] <;> rfl
        by_cases j1 : j = 1
        · subst j1
          refine wpAny_binaryOp_repeat_ref (T := "tuple") (U := "int") (by decide) ⟨_, ho, rfl⟩ (fun s' => typeIs_int s' 1 t) noFill_tuple_mul F.fills_int_mul F.slot_int_rmul repeat_tuple F.slot_int_index.lookup
            (call_meets F.slot_int_rmul (typeIs_int s 1 t) F.entry_int_rmul (F.args_int_rmul_2 _ _) (int_rmul_tuple 1 t a its.toArray n dd sl)
              ⟨ho, rfl, ⟨_, ho, rfl⟩, call_meets F.slot_tuple_mul ⟨_, ho, rfl⟩ F.entry_tuple_mul (F.args_tuple_mul_2 _ _) (tuple_mul1 a its.toArray n dd sl 1 t c0 (by rw [hi]; rfl)) ⟨ho, ?_⟩⟩)
          have e1 : (List.replicate (1 : Int).toNat ds).flatten = ds := by simp
          rw [e1] at q4
          exact ⟨.ref a, H, I, rfl, k _ H _ (Same.refl H) hx q4⟩
        · have j0 : j = 0 := by omega
          subst j0
          refine wpAny_binaryOp_repeat_ref (T := "tuple") (U := "int") (by decide) ⟨_, ho, rfl⟩ (fun s' => typeIs_int s' 0 t) noFill_tuple_mul F.fills_int_mul F.slot_int_rmul repeat_tuple F.slot_int_index.lookup
            (call_meets F.slot_int_rmul (typeIs_int s 0 t) F.entry_int_rmul (F.args_int_rmul_2 _ _) (int_rmul_tuple 0 t a its.toArray n dd sl)
              ⟨ho, rfl, ⟨_, ho, rfl⟩, call_meets F.slot_tuple_mul ⟨_, ho, rfl⟩ F.entry_tuple_mul (F.args_tuple_mul_2 _ _) (tuple_mul0 a its.toArray n dd sl 0 t c0 (by rw [hi]; rfl) rfl) ⟨ho, ?_⟩⟩)
          have np := I.hok.fresh (Nat.le_refl s.heap.objs.size)
          refine ⟨.ref s.heap.objs.size, _, I.laid (t' := s.toks) (o := .tup []) (fun b ob q => Heap.get?_push_of_some _ q) (Nat.le_refl _) ?_, rfl, k _ _ _ (same_new np) (rp_new dm np (Nat.zero_le _) .nil) q4⟩
          exact ⟨Nat.zero_le _, [], .nil, IsTup.new _ _⟩
    | _ => exact q.elim
  | _ => exact q.elim
/-- ==, != -/
def dOk (d : PyData) : Bool := d.plain && decide (d.depth ≤ 60)
def rEqq : R2D := fun x y Q => dOk x = true ∧ dOk y = true ∧ Q (.bool (PyData.eqv x y))
def rNeq : R2D := fun x y Q => dOk x = true ∧ dOk y = true ∧ Q (.bool (!PyData.eqv x y))
theorem dOk_plain {d : PyData} (h : dOk d = true) : d.plain = true := (Bool.and_eq_true_iff.mp h).1
theorem dOk_depth {d : PyData} (h : dOk d = true) : d.depth ≤ 60 := of_decide_eq_true (Bool.and_eq_true_iff.mp h).2
theorem room_min {u a b : Nat} (h : u + 64 < cLine) (ha : a ≤ 60) : u + min a b < cLine := by
  have : min a b ≤ a := Nat.min_le_left _ _
  omega
theorem opd_eq (hu : X.A.units + 64 < cLine) : OpD X (compareOp .Eq) rEqq := by
  intro pins s σ H x y v u Q I rx ry w
  obtain ⟨O, dx, dy, Q', dm, hx, hy, ⟨h1, h2, q⟩, k⟩ := w
  obtain ⟨as, r1⟩ := Rp.reads I dx x v (hx.up (hd_same _ _)) rx
  obtain ⟨bs, r2⟩ := Rp.reads I dy y u (hy.up (hd_same _ _)) ry
  exact SeqAt.eq_plain r1 r2 (dOk_plain h1) (dOk_plain h2) (room_min hu (dOk_depth h1)) ⟨.bl _, H, I, rfl, k _ H _ (Same.refl H) (.bl _) q⟩
theorem opd_ne (hu : X.A.units + 64 < cLine) : OpD X (compareOp .NotEq) rNeq := by
  intro pins s σ H x y v u Q I rx ry w
  obtain ⟨O, dx, dy, Q', dm, hx, hy, ⟨h1, h2, q⟩, k⟩ := w
  obtain ⟨as, r1⟩ := Rp.reads I dx x v (hx.up (hd_same _ _)) rx
  obtain ⟨bs, r2⟩ := Rp.reads I dy y u (hy.up (hd_same _ _)) ry
  exact SeqAt.ne_plain r1 r2 (dOk_plain h1) (dOk_plain h2) (room_min hu (dOk_depth h1)) ⟨.bl _, H, I, rfl, k _ H _ (Same.refl H) (.bl _) q⟩
/-- <, <=, >, >= -/
def rOrd (g : PyData → PyData → Bool) : R2D := fun x y Q => PySem.W.alike x y = true ∧ x ≠ .none ∧ x.depth ≤ 60 ∧ Q (.bool (g x y))
theorem opd_lt (hu : X.A.units + 64 < cLine) : OpD X (compareOp .Lt) (rOrd fun x y => PySem.W.dataLt x y) := by
  intro pins s σ H x y v u Q I rx ry w
  obtain ⟨O, dx, dy, Q', dm, hx, hy, ⟨h1, h2, h3, q⟩, k⟩ := w
  obtain ⟨as, r1⟩ := Rp.reads I dx x v (hx.up (hd_same _ _)) rx
  obtain ⟨bs, r2⟩ := Rp.reads I dy y u (hy.up (hd_same _ _)) ry
  exact PySem.W.lt_data r1 r2 h1 h2 (room_min hu h3) ⟨.bl _, H, I, rfl, k _ H _ (Same.refl H) (.bl _) q⟩
theorem opd_le (hu : X.A.units + 64 < cLine) : OpD X (compareOp .LtE) (rOrd fun x y => !PySem.W.dataLt y x) := by
  intro pins s σ H x y v u Q I rx ry w
  obtain ⟨O, dx, dy, Q', dm, hx, hy, ⟨h1, h2, h3, q⟩, k⟩ := w
  obtain ⟨as, r1⟩ := Rp.reads I dx x v (hx.up (hd_same _ _)) rx
  obtain ⟨bs, r2⟩ := Rp.reads I dy y u (hy.up (hd_same _ _)) ry
  exact PySem.W.le_data r1 r2 h1 h2 (room_min hu h3) ⟨.bl _, H, I, rfl, k _ H _ (Same.refl H) (.bl _) q⟩
theorem opd_gt (hu : X.A.units + 64 < cLine) : OpD X (compareOp .Gt) (rOrd fun x y => PySem.W.dataLt y x) := by
  intro pins s σ H x y v u Q I rx ry w
  obtain ⟨O, dx, dy, Q', dm, hx, hy, ⟨h1, h2, h3, q⟩, k⟩ := w
  obtain ⟨as, r1⟩ := Rp.reads I dx x v (hx.up (hd_same _ _)) rx
  obtain ⟨bs, r2⟩ := Rp.reads I dy y u (hy.up (hd_same _ _)) ry
  exact PySem.W.gt_data r1 r2 h1 h2 (room_min hu h3) ⟨.bl _, H, I, rfl, k _ H _ (Same.refl H) (.bl _) q⟩
theorem opd_ge (hu : X.A.units + 64 < cLine) : OpD X (compareOp .GtE) (rOrd fun x y => !PySem.W.dataLt x y) := by
  intro pins s σ H x y v u Q I rx ry w
  obtain ⟨O, dx, dy, Q', dm, hx, hy, ⟨h1, h2, h3, q⟩, k⟩ := w
  obtain ⟨as, r1⟩ := Rp.reads I dx x v (hx.up (hd_same _ _)) rx
  obtain ⟨bs, r2⟩ := Rp.reads I dy y u (hy.up (hd_same _ _)) ry
  exact PySem.W.ge_data r1 r2 h1 h2 (room_min hu h3) ⟨.bl _, H, I, rfl, k _ H _ (Same.refl H) (.bl _) q⟩
/-- in, not in: lists, tuples; a text in a text -/
def inD (x : PyData) (xs : List PyData) : Bool := xs.any fun y => PyData.eqv y x
def rInn (neg : Bool) : R2D := fun x y Q => dOk x = true ∧ ∃ xs, (y = .list xs ∨ y = .tuple xs) ∧ PyData.plainAll xs = true ∧ Q (.bool (if neg = true then !inD x xs else inD x xs))
theorem room_in2 {u a b : Nat} (h : u + 64 < cLine) (ha : a ≤ 60) : u + 1 + min b a < cLine := by
  have : min b a ≤ a := Nat.min_le_right _ _
  omega
theorem opd_in (hu : X.A.units + 64 < cLine) : OpD X (compareOp .In) (rInn false) := by
  intro pins s σ H x y v u Q I rx ry w
  obtain ⟨O, dx, dy, Q', dm, hx, hy, ⟨h1, xs, e, h2, q⟩, k⟩ := w
  obtain ⟨as, r1⟩ := Rp.reads I dx x v (hx.up (hd_same _ _)) rx
  obtain ⟨bs, r2⟩ := Rp.reads I dy y u (hy.up (hd_same _ _)) ry
  rcases e with rfl | rfl
  · exact SeqAt.in_list_data r2 r1 h2 (dOk_plain h1) (room_in2 hu (dOk_depth h1)) ⟨.bl _, H, I, rfl, k _ H _ (Same.refl H) (.bl _) q⟩
  · exact SeqAt.in_tuple_data r2 r1 h2 (dOk_plain h1) (room_in2 hu (dOk_depth h1)) ⟨.bl _, H, I, rfl, k _ H _ (Same.refl H) (.bl _) q⟩
theorem opd_notIn (hu : X.A.units + 64 < cLine) : OpD X (compareOp .NotIn) (rInn true) := by
  intro pins s σ H x y v u Q I rx ry w
  obtain ⟨O, dx, dy, Q', dm, hx, hy, ⟨h1, xs, e, h2, q⟩, k⟩ := w
  obtain ⟨as, r1⟩ := Rp.reads I dx x v (hx.up (hd_same _ _)) rx
  obtain ⟨bs, r2⟩ := Rp.reads I dy y u (hy.up (hd_same _ _)) ry
  rcases e with rfl | rfl
  · exact SeqAt.notIn_list_data r2 r1 h2 (dOk_plain h1) (room_in2 hu (dOk_depth h1)) ⟨.bl _, H, I, rfl, k _ H _ (Same.refl H) (.bl _) q⟩
  · exact SeqAt.notIn_tuple_data r2 r1 h2 (dOk_plain h1) (room_in2 hu (dOk_depth h1)) ⟨.bl _, H, I, rfl, k _ H _ (Same.refl H) (.bl _) q⟩
/-- is, is not: None; truths -/
def isNon : PyData → Bool
  | .none => true
  | _ => false
def isV : PyData → PyData → Option Bool
  | x, .none => some (isNon x)
  | .bool a, .bool b => some (decide (a = b))
  | _, _ => none
def rIss (neg : Bool) : R2D := fun x y Q => ∃ k, isV x y = some k ∧ Q (.bool (if neg = true then !k else k))
theorem rp_non {H : Hp} {v : V} {d : PyData} (h : Rp H v d) : decide (v = .non) = isNon d := by
  cases h <;> rfl
theorem opd_is : OpD X (compareOp .Is) (rIss false) := by
  intro pins s σ H x y v u Q I rx ry w
  obtain ⟨O, dx, dy, Q', dm, hx, hy, ⟨b, e, q⟩, k⟩ := w
  cases dy with
  | none =>
    cases hy
    have e' : isNon dx = b := by
      have z : isV dx .none = some (isNon dx) := by cases dx <;> rfl
      rw [z] at e
      exact Option.some.inj e
    refine op_isN pins s σ H _ _ v u Q I rx ry ⟨rfl, ?_⟩
    rw [rp_non hx, e']
    exact k _ H _ (Same.refl H) (.bl _) q
  | bool c =>
    cases dx with
    | bool a =>
      cases hx
      cases hy
      have e' : decide (a = c) = b := Option.some.inj e
      refine op_isBl pins s σ H _ _ v u Q I rx ry ⟨a, c, rfl, rfl, ?_⟩
      subst e'
      exact k _ H _ (Same.refl H) (.bl _) q
    | _ => cases e
  | _ => cases dx <;> cases e
theorem opd_isnot : OpD X (compareOp .IsNot) (rIss true) := by
  intro pins s σ H x y v u Q I rx ry w
  obtain ⟨O, dx, dy, Q', dm, hx, hy, ⟨b, e, q⟩, k⟩ := w
  cases dy with
  | none =>
    cases hy
    have e' : isNon dx = b := by
      have z : isV dx .none = some (isNon dx) := by cases dx <;> rfl
      rw [z] at e
      exact Option.some.inj e
    refine op_notN pins s σ H _ _ v u Q I rx ry ⟨rfl, ?_⟩
    rw [rp_non hx, e']
    exact k _ H _ (Same.refl H) (.bl _) q
  | bool c =>
    cases dx with
    | bool a =>
      cases hx
      cases hy
      have e' : decide (a = c) = b := Option.some.inj e
      refine op_notBl pins s σ H _ _ v u Q I rx ry ⟨a, c, rfl, rfl, ?_⟩
      subst e'
      exact k _ H _ (Same.refl H) (.bl _) q
    | _ => cases e
  | _ => cases dx <;> cases e
/-- - x -/
def dNeg (t : TD) : TD := fun r Q => t r fun x => ∃ i, x = .int i ∧ Q (.int (-i))
theorem pd_neg {C : Cfg} {a : Expr} {pos : Pos} {t : TD} (ha : PD X C a t) : PD X C (.UnaryOp .USub a pos) (dNeg t) :=
  PE_imp (pe_un un_neg ha) fun σ H Q ⟨ρ, Q', R, q, k⟩ => ⟨ρ, _, R, q, fun v H1 x g1 rp q1 => by
    obtain ⟨i, rfl, q1⟩ := q1
    exact ⟨i, rp_int rp, k _ H1 _ g1 (.int _) q1⟩⟩
end
end DP

end
section
set_option Elab.async false
set_option linter.all false
set_option maxRecDepth 100000
set_option autoImplicit false
set_option maxHeartbeats 4000000
namespace DP
open PySem PySem.Spec PyProof.Rows L2
/-! ### built-in calls by data -/
abbrev RC := List PyData → (PyData → Prop) → Prop
def upC (r : RC) : List V → Hp → VK → Prop := fun vs H Q => ∃ (O : List Addr) (ds : List PyData) (Q' : PyData → Prop), (∀ a ∈ O, H a ≠ none) ∧ RpA (hd H O) vs ds ∧ r ds Q' ∧ ∀ z H' dz, Same H H' → Rp (hd H' O) z dz → Q' dz → Q z H'
def CallD (X : Cx) (f : Value) (r : RC) : Prop := CallR X f (upC r)
def dCall (r : RC) (t : TAD) : TD := fun e Q => t e fun xs => r xs Q
section
variable {X : Cx} {C : Cfg} {x : Str} {p pos : Pos} {e : Expr} {es : List Expr} {t : TAD} {bid T : String} {r : RC}
theorem call_go {σ : L2.St} {H : Hp} {Q : VK} (h : up C (dCall r t) σ H Q) : tCB (upC r) (upA C t) σ H Q := by
  obtain ⟨ρ, Q', R, q, k⟩ := h
  exact ⟨ρ, _, R, q, fun vs H1 xs g1 rp q1 => ⟨C.O ++ oA ρ, xs, Q', (R.grow g1).domA, rp, q1, fun z H' dz sm rpz qz => k z H' dz (g1.then_same sm) rpz qz⟩⟩
theorem pd_callB (hc : CallD X (.builtin bid) r) (hm : X.mg x = none) (hv : bootBuiltins x = some (.builtin bid)) (ha : PDA X C (e :: es) t) (hg : Gl X x := by rfl) (hn : x ≠ "__name__" := by decide) (hdb : (x == ("__debug__" : Str)) = false := by decide)
    (he : starEach (e :: es) X.env = (false, eval e X.env) :: starEach es X.env := by rfl) (hpl : (backTo pos (starEach es X.env)).any (·.1) = false := by rfl) : PD X C (.Call (.Name x p) (e :: es) [] pos) (dCall r t) :=
  PE_imp (pe_callB hc hg hm hv ha hn hdb he hpl) fun _ _ _ => call_go
theorem pd_callTy (hc : CallD X (.type T) r) (hm : X.mg x = none) (hv : bootBuiltins x = some (.type T)) (ha : PDA X C (e :: es) t) (hg : Gl X x := by rfl) (hn : x ≠ "__name__" := by decide) (hdb : (x == ("__debug__" : Str)) = false := by decide)
    (he : starEach (e :: es) X.env = (false, eval e X.env) :: starEach es X.env := by rfl) (hpl : (backTo pos (starEach es X.env)).any (·.1) = false := by rfl) : PD X C (.Call (.Name x p) (e :: es) [] pos) (dCall r t) :=
  PE_imp (pe_callTy hc hg hm hv ha hn hdb he hpl) fun _ _ _ => call_go
/-! the built-ins -/
theorem rpa1 {H : Hp} {vs : List V} {d : PyData} (h : RpA H vs [d]) : ∃ v, vs = [v] ∧ Rp H v d := by
  cases h with
  | cons a b => cases b; exact ⟨_, rfl, a⟩
theorem rpa2 {H : Hp} {vs : List V} {d d' : PyData} (h : RpA H vs [d, d']) : ∃ v w, vs = [v, w] ∧ Rp H v d ∧ Rp H w d' := by
  cases h with
  | cons a b =>
    obtain ⟨w, rfl, c⟩ := rpa1 b
    exact ⟨_, w, rfl, a, c⟩
def lenD : PyData → Option Nat
  | .list xs => some xs.length
  | .tuple xs => some xs.length
  | .str x => if x.length ≤ sizeLine then some x.length else none
  | _ => none
def rLen : RC := fun xs Q => ∃ d n, xs = [d] ∧ lenD d = some n ∧ Q (.int n)
theorem cd_len : CallD X (.builtin "len") rLen := by
  intro pins s σ H vs us Q I rv w
  obtain ⟨O, ds, Q', dm, rp, ⟨d, n, rfl, hn, q⟩, k⟩ := w
  obtain ⟨v, rfl, hv⟩ := rpa1 rp
  cases d with
  | list xs =>
    obtain ⟨a, ys, rfl, h1, h2, h3⟩ := rp_lst hv
    have e : xs.length = n := Option.some.inj hn
    have l := h3.length
    refine call_len_seq pins s σ H _ us Q I rv ⟨a, ys, rfl, .inl (.inl (DP.Rd.full h1)), ?_⟩
    rw [l, e]
    exact k _ H _ (Same.refl H) (.int _) q
  | tuple xs =>
    obtain ⟨a, ys, rfl, h1, h2, h3⟩ := rp_tup hv
    have e : xs.length = n := Option.some.inj hn
    have l := h3.length
    refine call_len_seq pins s σ H _ us Q I rv ⟨a, ys, rfl, .inr (.inl (.inl (hd_some h1).2)), ?_⟩
    rw [l, e]
    exact k _ H _ (Same.refl H) (.int _) q
  | str z =>
    rw [rp_str hv] at rv
    have hn' : (if z.length ≤ sizeLine then some z.length else none) = some n := hn
    by_cases hz : z.length ≤ sizeLine
    · rw [if_pos hz] at hn'
      have e := Option.some.inj hn'
      refine call_len_str pins s σ H _ us Q I rv ⟨z, rfl, hz, ?_⟩
      rw [e]
      exact k _ H _ (Same.refl H) (.int _) q
    · rw [if_neg hz] at hn'
      cases hn'
  | _ => cases hn
def rTupleOf : RC := fun xs Q => ∃ ys, (xs = [.list ys] ∨ xs = [.tuple ys]) ∧ Q (.tuple ys)
theorem cd_tuple : CallD X (.type "tuple") rTupleOf := by
  intro pins s σ H vs us Q I rv w
  obtain ⟨O, ds, Q', dm, rp, ⟨ys, e | e, q⟩, k⟩ := w
  · subst e
    obtain ⟨v, rfl, hv⟩ := rpa1 rp
    obtain ⟨a, xs, rfl, h1, h2, h3⟩ := rp_lst hv
    exact call_tuple_of pins s σ H _ us Q I rv ⟨a, xs, rfl, .inl ⟨.inl (DP.Rd.full h1), fun p np => k _ _ _ (same_new np) (rp_new dm np h2 h3) q⟩⟩
  · subst e
    obtain ⟨v, rfl, hv⟩ := rpa1 rp
    obtain ⟨a, xs, rfl, h1, h2, h3⟩ := rp_tup hv
    exact call_tuple_of pins s σ H _ us Q I rv ⟨a, xs, rfl, .inr ⟨.inl (.inl (hd_some h1).2), k _ H _ (Same.refl H) hv q⟩⟩
def rTruth (f : List PyData → Bool) : RC := fun xs Q => ∃ ys, (xs = [.list ys] ∨ xs = [.tuple ys]) ∧ PyData.plainAll ys = true ∧ (∀ y ∈ ys, y.fits63) ∧ Q (.bool (f ys))
theorem cd_all (hc : X.calm = true) : CallD X (.builtin "all") (rTruth fun ys => ys.all PyData.truthy) := by
  intro pins s σ H vs us Q I rv w
  obtain ⟨O, ds, Q', dm, rp, ⟨ys, e | e, hp, hf, q⟩, k⟩ := w
  · subst e
    obtain ⟨v, rfl, hv⟩ := rpa1 rp
    obtain ⟨a, xs, rfl, h1, h2, h3⟩ := rp_lst hv
    obtain ⟨its, n, z, r, eo⟩ := lstR I (DP.Rd.full h1)
    obtain ⟨as, hr⟩ := Rp.readsAll I ys xs its (h3.up (hd_same _ _)) r
    rw [Vals.ref1 rv]
    exact PySem.W.all_list_data (I.ok.hd hc) ⟨_, eo, rfl, n, rfl⟩ (by simpa using hr) hp hf fun h' tk hk => ⟨.bl _, H, I.kept hk, rfl, k _ H _ (Same.refl H) (.bl _) q⟩
  · subst e
    obtain ⟨v, rfl, hv⟩ := rpa1 rp
    obtain ⟨a, xs, rfl, h1, h2, h3⟩ := rp_tup hv
    obtain ⟨its, z, r, eo⟩ := tupR I (hd_some h1).2
    obtain ⟨as, hr⟩ := Rp.readsAll I ys xs its (h3.up (hd_same _ _)) r
    rw [Vals.ref1 rv]
    exact PySem.W.all_tuple_data (I.ok.hd hc) (show s.heap.IsTuple a its.toArray from eo) (by simpa using hr) hp hf fun h' tk hk => ⟨.bl _, H, I.kept hk, rfl, k _ H _ (Same.refl H) (.bl _) q⟩
theorem cd_any (hc : X.calm = true) : CallD X (.builtin "any") (rTruth fun ys => ys.any PyData.truthy) := by
  intro pins s σ H vs us Q I rv w
  obtain ⟨O, ds, Q', dm, rp, ⟨ys, e | e, hp, hf, q⟩, k⟩ := w
  · subst e
    obtain ⟨v, rfl, hv⟩ := rpa1 rp
    obtain ⟨a, xs, rfl, h1, h2, h3⟩ := rp_lst hv
    obtain ⟨its, n, z, r, eo⟩ := lstR I (DP.Rd.full h1)
    obtain ⟨as, hr⟩ := Rp.readsAll I ys xs its (h3.up (hd_same _ _)) r
    rw [Vals.ref1 rv]
    exact PySem.W.any_list_data (I.ok.hd hc) ⟨_, eo, rfl, n, rfl⟩ (by simpa using hr) hp hf fun h' tk hk => ⟨.bl _, H, I.kept hk, rfl, k _ H _ (Same.refl H) (.bl _) q⟩
  · subst e
    obtain ⟨v, rfl, hv⟩ := rpa1 rp
    obtain ⟨a, xs, rfl, h1, h2, h3⟩ := rp_tup hv
    obtain ⟨its, z, r, eo⟩ := tupR I (hd_some h1).2
    obtain ⟨as, hr⟩ := Rp.readsAll I ys xs its (h3.up (hd_same _ _)) r
    rw [Vals.ref1 rv]
    exact PySem.W.any_tuple_data (I.ok.hd hc) (show s.heap.IsTuple a its.toArray from eo) (by simpa using hr) hp hf fun h' tk hk => ⟨.bl _, H, I.kept hk, rfl, k _ H _ (Same.refl H) (.bl _) q⟩
theorem rpa_ints {H : Hp} : ∀ {ns : List Int} {vs : List V}, RpA H vs (ns.map PyData.int) → vs = ns.map V.int
  | [], _, h => by cases h; rfl
  | n :: ns, _, h => by
    cases h with
    | cons a b => rw [rp_int a, rpa_ints b]; rfl
def rSumD : RC := fun xs Q => ∃ ns : List Int, xs = [.list (ns.map PyData.int)] ∧ Q (.int ns.sum)
theorem cd_sum (hc : X.calm = true) : CallD X (.builtin "sum") rSumD := by
  intro pins s σ H vs us Q I rv w
  obtain ⟨O, ds, Q', dm, rp, ⟨ns, rfl, q⟩, k⟩ := w
  obtain ⟨v, rfl, hv⟩ := rpa1 rp
  obtain ⟨a, xs, rfl, h1, h2, h3⟩ := rp_lst hv
  rw [rpa_ints h3] at h1
  exact cr_sum hc pins s σ H _ us Q I rv ⟨a, ns, rfl, .inl (DP.Rd.full h1), k _ H _ (Same.refl H) (.int _) q⟩
def rInt1 : RC := fun xs Q => (∃ i, xs = [.int i] ∧ Q (.int i)) ∨ ∃ b : Bool, xs = [.bool b] ∧ Q (.int (if b then 1 else 0))
theorem cd_int : CallD X (.type "int") rInt1 := by
  intro pins s σ H vs us Q I rv w
  obtain ⟨O, ds, Q', dm, rp, (⟨i, rfl, q⟩ | ⟨b, rfl, q⟩), k⟩ := w
  · obtain ⟨v, rfl, hv⟩ := rpa1 rp
    rw [rp_int hv] at rv
    exact call_int1 pins s σ H _ us Q I rv (.inl ⟨i, rfl, k _ H _ (Same.refl H) (.int _) q⟩)
  · obtain ⟨v, rfl, hv⟩ := rpa1 rp
    rw [rp_bl hv] at rv
    exact call_int1 pins s σ H _ us Q I rv (.inr ⟨b, rfl, k _ H _ (Same.refl H) (.int _) q⟩)
def rII (g : Int → Int → Int) : RC := fun xs Q => ∃ i j, xs = [.int i, .int j] ∧ Q (.int (g i j))
theorem cd_max2 (hc : X.calm = true) : CallD X (.builtin "max") (rII fun i j => if j > i then j else i) := by
  intro pins s σ H vs us Q I rv w
  obtain ⟨O, ds, Q', dm, rp, ⟨i, j, rfl, q⟩, k⟩ := w
  obtain ⟨v, w, rfl, hv, hw⟩ := rpa2 rp
  rw [rp_int hv, rp_int hw] at rv
  exact call_max2 hc pins s σ H _ us Q I rv ⟨i, j, rfl, k _ H _ (Same.refl H) (.int _) q⟩
theorem cd_min2 (hc : X.calm = true) : CallD X (.builtin "min") (rII fun i j => if j < i then j else i) := by
  intro pins s σ H vs us Q I rv w
  obtain ⟨O, ds, Q', dm, rp, ⟨i, j, rfl, q⟩, k⟩ := w
  obtain ⟨v, w, rfl, hv, hw⟩ := rpa2 rp
  rw [rp_int hv, rp_int hw] at rv
  exact call_min2 hc pins s σ H _ us Q I rv ⟨i, j, rfl, k _ H _ (Same.refl H) (.int _) q⟩
/-! ### new lists by calls -/
abbrev RF := List PyData → (List PyData → Prop) → Prop
def upCF (r : RF) : List V → Hp → VK → Prop := fun vs H Q => ∃ (O : List Addr) (ds : List PyData) (Q' : List PyData → Prop), (∀ a ∈ O, H a ≠ none) ∧ RpA (hd H O) vs ds ∧ r ds Q' ∧ ∀ a H' ws xs, Same H H' → H a = none → H' a = some (.lst ws) → ws.length ≤ sizeLine → RpA (hd H' (a :: O)) ws xs → Q' xs → Q (.ref a) H'
def CallF (X : Cx) (f : Value) (r : RF) : Prop := CallR X f (upCF r)
def fCall (r : RF) (t : TAD) : TAD := fun e Q => t e fun xs => r xs Q
theorem callF_go {r : RF} {σ : L2.St} {H : Hp} {Q : VK} (h : upF C (fCall r t) σ H Q) : tCB (upCF r) (upA C t) σ H Q := by
  obtain ⟨ρ, Q', R, q, k⟩ := h
  exact ⟨ρ, _, R, q, fun vs H1 xs g1 rp q1 => ⟨C.O ++ oA ρ, xs, Q', (R.grow g1).domA, rp, q1, fun a H' ws ys sm na ea l rpz qz => k a H' ws ys (g1.then_same sm) (Gr.none R g1 na) ea l rpz qz⟩⟩
theorem pf_callB {r : RF} (hc : CallF X (.builtin bid) r) (hm : X.mg x = none) (hv : bootBuiltins x = some (.builtin bid)) (ha : PDA X C (e :: es) t) (hg : Gl X x := by rfl) (hn : x ≠ "__name__" := by decide) (hdb : (x == ("__debug__" : Str)) = false := by decide)
    (he : starEach (e :: es) X.env = (false, eval e X.env) :: starEach es X.env := by rfl) (hpl : (backTo pos (starEach es X.env)).any (·.1) = false := by rfl) : PF X C (.Call (.Name x p) (e :: es) [] pos) (fCall r t) :=
  PE_imp (pe_callB hc hg hm hv ha hn hdb he hpl) fun _ _ _ => callF_go
theorem pf_callTy {r : RF} (hc : CallF X (.type T) r) (hm : X.mg x = none) (hv : bootBuiltins x = some (.type T)) (ha : PDA X C (e :: es) t) (hg : Gl X x := by rfl) (hn : x ≠ "__name__" := by decide) (hdb : (x == ("__debug__" : Str)) = false := by decide)
    (he : starEach (e :: es) X.env = (false, eval e X.env) :: starEach es X.env := by rfl) (hpl : (backTo pos (starEach es X.env)).any (·.1) = false := by rfl) : PF X C (.Call (.Name x p) (e :: es) [] pos) (fCall r t) :=
  PE_imp (pe_callTy hc hg hm hv ha hn hdb he hpl) fun _ _ _ => callF_go
def rListOf : RF := fun xs Q => ∃ ys, (xs = [.list ys] ∨ xs = [.tuple ys]) ∧ Q ys
theorem cf_list : CallF X (.type "list") rListOf := by
  intro pins s σ H vs us Q I rv w
  obtain ⟨O, ds, Q', dm, rp, ⟨ys, e | e, q⟩, k⟩ := w
  · subst e
    obtain ⟨v, rfl, hv⟩ := rpa1 rp
    obtain ⟨a, xs, rfl, h1, h2, h3⟩ := rp_lst hv
    exact call_list_of pins s σ H _ us Q I rv ⟨a, xs, rfl, .inl (.inl (DP.Rd.full h1)), fun p np => k _ _ _ _ (same_new np) np upd_same h2 (h3.up (new_in np)) q⟩
  · subst e
    obtain ⟨v, rfl, hv⟩ := rpa1 rp
    obtain ⟨a, xs, rfl, h1, h2, h3⟩ := rp_tup hv
    exact call_list_of pins s σ H _ us Q I rv ⟨a, xs, rfl, .inr (.inl (.inl (hd_some h1).2)), fun p np => k _ _ _ _ (same_new np) np upd_same h2 (h3.up (new_in np)) q⟩
/-! sorted -/
def sortD (ds : List PyData) : List PyData := ds.mergeSort (PySem.W.dataLe false id)
/-- tuples, the first has an item, another one has none -/
def TupFirst (ds : List PyData) : Prop := (∃ x r l, ds = .tuple (x :: r) :: l) ∧ (∀ d ∈ ds, ∃ xs, d = .tuple xs) ∧ .tuple [] ∈ ds
def SortOk (ds : List PyData) : Prop := PySem.W.AllAlike ds ∧ (PySem.W.Sortable ds ∨ ((ds.length ≤ 1 ∨ TupFirst ds) ∧ ∀ d ∈ ds, d ≠ .none)) ∧ ∀ d ∈ ds, d.depth ≤ 60
def rSortedD : RF := fun xs Q => ∃ ys, xs = [.list ys] ∧ SortOk ys ∧ Q (sortD ys)
section
variable {M : Model} {A : Around} {E : Value → Shared → Prop} {s : Shared}
open PySem.W in
theorem first_tup {v : Value} {xs : List PyData} {as : List Addr} (r : Reads s.heap v (.tuple xs) as) {Q : Option Value → Shared → Prop} (h : ∀ f : Option Value, f.isSome = !xs.isEmpty → Q f s) : wpAny M A (firstOfTuple' v) Q E s := by
  cases r with
  | @tuple a o us n _ _ ho hc hd hr =>
    have ln := SeqAt.ReadsAll.length _ _ _ hr
    rw [kas_first_eq]
    refine wpAny_bind (Looks.here (show Looks M s.heap (typeOf (.ref a)) o.cls from (Looks.ld ho).andThen .now) ?_)
    rw [hc, if_neg (by first | decide | simp)]
    refine wpAny_bind (listItems_at ho hd (wpAny_pure (h _ ?_)))
    cases xs with
    | nil =>
      have z : us.size = 0 := by simpa using ln
      rw [Array.getElem?_eq_none (by omega)]
      rfl
    | cons x xs =>
      have z : us.size = xs.length + 1 := by simpa using ln
      rw [Array.getElem?_eq_getElem (by omega)]
      rfl
open PySem.W in
theorem firsts_mixed : ∀ {vs : List Value} {ds : List PyData}, EachIs (fun v d => ∃ as, Reads s.heap v d as) vs ds → (∀ d ∈ ds, ∃ xs, d = .tuple xs) → ∀ {Q : List (Option Value) → Shared → Prop},
    (∀ fs : List (Option Value), fs.map (·.isSome) = ds.map (fun d => match d with | .tuple xs => !xs.isEmpty | _ => false) → Q fs s) → wpAny M A (vs.mapM firstOfTuple') Q E s
  | _, _, .nil, _, _, h => by rw [List.mapM_nil]; exact wpAny_pure (h [] rfl)
  | _, _, .cons (b := d) ⟨as, r⟩ t, ht, Q, h => by
    obtain ⟨xs, rfl⟩ := ht d (List.mem_cons_self ..)
    rw [List.mapM_cons]
    refine wpAny_bind (first_tup r fun f hf => ?_)
    refine wpAny_bind (firsts_mixed t (fun d hd => ht d (List.mem_cons_of_mem _ hd)) fun fs hfs => wpAny_pure (h _ ?_))
    rw [List.map_cons, List.map_cons, hfs, hf]
open PySem.W in
theorem kind_mixed {vs : List Value} {ds : List PyData} {Q : SortKind → Shared → Prop} (e : EachIs (fun v d => ∃ as, Reads s.heap v d as) vs ds) (t : TupFirst ds) (h : Q general' s) : wpAny M A (keyKind' vs.toArray) Q E s := by
  obtain ⟨⟨x, r, l, rfl⟩, t2, t3⟩ := t
  rw [kat_kind_eq, List.mapM_toArray, map_eq_pure_bind]
  refine wpAny_bind (wpAny_bind (firsts_mixed e t2 fun fs hfs => wpAny_pure ?_))
  cases fs with
  | nil => simp at hfs
  | cons f fs =>
    rw [List.map_cons, List.map_cons] at hfs
    obtain ⟨e1, e2⟩ := List.cons.inj hfs
    have e1 : f.isSome = true := e1
    have no : ¬ ((f :: fs).toArray.all fun x => x.isSome) = true := by
      intro z
      have z2 : ∀ y ∈ (f :: fs).map (·.isSome), y = true := fun y hy => by
        obtain ⟨g, hg, rfl⟩ := List.mem_map.mp hy
        have := Array.all_eq_true_iff_forall_mem.mp z g (by simpa using hg)
        exact this
      rw [List.map_cons, e1, e2] at z2
      rcases List.mem_cons.mp t3 with q | q
      · cases q
      · have := z2 false (List.mem_cons_of_mem _ (List.mem_map.mpr ⟨_, q, rfl⟩))
        cases this
    rw [if_neg no]
    have f0 : (((f :: fs).toArray)[0]?.bind id).isSome = true := by
      obtain ⟨u, rfl⟩ := Option.isSome_iff_exists.mp e1
      simp
    rw [if_pos f0]
    exact wpAny_pure h
end
open PySem.W in
theorem sorts_one {prog : Program} {w : World} {A : Around} {s : Shared} {vs : List Value} {ds : List PyData} (e : EachIs (fun v d => ∃ as, Reads s.heap v d as) vs ds) (hal : AllAlike ds) (h1 : ds.length ≤ 1 ∨ TupFirst ds) (hn : ∀ d ∈ ds, d ≠ .none) (hu : ∀ d, d ∈ ds → A.units + d.depth < cLine) : SortsAt prog w A s (dataKind s.heap ds) vs := by
  have room : ∀ {d d' : PyData}, d ∈ ds → A.units + min d.depth d'.depth < cLine := fun {d d'} hd => Nat.lt_of_le_of_lt (Nat.add_le_add_left (Nat.min_le_left _ _) _) (hu d hd)
  refine ⟨fun v hv => ?_, general', ?_, fun h2 E Q hq => ?_⟩
  · obtain ⟨d, hd, as, r⟩ := e.left v hv
    exact ⟨_, dataKind_some hal hd r⟩
  · intro E x y a b Q ha hb hq
    obtain ⟨d, as, hd, ra, rfl⟩ := dataKind_inv ha
    obtain ⟨d', as', hd', rb, rfl⟩ := dataKind_inv hb
    show wpAny _ _ (oneLt' false x y) _ _ _
    exact oneLt_alike (fun z => nomatch z) ra rb (hal d hd d' hd') (hn d hd) (room hd) hq
  · have := e.length
    rcases h1 with h1 | h1
    · omega
    · exact kind_mixed e h1 hq
theorem each_pairs {H : Hp} : ∀ {vs : List V} {ds : List PyData} {its : List Value}, RpA H vs ds → Vals vs its → PySem.W.EachIs (fun v (b : V × PyData) => RelV b.1 v) its (vs.zip ds)
  | _, _, _, .nil, .nil => .nil
  | _, _, _, .cons _ b, .cons r t => .cons r (each_pairs b t)
theorem rpa_pairs {H : Hp} : ∀ {ps : List (V × PyData)}, (∀ p ∈ ps, Rp H p.1 p.2) → RpA H (ps.map (·.1)) (ps.map (·.2))
  | [], _ => .nil
  | p :: ps, h => .cons (h p List.mem_cons_self) (rpa_pairs fun q hq => h q (List.mem_cons_of_mem _ hq))
theorem pairs_rpa {H : Hp} : ∀ {vs : List V} {ds : List PyData}, RpA H vs ds → ∀ p ∈ vs.zip ds, Rp H p.1 p.2
  | _, _, .nil, _, h => by simp at h
  | _, _, .cons a b, p, h => by
    rw [List.zip_cons_cons, List.mem_cons] at h
    rcases h with rfl | h
    · exact a
    · exact pairs_rpa b p h
theorem each_vals : ∀ {out : List Value} {ps : List (V × PyData)}, PySem.W.EachIs (fun v (b : V × PyData) => RelV b.1 v) out ps → Vals (ps.map (·.1)) out
  | _, _, .nil => .nil
  | _, _, .cons a b => .cons a (each_vals b)
theorem rpa_each {H : Hp} {X : Cx} {pins : List (Addr × Obj)} {σ : L2.St} {s : Shared} (I : Inv X pins σ H s) : ∀ {vs : List V} {ds : List PyData} {its : List Value}, RpA H vs ds → Vals vs its → PySem.W.EachIs (fun v (b : V × PyData) => ∃ as, Reads s.heap v b.2 as) its (vs.zip ds)
  | _, _, _, .nil, .nil => .nil
  | _, _, _, .cons a b, .cons r t => .cons (Rp.reads I _ _ _ a r) (rpa_each I b t)
open PySem.W in
theorem sorted_pairs {prog : Program} {w : World} {A : Around} {E : Value → Shared → Prop} {s : Shared} {l : Addr} {its : List Value} {ps : List (V × PyData)} {Q : Value → Shared → Prop} (hl : s.heap.IsList l its.toArray) (e : EachIs (fun v (b : V × PyData) => RelV b.1 v) its ps)
    (er : EachIs (fun v (b : V × PyData) => ∃ as, Reads s.heap v b.2 as) its ps) (ok : SortOk (ps.map (·.2))) (hL : ps.length ≤ sizeLine) (hu : A.units + 64 < cLine)
    (h : ∀ out, out.length = ps.length → EachIs (fun v (b : V × PyData) => RelV b.1 v) out (ps.mergeSort (dataLe false (·.2))) → Q (.ref (s.heap.objs.size + 1)) { s with heap := sortedAll s.heap its (List.toArray out) }) :
    wpAny (model prog w) A (call (.builtin "sorted") [.ref l]) Q E s := by
  obtain ⟨hal, hk, hd⟩ := ok
  have hd' : ∀ b ∈ ps, b.2.depth ≤ 60 := fun b hb => hd _ (List.mem_map.mpr ⟨b, hb, rfl⟩)
  rcases hk with hk | ⟨h1, hn⟩
  · exact sorted_data hl e er hal hk hL (fun b hb => by have := hd' b hb; omega) h
  · have er' : EachIs (fun v (b : V × PyData) => ∃ as, Reads (sortingHeap (copyHeap s.heap its) (s.heap.objs.size + 1) its) v b.2 as) its ps := er.mono fun _ _ ⟨as, r⟩ => ⟨as, PyProof.Rows.Reads.keeps (fun _ _ => sorting_copy_old) r⟩
    exact sorted_vals hl (sorts_one (s := { s with heap := sortingHeap (copyHeap s.heap its) (s.heap.objs.size + 1) its }) (each_map (R := fun v d => ∃ as, Reads (sortingHeap (copyHeap s.heap its) (s.heap.objs.size + 1) its) v d as) (fun b : V × PyData => b.2) er') hal h1 hn
        (bound_map fun b hb => by have := hd' b hb; show A.units + 1 + 1 + b.2.depth < cLine; omega)) (by rw [e.length]; exact hL)
      (h _ (by rw [sortVals_length false rfl]; exact e.length) (sortVals_data false e er' hal))
theorem cf_sorted (hu : X.A.units + 64 < cLine) : CallF X (.builtin "sorted") rSortedD := by
  intro pins s σ H vs us Q I rv w
  obtain ⟨O, ds, Q', dm, rp, ⟨ys, rfl, ok, q⟩, k⟩ := w
  obtain ⟨v, rfl, hv⟩ := rpa1 rp
  obtain ⟨a, xs, rfl, h1, h2, h3⟩ := rp_lst hv
  obtain ⟨its, n, z, r, eo⟩ := lstR I (DP.Rd.full h1)
  rw [Vals.ref1 rv]
  have ln := h3.length
  have e2 : (xs.zip ys).map (·.2) = ys := List.map_snd_zip (by omega)
  have elen : (xs.zip ys).length = xs.length := by rw [List.length_zip]; omega
  refine sorted_pairs (ps := xs.zip ys) ⟨_, eo, rfl, n, rfl⟩ (each_pairs h3 r) (rpa_each I (h3.up (hd_same _ _)) r) (by rw [e2]; exact ok) (by omega) hu fun out hlen he => ?_
  obtain ⟨ee, he2⟩ := sortedAll_at s.heap its out.toArray
  have vo := each_vals he
  have np : H (s.heap.objs.size + 1) = none := I.hok.fresh (Nat.le_succ _)
  have lw : (((xs.zip ys).mergeSort (PySem.W.dataLe false (·.2))).map (·.1)).length ≤ sizeLine := by
    rw [List.length_map, List.length_mergeSort]
    omega
  refine ⟨.ref (s.heap.objs.size + 1), _, I.laid (t' := s.toks) (o := .lst (((xs.zip ys).mergeSort (PySem.W.dataLe false (·.2))).map (·.1))) (fun b u z => sortedAll_old z) (Nat.le_succ _) ⟨lw, out, ee, vo, he2⟩, rfl,
    k _ _ _ (sortD ys) (same_new np) np upd_same lw ?_ q⟩
  have es : sortD ys = ((xs.zip ys).mergeSort (PySem.W.dataLe false (·.2))).map (·.2) := by
    have z := PySem.W.sort_maps (r := PySem.W.dataLe false fun b : V × PyData => b.2) (s := PySem.W.dataLe false id) (fun b : V × PyData => b.2) (l := xs.zip ys) (fun a _ b _ => rfl)
    rw [e2] at z
    exact z.symm
  rw [es]
  refine (rpa_pairs fun p hp => ?_).up (new_in np)
  exact pairs_rpa h3 p (List.mem_mergeSort.mp hp)
end
end DP

end
section
set_option Elab.async false
set_option linter.all false
set_option maxRecDepth 100000
set_option autoImplicit false
set_option maxHeartbeats 4000000
namespace DP
open PySem PySem.Spec PyProof.Rows L2
section
variable {X : Cx} {C : Cfg} {e a b : Expr} {pos : Pos} {t ta tb : TD}
/-! ### x[i] -/
def atD (xs : List PyData) (i : Int) : Option PyData := (ixN xs.length i).bind fun j => xs[j]?
def rIxD : R2D := fun x y Q => ∃ i xs d, y = .int i ∧ (x = .list xs ∨ x = .tuple xs) ∧ atD xs i = some d ∧ Q d
theorem at_rp {H : Hp} {vs : List V} {xs : List PyData} {i : Int} {d : PyData} (h : RpA H vs xs) (e : atD xs i = some d) : ∃ v, atI vs i = some v ∧ Rp H v d := by
  unfold atD at e
  rw [← h.length] at e
  unfold atI
  cases q : ixN vs.length i with
  | none => rw [q] at e; cases e
  | some j =>
    rw [q] at e
    exact h.get e
theorem ixd : IxR X (upR rIxD) := by
  intro value slice pins s σ H x y v u Q I rx ry w hs
  obtain ⟨O, dx, dy, Q', dm, hx, hy, ⟨i, xs, d, rfl, ex, hd', q⟩, k⟩ := w
  rw [rp_int hy] at ry
  rcases ex with rfl | rfl
  · obtain ⟨a, ys, rfl, h1, h2, h3⟩ := rp_lst hx
    obtain ⟨z, e1, e2⟩ := at_rp h3 hd'
    exact ix_list value slice pins s σ H _ _ v u Q I rx ry ⟨a, ys, i, z, rfl, rfl, .inl (DP.Rd.full h1), e1, k _ H _ (Same.refl H) e2 q⟩ hs
  · obtain ⟨a, ys, rfl, h1, h2, h3⟩ := rp_tup hx
    obtain ⟨z, e1, e2⟩ := at_rp h3 hd'
    exact ix_tup value slice pins s σ H _ _ v u Q I rx ry ⟨a, ys, i, z, rfl, rfl, .inl (.inl (hd_some h1).2), e1, k _ H _ (Same.refl H) e2 q⟩ hs
theorem pd_ix (ha : PD X C a ta) (hb : PD X C b tb) (hs : PlainIx b := by exact fun _ _ => rfl) : PD X C (.Subscript a b pos) (dOp rIxD ta tb) := PE_imp (pe_ix ixd ha hb hs) fun _ _ _ => op_go
/-! ### x[lo:hi] -/
abbrev TOD := SEnv → (Option Int → Prop) → Prop
def upO (C : Cfg) (t : TOD) : TO := fun σ H Q => ∃ (r : DEnv) (Q' : Option Int → Prop), RepE C σ H r ∧ t (er r) Q' ∧ ∀ o H', Gr C r H H' → Q' o → Q o H'
def PDO (X : Cx) (C : Cfg) (e : Option Expr) (t : TOD) : Prop := PO X e (upO C t)
theorem PO_imp {eo : Option Expr} {t u : TO} (h : PO X eo t) (q : ∀ σ H Q, u σ H Q → t σ H Q) : PO X eo u := ⟨fun pins s σ H Q I hw => h.run pins s σ H Q I (q σ H Q hw)⟩
def oNone : TOD := fun _ Q => Q none
def oSome (t : TD) : TOD := fun r Q => t r fun x => ∃ i, x = .int i ∧ Q (some i)
theorem pdo_none : PDO X C none oNone := PO_imp po_none fun σ H Q ⟨r, Q', R, q, k⟩ => k none H (Gr.refl R) q
theorem pdo_some (h : PD X C e t) : PDO X C (some e) (oSome t) := PO_imp (po_some h) fun σ H Q ⟨r, Q', R, q, k⟩ => ⟨r, _, R, q, fun v H1 x g rp qx => by
  obtain ⟨i, rfl, qx⟩ := qx
  exact ⟨i, rp_int rp, k _ H1 g qx⟩⟩
def cutD (xs : List PyData) (lo hi : Option Int) : List PyData := (xs.drop (HT.sIx xs.length 0 lo)).take (HT.sIx xs.length xs.length hi - HT.sIx xs.length 0 lo)
def rSlD : PyData → Option Int → Option Int → (PyData → Prop) → Prop
  | .list xs, lo, hi, Q => Q (.list (cutD xs lo hi))
  | .tuple xs, lo, hi, Q => Q (.tuple (cutD xs lo hi))
  | _, _, _, _ => False
def upSl : V → Option Int → Option Int → Hp → VK → Prop := fun x lo hi H Q => ∃ (O : List Addr) (dx : PyData) (Q' : PyData → Prop), (∀ a ∈ O, H a ≠ none) ∧ Rp (hd H O) x dx ∧ rSlD dx lo hi Q' ∧ ∀ z H' dz, Same H H' → Rp (hd H' O) z dz → Q' dz → Q z H'
theorem cut_rp {H : Hp} {vs : List V} {xs : List PyData} {lo hi : Option Int} (h : RpA H vs xs) : RpA H (cutV vs lo hi) (cutD xs lo hi) := by
  unfold cutV cutD
  rw [h.length]
  exact (h.drop _).take _
theorem cut_len {xs : List V} {lo hi : Option Int} : (cutV xs lo hi).length ≤ xs.length := by
  unfold cutV
  rw [List.length_take, List.length_drop]
  omega
theorem sld : SlR X upSl := by
  intro pins s σ H x v vl vu lo hi sl Q I rx hs pl pu w
  obtain ⟨O, dx, Q', dm, hx, q, k⟩ := w
  cases dx with
  | list xs =>
    obtain ⟨a, ys, rfl, h1, h2, h3⟩ := rp_lst hx
    exact sl_list pins s σ H _ v vl vu lo hi sl Q I rx hs pl pu ⟨a, ys, rfl, .inl (DP.Rd.full h1), fun p np => k _ _ _ (same_new np) (rp_newL dm np (Nat.le_trans cut_len h2) (cut_rp h3)) q⟩
  | tuple xs =>
    obtain ⟨a, ys, rfl, h1, h2, h3⟩ := rp_tup hx
    refine sl_tupA pins s σ H _ v vl vu lo hi sl Q I rx hs pl pu ⟨a, ys, rfl, .inl (.inl (hd_some h1).2), fun hw => ?_, fun _ p np => ?_⟩
    · refine k _ H _ (Same.refl H) hx ?_
      have e : cutD xs lo hi = xs := by
        unfold cutD
        rw [← h3.length, hw.1, hw.2, h3.length]
        simp
      have q' : Q' (.tuple (cutD xs lo hi)) := q
      rw [e] at q'
      exact q'
    · exact k _ _ _ (same_new np) (rp_new dm np (Nat.le_trans cut_len h2) (cut_rp h3)) q
  | _ => exact (show False from q).elim
def dSl (t : TD) (tl th : TOD) : TD := fun r Q => t r fun x => tl r fun l => th r fun u => rSlD x l u Q
theorem pd_slice {lo hi : Option Expr} {tl th : TOD} {p2 : Pos} (he : PD X C e t) (hl : PDO X C lo tl) (hu : PDO X C hi th) : PD X C (.Subscript e (.Slice lo hi none p2) pos) (dSl t tl th) :=
  PE_imp (pe_slice sld he hl hu) fun σ H Q ⟨r, Q', R, q, k⟩ => ⟨r, _, R, q, fun v H1 x g1 rp q1 => ⟨r, _, R.grow g1, q1, fun l H2 g2 q2 => ⟨r, _, (R.grow g1).grow g2, q2, fun u H3 g3 q3 =>
    ⟨C.O ++ oA r, x, Q', (((R.grow g1).grow g2).grow g3).domA, (rp.up (g2.hd (R.grow g1))).up (g3.hd ((R.grow g1).grow g2)), q3, fun z H' dz sm rpz qz => k z H' dz (((g1.trans g2).trans g3).then_same sm) rpz qz⟩⟩⟩⟩
/-! ### x[::-1] -/
section
variable {prog : Program} {w : World} {A : Around} {E : Value → Shared → Prop} {s : Shared}
theorem sliceApplied_rev {sl : Addr} {vl vu vs : Value} {n : Nat} {Q : Int × Int × Nat → Shared → Prop} (hs : s.heap.IsSliceOf sl vl vu vs) (pl : IsPart vl none) (pu : IsPart vu none) (ps : IsPart vs (some (-1)))
    (h : Q ((n : Int) - 1, -1, n) s) : wpAny (model prog w) A (Builtin.Slice.sliceApplied (.ref sl) (pure (n : Int))) Q E s := by
  obtain ⟨os, hos, hcs, hds⟩ := id hs
  unfold Builtin.Slice.sliceApplied Builtin.Slice.sliceFields
  refine wpAny_bind (wpAny_bind (wpAny_field hos hds (x := vl) rfl (wpAny_bind (wpAny_field hos hds (x := vu) rfl (wpAny_bind (wpAny_field hos hds (x := vs) rfl (wpAny_pure ?_)))))))
  refine wpAny_bind (HT.slicePart_ ps ?_)
  show wpAny _ _ (if ((-1 : Int) == 0) = true then _ else _) _ _ s
  rw [if_neg (by decide)]
  refine wpAny_bind (HT.slicePart_ pl (wpAny_bind (HT.slicePart_ pu (wpAny_bind (wpAny_pure ?_)))))
  show wpAny _ _ (match Builtin.Slice.sliceAdjust none none (-1) (n : Int) with | (lo, hi) => pure (lo, (-1 : Int), Builtin.Slice.slicePlaces lo hi (-1))) _ _ s
  have e : Builtin.Slice.sliceAdjust none none (-1) (n : Int) = ((n : Int) - 1, -1) := by
    unfold Builtin.Slice.sliceAdjust
    simp
  rw [e]
  show wpAny _ _ (pure ((n : Int) - 1, (-1 : Int), Builtin.Slice.slicePlaces ((n : Int) - 1) (-1) (-1))) _ _ s
  have e2 : Builtin.Slice.slicePlaces ((n : Int) - 1) (-1) (-1) = n := by
    unfold Builtin.Slice.slicePlaces
    simp
    split <;> omega
  rw [e2]
  exact wpAny_pure h
theorem fm_range {α : Type} (f : Nat → Option α) : ∀ (ys : List α) (k : Nat), (∀ m, m < ys.length → f (k + m) = ys[m]?) → (List.range' k ys.length).filterMap f = ys
  | [], k, _ => rfl
  | y :: ys, k, h => by
    have h0 : f k = some y := by simpa using h 0 (by simp)
    rw [List.length_cons, List.range'_succ, List.filterMap_cons, h0, fm_range f ys (k + 1) fun m hm => by
      have q := h (m + 1) (by rw [List.length_cons]; omega)
      rw [show k + 1 + m = k + (m + 1) by omega]
      simpa using q]
theorem pick_rev (xs : List Value) : ((List.range xs.length).filterMap fun (m : Nat) => xs.toArray[(((xs.length : Nat) : Int) - 1 + (m : Int) * -1).toNat]?) = xs.reverse := by
  have h := fm_range (fun (m : Nat) => xs.toArray[(((xs.length : Nat) : Int) - 1 + (m : Int) * -1).toNat]?) xs.reverse 0 fun m hm => by
    rw [List.length_reverse] at hm
    rw [List.getElem?_reverse hm, Nat.zero_add, show (((xs.length : Nat) : Int) - 1 + (m : Int) * -1).toNat = xs.length - 1 - m by omega]
    simp
  rw [List.length_reverse, ← List.range_eq_range'] at h
  exact h
theorem getItem_tuple_rev {tp sl : Addr} {items : List Value} {vl vu vs : Value} {Q : Value → Shared → Prop} (ht : IsTup s.heap tp items.toArray) (hs : s.heap.IsSliceOf sl vl vu vs) (pl : IsPart vl none) (pu : IsPart vu none) (ps : IsPart vs (some (-1)))
    (h : Q (.ref s.heap.objs.size) { s with heap := s.heap.push { cls := .type "tuple", data := .seq items.reverse.toArray } }) (hsz : items.length ≤ sizeLine) : wpAny (model prog w) A (getItem (.ref tp) (.ref sl)) Q E s := by
  have htake : sizeOk (.seq items.reverse.toArray) := by
    show items.reverse.toArray.size ≤ sizeLine
    rw [List.size_toArray, List.length_reverse]
    exact hsz
  obtain ⟨os, hos, hcs, hds⟩ := id hs
  have hTs : s.TypeIs (.ref sl) "slice" := ⟨os, hos, hcs⟩
  unfold getItem
  try with_reducible refine wpAny_holding ?_
  first | refine wpAny_bind (wpAny_pure ?_) | skip
  refine wpAny_bind (wpAny_sequenceKey ht.typeIs (by decide) ?_)
  refine wpAny_bind (wpAny_callSpecial?_slot (name := Str.ofString "__getitem__") ht.typeIs PyProof.Rows.slot_tuple_getitem
    (wpAny_call_entry PyProof.Rows.slot_tuple_getitem ht.typeIs entry_tuple_getitem ?_ (args_tuple_getitem _ _)))
  show wpAny _ _ (Builtin.Tuple.tupleItemsOf (.ref tp) >>= _) _ _ s
  refine wpAny_bind (tupleItemsOf_ ht ?_)
  refine wpAny_bind (wpAny_typeOf hTs ?_)
  rw [if_pos (by decide)]
  refine wpAny_bind (sliceApplied_rev hs pl pu ps ?_)
  have hno : ¬ ((((items.toArray.size : Int) - 1) == 0 && (-1 : Int) == 1 && items.toArray.size == items.toArray.size) = true) := by
    intro q
    rw [Bool.and_eq_true, Bool.and_eq_true] at q
    exact absurd q.1.2 (by decide)
  show wpAny _ _ (if (((items.toArray.size : Int) - 1) == 0 && (-1 : Int) == 1 && items.toArray.size == items.toArray.size) = true then _ else _) _ _ s
  rw [if_neg hno]
  have ep : ((List.range items.toArray.size).filterMap fun (k : Nat) => items.toArray[((items.toArray.size : Int) - 1 + (k : Int) * -1).toNat]?) = items.reverse := by
    have := pick_rev items
    simpa using this
  rw [ep]
  first
    | exact wpAny_bind (m := Builtin.Tuple.tupleExact _) (wpAny_newObj_type (wpAny_pure ⟨_, rfl, wpAny_pure h⟩) htake)
    | exact wpAny_bind (m := Builtin.Tuple.tupleExact _) (wpAny_newObj_type (wpAny_bind (wpAny_pure (wpAny_pure ⟨_, rfl, wpAny_pure h⟩))) htake)
    | exact wpAny_bind (wpAny_bind (m := Builtin.Tuple.tupleExact _) (wpAny_newObj_type (wpAny_pure (wpAny_pure ⟨_, rfl, wpAny_pure h⟩)) htake))
    | exact wpAny_bind (wpAny_bind (m := Builtin.Tuple.tupleExact _) (wpAny_newObj_type (wpAny_pure ⟨_, rfl, wpAny_pure h⟩) htake))
end
theorem Vals.rev {xs : List V} {us : List Value} (r : Vals xs us) : Vals xs.reverse us.reverse := by
  induction r with
  | nil => exact .nil
  | cons a b ih =>
    rw [List.reverse_cons, List.reverse_cons]
    exact ih.append (.cons a .nil)
def rRevD : PyData → (PyData → Prop) → Prop
  | .list xs, Q => Q (.list xs.reverse)
  | .tuple xs, Q => Q (.tuple xs.reverse)
  | _, _ => False
def dRev (t : TD) : TD := fun r Q => t r fun x => rRevD x Q
theorem pd_rev {k : Nat} {p1 p2 p3 : Pos} (he : PD X C e t) : PD X C (.Subscript e (.Slice none none (some (.UnaryOp .USub (.Constant (.int 1) k p1) p2)) p3) pos) (dRev t) := by
  refine ⟨fun pins s σ H Q I h => ?_⟩
  obtain ⟨ρ, Q', R, q, kk⟩ := h
  refine Subscript_ (thn (he.run pins s σ H (fun v H1 => Gr C ρ H H1 ∧ ∃ x, Rp (hd H1 (C.O ++ oA ρ)) v x ∧ rRevD x Q') I ⟨ρ, _, R, q, fun v H' x g rp qx => ⟨g, x, rp, qx⟩⟩) fun v s1 ⟨x, H1, I1, r1, g1, dx, rp, q1⟩ => ?_)
  have hst : PO X (some (.UnaryOp .USub (.Constant (.int 1) k p1) p2)) (tPart (tUn (rU fun i => .int (-i)) (tC (.int 1)))) := po_some (pe_un un_neg pe_int)
  refine wpAny_Slice (thn (po_none.run pins s1 σ H1 (fun o H2 => o = none ∧ H2 = H1) I1 ⟨rfl, rfl⟩) fun vl s2 ⟨l, H2, I2, pl, el, e2⟩ => ?_)
  subst el e2
  refine thn (po_none.run pins s2 σ H2 (fun o H3 => o = none ∧ H3 = H2) I2 ⟨rfl, rfl⟩) fun vu s3 ⟨u, H3, I3, pu, eu, e3⟩ => ?_
  subst eu e3
  refine thn (hst.run pins s3 σ H3 (fun o H4 => o = some (-1) ∧ H4 = H3) I3 ⟨1, rfl, -1, rfl, rfl, rfl⟩) fun vs s4 ⟨o, H4, I4, ps, eo, e4⟩ => ?_
  subst eo e4
  have I5 : Inv X pins σ H4 { s4 with heap := s4.heap.push { cls := .type "slice", data := .fields #[vl, vu, vs] } } := I4.kept (t' := s4.toks) fun b ob q => Heap.get?_push_of_some _ q
  have np := I5.hok.fresh (Nat.le_refl _)
  have dm := (R.grow g1).domA
  cases dx with
  | list xs =>
    obtain ⟨a, ys, rfl, h1, h2, h3⟩ := rp_lst rp
    cases r1
    obtain ⟨its, n, z, r, eo⟩ := lstR I5 (DP.Rd.full h1)
    have hlen := r.length
    have hl : ({ s4 with heap := s4.heap.push { cls := .type "slice", data := .fields #[vl, vu, vs] } } : Shared).heap.IsList a its.toArray := ⟨_, eo, rfl, n, rfl⟩
    show wpAny (model X.prog X.w) X.A (subscriptTail e (.Slice none none (some (.UnaryOp .USub (.Constant (.int 1) k p1) p2)) p3) (.ref a) (.ref s4.heap.objs.size)) (EP X pins σ Q) X.xe { s4 with heap := s4.heap.push { cls := .type "slice", data := .fields #[vl, vu, vs] } }
    refine tail_any (ops := [.ref a, .ref s4.heap.objs.size]) hl.typeIs (PySem.slot_list_getitem.lookup) ?_ (by with_unfolding_all rfl)
    refine wpAny_getItem_list_slice hl (Heap.IsSliceOf.new _ vl vu vs) pl pu ps (by decide) ?_ (by rw [List.size_toArray]; omega)
    rw [PySem.W.krv_pick]
    refine ⟨.ref _, _, I5.laid (t' := s4.toks) (o := .lst ys.reverse) (fun b ob q => Heap.get?_push_of_some _ q) (Nat.le_refl _) ?_, rfl, kk _ _ _ (g1.then_same (same_new np)) (rp_newL dm np (by rw [List.length_reverse]; exact h2) h3.reverse) q1⟩
    exact ⟨by rw [List.length_reverse]; exact h2, _, 0, Vals.rev r, Heap.get?_push_size _ rfl⟩
  | tuple xs =>
    obtain ⟨a, ys, rfl, h1, h2, h3⟩ := rp_tup rp
    cases r1
    obtain ⟨its, z, r, eo⟩ := tupR I5 (hd_some h1).2
    have hlen := r.length
    show wpAny (model X.prog X.w) X.A (subscriptTail e (.Slice none none (some (.UnaryOp .USub (.Constant (.int 1) k p1) p2)) p3) (.ref a) (.ref s4.heap.objs.size)) (EP X pins σ Q) X.xe { s4 with heap := s4.heap.push { cls := .type "slice", data := .fields #[vl, vu, vs] } }
    refine tail_any (ops := [.ref a, .ref s4.heap.objs.size]) eo.typeIs slot_tuple_getitem.lookup ?_ (by with_unfolding_all rfl)
    refine getItem_tuple_rev eo (Heap.IsSliceOf.new _ vl vu vs) pl pu ps ?_ (by omega)
    refine ⟨.ref _, _, I5.laid (t' := s4.toks) (o := .tup ys.reverse) (fun b ob q => Heap.get?_push_of_some _ q) (Nat.le_refl _) ?_, rfl, kk _ _ _ (g1.then_same (same_new np)) (rp_new dm np (by rw [List.length_reverse]; exact h2) h3.reverse) q1⟩
    exact ⟨by rw [List.length_reverse]; exact h2, _, Vals.rev r, IsTup.new _ _⟩
  | _ => exact (show False from q1).elim
/-! ### isinstance(x, T) -/
def isT : String → PyData → Bool
  | "int", d => d.isInt
  | "bool", d => d.isBool
  | "str", d => d.isStr
  | "list", d => d.isList
  | "tuple", d => d.isTuple
  | _, _ => false
def rIsiD (T : String) : List V → Hp → VK → Prop := fun vs H Q => ∃ v d, vs = [v, .ty T] ∧ Rp H v d ∧ Q (.bl (isT T d)) H
theorem cr_isi {T : String} (hT : T ∈ ["int", "bool", "str", "list", "tuple"]) : CallR X (.builtin "isinstance") (rIsiD T) := by
  intro pins s σ H xs us Q I rv w
  obtain ⟨v, d, rfl, hv, q⟩ := w
  obtain ⟨u1, u2, rfl, r1, r2⟩ := vals2 rv
  cases (show u2 = Value.type T from r2)
  obtain ⟨as, rd⟩ := Rp.reads I d v u1 hv r1
  simp only [List.mem_cons, List.not_mem_nil, or_false] at hT
  rcases hT with rfl | rfl | rfl | rfl | rfl
  · exact PySem.W.isinstance_int_data rd fun tk _ => ⟨.bl _, H, I.tok tk, rfl, q⟩
  · exact PySem.W.isinstance_bool_data rd fun tk _ => ⟨.bl _, H, I.tok tk, rfl, q⟩
  · exact PySem.W.isinstance_str_data rd fun tk _ => ⟨.bl _, H, I.tok tk, rfl, q⟩
  · exact PySem.W.isinstance_list_data rd fun tk _ => ⟨.bl _, H, I.tok tk, rfl, q⟩
  · exact PySem.W.isinstance_tuple_data rd fun tk _ => ⟨.bl _, H, I.tok tk, rfl, q⟩
def dIsi (T : String) (t : TD) : TD := fun r Q => t r fun x => Q (.bool (isT T x))
theorem pd_isi {T : String} {x : Str} {p q : Pos} (hm : X.mg "isinstance" = none) (hmT : X.mg x = none) (hv : bootBuiltins x = some (.type T)) (ha : PD X C a ta) (hT : T ∈ ["int", "bool", "str", "list", "tuple"] := by decide) (hg : Gl X "isinstance" := by rfl) (hgT : Gl X x := by rfl) (hn : x ≠ "__name__" := by decide) (hdb : (x == ("__debug__" : Str)) = false := by decide)
    (he : starEach [a, .Name x q] X.env = (false, eval a X.env) :: starEach [.Name x q] X.env := by rfl) (hpl : (backTo pos (starEach [.Name x q] X.env)).any (·.1) = false := by rfl) (he2 : starEach [.Name x q] X.env = (false, eval (.Name x q) X.env) :: starEach [] X.env := by rfl) :
    PD X C (.Call (.Name "isinstance" p) [a, .Name x q] [] pos) (dIsi T ta) :=
  PE_imp (pe_callB (cr_isi hT) hg hm (by decide +kernel) (pa_cons ha (pa_cons (pe_bltn (v := .ty T) hgT hmT hv rfl hn hdb) pa_nil he2) he) (by decide) (by decide) he hpl) fun σ H Q ⟨r, Q', R, q, k⟩ =>
    ⟨r, _, R, q, fun v H1 x g rp qx => ⟨v, x, rfl, rp.up (hd_same _ _), k _ H1 _ g (.bl _) qx⟩⟩
end
end DP

end
section
set_option Elab.async false
set_option linter.all false
set_option maxRecDepth 100000
set_option autoImplicit false
set_option maxHeartbeats 4000000
namespace DP
open PySem PySem.Spec PyProof.Rows L2
/-! ### enumerate(tuple) -/
section
open Sem (wp)
open AutoSeq1 (wpAny_loadPart')
theorem meets_enumerate_newT (l : Addr) (items : Array Value) (n : Nat) (dct : Option Addr) (sl : Array (Option Value)) :
    Meets (Builtin.«enumerate.__new__» ⟨[.type "enumerate", .ref l], []⟩) (fun _ R s => s.heap.get? l = some { cls := .type "tuple", dict := dct, data := .seq items n, slots := sl } ∧
      R (.ok (.ret (.ref (s.heap.push { cls := .type "tuple_iterator", data := .fields #[.ref l, .int 0 0] }).objs.size)))
        { s with heap := (s.heap.push { cls := .type "tuple_iterator", data := .fields #[.ref l, .int 0 0] }).push { cls := .type "enumerate", data := .fields #[.none, .bool false, .ref s.heap.objs.size, rawInt 0, .none, .none] } }) :=
  .of_wp fun prog w A R s h => by
    obtain ⟨hp, g, d, tk, os⟩ := s; obtain ⟨hl, h⟩ := h
    have hsub := sub_enumerate
    have hL : Heap.IsTuple (Shared.heap ⟨hp, g, d, tk, os⟩) l items := ⟨_, hl, rfl, n, rfl⟩
    wp_walk using wpAny_loadPart' hl
    refine wpAny_stack_any fun st => wpAny_pure ?_
    split
    · rename_i c _ _ _ _ _
      cases (c == Value.type "enumerate")
      · wp_walk using wpAny_loadPart' hl, wpAny_pyIter_tuple hL
        exact ⟨_, rfl, h⟩
      · wp_walk using wpAny_loadPart' hl, wpAny_pyIter_tuple hL
        exact ⟨_, rfl, h⟩
    · wp_walk using wpAny_loadPart' hl, wpAny_pyIter_tuple hL
      exact ⟨_, rfl, h⟩
theorem call_enumerate_tuple {prog : Program} {w : World} {A : Around} {E : Value → Shared → Prop} {s : Shared} {l : Addr} {items : Array Value} {Q : Value → Shared → Prop} (hL : s.heap.IsTuple l items)
    (h : ∀ h', IsEnum h' (s.heap.objs.size + 1) s.heap.objs.size 0 .none → h'.IsTupleIter s.heap.objs.size l 0 → h'.objs.size = s.heap.objs.size + 2 →
      (∀ b o, s.heap.get? b = some o → h'.get? b = some o) → Q (.ref (s.heap.objs.size + 1)) { s with heap := h' }) :
    wpAny (model prog w) A (call (.type "enumerate") [.ref l]) Q E s := by
  obtain ⟨⟨c, dct, dt, sl⟩, hl, hc, n, hd⟩ := hL
  replace hc : c = .type "tuple" := hc
  replace hd : dt = .seq items n := hd
  subst hc hd
  refine callType_new F.called_enumerate (by decide) (F.typeCall_enumerate_1 _) (F.newCall_enumerate_1 _) (fun obj => F.args_object_init_2 obj _) F.entry_enumerate_new
    (meets_enumerate_newT l items n dct sl) ⟨hl, ?_⟩
  have hz : (s.heap.push { cls := .type "tuple_iterator", data := .fields #[.ref l, .int 0 0] }).objs.size = s.heap.objs.size + 1 := Heap.size_push ..
  show _ ∧ _
  rw [hz]
  have he : IsEnum ((s.heap.push { cls := .type "tuple_iterator", data := .fields #[.ref l, .int 0 0] }).push
      { cls := .type "enumerate", data := .fields #[.none, .bool false, .ref s.heap.objs.size, rawInt 0, .none, .none] }) (s.heap.objs.size + 1) s.heap.objs.size 0 .none := by
    have := Heap.get?_push_size (s.heap.push { cls := .type "tuple_iterator", data := .fields #[.ref l, .int 0 0] })
      (o := { cls := .type "enumerate", data := .fields #[.none, .bool false, .ref s.heap.objs.size, rawInt 0, .none, .none] }) rfl
    rw [hz] at this; exact this
  refine ⟨⟨_, he, rfl⟩, h _ he ⟨_, Heap.get?_push_of_some _ (Heap.get?_push_size _ rfl), rfl, rfl⟩ (by rw [Heap.size_push, hz]) fun b o x => Heap.get?_push_of_some _ (Heap.get?_push_of_some _ x)⟩
end
def IteT (a : Addr) : It :=
  ⟨fun i H => ∃ (xs : List V) (x : V), H a = some (.tup xs) ∧ xs[i]? = some x, fun i H v H' => ∃ T x, v = .ref T ∧ H T = none ∧ H' = upd H T (.tup [.int (i : Nat), x]) ∧ ∀ xs, H a = some (.tup xs) → xs[i]? = some x, fun i H => ∃ xs : List V, H a = some (.tup xs) ∧ xs.length = i⟩
theorem turn_enumT {P : Program} {w : World} {K : PySem.W.Frag} {elts : List Expr} {kk : Nat} {tpos : Pos} (a e it : Addr) :
    Turn P w K (.Tuple elts kk tpos) (IteT a) [e, it] e (fun i h => (∃ old, IsEnum h e it ((i : Nat) : Int) old) ∧ h.IsTupleIter it a i ∧ e ≠ it ∧ a ≠ it) where
  mem := by simp
  obj := fun i h st b hb => by
    obtain ⟨⟨old, he⟩, ⟨o, ho, hc, hd⟩, _⟩ := st
    have e' : b = e ∨ b = it := by simpa using hb
    rcases e' with z | z
    · rw [z]; exact ⟨_, he, fun v q => nomatch q⟩
    · rw [z]; exact ⟨o, ho, fun v q => by rw [hd] at q; cases q⟩
  keep := fun i h h' st k => let ⟨⟨old, he⟩, hi, hne⟩ := st; ⟨⟨old, k e (by simp) _ he⟩, hi.at fun o q => k it (by simp) o q, hne⟩
  item := by
    intro X hP hw hK hc i pins s σ H E I hf st hg
    subst hP hw hK
    obtain ⟨⟨old, he⟩, hit, hne, hai⟩ := st
    obtain ⟨xs, x, hq, hx⟩ := hg
    obtain ⟨its, hz, rv, p⟩ := tupR I hq
    obtain ⟨u, hu, ru⟩ := rv.get hx
    have hel : e < s.heap.objs.size := Heap.lt_size he
    have hil : it < s.heap.objs.size := by obtain ⟨_, q, _⟩ := hit; exact Heap.lt_size q
    have D := Draws.tuple (prog := X.prog) (w := X.w) (A := X.A.in1) (I.ok.hd hc) it a hai its.toArray
    have hlt : i < its.toArray.size := by
      obtain ⟨hl, _⟩ := List.getElem?_eq_some_iff.mp hu
      simpa using hl
    have hef : e ∉ [it, a] := by
      intro z
      have e' : e = it ∨ e = a := by simpa using z
      rcases e' with z | z
      · exact hne z
      · have hn := (hf e (by simp)).1
        rw [z, hq] at hn
        cases hn
    refine wpAny_pyNext_enum_itemD D he ⟨hit, (show s.heap.IsTuple a its.toArray from p)⟩ hlt hne hef fun x' h' tk hP ho hit' hT hsz hk => ?_
    refine ⟨_, rfl, wpAny_letOwnedTupleGo_enum (s := { s with heap := h', toks := tk + 1 }) ho fun h'' he' sb => ?_⟩
    have ex : x' = u := by
      have h1 : its.toArray[i]? = some x' := hP
      have h2 : its.toArray[i]? = some u := by simpa using hu
      rw [h1] at h2
      exact Option.some.inj h2
    subst ex
    have hT2 : h''.get? s.heap.objs.size = some { cls := .type "tuple", data := .seq #[.int i tk, x'] } := (sb.2 _ (Nat.ne_of_gt hel)).trans hT
    have new : ObjOk X.prog X.w (upd H s.heap.objs.size (.tup [.int (i : Nat), x])) h'' s.heap.objs.size (.tup [.int (i : Nat), x]) :=
      ⟨by show 2 ≤ sizeLine; decide, [.int i tk, x'], .cons ⟨_, rfl⟩ (.cons ru .nil), ⟨_, hT2, rfl, _, rfl⟩⟩
    have I1 : Inv X pins σ (upd H s.heap.objs.size (.tup [.int (i : Nat), x])) { s with heap := h'', toks := tk + 1 } :=
      I.turnedNew (ch := [e, it]) (fun b ob hb q => (sb.2 b (fun z => hb (by simp [z]))).trans (hk b ob (fun z => hb (by simp [z])) (fun z => hb (by simp [z])) q)) hf (Nat.le_refl _) new
    refine ⟨.ref s.heap.objs.size, _, I1, rfl, ⟨_, x, rfl, I.hok.fresh (Nat.le_refl _), rfl, fun ys hy => by rw [hq] at hy; cases hy; exact hx⟩, ⟨⟨x', ?_⟩, hit'.1.at fun o q => (sb.2 it (Ne.symm hne)).trans q, hne, hai⟩, fun b hb => ?_⟩
    · have e1 : ((i + 1 : Nat) : Int) = (i : Int) + 1 := by omega
      rw [e1]; exact he'
    · have hb' : b < s.heap.objs.size := by
        have e' : b = e ∨ b = it := by simpa using hb
        rcases e' with z | z
        · rw [z]; exact hel
        · rw [z]; exact hil
      rw [upd_ne (Nat.ne_of_lt hb')]
      exact (hf b hb).1
  done := by
    intro X hP hw hK hc i pins s σ H E I hf st hg
    subst hP hw hK
    obtain ⟨⟨old, he⟩, hit, hne, hai⟩ := st
    obtain ⟨xs, hq, hx⟩ := hg
    obtain ⟨its, hz, rv, p⟩ := tupR I hq
    obtain ⟨f0, f1, f2, f3, f4, f5⟩ := hf it (by simp)
    have D := Draws.tuple (prog := X.prog) (w := X.w) (A := X.A.in1) (I.ok.hd hc) it a hai its.toArray
    have hn : its.toArray.size = i := by rw [List.size_toArray, ← rv.length]; exact hx
    refine wpAny_pyNext_enum_endD D he ⟨?_, (show s.heap.IsTuple a its.toArray from p)⟩ fun h' eb => ⟨rfl, I.turned (t' := s.toks) (fun b o hb q => eb b o hb q) f0 f1 f3 f4 f5⟩
    rw [hn]
    exact hit
  self := fun A i s Q E st h => let ⟨⟨_, he⟩, _⟩ := st; wpAny_pyIter_enum he h
end DP

end
section
set_option Elab.async false
set_option linter.all false
set_option maxRecDepth 100000
set_option autoImplicit false
set_option maxHeartbeats 4000000
namespace DP
open PySem PySem.Spec PyProof.Rows L2
/-! ### slots change -/
section
variable {C : Cfg} {σ : L2.St} {H H' : Hp} {r : DEnv} {i : Nat} {v : V}
theorem set_get {α : Type} {l : List α} {i j : Nat} {x y : α} (h : (l.set i x)[j]? = some y) : (j = i ∧ y = x) ∨ (j ≠ i ∧ l[j]? = some y) := by
  by_cases e : j = i
  · subst e
    by_cases hl : j < l.length
    · rw [List.getElem?_set_self hl] at h
      exact .inl ⟨rfl, (Option.some.inj h).symm⟩
    · rw [List.getElem?_eq_none (by rw [List.length_set]; omega)] at h
      cases h
  · rw [List.getElem?_set_ne (Ne.symm e)] at h
    exact .inr ⟨e, h⟩
theorem RepV.less {K : PySem.W.Frag} {H : Hp} {Os Os' : List Addr} {v : V} {x : DV} (h : RepV K H Os v x) (s : ∀ a, a ∈ Os' → a ∈ Os) : RepV K H Os' v x := by
  cases x with
  | d y => exact Rp.up h (hd_sub s)
  | m a o => exact ⟨h.1, h.2.keep (fun _ q => q) (hd_sub s)⟩
  | scr a ns => exact h
theorem oA_set_less {x : Option DV} (hx : ∀ y, x = some y → adr y = none) {a : Addr} (h : a ∈ oA (r.set i x)) : a ∈ oA r := by
  obtain ⟨j, o, e⟩ := mem_oA.mp h
  rcases set_get e with ⟨_, z⟩ | ⟨_, z⟩
  · have q := hx _ z.symm
    cases q
  · exact mem_oA.mpr ⟨j, o, z⟩
/-- a slot holds what has no address of its own, or nothing -/
theorem RepE.put (R : RepE C σ H r) {x : Option DV} (hx : ∀ y, x = some y → adr y = none) (hi : i < C.n) (hv : ∀ y, x = some y → RepV C.K H (C.O ++ oA r) v y) : RepE C (σ.set i (some v)) H (r.set i x) := by
  have less : ∀ a, a ∈ C.O ++ oA (r.set i x) → a ∈ C.O ++ oA r := fun a ha => by
    rcases List.mem_append.mp ha with h | h
    · exact List.mem_append_left _ h
    · exact List.mem_append_right _ (oA_set_less hx h)
  refine ⟨by rw [List.length_set]; exact R.lenS, by rw [List.length_set]; exact R.len, fun j y e => ?_, fun j a o e n => ?_, R.dom, R.ext, fun j a o e n => ?_, fun j a e => ?_, R.sto, R.szo⟩
  · rcases set_get e with ⟨rfl, z⟩ | ⟨hj, z⟩
    · exact ⟨v, List.getElem?_set_self (by rw [R.lenS]; exact hi), (hv y z.symm).less less⟩
    · obtain ⟨w, h1, h2⟩ := R.slot j y z
      exact ⟨w, by rw [List.getElem?_set_ne (Ne.symm hj)]; exact h1, h2.less less⟩
  · rcases set_get e with ⟨rfl, z⟩ | ⟨hj, z⟩
    · cases (hx _ z.symm)
    · obtain ⟨h1, h2⟩ := R.sep j a o z n
      refine ⟨h1, fun k y hk ek => ?_⟩
      rcases set_get ek with ⟨rfl, z2⟩ | ⟨hk2, z2⟩
      · rw [hx y z2.symm]; exact fun q => nomatch q
      · exact h2 k y hk z2
  · rcases set_get e with ⟨rfl, z⟩ | ⟨hj, z⟩
    · cases (hx _ z.symm)
    · exact R.ownf j a o z n
  · rcases set_get e with ⟨rfl, z⟩ | ⟨hj, z⟩
    · cases (hx _ z.symm)
    · exact R.stf j a z
theorem RepE.set_d (R : RepE C σ H r) {x : PyData} (hi : i < C.n) (h : Rp (hd H (C.O ++ oA r)) v x) : RepE C (σ.set i (some v)) H (r.set i (some (.d x))) :=
  R.put (fun y e => by cases e; rfl) hi fun y e => by cases e; exact h
/-- the slots may say less -/
theorem RepE.weak (R : RepE C σ H r) {σ' : L2.St} {r' : DEnv} (ls : σ'.length = C.n) (lr : r'.length = C.n) (hs : ∀ (j : Nat) (y : DV), r'[j]? = some (some y) → r[j]? = some (some y)) (hσ : ∀ (j : Nat) (y : DV) (w : V), r'[j]? = some (some y) → σ[j]? = some (some w) → σ'[j]? = some (some w)) : RepE C σ' H r' := by
  have less : ∀ a, a ∈ C.O ++ oA r' → a ∈ C.O ++ oA r := fun a ha => by
    rcases List.mem_append.mp ha with h | h
    · exact List.mem_append_left _ h
    · obtain ⟨j, o, e⟩ := mem_oA.mp h
      exact List.mem_append_right _ (mem_oA.mpr ⟨j, o, hs j _ e⟩)
  refine ⟨ls, lr, fun j y e => ?_, fun j a o e n => ?_, R.dom, R.ext, fun j a o e n => R.ownf j a o (hs j _ e) n, fun j a e => R.stf j a (hs j _ e), R.sto, R.szo⟩
  · obtain ⟨w, h1, h2⟩ := R.slot j y (hs j y e)
    exact ⟨w, hσ j y w e h1, h2.less less⟩
  · obtain ⟨h1, h2⟩ := R.sep j a o (hs j _ e) n
    exact ⟨h1, fun k y hk ek => h2 k y hk (hs k y ek)⟩
def moD : MO → Option PyData
  | .lst xs => some (.list xs)
  | .dct kvs => some (.dict kvs)
  | .st => none
theorem MOk.rp {H : Hp} {Os Os' : List Addr} {a : Addr} {o : MO} {x : PyData} (h : MOk H Os a o) (e : moD o = some x) (less : ∀ b, b ∈ Os' → b ∈ Os) (na : a ∉ Os') : Rp (hd H Os') (.ref a) x := by
  cases o with
  | lst xs =>
    cases e
    obtain ⟨vs, h2, h3, h4⟩ := h
    refine .lst (.inl ?_) h3 (h4.up (hd_sub less))
    rw [hd_out na]
    exact h2
  | dct kvs =>
    cases e
    obtain ⟨o, xs, h2, h3, h4, h5, h6⟩ := h
    refine .dctN ?_ h3 h4 h5 (h6.up (hd_sub less))
    rw [hd_out na]
    exact h2
  | st => cases e
/-- an owned list is data from now on -/
theorem RepE.freeze (R : RepE C σ H r) {a : Addr} {mo : MO} {x : PyData} (e : r[i]? = some (some (.m a mo))) (hx : moD mo = some x) : RepE C σ H (r.set i (some (.d x))) := by
  obtain ⟨v, h1, rfl, h2⟩ := R.slot i _ e
  have ns : mo ≠ .st := fun z => by rw [z] at hx; cases hx
  have less : ∀ b, b ∈ C.O ++ oA (r.set i (some (.d x))) → b ∈ C.O ++ oA r := fun b hb => by
    rcases List.mem_append.mp hb with h | h
    · exact List.mem_append_left _ h
    · exact List.mem_append_right _ (oA_set_less (fun y e => by cases e; rfl) h)
  have na : a ∉ C.O ++ oA (r.set i (some (.d x))) := fun hz => by
    rcases List.mem_append.mp hz with h | h
    · exact (R.sep i a _ e ns).1 h
    · obtain ⟨j, y, ej⟩ := mem_oA.mp h
      rcases set_get ej with ⟨ej1, z⟩ | ⟨hj, z⟩
      · cases z
      · exact (R.sep i a _ e ns).2 j _ hj z rfl
  refine ⟨R.lenS, by rw [List.length_set]; exact R.len, fun j y ej => ?_, fun j b o ej n => ?_, R.dom, R.ext, fun j b o ej n => ?_, fun j b ej => ?_, R.sto, R.szo⟩
  · rcases set_get ej with ⟨rfl, z⟩ | ⟨hj, z⟩
    · cases z
      exact ⟨_, h1, h2.rp hx less na⟩
    · obtain ⟨w, q1, q2⟩ := R.slot j y z
      exact ⟨w, q1, q2.less less⟩
  · rcases set_get ej with ⟨rfl, z⟩ | ⟨hj, z⟩
    · cases z
    · obtain ⟨q1, q2⟩ := R.sep j b o z n
      refine ⟨q1, fun k y hk ek => ?_⟩
      rcases set_get ek with ⟨rfl, z2⟩ | ⟨hk2, z2⟩
      · cases z2; exact fun q => nomatch q
      · exact q2 k y hk z2
  · rcases set_get ej with ⟨rfl, z⟩ | ⟨hj, z⟩
    · cases z
    · exact R.ownf j b o z n
  · rcases set_get ej with ⟨rfl, z⟩ | ⟨hj, z⟩
    · cases z
    · exact R.stf j b z
/-- a slot holds a new object that may change -/
theorem RepE.new (R : RepE C σ H r) (g : Gr C r H H') {a : Addr} {o : MO} (hi : i < C.n) (hn : H a = none) (h : MOk H' (a :: (C.O ++ oA r)) a o) : RepE C (σ.set i (some (.ref a))) H' (r.set i (some (.m a o))) := by
  have R' := R.grow g
  have fr := R.fresh hn
  have ne : ∀ b, b ∈ C.O ++ oA r → b ≠ a := fun b hb z => fr (z ▸ hb)
  have less : ∀ b, b ∈ C.O ++ oA (r.set i (some (.m a o))) → b ∈ a :: (C.O ++ oA r) := fun b hb => by
    rcases List.mem_append.mp hb with h | h
    · exact List.mem_cons_of_mem _ (List.mem_append_left _ h)
    · obtain ⟨j, y, ej⟩ := mem_oA.mp h
      rcases set_get ej with ⟨rfl, z⟩ | ⟨hj, z⟩
      · cases z
        exact List.mem_cons_self
      · exact List.mem_cons_of_mem _ (List.mem_append_right _ (mem_oA.mpr ⟨j, y, z⟩))
  -- what stood ahead names no new address
  have nw : Same (hd H (C.O ++ oA r)) (hd H' (a :: (C.O ++ oA r))) := fun b u e => by
    obtain ⟨e1, e2⟩ := hd_some e
    have e3 : b ≠ a := ne_of_none e2 hn
    rw [hd_out (by rw [List.mem_cons, not_or]; exact ⟨e3, e1⟩)]
    exact g.1 b u (fun k z => e1 (R.shO z)) e2
  refine ⟨by rw [List.length_set]; exact R.lenS, by rw [List.length_set]; exact R.len, fun j y ej => ?_, fun j b u ej n => ?_, R'.dom, R'.ext, fun j b u ej n => ?_, fun j b ej => ?_, R'.sto, R.szo⟩
  · rcases set_get ej with ⟨rfl, z⟩ | ⟨hj, z⟩
    · cases z
      exact ⟨_, List.getElem?_set_self (by rw [R.lenS]; exact hi), rfl, h.keep (fun _ q => q) (hd_sub less)⟩
    · obtain ⟨w, q1, q2⟩ := R.slot j y z
      obtain ⟨w', q1', q2'⟩ := R'.slot j y z
      rw [q1] at q1'
      cases q1'
      refine ⟨w, by rw [List.getElem?_set_ne (Ne.symm hj)]; exact q1, ?_⟩
      refine RepV.less (Os := a :: (C.O ++ oA r)) ?_ less
      cases y with
      | d x => exact Rp.up q2 nw
      | m b u =>
        refine ⟨q2'.1, ?_⟩
        by_cases n : u = .st
        · subst n; exact q2'.2
        · exact q2.2.keep (fun w q => g.1 b w (R.ownN z n) q) nw
      | scr b ns => exact q2'
  · rcases set_get ej with ⟨rfl, z⟩ | ⟨hj, z⟩
    · cases z
      refine ⟨fun q => fr (List.mem_append_left _ q), fun k y hk ek q => ?_⟩
      rcases set_get ek with ⟨z1, _⟩ | ⟨_, z2⟩
      · exact hk z1
      · cases y with
        | d x => cases q
        | scr b ns => cases q
        | m b u =>
          have q' : some b = some a := q
          cases q'
          exact fr (List.mem_append_right _ (mem_oA.mpr ⟨k, u, z2⟩))
    · obtain ⟨q1, q2⟩ := R.sep j b u z n
      refine ⟨q1, fun k y hk ek => ?_⟩
      rcases set_get ek with ⟨rfl, z2⟩ | ⟨_, z2⟩
      · cases z2
        intro q
        have q' : some a = some b := q
        cases q'
        exact fr (List.mem_append_right _ (mem_oA.mpr ⟨j, u, z⟩))
      · exact q2 k y hk z2
  · rcases set_get ej with ⟨rfl, z⟩ | ⟨hj, z⟩
    · cases z; exact R.h0 hn
    · exact R.ownf j b u z n
  · rcases set_get ej with ⟨rfl, z⟩ | ⟨hj, z⟩
    · cases z; exact .inr ⟨R.h0 hn, fun q => fr (List.mem_append_left _ q)⟩
    · exact R.stf j b z
/-- an owned object is changed -/
theorem RepE.change (R : RepE C σ H r) {a : Addr} {o o' : MO} {u : HO} (e : r[i]? = some (some (.m a o))) (n : o ≠ .st) (n' : o' ≠ .st) (h : MOk (upd H a u) (C.O ++ oA r) a o') : RepE C σ (upd H a u) (r.set i (some (.m a o'))) := by
  obtain ⟨v, h1, hv, hm⟩ := R.slot i _ e
  obtain ⟨u0, hu, hx⟩ := hm.noext
  have ain : a ∈ oA r := mem_oA.mpr ⟨i, o, e⟩
  have sub : ∀ b, b ∈ C.O ++ oA (r.set i (some (.m a o'))) → b ∈ C.O ++ oA r := fun b hb => by
    rcases List.mem_append.mp hb with h | h
    · exact List.mem_append_left _ h
    · obtain ⟨j, y, ej⟩ := mem_oA.mp h
      rcases set_get ej with ⟨rfl, z⟩ | ⟨hj, z⟩
      · cases z
        exact List.mem_append_right _ ain
      · exact List.mem_append_right _ (mem_oA.mpr ⟨j, y, z⟩)
  have nw : Same (hd H (C.O ++ oA r)) (hd (upd H a u) (C.O ++ oA r)) := fun b w q => by
    obtain ⟨e1, e2⟩ := hd_some q
    have e3 : b ≠ a := fun z => e1 (z ▸ List.mem_append_right _ ain)
    rw [hd_out e1, upd_ne e3]
    exact e2
  refine ⟨R.lenS, by rw [List.length_set]; exact R.len, fun j y ej => ?_, fun j b w ej nn => ?_, fun b hb => ?_, fun b w hn eb => ?_, fun j b w ej nn => ?_, fun j b ej => ?_, fun s hs => ?_, R.szo⟩
  · rcases set_get ej with ⟨rfl, z⟩ | ⟨hj, z⟩
    · cases z
      exact ⟨v, h1, hv, h.keep (fun _ q => q) (hd_sub sub)⟩
    · obtain ⟨w, q1, q2⟩ := R.slot j y z
      refine ⟨w, q1, RepV.less (Os := C.O ++ oA r) ?_ sub⟩
      cases y with
      | d x => exact Rp.up q2 nw
      | m b y =>
        have hba : b ≠ a := fun q => (R.sep i a o e n).2 j _ hj z (by rw [← q]; rfl)
        exact ⟨q2.1, q2.2.keep (fun w q => by rw [upd_ne hba]; exact q) nw⟩
      | scr b ns =>
        refine ⟨q2.1, q2.2.keep fun ob w q => ?_⟩
        rw [upd_ne]
        · exact q
        · rintro rfl
          cases o with
          | lst xs => obtain ⟨vs, q3, _⟩ := hm; rw [q] at q3; cases q3
          | dct xs => obtain ⟨_, _, q3, _⟩ := hm; rw [q] at q3; cases q3
          | st => exact n rfl
  · rcases set_get ej with ⟨rfl, z⟩ | ⟨hj, z⟩
    · cases z
      obtain ⟨q1, q2⟩ := R.sep j a o e n
      refine ⟨q1, fun k y hk ek => ?_⟩
      rcases set_get ek with ⟨z1, _⟩ | ⟨_, z2⟩
      · exact absurd z1 hk
      · exact q2 k y hk z2
    · obtain ⟨q1, q2⟩ := R.sep j b w z nn
      refine ⟨q1, fun k y hk ek => ?_⟩
      rcases set_get ek with ⟨rfl, z2⟩ | ⟨hk2, z2⟩
      · cases z2
        exact (show adr (DV.m a o) ≠ some b from q2 k _ hk e)
      · exact q2 k y hk z2
  · have q := R.dom b hb
    intro z
    rw [upd_ne (fun w => (R.sep i a o e n).1 (by rw [← w]; exact hb))] at z
    exact q z
  · have h5 := R.ext b w hn eb
    rw [upd_ne]
    · exact h5
    · rintro rfl
      rw [R.ownf i b o e n] at eb
      cases eb
  · rcases set_get ej with ⟨rfl, z⟩ | ⟨hj, z⟩
    · cases z; exact R.ownf j a o e n
    · exact R.ownf j b w z nn
  · rcases set_get ej with ⟨rfl, z⟩ | ⟨hj, z⟩
    · cases z; exact absurd rfl n'
    · exact R.stf j b z
  · exact (R.sto s hs).upd hu hx fun z => (R.sep i a o e n).1 (by rw [← z]; exact (R.szo s hs).1)
end
end DP

end
section
set_option Elab.async false
set_option linter.all false
set_option maxRecDepth 100000
set_option autoImplicit false
set_option maxHeartbeats 4000000
namespace DP
open PySem PySem.Spec PyProof.Rows L2
/-! ### what a def hands back: data, a new list -/
inductive RV where
  | d (x : PyData)
  | l (xs : List PyData)
structure EndsD where
  nx : SEnv → Prop
  rt : RV → Prop
  bk : SEnv → Prop := fun _ => False
  ct : SEnv → Prop := fun _ => False
abbrev TSD := EndsD → SEnv → Prop
/-- the heap behind the entry C -/
structure Out (C : Cfg) (H' : Hp) : Prop where
  ext : ∀ a o, (∀ k, (a, k) ∉ C.S) → C.H_0 a = some o → H' a = some o
  sto : ∀ s ∈ C.S, SInv H' s
  dom : ∀ a ∈ C.O, H' a ≠ none
theorem RepE.out {C : Cfg} {σ : L2.St} {H : Hp} {r : DEnv} (R : RepE C σ H r) : Out C H := ⟨R.ext, R.sto, R.dom⟩
theorem Out.ofAt {C : Cfg} {σ : L2.St} {H H' : Hp} {r : DEnv} (R : RepE C σ H r) (o : Out (C.at H r) H') : Out C H' := ⟨fun a u hn e => o.ext a u hn (R.at_ge hn e), o.sto, o.dom⟩
def RetV (C : Cfg) (v : V) (H' : Hp) : RV → Prop
  | .d x => Rp (hd H' C.O) v x
  | .l xs => ∃ p vs, v = .ref p ∧ C.H_0 p = none ∧ p ∉ C.O ∧ H' p = some (.lst vs) ∧ vs.length ≤ sizeLine ∧ RpA (hd H' (p :: C.O)) vs xs
theorem RetV.ofAt {C : Cfg} {σ : L2.St} {H H' : Hp} {r : DEnv} {v : V} {rv : RV} (R : RepE C σ H r) (h : RetV (C.at H r) v H' rv) : RetV C v H' rv := by
  have nn : ∀ p, (C.at H r).H_0 p = none → p ∉ C.O → C.H_0 p = none := fun p h1 h2 => by
    cases q : C.H_0 p with
    | none => rfl
    | some u =>
      rw [R.at_ge (fun k z => h2 (R.szo _ z).1) q] at h1
      cases h1
  cases rv with
  | d x => exact h
  | l xs =>
    obtain ⟨p, vs, h1, h2, h3, h4⟩ := h
    exact ⟨p, vs, h1, nn p h2 h3, h3, h4⟩
def upS (C : Cfg) (t : TSD) : TS := fun D σ H => ∃ (r : DEnv) (D' : EndsD), RepE C σ H r ∧ t D' (er r) ∧ (∀ σ' H' r', RepE C σ' H' r' → D'.nx (er r') → D.nx σ' H') ∧ (∀ v H' rv, Out C H' → RetV C v H' rv → D'.rt rv → D.rt v H') ∧ (∀ σ' H' r', RepE C σ' H' r' → D'.bk (er r') → D.bk σ' H') ∧ (∀ σ' H' r', RepE C σ' H' r' → D'.ct (er r') → D.ct σ' H')
def PSD (X : Cx) (C : Cfg) (st : Stmt) (t : TSD) : Prop := PS X st (upS C t)
def PSDs (X : Cx) (C : Cfg) (st : List Stmt) (t : TSD) : Prop := PSs X st (upS C t)
section
variable {X : Cx} {C : Cfg} {st : Stmt} {rest : List Stmt} {t u : TSD} {e : Expr} {te : TD} {pos : Pos}
def sSeq (t u : TSD) : TSD := fun D r => t { D with nx := u D } r
def sNext : TSD := fun D r => D.nx r
theorem psds_nil : PSDs X C [] sNext := PSs_imp pss_nil fun D σ H ⟨r, D', R, q, k, _⟩ => k σ H r R q
theorem psds_cons (h1 : PSD X C st t) (h2 : PSDs X C rest u) : PSDs X C (st :: rest) (sSeq t u) := PSs_imp (pss_cons h1 h2) fun D σ H ⟨r, D', R, q, k1, k2, k3, k4⟩ =>
  ⟨r, { D' with nx := u D' }, R, q, fun σ' H' r' R' q' => ⟨r', D', R', q', k1, k2, k3, k4⟩, k2, k3, k4⟩
theorem psd_pass : PSD X C (.Pass pos) sNext := PS_imp ps_pass fun D σ H ⟨r, D', R, q, k, _⟩ => k σ H r R q
theorem psd_doc {x : Str} {j : Nat} {p : Pos} : PSD X C (.Expr (.Constant (.str x) j p) pos) sNext := PS_imp ps_doc fun D σ H ⟨r, D', R, q, k, _⟩ => k σ H r R q
def sCont : TSD := fun D r => D.ct r
theorem psd_cont : PSD X C (.Continue pos) sCont := PS_imp ps_continue fun D σ H ⟨r, D', R, q, _, _, _, k⟩ => k σ H r R q
def sRet (te : TD) : TSD := fun D r => te r fun x => D.rt (.d x)
theorem RepE.retD {σ : L2.St} {H : Hp} {r : DEnv} (R : RepE C σ H r) {v : V} {x : PyData} (h : Rp (hd H (C.O ++ oA r)) v x) : RetV C v H (.d x) := Rp.up h (hd_sub fun a ha => List.mem_append_left _ ha)
theorem psd_ret (he : PD X C e te) : PSD X C (.Return (some e) pos) (sRet te) := PS_imp (ps_ret he) fun D σ H ⟨r, D', R, q, k1, k2, _⟩ =>
  ⟨r, _, R, q, fun v H' x g rp qx => k2 v H' (.d x) (R.grow g).out ((R.grow g).retD rp) qx⟩
def sRetN : TSD := fun D _ => D.rt (.d .none)
theorem psd_retN : PSD X C (.Return none pos) sRetN := PS_imp ps_retN fun D σ H ⟨r, D', R, q, k1, k2, _⟩ => k2 _ H (.d .none) R.out (R.retD .non) q
/-- return of a new list -/
def sRetF (te : TAD) : TSD := fun D r => te r fun xs => D.rt (.l xs)
theorem RepE.retL {σ : L2.St} {H H' : Hp} {r : DEnv} (R : RepE C σ H r) (g : Gr C r H H') {a : Addr} {vs : List V} {xs : List PyData} (na : H a = none) (ea : H' a = some (.lst vs)) (l : vs.length ≤ sizeLine) (rp : RpA (hd H' (a :: (C.O ++ oA r))) vs xs) : RetV C (.ref a) H' (.l xs) :=
  ⟨a, vs, rfl, R.h0 na, fun z => R.fresh na (List.mem_append_left _ z), ea, l, rp.up (hd_sub fun b hb => by
    rcases List.mem_cons.mp hb with rfl | hb
    · exact List.mem_cons_self
    · exact List.mem_cons_of_mem _ (List.mem_append_left _ hb))⟩
theorem psd_retF {tf : TAD} (he : PF X C e tf) : PSD X C (.Return (some e) pos) (sRetF tf) := PS_imp (ps_ret he) fun D σ H ⟨r, D', R, q, k1, k2, _⟩ =>
  ⟨r, _, R, q, fun a H' vs xs g na ea l rp qx => k2 _ H' (.l xs) (R.grow g).out (R.retL g na ea l rp) qx⟩
/-- the owned list of a slot -/
def oLst (i : Nat) (k : List PyData → Prop) : SEnv → Prop := fun r => match r[i]? with
  | some (some (.m (.lst xs))) => k xs
  | _ => False
theorem oLst_get {i : Nat} {k : List PyData → Prop} {r : DEnv} (h : oLst i k (er r)) : ∃ a xs, r[i]? = some (some (.m a (.lst xs))) ∧ k xs := by
  unfold oLst at h
  split at h
  · rename_i xs e
    obtain ⟨a, q⟩ := er_m e
    exact ⟨a, xs, q, h⟩
  · exact h.elim
/-- return of an owned list -/
def sRetO (i : Nat) : TSD := fun D r => oLst i (fun xs => D.rt (.l xs)) r
theorem psd_retO (i : Nat) {x : Str} {p : Pos} (hN : X.N[i]? = some x) (hv : Vis X.env.scope x) (hd' : (x == ("__debug__" : Str)) = false) (hcd : (x == ("__classdict__" : Str)) = false) : PSD X C (.Return (some (.Name x p)) pos) (sRetO i) := PS_imp (ps_ret (pe_var hN hv hd' hcd)) fun D σ H ⟨r, D', R, w, k1, k2, _⟩ => by
  obtain ⟨a, xs, e1, q⟩ := oLst_get w
  obtain ⟨v, e2, rfl, vs, h2, h3, h4⟩ := R.slot i _ e1
  have ns : MO.lst xs ≠ .st := fun z => by cases z
  exact ⟨_, e2, k2 _ H (.l xs) R.out ⟨a, vs, rfl, R.ownf i a _ e1 ns, (R.sep i a _ e1 ns).1, h2, h3, h4.up (hd_sub fun b hb => by
    rcases List.mem_cons.mp hb with rfl | hb
    · exact List.mem_append_right _ (mem_oA.mpr ⟨i, _, e1⟩)
    · exact List.mem_append_left _ hb)⟩ q⟩
def sIf (c : TTD) (t u : TSD) : TSD := fun D r => c r fun k => if k = true then t D r else u D r
theorem psd_if {c : Expr} {a b : List Stmt} {tc : TTD} (hc : PDT X C c tc) (ha : PSDs X C a t) (hb : PSDs X C b u) : PSD X C (.If c a b pos) (sIf tc t u) := PS_imp (ps_if hc ha hb) fun D σ H ⟨r, D', R, q, k⟩ =>
  ⟨r, _, R, q, fun b H1 g q1 => by
    cases b with
    | true => rw [if_pos rfl] at q1 ⊢; exact ⟨r, D', R.grow g, q1, k⟩
    | false => rw [if_neg Bool.false_ne_true] at q1 ⊢; exact ⟨r, D', R.grow g, q1, k⟩⟩
/-- an expression for nothing -/
def sDrop (te : TD) : TSD := fun D r => te r fun _ => D.nx r
theorem psd_expr (he : PD X C e te) (hs : swapsWith e none pos.line X.env = pure false) : PSD X C (.Expr e pos) (sDrop te) := PS_imp (ps_expr he hs) fun D σ H ⟨r, D', R, q, k⟩ =>
  ⟨r, _, R, q, fun v H' x g rp qx => k.1 σ H' r (R.grow g) qx⟩
theorem set_d_nx {D : Ends} {σ : L2.St} {H H' : Hp} {r : DEnv} {D' : EndsD} {i : Nat} {v : V} {x : PyData} (R : RepE C σ H r) (g : Gr C r H H') (hi : i < C.n) (rp : Rp (hd H' (C.O ++ oA r)) v x) (k : ∀ σ' H' r', RepE C σ' H' r' → D'.nx (er r') → D.nx σ' H') (q : D'.nx ((er r).set i (some (.d x)))) : D.nx (σ.set i (some v)) H' :=
  k _ H' _ ((R.grow g).set_d hi rp) (by rw [er_set]; exact q)
/-- x = e -/
def sSet (i : Nat) (te : TD) : TSD := fun D r => te r fun x => D.nx (r.set i (some (.d x)))
theorem psd_set (i : Nat) {x : Str} {pos' : Pos} (hN : X.N.Nodup) (hn : C.n = X.N.length) (he : PD X C e te) (hi : X.N[i]? = some x) (hx : Loc X.env.scope x) (hs : swapsWith e (some (.Name x pos')) pos.line X.env = pure false) (hf : X.fn x = true ∨ X.env.scope.names.lookup x = some .local) :
    PSD X C (.Assign [.Name x pos'] e pos) (sSet i te) := PS_imp (ps_set hN hi hx he hs hf) fun D σ H ⟨r, D', R, q, k⟩ =>
  ⟨r, _, R, q, fun v H' x g rp qx => set_d_nx R g (by rw [hn]; exact (List.getElem?_eq_some_iff.mp hi).1) rp k.1 qx⟩
/-- x = e, a new list that is to be changed -/
def sSetF (i : Nat) (te : TAD) : TSD := fun D r => te r fun xs => D.nx (r.set i (some (.m (.lst xs))))
theorem psd_setF (i : Nat) {tf : TAD} {x : Str} {pos' : Pos} (hN : X.N.Nodup) (hn : C.n = X.N.length) (he : PF X C e tf) (hi : X.N[i]? = some x) (hx : Loc X.env.scope x) (hs : swapsWith e (some (.Name x pos')) pos.line X.env = pure false) (hf : X.fn x = true ∨ X.env.scope.names.lookup x = some .local) :
    PSD X C (.Assign [.Name x pos'] e pos) (sSetF i tf) := PS_imp (ps_set hN hi hx he hs hf) fun D σ H ⟨r, D', R, q, k⟩ =>
  ⟨r, _, R, q, fun a H' vs xs g na ea l rp qx => k.1 _ H' _ (R.new g (o := .lst xs) (by rw [hn]; exact (List.getElem?_eq_some_iff.mp hi).1) na ⟨vs, ea, l, rp⟩) (by rw [er_set]; exact qx)⟩
/-- owned lists that are data from now on (none where the slot holds data already) -/
def frz1 (i : Nat) (k : SEnv → Prop) : SEnv → Prop := fun r => match r[i]? with
  | some (some (.m (.lst xs))) => k (r.set i (some (.d (.list xs))))
  | some (some (.m (.dct xs))) => k (r.set i (some (.d (.dict xs))))
  | _ => k r
def sFrz (i : Nat) (t : TSD) : TSD := fun D r => frz1 i (t D) r
theorem frz_rep {i : Nat} {k : SEnv → Prop} {σ : L2.St} {H : Hp} {r : DEnv} (R : RepE C σ H r) (h : frz1 i k (er r)) : ∃ r', RepE C σ H r' ∧ k (er r') := by
  unfold frz1 at h
  split at h
  · rename_i xs e
    obtain ⟨a, q⟩ := er_m e
    exact ⟨_, R.freeze q rfl, by rw [er_set]; exact h⟩
  · rename_i xs e
    obtain ⟨a, q⟩ := er_m e
    exact ⟨_, R.freeze q rfl, by rw [er_set]; exact h⟩
  · exact ⟨r, R, h⟩
theorem psd_frz (i : Nat) (h : PSD X C st t) : PSD X C st (sFrz i t) := PS_imp h fun D σ H ⟨r, D', R, w, k⟩ => by
  obtain ⟨r', R', q⟩ := frz_rep R w
  exact ⟨r', D', R', q, k⟩
/-- x.append(e) -/
def sApp (i : Nat) (te : TD) : TSD := fun D r => oLst i (fun xs => te r fun y => xs.length < sizeLine ∧ D.nx (r.set i (some (.m (.lst (xs ++ [y])))))) r
theorem psd_app (i : Nat) {x : Str} {p apos cpos : Pos} (he : PD X C e te) (hN : X.N[i]? = some x) (hv : Vis X.env.scope x) (hd' : (x == ("__debug__" : Str)) = false) (hcd : (x == ("__classdict__" : Str)) = false)
    (pe : ∀ {to : TE} {t : TA}, PE X (.Name x p) to → PA X [e] t → PE X (.Call (.Attribute (.Name x p) "append" apos) [e] [] cpos) (tBM X.K "list" rAppend to t))
    (hs : swapsWith (.Call (.Attribute (.Name x p) "append" apos) [e] [] cpos) none pos.line X.env = pure false := by rfl) (hst : starEach [e] X.env = (false, eval e X.env) :: starEach [] X.env) : PSD X C (.Expr (.Call (.Attribute (.Name x p) "append" apos) [e] [] cpos) pos) (sApp i te) :=
  PS_imp (ps_expr (pe (pe_var hN hv hd' hcd) (pa_cons he pa_nil hst)) hs) fun D σ H ⟨r, D', R, w, k⟩ => by
  obtain ⟨a, xs, e1, q⟩ := oLst_get w
  obtain ⟨v, e2, rfl, vs, h2, h3, h4⟩ := R.slot i _ e1
  have ns : ∀ ys, MO.lst ys ≠ .st := fun ys z => by cases z
  refine ⟨_, e2, .inl ⟨rfl, _, .inl (.inl h2)⟩, r, _, R, q, fun w H' y g rp qy => ?_⟩
  have R' := R.grow g
  have h2' := g.1 a _ (R.ownN e1 (ns _)) h2
  have ln := h4.length
  refine ⟨a, vs, w, rfl, rfl, h2', by omega, k.1 σ _ _ (R'.change e1 (ns _) (ns (xs ++ [y])) ⟨vs ++ [w], upd_same, by rw [List.length_append]; simp; omega, ?_⟩) (by rw [er_set]; exact qy.2)⟩
  refine RpA.up ((h4.up (g.hd R)).append (.cons rp .nil)) fun b o z => ?_
  obtain ⟨z1, z2⟩ := hd_some z
  have na : b ≠ a := fun q => z1 (by rw [q]; exact List.mem_append_right _ (mem_oA.mpr ⟨i, _, e1⟩))
  rw [hd_out z1, upd_ne na]
  exact z2
/-- x.extend(e) -/
def sExt (i : Nat) (te : TD) : TSD := fun D r => oLst i (fun xs => te r fun y => match y with
  | .list ys => xs.length + ys.length ≤ sizeLine ∧ D.nx (r.set i (some (.m (.lst (xs ++ ys)))))
  | .tuple ys => xs.length + ys.length ≤ sizeLine ∧ D.nx (r.set i (some (.m (.lst (xs ++ ys)))))
  | _ => False) r
/-- a list grown by a tuple -/
theorem grown_by_tuple (l b : Addr) (us vs : Array Value) (n n2 : Nat) (dd : Option Addr) (sl : Array (Option Value)) (c0 : ¬ (!us.isEmpty && Builtin.List.listTooLong (us.size + vs.size)) = true) (c1 : us.size ≤ sizeLine) (c2 : us.size + vs.size ≤ sizeLine + 1) :
    Meets (Builtin.«list.extend» ⟨[.ref l, .ref b], []⟩) (fun _ R z => z.heap.get? l = some { cls := .type "list", data := .seq us n } ∧ z.heap.get? b = some { cls := .type "tuple", dict := dd, data := .seq vs n2, slots := sl } ∧
      R (.ok (.ret .none)) { z with heap := z.heap.update l (Obj.mapSeq fun x => x ++ vs) }) :=
  .of_wp fun pr wo Ar R z q => by
    obtain ⟨g0, ge, dr, to, so⟩ := z
    obtain ⟨q1, q2, q⟩ := q
    have s1 := AutoSeq1.sub_tuple_list
    have s2 := AutoSeq1.sub_tuple_tuple
    have s3 := AutoSeq1.sub_list_list
    have s4 := AutoSeq1.sub_list_tuple
    have s5 := AutoSeq1.idx_int
    have fit : (us ++ vs).size ≤ sizeLine + 1 := by rw [Array.size_append]; exact c2
    wp_walk using (wpAny_updateSeq q1 rfl (hz := c1) (_hz' := fit)), wpAny_loadPart' q1, wpAny_loadPart' q2
    exact ⟨_, rfl, q⟩
def rExtR : V → List V → Hp → VK → Prop := fun x vs H Q => ∃ l b xs zs, x = .ref l ∧ vs = [.ref b] ∧ H l = some (.lst xs) ∧ (Rd H b (.lst zs) ∨ H b = some (.tup zs)) ∧ xs.length + zs.length ≤ sizeLine ∧ Q .non (upd H l (.lst (xs ++ zs)))
theorem mt_extR : MtM X "list.extend" rExtR := by
  intro pins s σ H x vs v us Q I rx rv h
  obtain ⟨l, b, xs, zs, rfl, rfl, hH, hB, hz, q⟩ := h
  cases rx
  obtain ⟨u, rfl, ru⟩ := rv.one
  cases ru
  obtain ⟨z, its, n, r, hl, e⟩ := I.lstM hH
  rcases hB with hB | hB
  · obtain ⟨its2, n2, z2, r2, e2⟩ := lstR I hB
    have hl2 := r2.length
    have hsz : its.toArray.size + its2.toArray.size ≤ sizeLine := by rw [List.size_toArray, List.size_toArray]; omega
    have hlong : ¬ (!its.toArray.isEmpty && Builtin.List.listTooLong (its.toArray.size + its2.toArray.size)) = true := by
      rw [notLongL hsz, Bool.and_false]
      exact Bool.false_ne_true
    refine call_meets F.slot_list_extend ⟨_, e, rfl⟩ F.entry_list_extend (F.args_list_extend_2 _ _)
      (AutoSeq1.list_extend_list_list_0 l its.toArray n b its2.toArray n2 hlong (by rw [List.size_toArray]; omega) (by omega)) ⟨e, e2, ?_⟩
    refine ⟨.non, _, I.lset (its' := its ++ its2) hH e (by simp) (r.append r2) ?_, rfl, q⟩
    rw [List.length_append]
    omega
  · obtain ⟨its2, z2, r2, ⟨⟨cls, dd, data, sl⟩, e2, hc, n2, hd2⟩⟩ := tupR I hB
    simp only at hc hd2
    subst hc hd2
    have hl2 := r2.length
    have hsz : its.toArray.size + its2.toArray.size ≤ sizeLine := by rw [List.size_toArray, List.size_toArray]; omega
    have hlong : ¬ (!its.toArray.isEmpty && Builtin.List.listTooLong (its.toArray.size + its2.toArray.size)) = true := by
      rw [notLongL hsz, Bool.and_false]
      exact Bool.false_ne_true
    refine call_meets F.slot_list_extend ⟨_, e, rfl⟩ F.entry_list_extend (F.args_list_extend_2 _ _)
      (grown_by_tuple l b its.toArray its2.toArray n n2 dd sl hlong (by rw [List.size_toArray]; omega) (by omega)) ⟨e, e2, ?_⟩
    refine ⟨.non, _, I.lset (its' := its ++ its2) hH e (by simp) (r.append r2) ?_, rfl, q⟩
    rw [List.length_append]
    omega
theorem psd_ext (i : Nat) {x : Str} {p apos cpos : Pos} (he : PD X C e te) (hN : X.N[i]? = some x) (hv : Vis X.env.scope x) (hd' : (x == ("__debug__" : Str)) = false) (hcd : (x == ("__classdict__" : Str)) = false)
    (pe : ∀ {to : TE} {t : TA}, PE X (.Name x p) to → PA X [e] t → PE X (.Call (.Attribute (.Name x p) "extend" apos) [e] [] cpos) (tBM X.K "list" rExtR to t))
    (hs : swapsWith (.Call (.Attribute (.Name x p) "extend" apos) [e] [] cpos) none pos.line X.env = pure false := by rfl) (hst : starEach [e] X.env = (false, eval e X.env) :: starEach [] X.env) : PSD X C (.Expr (.Call (.Attribute (.Name x p) "extend" apos) [e] [] cpos) pos) (sExt i te) :=
  PS_imp (ps_expr (pe (pe_var hN hv hd' hcd) (pa_cons he pa_nil hst)) hs) fun D σ H ⟨r, D', R, w, k⟩ => by
  obtain ⟨a, xs, e1, q⟩ := oLst_get w
  obtain ⟨v, e2, rfl, vs, h2, h3, h4⟩ := R.slot i _ e1
  have ns : ∀ ys, MO.lst ys ≠ .st := fun ys z => by cases z
  refine ⟨_, e2, .inl ⟨rfl, _, .inl (.inl h2)⟩, r, _, R, q, fun w H' y g rp qy => ?_⟩
  cases y with
  | list ys =>
    obtain ⟨hl, qy⟩ := qy
    have R' := R.grow g
    have h2' := g.1 a _ (R.ownN e1 (ns _)) h2
    obtain ⟨b, ws, rfl, p1, p2, p3⟩ := rp_lst rp
    have ln := h4.length
    have ln2 := p3.length
    refine ⟨a, b, vs, ws, rfl, rfl, h2', (.inl (DP.Rd.full p1)), by omega, k.1 σ _ _ (R'.change e1 (ns _) (ns (xs ++ ys)) ⟨vs ++ ws, upd_same, by rw [List.length_append]; omega, ?_⟩) (by rw [er_set]; exact qy)⟩
    refine RpA.up ((h4.up (g.hd R)).append p3) fun b o z => ?_
    obtain ⟨z1, z2⟩ := hd_some z
    have na : b ≠ a := fun q => z1 (by rw [q]; exact List.mem_append_right _ (mem_oA.mpr ⟨i, _, e1⟩))
    rw [hd_out z1, upd_ne na]
    exact z2
  | tuple ys =>
    obtain ⟨hl, qy⟩ := qy
    have R' := R.grow g
    have h2' := g.1 a _ (R.ownN e1 (ns _)) h2
    obtain ⟨b, ws, rfl, p1, p2, p3⟩ := rp_tup rp
    have ln := h4.length
    have ln2 := p3.length
    refine ⟨a, b, vs, ws, rfl, rfl, h2', (.inr (hd_some p1).2), by omega, k.1 σ _ _ (R'.change e1 (ns _) (ns (xs ++ ys)) ⟨vs ++ ws, upd_same, by rw [List.length_append]; omega, ?_⟩) (by rw [er_set]; exact qy)⟩
    refine RpA.up ((h4.up (g.hd R)).append p3) fun b o z => ?_
    obtain ⟨z1, z2⟩ := hd_some z
    have na : b ≠ a := fun q => z1 (by rw [q]; exact List.mem_append_right _ (mem_oA.mpr ⟨i, _, e1⟩))
    rw [hd_out z1, upd_ne na]
    exact z2
  | _ => exact (show False from qy).elim
end
end DP

end
section
set_option Elab.async false
set_option linter.all false
set_option maxRecDepth 100000
set_option autoImplicit false
set_option maxHeartbeats 4000000
namespace DP
open PySem PySem.Spec PyProof.Rows L2
/-! ### calls of the text's own defs -/
/-- what a def does with its arguments: what is wanted of what it hands back, of the class that it raises -/
abbrev FW := List SV → (RV → Prop) → (Str → Prop) → Prop
def ArgD (K : PySem.W.Frag) (H : Hp) (O : List Addr) (S : List (Addr × SK)) : V → DV → Prop
  | v, .d x => Rp (hd H O) v x
  | v, .m a .st => v = .ref a ∧ (a, SK.dr) ∈ S
  | _, .m _ _ => False
  | v, .scr a ns => v = .ref a ∧ ScrOk K H a ns
inductive ArgsD (K : PySem.W.Frag) (H : Hp) (O : List Addr) (S : List (Addr × SK)) : List V → List DV → Prop
  | nil : ArgsD K H O S [] []
  | cons {v : V} {vs : List V} {d : DV} {ds : List DV} : ArgD K H O S v d → ArgsD K H O S vs ds → ArgsD K H O S (v :: vs) (d :: ds)
theorem ArgsD.length {K : PySem.W.Frag} {H : Hp} {O : List Addr} {S : List (Addr × SK)} : ∀ {vs : List V} {ds : List DV}, ArgsD K H O S vs ds → vs.length = ds.length
  | _, _, .nil => rfl
  | _, _, .cons _ t => by rw [List.length_cons, List.length_cons, t.length]
theorem ArgsD.get {K : PySem.W.Frag} {H : Hp} {O : List Addr} {S : List (Addr × SK)} : ∀ {vs : List V} {ds : List DV} {i : Nat} {d : DV}, ArgsD K H O S vs ds → ds[i]? = some d → ∃ v, vs[i]? = some v ∧ ArgD K H O S v d
  | _, _, _, _, .nil, e => by simp at e
  | _, _, 0, _, .cons r _, e => by simp at e; subst e; exact ⟨_, rfl, r⟩
  | _, _, i + 1, d, .cons _ t, e => by
    obtain ⟨u, h1, h2⟩ := ArgsD.get (i := i) (d := d) t (by simpa using e)
    exact ⟨u, by simpa using h1, h2⟩
/-- a def's promise -/
def spOf (K : PySem.W.Frag) (mg : Str → Option Value) (n : Nat) (φ : FW) : Sp := fun vs H Q E => vs.length = n ∧ ∃ (O : List Addr) (S : List (Addr × SK)) (ds : List DV) (Q' : RV → Prop) (E' : Str → Prop),
  ArgsD K H O S vs ds ∧ (∀ a ∈ O, H a ≠ none) ∧ (∀ s ∈ S, SInv H s ∧ s.1 ∈ O) ∧ φ (ds.map DV.er) Q' E' ∧
    (∀ v H' rv, Out ⟨K, 0, O, H, S⟩ H' → RetV ⟨K, 0, O, H, S⟩ v H' rv → Q' rv → Q v H') ∧ ∀ c Ca H', mg c = some (.ref Ca) → Out ⟨K, 0, O, H, S⟩ H' → E' c → E (.ref Ca) none H'
/-- what is wanted of an exception that leaves the body entered at C -/
def wOf (mg : Str → Option Value) (C : Cfg) (E : Str → Prop) : WX := fun cls d _ H' => ∃ c Ca, mg c = some (.ref Ca) ∧ cls = .ref Ca ∧ d = none ∧ Out C H' ∧ E c
theorem wOf.at {mg : Str → Option Value} {C : Cfg} {σ : L2.St} {H : Hp} {r : DEnv} {E : Str → Prop} (R : RepE C σ H r) {cls : Value} {d : Option Addr} {σ' : L2.St} {H' : Hp} (h : wOf mg (C.at H r) E cls d σ' H') : wOf mg C E cls d σ' H' := by
  obtain ⟨c, Ca, h1, h2, h3, h4, h5⟩ := h
  exact ⟨c, Ca, h1, h2, h3, h4.ofAt R, h5⟩
/-- the slots at a def's entry -/
def s0 (n : Nat) (args : List SV) : SEnv := args.map some ++ List.replicate (n - args.length) none
theorem rep_start {K : PySem.W.Frag} {H : Hp} {O : List Addr} {S : List (Addr × SK)} {vs : List V} {ds : List DV} {N : List Str} (hl : vs.length ≤ N.length) (ha : ArgsD K H O S vs ds) (dm : ∀ a ∈ O, H a ≠ none) (hs : ∀ s ∈ S, SInv H s ∧ s.1 ∈ O) :
    ∃ r : DEnv, RepE ⟨K, N.length, O, H, S⟩ (L2.start N vs) H r ∧ er r = s0 N.length (ds.map DV.er) := by
  have ln := ha.length
  refine ⟨ds.map some ++ List.replicate (N.length - ds.length) none, ?_, ?_⟩
  · have at_ : ∀ (i : Nat) (x : DV), (ds.map some ++ List.replicate (N.length - ds.length) none)[i]? = some (some x) → ds[i]? = some x := fun i x e => by
      by_cases h : i < ds.length
      · rw [List.getElem?_append_left (by simpa using h), List.getElem?_map] at e
        cases q : ds[i]? with
        | none => rw [q] at e; cases e
        | some y => rw [q] at e; cases e; rfl
      · rw [List.getElem?_append_right (by simpa using h), List.getElem?_replicate] at e
        split at e <;> cases e
    have sub : ∀ a, a ∈ O ++ oA (ds.map some ++ List.replicate (N.length - ds.length) none) → a ∈ O := fun a h => by
      rcases List.mem_append.mp h with h | h
      · exact h
      · obtain ⟨i, o, e⟩ := mem_oA.mp h
        obtain ⟨v, _, q⟩ := ha.get (at_ i _ e)
        cases o with
        | st => exact (hs _ q.2).2
        | lst xs => exact q.elim
        | dct xs => exact q.elim
    refine ⟨?_, ?_, fun i x e => ?_, fun i a o e n => ?_, dm, fun a o _ e => e, fun i a o e n => ?_, fun i a e => ?_, fun s z => (hs s z).1, fun s z => ⟨(hs s z).2, (hs s z).1.ne⟩⟩
    · show (L2.start N vs).length = N.length
      unfold L2.start
      rw [List.length_append, List.length_map, List.length_replicate]
      omega
    · show (ds.map some ++ List.replicate (N.length - ds.length) none).length = N.length
      rw [List.length_append, List.length_map, List.length_replicate]
      omega
    · obtain ⟨v, h1, h2⟩ := ha.get (at_ i x e)
      refine ⟨v, ?_, ?_⟩
      · unfold L2.start
        have hi : i < vs.length := (List.getElem?_eq_some_iff.mp h1).1
        rw [List.getElem?_append_left (by simpa using hi), List.getElem?_map, h1]
        rfl
      · cases x with
        | d y => exact Rp.up h2 (hd_sub sub)
        | m a o =>
          cases o with
          | st => exact ⟨h2.1, (hs _ h2.2).1⟩
          | lst xs => exact h2.elim
          | dct xs => exact h2.elim
        | scr a ns => exact h2
    · obtain ⟨v, h1, h2⟩ := ha.get (at_ i _ e)
      cases o with
      | st => exact absurd rfl n
      | lst xs => exact h2.elim
      | dct xs => exact h2.elim
    · obtain ⟨v, h1, h2⟩ := ha.get (at_ i _ e)
      cases o with
      | st => exact absurd rfl n
      | lst xs => exact h2.elim
      | dct xs => exact h2.elim
    · obtain ⟨v, h1, h2⟩ := ha.get (at_ i _ e)
      exact .inl h2.2
  · unfold er s0
    rw [List.map_append, List.map_map, List.map_replicate, List.length_map, List.map_map]
    rfl
/-- THE RULE for a def -/
theorem fn_deep {P : Program} {w : World} {K : PySem.W.Frag} {mg : Str → Option Value} {base : Heap} {x qual : Str} {params : Arguments} {body : List Stmt} {scope : Scope} {f : Addr} {fd : FuncData} {N ps : List Str} {k : Nat} {tb : (Str → Prop) → TSD}
    (F : FunD K x qual params body scope [] [] f fd) (S : FnScope N ps scope)
    (hb : ∀ (cdv : Value) (A : Around) (outer : List Env) (s : Shared) (H : Hp) (E : XK) (C : Cfg) (E' : Str → Prop), Room k (A.deeper (envOfC qual scope s.heap.objs.size f cdv)) → C.n = N.length → C.K = K →
      Takes (cxOf (L2.CX P w) P w K mg base N qual scope f cdv A outer s H E) (wOf mg C E') → PSDs (cxOf (L2.CX P w) P w K mg base N qual scope f cdv A outer s H E) C body (tb E')) :
    FnOk P w K mg base (L2.CX P w) (k + 1) f fd ps (spOf K mg ps.length fun args Q E => tb E { nx := fun _ => Q (.d .none), rt := Q } (s0 N.length args)) := by
  have hpl : ps.length ≤ N.length := by have := congrArg List.length S.pre; rw [List.length_take] at this; omega
  refine F.ok S (fun vs H Q E h => h.1) fun cdv A outer s H vs Q E hr hsp => ?_
  obtain ⟨hl, O, Sh, ds, Q', E', ha, dm, hs, hφ, hQ, hE⟩ := hsp
  obtain ⟨r, R, er_⟩ := rep_start (N := N) (by omega) ha dm hs
  have tk : Takes (cxOf (L2.CX P w) P w K mg base N qual scope f cdv A outer s H E) (wOf mg ⟨K, N.length, O, H, Sh⟩ E') := by
    refine Takes.imp (takes_of (X := cxOf (L2.CX P w) P w K mg base N qual scope f cdv A outer s H E) (E := E) rfl rfl rfl rfl) fun cls d σ H' h => ?_
    obtain ⟨c, Ca, h1, rfl, rfl, h4, h5⟩ := h
    exact hE c Ca H' h1 ⟨h4.ext, h4.sto, h4.dom⟩ h5
  have out : ∀ H', Out ⟨K, N.length, O, H, Sh⟩ H' → Out ⟨K, 0, O, H, Sh⟩ H' := fun H' h => ⟨h.ext, h.sto, h.dom⟩
  refine ⟨_, hb cdv A outer s H E ⟨K, N.length, O, H, Sh⟩ E' hr rfl rfl tk, r, { nx := fun _ => Q' (.d .none), rt := Q' }, R, by rw [er_]; exact hφ, fun σ' H' r' R' q => ?_, fun v H' rv h1 h2 q => ?_, fun _ _ _ _ q => q, fun _ _ _ _ q => q⟩
  · exact hQ .non H' (.d .none) (out _ R'.out) .non q
  · refine hQ v H' rv (out _ h1) ?_ q
    cases rv with
    | d x => exact h2
    | l xs => exact h2
/-! ### arguments -/
abbrev TXD := SEnv → (List SV → Prop) → Prop
def upX (C : Cfg) (t : TXD) : TA := fun σ H Q => ∃ (r : DEnv) (Q' : List SV → Prop), RepE C σ H r ∧ t (er r) Q' ∧ ∀ vs H' ds, Gr C r H H' → ArgsD C.K H' (C.O ++ oA r) (sh C r) vs ds → Q' (ds.map DV.er) → Q vs H'
def PDX (X : Cx) (C : Cfg) (es : List Expr) (t : TXD) : Prop := PA X es (upX C t)
theorem ScrOk.gr {C : Cfg} {σ : L2.St} {H H' : Hp} {r : DEnv} (R : RepE C σ H r) (g : Gr C r H H') {K : PySem.W.Frag} {a : Addr} {ns : List Int} (h : ScrOk K H a ns) : ScrOk K H' a ns := h.keep fun o u q => g.1 a _ (fun k z => by
  rcases (R.shI _ z).obj with ⟨vs, w⟩ | ⟨ps, w⟩
  · rw [q] at w; cases w
  · rw [q] at w; cases w) q
theorem ArgD.gr {C : Cfg} {σ : L2.St} {H H' : Hp} {r : DEnv} (R : RepE C σ H r) (g : Gr C r H H') {v : V} {d : DV} (h : ArgD C.K H (C.O ++ oA r) (sh C r) v d) : ArgD C.K H' (C.O ++ oA r) (sh C r) v d := by
  cases d with
  | d x => exact Rp.up h (g.hd R)
  | m a o =>
    cases o with
    | st => exact h
    | lst xs => exact h.elim
    | dct xs => exact h.elim
  | scr a ns => exact ⟨h.1, h.2.gr R g⟩
section
variable {X : Cx} {C : Cfg} {e : Expr} {es : List Expr} {pos : Pos}
def xNil : TXD := fun _ Q => Q []
def xE (t : TD) (u : TXD) : TXD := fun r Q => t r fun x => u r fun xs => Q (.d x :: xs)
/-- a name: data, the drawing state, the script -/
def slotW (i : Nat) : SEnv → (SV → Prop) → Prop := fun r Q => match r[i]? with
  | some (some (.d x)) => Q (.d x)
  | some (some (.m .st)) => Q (.m .st)
  | some (some (.scr ns)) => Q (.scr ns)
  | _ => False
def xS (i : Nat) (u : TXD) : TXD := fun r Q => slotW i r fun x => u r fun xs => Q (x :: xs)
theorem slotW_get {i : Nat} {r : DEnv} {Q : SV → Prop} (h : slotW i (er r) Q) : ∃ y : DV, r[i]? = some (some y) ∧ ((∃ x, y = .d x) ∨ (∃ a, y = .m a .st) ∨ ∃ a ns, y = .scr a ns) ∧ Q y.er := by
  unfold slotW at h
  split at h
  · rename_i x e
    exact ⟨_, er_d e, .inl ⟨x, rfl⟩, h⟩
  · rename_i e
    obtain ⟨a, q⟩ := er_m e
    exact ⟨_, q, .inr (.inl ⟨a, rfl⟩), h⟩
  · rename_i ns e
    obtain ⟨a, q⟩ := er_scr e
    exact ⟨_, q, .inr (.inr ⟨a, ns, rfl⟩), h⟩
  · exact h.elim
theorem pdx_nil : PDX X C [] xNil := PA_imp pa_nil fun σ H Q ⟨r, Q', R, q, k⟩ => k _ H [] (Gr.refl R) .nil q
theorem pdx_e {t : TD} {u : TXD} (ha : PD X C e t) (hr : PDX X C es u) (hs : starEach (e :: es) X.env = (false, eval e X.env) :: starEach es X.env) : PDX X C (e :: es) (xE t u) :=
  PA_imp (pa_cons ha hr hs) fun σ H Q ⟨r, Q', R, q, k⟩ => ⟨r, _, R, q, fun v H1 x g1 rp1 q1 => ⟨r, _, R.grow g1, q1, fun vs H2 ds g2 rp2 q2 => k _ H2 (.d x :: ds) (g1.trans g2) (.cons (ArgD.gr (R.grow g1) g2 (d := .d x) rp1) rp2) q2⟩⟩
theorem pdx_s (i : Nat) {x : Str} {p : Pos} {u : TXD} (hN : X.N[i]? = some x) (hv : Vis X.env.scope x) (hd' : (x == ("__debug__" : Str)) = false) (hcd : (x == ("__classdict__" : Str)) = false) (hr : PDX X C es u) (hs : starEach (.Name x p :: es) X.env = (false, eval (.Name x p) X.env) :: starEach es X.env) :
    PDX X C (.Name x p :: es) (xS i u) :=
  PA_imp (pa_cons (pe_var hN hv hd' hcd) hr hs) fun σ H Q ⟨r, Q', R, w, k⟩ => by
    obtain ⟨y, e1, hy, q⟩ := slotW_get w
    obtain ⟨v, e2, h2⟩ := R.slot i _ e1
    have ad : ArgD C.K H (C.O ++ oA r) (sh C r) v y := by
      rcases hy with ⟨x, rfl⟩ | ⟨a, rfl⟩ | ⟨a, ns, rfl⟩
      · exact h2
      · exact ⟨h2.1, List.mem_append_right _ (mem_sA.mpr ⟨rfl, i, e1⟩)⟩
      · exact h2
    exact ⟨v, e2, r, _, R, q, fun vs H2 ds g2 rp2 q2 => k _ H2 (y :: ds) g2 (.cons (ad.gr R g2) rp2) q2⟩
/-! ### the call -/
theorem out_gr {σ : L2.St} {H H' : Hp} {r : DEnv} {n : Nat} (R : RepE C σ H r) (o : Out ⟨C.K, n, C.O ++ oA r, H, sh C r⟩ H') : Gr C r H H' := ⟨o.ext, o.sto⟩
def rvD (Q : PyData → Prop) : RV → Prop
  | .d x => Q x
  | .l xs => Q (.list xs)
def rvL (Q : List PyData → Prop) : RV → Prop
  | .l xs => Q xs
  | _ => False
/-- a new drawing state -/
def rvS (Q : Prop) : RV → Prop
  | .l [.int x, .bool b] => (0 ≤ x ∧ (b = false → x < 2147483647)) ∧ Q
  | _ => False
theorem rvS_get {Q : Prop} {rv : RV} (h : rvS Q rv) : ∃ x b, rv = .l [.int x, .bool b] ∧ 0 ≤ x ∧ (b = false → x < 2147483647) ∧ Q := by
  unfold rvS at h
  split at h
  · exact ⟨_, _, rfl, h.1.1, h.1.2, h.2⟩
  · exact h.elim
/-- a call, whatever is handed back -/
theorem call_any {CXX : CXT} {k : Nat} {f : Addr} {fd : FuncData} {ps : List Str} {φ : FW} {E : Str → Prop} {x : Str} {p : Pos} {t : TXD} (hK : C.K = X.K)
    (F : FnOk X.prog X.w X.K X.mg X.base (L2.CX X.prog X.w) k f fd ps (spOf X.K X.mg ps.length φ)) (hr : Room k X.A) (hg : Gl X x) (hm : X.mg x = some (.ref f)) (hk : PySem.W.keepIn X.K (.ref f) = true) (hb : Binds X.K fd ps [])
    (tk : Takes X (wOf X.mg C E)) (ha : PDX X C (e :: es) t) (hdb : (x == ("__debug__" : Str)) = false) (he : starEach (e :: es) X.env = (false, eval e X.env) :: starEach es X.env) (hpl : (backTo pos (starEach es X.env)).any (·.1) = false) :
    PE X (.Call (.Name x p) (e :: es) [] pos) (fun σ H Q => ∃ (r : DEnv) (Q' : RV → Prop), RepE C σ H r ∧ t (er r) (fun xs => xs.length = ps.length ∧ φ xs Q' E) ∧
      ∀ H1 v H' rv, Gr C r H H1 → Out ⟨C.K, 0, C.O ++ oA r, H1, sh C r⟩ H' → RetV ⟨C.K, 0, C.O ++ oA r, H1, sh C r⟩ v H' rv → Q' rv → Q v H') :=
  PE_imp (pe_callS F hr hg hm hk hb (passAt tk) ha hdb he hpl) fun σ H Q ⟨r, Q', R, q, k⟩ => by
    refine ⟨r, _, R, q, fun vs H1 ds g1 ad q1 => ?_⟩
    have R1 := R.grow g1
    have q1' := q1.2
    refine ⟨by rw [ad.length, ← q1.1, List.length_map], C.O ++ oA r, sh C r, ds, Q', E, by rw [← hK]; exact ad, R1.domA, fun s hs => ⟨R1.shI s hs, R1.shO (a := s.1) (k := s.2) hs⟩, q1', fun v H' rv o rt qq => ?_, fun c Ca H' hc o qq => ?_⟩
    · rw [← hK] at o rt
      exact k H1 v H' rv g1 o rt qq
    · rw [← hK] at o
      exact ⟨c, Ca, hc, rfl, rfl, (R1.grow (out_gr R1 o)).out, qq⟩
variable {CXX : CXT} {k : Nat} {f : Addr} {fd : FuncData} {ps : List Str} {φ : FW} {E : Str → Prop} {x : Str} {p : Pos} {t : TXD}
/-- what a call of a def stands on -/
structure CallOk (X : Cx) (C : Cfg) (x : Str) (n : Nat) (φ : FW) (E : Str → Prop) : Prop where
  hK : C.K = X.K
  tk : Takes X (wOf X.mg C E)
  fn : ∃ k f fd ps, ps.length = n ∧ FnOk X.prog X.w X.K X.mg X.base (L2.CX X.prog X.w) k f fd ps (spOf X.K X.mg n φ) ∧ Room k X.A ∧ X.mg x = some (.ref f) ∧ PySem.W.keepIn X.K (.ref f) = true ∧ Binds X.K fd ps []
def dCallF (n : Nat) (φ : FW) (E : Str → Prop) (t : TXD) : TD := fun r Q => t r fun xs => xs.length = n ∧ φ xs (rvD Q) E
theorem pd_callF {n : Nat} (c : CallOk X C x n φ E) (hg : Gl X x) (ha : PDX X C (e :: es) t) (hdb : (x == ("__debug__" : Str)) = false) (he : starEach (e :: es) X.env = (false, eval e X.env) :: starEach es X.env) (hpl : (backTo pos (starEach es X.env)).any (·.1) = false) :
    PD X C (.Call (.Name x p) (e :: es) [] pos) (dCallF n φ E t) := by
  obtain ⟨k, f, fd, ps, rfl, F, hr, hm, hk, hb⟩ := c.fn
  refine PE_imp (call_any (CXX := fun _ _ _ _ _ _ => False) c.hK F hr hg hm hk hb c.tk ha hdb he hpl) fun σ H Q ⟨r, Q', R, q, k⟩ => ⟨r, rvD Q', R, q, fun H1 v H' rv g1 o rt qq => ?_⟩
  have R1 := R.grow g1
  have g2 := out_gr R1 o
  cases rv with
  | d x => exact k v H' x (g1.trans g2) rt qq
  | l xs =>
    obtain ⟨p, vs, rfl, h1, h2, h3, h4, h5⟩ := rt
    exact k _ H' _ (g1.trans g2) (RpA.put h3 h2 h4 h5) qq
def fCallF (n : Nat) (φ : FW) (E : Str → Prop) (t : TXD) : TAD := fun r Q => t r fun xs => xs.length = n ∧ φ xs (rvL Q) E
theorem pf_callF {n : Nat} (c : CallOk X C x n φ E) (hg : Gl X x) (ha : PDX X C (e :: es) t) (hdb : (x == ("__debug__" : Str)) = false) (he : starEach (e :: es) X.env = (false, eval e X.env) :: starEach es X.env) (hpl : (backTo pos (starEach es X.env)).any (·.1) = false) :
    PF X C (.Call (.Name x p) (e :: es) [] pos) (fCallF n φ E t) := by
  obtain ⟨k, f, fd, ps, rfl, F, hr, hm, hk, hb⟩ := c.fn
  refine PE_imp (call_any (CXX := fun _ _ _ _ _ _ => False) c.hK F hr hg hm hk hb c.tk ha hdb he hpl) fun σ H Q ⟨r, Q', R, q, k⟩ => ⟨r, rvL Q', R, q, fun H1 v H' rv g1 o rt qq => ?_⟩
  have R1 := R.grow g1
  have g2 := out_gr R1 o
  cases rv with
  | d x => exact (show False from qq).elim
  | l xs =>
    obtain ⟨p, vs, rfl, h1, h2, h3, h4, h5⟩ := rt
    exact k p H' vs xs (g1.trans g2) (Gr.none R g1 h1) h3 h4 h5 qq
/-- return f(..) -/
def sRetC (n : Nat) (φ : FW) (E : Str → Prop) (t : TXD) : TSD := fun D r => t r fun xs => xs.length = n ∧ φ xs D.rt E
theorem psd_retC {n : Nat} {pos2 : Pos} (c : CallOk X C x n φ E) (hg : Gl X x) (ha : PDX X C (e :: es) t) (hdb : (x == ("__debug__" : Str)) = false) (he : starEach (e :: es) X.env = (false, eval e X.env) :: starEach es X.env) (hpl : (backTo pos (starEach es X.env)).any (·.1) = false) :
    PSD X C (.Return (some (.Call (.Name x p) (e :: es) [] pos)) pos2) (sRetC n φ E t) := by
  obtain ⟨k, f, fd, ps, rfl, F, hr, hm, hk, hb⟩ := c.fn
  refine PS_imp (ps_ret (call_any (CXX := fun _ _ _ _ _ _ => False) c.hK F hr hg hm hk hb c.tk ha hdb he hpl)) fun D σ H ⟨r, D', R, q, k1, k2, _⟩ => ⟨r, D'.rt, R, q, fun H1 v H' rv g1 o rt qq => ?_⟩
  have R1 := R.grow g1
  have g2 := out_gr R1 o
  refine k2 v H' rv (R1.grow g2).out ?_ qq
  cases rv with
  | d x => exact (R1.grow g2).retD rt
  | l xs =>
    obtain ⟨p, vs, rfl, h1, h2, h3, h4, h5⟩ := rt
    exact R1.retL g2 h1 h3 h4 h5
/-- x = f(..), a new drawing state -/
def sSetS (i n : Nat) (φ : FW) (E : Str → Prop) (t : TXD) : TSD := fun D r => t r fun xs => xs.length = n ∧ φ xs (rvS (D.nx (r.set i (some (.m .st))))) E
theorem psd_setS (i : Nat) {n : Nat} {y : Str} {pos2 pos' : Pos} (hN : X.N.Nodup) (hn : C.n = X.N.length) (hi : X.N[i]? = some y) (hx : Loc X.env.scope y) (hf : X.fn y = true ∨ X.env.scope.names.lookup y = some .local)
    (c : CallOk X C x n φ E) (hg : Gl X x) (ha : PDX X C (e :: es) t) (hdb : (x == ("__debug__" : Str)) = false) (he : starEach (e :: es) X.env = (false, eval e X.env) :: starEach es X.env) (hpl : (backTo pos (starEach es X.env)).any (·.1) = false) :
    PSD X C (.Assign [.Name y pos'] (.Call (.Name x p) (e :: es) [] pos) pos2) (sSetS i n φ E t) := by
  obtain ⟨k, f, fd, ps, rfl, F, hr, hm, hk, hb⟩ := c.fn
  refine PS_imp (ps_set hN hi hx (call_any (CXX := fun _ _ _ _ _ _ => False) c.hK F hr hg hm hk hb c.tk ha hdb he hpl) (by rfl) hf) fun D σ H ⟨r, D', R, q, k1, _⟩ => ⟨r, rvS (D'.nx ((er r).set i (some (.m .st)))), R, q, fun H1 v H' rv g1 o rt qq => ?_⟩
  have R1 := R.grow g1
  have g2 := out_gr R1 o
  obtain ⟨z, b, rfl, z1, z2, qq⟩ := rvS_get qq
  obtain ⟨p, vs, rfl, h1, h2, h3, h4, h5⟩ := rt
  obtain ⟨v1, v2, rfl, r1, r2⟩ := rpa2 h5
  rw [rp_int r1, rp_bl r2] at h3
  exact k1 _ H' _ (R1.new g2 (o := .st) (by rw [hn]; exact (List.getElem?_eq_some_iff.mp hi).1) h1 ⟨z, b, h3, z1, z2⟩) (by rw [er_set]; exact qq)
/-- x = f(..), whatever is handed back -/
def rvX (Q : SV → Prop) : RV → Prop
  | .d x => Q (.d x)
  | .l xs => Q (.m (.lst xs))
def sSetC (i n : Nat) (φ : FW) (E : Str → Prop) (t : TXD) : TSD := fun D r => t r fun xs => xs.length = n ∧ φ xs (rvX fun y => D.nx (r.set i (some y))) E
theorem psd_setC (i : Nat) {n : Nat} {y : Str} {pos2 pos' : Pos} (hN : X.N.Nodup) (hn : C.n = X.N.length) (hi : X.N[i]? = some y) (hx : Loc X.env.scope y) (hf : X.fn y = true ∨ X.env.scope.names.lookup y = some .local)
    (c : CallOk X C x n φ E) (hg : Gl X x) (ha : PDX X C (e :: es) t) (hdb : (x == ("__debug__" : Str)) = false) (he : starEach (e :: es) X.env = (false, eval e X.env) :: starEach es X.env) (hpl : (backTo pos (starEach es X.env)).any (·.1) = false) :
    PSD X C (.Assign [.Name y pos'] (.Call (.Name x p) (e :: es) [] pos) pos2) (sSetC i n φ E t) := by
  obtain ⟨k, f, fd, ps, rfl, F, hr, hm, hk, hb⟩ := c.fn
  refine PS_imp (ps_set hN hi hx (call_any (CXX := fun _ _ _ _ _ _ => False) c.hK F hr hg hm hk hb c.tk ha hdb he hpl) (by rfl) hf) fun D σ H ⟨r, D', R, q, k1, _⟩ => ⟨r, _, R, q, fun H1 v H' rv g1 o rt qq => ?_⟩
  have R1 := R.grow g1
  have g2 := out_gr R1 o
  have hl : i < C.n := by rw [hn]; exact (List.getElem?_eq_some_iff.mp hi).1
  cases rv with
  | d x => exact set_d_nx R (g1.trans g2) hl rt k1 qq
  | l xs =>
    obtain ⟨p, vs, rfl, h1, h2, h3, h4, h5⟩ := rt
    exact k1 _ H' _ (R1.new g2 (o := .lst xs) hl h1 ⟨vs, h3, h4, h5⟩) (by rw [er_set]; exact qq)
/-- raise X('..') -/
def sRaise (E : Str → Prop) (c : Str) : TSD := fun _ _ => E c
theorem psd_raise {c m : Str} {j : Nat} {Ca : Addr} {p2 pos2 : Pos} (tk : Takes X (wOf X.mg C E)) (hc : X.calm = true) (q : PySem.W.excIn X.K Ca [.type "ValueError", .type "Exception", .type "BaseException", .type "object"] "ValueError.__new__" = true) (gC : X.mg c = some (.ref Ca)) (kC : PySem.W.keepIn X.K (.ref Ca) = true)
    (h1 : PySem.W.subIn X.K (.ref Ca) (.type "BaseException") = some true) (h2 : PySem.W.typeIn X.K (.ref Ca) = some (.type "type")) (hg : Gl X c) (hdb : (c == ("__debug__" : Str)) = false) :
    PSD X C (.Raise (some (.Call (.Name c p) [.Constant (.str m) j p2] [] pos)) none pos2) (sRaise E c) :=
  PS_imp (ps_raise hc tk (pmk_own PySem.F.excBase_ValueError q gC kC (raises_own h1 h2) hg hdb)) fun D σ H ⟨r, D', R, w, _⟩ => ⟨c, Ca, gC, rfl, rfl, R.out, w⟩
end
end DP

end
section
set_option Elab.async false
set_option linter.all false
set_option maxRecDepth 100000
set_option autoImplicit false
set_option maxHeartbeats 4000000
namespace DP
open PySem PySem.Spec PyProof.Rows L2
/-! ### zip of a tuple and a list -/
section
variable {P : Program} {w : World} {A : Around} {E : Value → Shared → Prop} {s : Shared}
abbrev mx1 (g : Heap) (t : Addr) : Heap := g.push { cls := .type "tuple_iterator", data := .fields #[.ref t, .int 0 0] }
abbrev mx2 (g : Heap) (t l : Addr) : Heap := (mx1 g t).push { cls := .type "list_iterator", data := .fields #[.ref l, .int 0 0] }
abbrev mx3 (g : Heap) (t l : Addr) : Heap := (mx2 g t l).push { cls := .type "tuple", data := .seq #[.ref g.objs.size, .ref (mx1 g t).objs.size] }
abbrev mx4 (g : Heap) (t l : Addr) : Heap := (mx3 g t l).push { cls := .type "tuple", data := .seq #[.none, .none] }
abbrev mx5 (g : Heap) (t l : Addr) : Heap := (mx4 g t l).push { cls := .type "zip", data := .fields #[.none, .bool false, .bool false, .ref (mx2 g t l).objs.size, .ref (mx3 g t l).objs.size] }
theorem mixed_new (t l : Addr) (us vs : Array Value) :
    Meets (Builtin.«zip.__new__» ⟨[.type "zip", .ref t, .ref l], []⟩) (fun _ R z => z.heap.IsTuple t us ∧ z.heap.IsList l vs ∧
      R (.ok (.ret (.ref (mx4 z.heap t l).objs.size))) { z with heap := mx5 z.heap t l }) :=
  .of_wp fun pr wo Ar R z q => by
    obtain ⟨g0, ge, dr, to, so⟩ := z
    obtain ⟨qt, ql, q⟩ := q
    have sub := sub_zip
    have a1 : Heap.IsTuple (Shared.heap ⟨g0, ge, dr, to, so⟩) t us := qt
    have a2 : Heap.IsList (Shared.heap ⟨g0.push { cls := .type "tuple_iterator", data := .fields #[.ref t, .int 0 0] }, ge, dr, to, so⟩) l vs := Heap.IsList.push ql _
    wp_walk using wpAny_pyIter_tuple a1, wpAny_pyIter_list a2
    exact ⟨_, rfl, q⟩
theorem mixed_call {t l : Addr} {us vs : Array Value} {Q : Value → Shared → Prop} (qt : s.heap.IsTuple t us) (ql : s.heap.IsList l vs)
    (fin : ∀ g, IsZip g (s.heap.objs.size + 4) (s.heap.objs.size + 2) (s.heap.objs.size + 3) .none → IsTupOf2 g (s.heap.objs.size + 2) (.ref s.heap.objs.size) (.ref (s.heap.objs.size + 1)) →
      IsTupOf2 g (s.heap.objs.size + 3) .none .none → g.IsTupleIter s.heap.objs.size t 0 → g.IsListIter (s.heap.objs.size + 1) l 0 → (∀ c o, s.heap.get? c = some o → g.get? c = some o) → Q (.ref (s.heap.objs.size + 4)) { s with heap := g }) :
    wpAny (model P w) A (call (.type "zip") [.ref t, .ref l]) Q E s := by
  refine callType_new F.called_zip (by decide) (F.typeCall_zip_2 _ _) (F.newCall_zip_2 _ _) (fun ob => F.args_object_init_3 ob _ _) F.entry_zip_new (mixed_new t l us vs) ⟨qt, ql, ?_⟩
  generalize eg : s.heap = g at *
  have n1 : (mx1 g t).objs.size = g.objs.size + 1 := Heap.size_push ..
  have n2 : (mx2 g t l).objs.size = g.objs.size + 2 := (Heap.size_push ..).trans (by rw [n1])
  have n3 : (mx3 g t l).objs.size = g.objs.size + 3 := (Heap.size_push ..).trans (by rw [n2])
  have n4 : (mx4 g t l).objs.size = g.objs.size + 4 := (Heap.size_push ..).trans (by rw [n3])
  have p5 : (mx5 g t l).get? (mx4 g t l).objs.size = some _ := Heap.get?_push_size _ rfl
  have p6 := p5
  have p4 : (mx4 g t l).get? (mx3 g t l).objs.size = some _ := Heap.get?_push_size _ rfl
  have p3 : (mx3 g t l).get? (mx2 g t l).objs.size = some _ := Heap.get?_push_size _ rfl
  have p2 : (mx2 g t l).get? (mx1 g t).objs.size = some _ := Heap.get?_push_size _ rfl
  have p1 : (mx1 g t).get? g.objs.size = some _ := Heap.get?_push_size _ rfl
  have u2 : ∀ c o, (mx1 g t).get? c = some o → (mx2 g t l).get? c = some o := fun c o q => Heap.get?_push_of_some _ q
  have u3 : ∀ c o, (mx2 g t l).get? c = some o → (mx3 g t l).get? c = some o := fun c o q => Heap.get?_push_of_some _ q
  have u4 : ∀ c o, (mx3 g t l).get? c = some o → (mx4 g t l).get? c = some o := fun c o q => Heap.get?_push_of_some _ q
  have u5 : ∀ c o, (mx4 g t l).get? c = some o → (mx5 g t l).get? c = some o := fun c o q => Heap.get?_push_of_some _ q
  have r1 := u5 _ _ (u4 _ _ (u3 _ _ (u2 _ _ p1)))
  have r2 := u5 _ _ (u4 _ _ (u3 _ _ p2))
  have r3 := u5 _ _ (u4 _ _ p3)
  have r4 := u5 _ _ p4
  rw [n1] at r2
  rw [n1, n2] at r3
  rw [n3] at r4
  rw [n2, n3, n4] at p5
  refine ⟨⟨_, p6, rfl⟩, ?_⟩
  · show Q (.ref (mx4 g t l).objs.size) _
    rw [n4]
    exact fin _ p5 r3 r4 ⟨_, r1, rfl, rfl⟩ ⟨_, r2, rfl, rfl⟩ fun c o q => u5 _ _ (u4 _ _ (u3 _ _ (u2 _ _ (Heap.get?_push_of_some _ q))))
end
/-- the tuple at a and the list at b as they stand at each turn, the items in new pairs -/
def ItzM (K : PySem.W.Frag) (a b : Addr) : It where
  go := fun i H => ∃ (xs ys : List V) (x y : V), (SqT K H a xs ∧ SqL K H b ys) ∧ xs[i]? = some x ∧ ys[i]? = some y
  yld := fun i H v H' => ∃ (N : Addr) (x y : V), (v = .ref N ∧ H N = none ∧ H' = upd H N (.tup [x, y])) ∧ (∀ xs, SqT K H a xs → xs[i]? = some x) ∧ ∀ ys, SqL K H b ys → ys[i]? = some y
  stop := fun i H => ∃ xs ys : List V, (SqT K H a xs ∧ SqL K H b ys) ∧ i ≤ xs.length ∧ i ≤ ys.length ∧ (i = xs.length ∨ i = ys.length)
/-- the cells of such a zip, all apart -/
theorem mixed_sep {z TI TO i1 i2 a b : Addr} (D : ZipApart z TI TO i1 i2 a b) : ZipSep2 z TI TO i1 i2 [i1, a] [i2, b] where
  TIz := D.TIz
  TOz := D.TOz
  TITO := D.TITO
  TIi1 := D.TIi1
  TIi2 := D.TIi2
  mem1 := List.mem_cons_self
  mem2 := List.mem_cons_self
  zf1 := by simp [Ne.symm D.i1z, Ne.symm D.l1z]
  zf2 := by simp [Ne.symm D.i2z, Ne.symm D.l2z]
  Tf1 := by simp [D.TOi1, Ne.symm D.l1TO]
  Tf2 := by simp [D.TOi2, Ne.symm D.l2TO]
  sep1_2 := by simp [D.i12, Ne.symm D.l2i1]
  sep2_1 := by simp [Ne.symm D.i12, Ne.symm D.l1i2]
def mxSt (z TI TO i1 i2 a b : Addr) (i : Nat) (h : Heap) : Prop := IsZip h z TI TO .none ∧ IsTupOf2 h TI (.ref i1) (.ref i2) ∧ (∃ x y, IsTupOf2 h TO x y) ∧ h.IsTupleIter i1 a i ∧ h.IsListIter i2 b i
theorem five {c z TI TO i1 i2 : Addr} {R : Prop} (h : c ∈ [z, TI, TO, i1, i2]) (f1 : c = z → R) (f2 : c = TI → R) (f3 : c = TO → R) (f4 : c = i1 → R) (f5 : c = i2 → R) : R := by
  simp only [List.mem_cons, List.not_mem_nil, or_false] at h
  rcases h with q | q | q | q | q
  · exact f1 q
  · exact f2 q
  · exact f3 q
  · exact f4 q
  · exact f5 q
theorem mixed_turn {P : Program} {w : World} {K : PySem.W.Frag} {elts : List Expr} {kk : Nat} {tpos : Pos} {a b z TI TO i1 i2 : Addr} (D : ZipApart z TI TO i1 i2 a b) :
    L2.Turn P w K (.Tuple elts kk tpos) (ItzM K a b) [z, TI, TO, i1, i2] z (mxSt z TI TO i1 i2 a b) where
  mem := List.mem_cons_self
  obj := fun i h st c hc => by
    obtain ⟨qz, qI, ⟨x, y, qO⟩, ⟨ob1, g1, _, k1⟩, ⟨ob2, g2, _, k2⟩⟩ := st
    refine five hc (fun e => ?_) (fun e => ?_) (fun e => ?_) (fun e => ?_) fun e => ?_ <;> subst e
    · exact ⟨_, qz, fun v n => by cases n⟩
    · exact ⟨_, qI, fun v n => by cases n⟩
    · exact ⟨_, qO, fun v n => by cases n⟩
    · exact ⟨ob1, g1, fun v n => by rw [n] at k1; cases k1⟩
    · exact ⟨ob2, g2, fun v n => by rw [n] at k2; cases k2⟩
  keep := fun i h h' st k => by
    obtain ⟨qz, qI, ⟨x, y, qO⟩, q1, q2⟩ := st
    exact ⟨k z (by simp) _ qz, k TI (by simp) _ qI, ⟨x, y, k TO (by simp) _ qO⟩, q1.at (k i1 (by simp)), q2.at (k i2 (by simp))⟩
  item := fun X eP ew eK calm i pins s σ H E I fp st go => by
    subst eP ew eK
    obtain ⟨qz, qI, ⟨x0, y0, qO⟩, q1, q2⟩ := st
    obtain ⟨xs, ys, x, y, ⟨sx, sy⟩, ex, ey⟩ := go
    obtain ⟨us, vu, pt, _⟩ := I.tuple sx
    obtain ⟨vs, vv, pl, _⟩ := I.list sy
    obtain ⟨u, eu, ru⟩ := vu.get ex
    obtain ⟨v, ev, rv⟩ := vv.get ey
    have hn : X.A.in1.handled = none := I.ok.hd calm
    have l1 : i < us.toArray.size := by rw [List.size_toArray]; exact (List.getElem?_eq_some_iff.mp eu).1
    have l2 : i < vs.toArray.size := by rw [List.size_toArray]; exact (List.getElem?_eq_some_iff.mp ev).1
    have inside : z < s.heap.objs.size := Heap.lt_size qz
    refine wpAny_pyNext_zipD2_item (mixed_sep D) (Draws.tuple hn i1 a D.l1i1 us.toArray) (Draws.list hn i2 b D.l2i2 vs.toArray) qz qI qO ⟨q1, pt⟩ ⟨q2, pl.isList⟩ l1 l2 fun u' v' g tk eu' ev' qz' qO' q1' q2' new sz keep => ?_
    have eu' : us.toArray[i]? = some u' := eu'
    have ev' : vs.toArray[i]? = some v' := ev'
    rw [List.getElem?_toArray, eu] at eu'
    rw [List.getElem?_toArray, ev] at ev'
    cases eu'
    cases ev'
    refine ⟨_, rfl, wpAny_letOwnedTupleGo_zip qz' fun g2 qz2 only => ?_⟩
    have two : g2.get? s.heap.objs.size = some { cls := .type "tuple", data := .seq #[u, v] } := (only.2 _ (Nat.ne_of_gt inside)).trans new
    have ok : ObjOk X.prog X.w (upd H s.heap.objs.size (.tup [x, y])) g2 s.heap.objs.size (.tup [x, y]) := ⟨(by decide : 2 ≤ sizeLine), [u, v], .cons ru (.cons rv .nil), _, two, rfl, _, rfl⟩
    have all : ∀ c o, c ∉ [z, TI, TO, i1, i2] → s.heap.get? c = some o → g2.get? c = some o := fun c o out q => by
      simp only [List.mem_cons, List.not_mem_nil, or_false, not_or] at out
      exact (only.2 c out.1).trans (keep c o out.1 out.2.2.1 out.2.2.2.1 out.2.2.2.2 q)
    have I2 := I.turnedNew (t' := tk) all fp (Nat.le_refl _) ok
    refine ⟨.ref s.heap.objs.size, _, I2, rfl, ⟨_, x, y, ⟨rfl, I.hok.fresh (Nat.le_refl _), rfl⟩, fun zs q => by rw [I.tuple_inj q sx]; exact ex, fun zs q => by rw [I.list_inj q sy]; exact ey⟩, ⟨qz2, ?_, ⟨u, v, ?_⟩, ?_, ?_⟩, fun c hc => ?_⟩
    · exact (only.2 _ D.TIz).trans (keep _ _ D.TIz D.TITO D.TIi1 D.TIi2 qI)
    · exact (only.2 _ D.TOz).trans qO'
    · exact q1'.1.at fun o q => (only.2 _ D.i1z).trans q
    · exact q2'.1.at fun o q => (only.2 _ D.i2z).trans q
    · have lt : c < s.heap.objs.size := by
        refine five hc (fun e => ?_) (fun e => ?_) (fun e => ?_) (fun e => ?_) fun e => ?_ <;> rw [e]
        · exact inside
        · exact Heap.lt_size qI
        · exact Heap.lt_size qO
        · obtain ⟨_, g, _⟩ := q1; exact Heap.lt_size g
        · obtain ⟨_, g, _⟩ := q2; exact Heap.lt_size g
      exact (upd_ne (Nat.ne_of_lt lt)).trans (fp c hc).1
  done := fun X eP ew eK calm i pins s σ H E I fp st stop => by
    subst eP ew eK
    obtain ⟨qz, qI, ⟨x0, y0, qO⟩, q1, q2⟩ := st
    obtain ⟨xs, ys, ⟨sx, sy⟩, lx, ly, en⟩ := stop
    obtain ⟨us, vu, pt, _⟩ := I.tuple sx
    obtain ⟨vs, vv, pl, _⟩ := I.list sy
    have hn : X.A.in1.handled = none := I.ok.hd calm
    have n1 := vu.length
    have n2 := vv.length
    refine wpAny_pyNext_zipD2_end (mixed_sep D) (Draws.tuple hn i1 a D.l1i1 us.toArray) (Draws.list hn i2 b D.l2i2 vs.toArray) qz qI qO ⟨q1, pt⟩ ⟨q2, pl.isList⟩ (by simp; omega) (by simp; omega) (by simp; omega) fun g tk keep => ⟨rfl, ?_⟩
    refine I.turnedL (t' := tk) (ch := [z, TI, TO, i1, i2]) (fun c o out q => ?_) fp
    simp only [List.mem_cons, List.not_mem_nil, or_false, not_or] at out
    exact keep c o out.1 out.2.2.1 out.2.2.2.1 out.2.2.2.2 q
  self := fun A i s Q E st h => wpAny_pyIter_zip st.1 h
/-- zip of two lists, of two tuples, of a tuple and a list -/
def iZipC (K : PySem.W.Frag) (ta : TA) : TI := fun σ H R => ta σ H fun vs H1 => ∃ (a b : Addr) (xs ys : List V), vs = [.ref a, .ref b] ∧
  ((SqL K H1 a xs ∧ SqL K H1 b ys ∧ R (Itz K a b) H1) ∨ (SqT K H1 a xs ∧ SqT K H1 b ys ∧ R (RZ.ItzT K a b) H1) ∨ (SqT K H1 a xs ∧ SqL K H1 b ys ∧ R (ItzM K a b) H1))
theorem pi_zipC {X : Cx} {e e2 : Expr} {ta : TA} {p pos tpos : Pos} {elts : List Expr} {kk : Nat} (hg : Gl X "zip") (hm : X.mg "zip" = none) (ha : PA X [e, e2] ta)
    (hs : starEach [e, e2] X.env = (false, eval e X.env) :: starEach [e2] X.env) (hpl : (backTo pos (starEach [e2] X.env)).any (·.1) = false) :
    PI X (.Tuple elts kk tpos) (.Call (.Name "zip" p) [e, e2] [] pos) (iZipC X.K ta) := by
  refine ⟨fun pins s σ H R I h => Call_ (ld_blt I hg hm boot_zip (callWith_type1 (thn (ha.run pos pins s σ H _ I h) fun us s1 ⟨vs, H1, I1, r1, a, b, xs, ys, ev, alt⟩ => ?_) hs hpl))⟩
  subst ev
  obtain ⟨ua, ub, rfl, ra, rb⟩ : ∃ ua ub, us = [ua, ub] ∧ RelV (.ref a) ua ∧ RelV (.ref b) ub := by
    cases r1 with
    | cons ra rr =>
      cases rr with
      | cons rb rr => cases rr; exact ⟨_, _, rfl, ra, rb⟩
  cases ra
  cases rb
  generalize en : s1.heap.objs.size = n
  have fresh : ∀ c, c ∈ [n + 4, n + 2, n + 3, n, n + 1] → FpOk X pins H1 c := fun c hc => by
    have le : s1.heap.objs.size ≤ c := by
      simp only [List.mem_cons, List.not_mem_nil, or_false] at hc
      rw [en]
      rcases hc with q | q | q | q | q <;> rw [q]
      · exact Nat.le_add_right n 4
      · exact Nat.le_add_right n 2
      · exact Nat.le_add_right n 3
      · exact Nat.le_refl n
      · exact Nat.le_add_right n 1
    exact I1.fpOk le (I1.hok.fresh le)
  rcases alt with ⟨sx, sy, q⟩ | ⟨sx, sy, q⟩ | ⟨sx, sy, q⟩
  · obtain ⟨_, _, p1, _⟩ := I1.list sx
    obtain ⟨_, _, p2, _⟩ := I1.list sy
    refine call_zip_2 p1.isList p2.isList fun g qz qI qO q1 q2 _ up => wpAny_pyIter_zip qz ?_
    have ap := PySem.W.ktu_apart s1.heap.objs.size a b p1.lt p2.lt
    rw [en] at *
    exact ⟨_, _, _, _, H1, rfl, I1.kept (t' := s1.toks) up, turn_zip ap, ⟨qz, qI, ⟨_, _, qO⟩, q1, q2⟩, fresh, q⟩
  · obtain ⟨_, _, p1, _⟩ := I1.tuple sx
    obtain ⟨_, _, p2, _⟩ := I1.tuple sy
    obtain ⟨_, o1, _⟩ := id p1
    obtain ⟨_, o2, _⟩ := id p2
    refine RZ.call_zipT p1 p2 fun g qz qI qO q1 q2 _ up => wpAny_pyIter_zip qz ?_
    have ap := PySem.W.ktu_apart s1.heap.objs.size a b (Heap.lt_size o1) (Heap.lt_size o2)
    rw [en] at *
    exact ⟨_, _, _, _, H1, rfl, I1.kept (t' := s1.toks) up, RZ.turn_zipT ap, ⟨qz, qI, ⟨_, _, qO⟩, q1, q2⟩, fresh, q⟩
  · obtain ⟨_, _, p1, _⟩ := I1.tuple sx
    obtain ⟨_, _, p2, _⟩ := I1.list sy
    obtain ⟨_, o1, _⟩ := id p1
    refine mixed_call p1 p2.isList fun g qz qI qO q1 q2 up => wpAny_pyIter_zip qz ?_
    have ap := PySem.W.ktu_apart s1.heap.objs.size a b (Heap.lt_size o1) p2.lt
    rw [en] at *
    exact ⟨_, _, _, _, H1, rfl, I1.kept (t' := s1.toks) up, mixed_turn ap, ⟨qz, qI, ⟨_, _, qO⟩, q1, q2⟩, fresh, q⟩
end DP

end
section
set_option Elab.async false
set_option linter.all false
set_option maxRecDepth 100000
set_option autoImplicit false
set_option maxHeartbeats 4000000
namespace DP
open PySem PySem.Spec PyProof.Rows L2
/-! ### what is walked -/
/-- J walks the items xs, so long as the data of Hd stand -/
structure Goes (J : It) (Hd : Hp) (xs : List PyData) : Prop where
  go : ∀ (i : Nat) (x : PyData) (H : Hp) (O : List Addr), Same Hd (hd H O) → (∀ a ∈ O, H a ≠ none) → xs[i]? = some x → J.go i H ∧ ∀ v H', J.yld i H v H' → Same H H' ∧ Rp (hd H' O) v x
  stop : ∀ (H : Hp) (O : List Addr), Same Hd (hd H O) → J.stop xs.length H
theorem goes_list {K : PySem.W.Frag} {Hd : Hp} {a : Addr} {vs : List V} {xs : List PyData} (h : Rd Hd a (.lst vs)) (ha : RpA Hd vs xs) : Goes (Itl K a) Hd xs where
  go := fun i x H O s dm e => by
    have q : SqL K H a vs := .inl (DP.Rd.full (Rd.mono s h))
    obtain ⟨v, e1, e2⟩ := ha.get e
    refine ⟨⟨vs, v, q, e1⟩, fun w H' y => ?_⟩
    obtain ⟨eH, y⟩ := y
    subst eH
    have e3 := y vs q
    rw [e1] at e3
    cases e3
    exact ⟨Same.refl _, e2.up s⟩
  stop := fun H O s => ⟨vs, .inl (DP.Rd.full (Rd.mono s h)), Nat.le_of_eq ha.length⟩
theorem goes_tup {K : PySem.W.Frag} {Hd : Hp} {a : Addr} {vs : List V} {xs : List PyData} (h : Hd a = some (.tup vs)) (ha : RpA Hd vs xs) : Goes (Itt K a) Hd xs where
  go := fun i x H O s dm e => by
    have q : SqT K H a vs := .inl (.inl (hd_some (s _ _ h)).2)
    obtain ⟨v, e1, e2⟩ := ha.get e
    refine ⟨⟨vs, v, q, e1⟩, fun w H' y => ?_⟩
    obtain ⟨eH, y⟩ := y
    subst eH
    have e3 := y vs q
    rw [e1] at e3
    cases e3
    exact ⟨Same.refl _, e2.up s⟩
  stop := fun H O s => ⟨vs, .inl (.inl (hd_some (s _ _ h)).2), Nat.le_of_eq ha.length⟩
/-- the keys of a dict that stays as it is -/
def Itdk (a : Addr) (o : Obj) (xs : List (NestedKey × Addr × Value)) : It :=
  ⟨fun i H => H a = some (OB a o) ∧ i < xs.length, fun i H x H' => H' = H ∧ ∃ e, xs[i]? = some e ∧ x = .ref e.2.1, fun i H => H a = some (OB a o) ∧ xs.length ≤ i⟩
theorem turn_dk {P : Program} {w : World} {K : PySem.W.Frag} {tg : Expr} {a : Addr} {o : Obj} {es : Array DictEntry} {ep : Nat} {xs : List (NestedKey × Addr × Value)} (it : Addr) (hc0 : o.ExactDict) (hod : o.data = .dict es ep) (he : es.toList = xs.map fun x => (⟨x.1.hash w, .ref x.2.1, x.2.2⟩ : DictEntry)) :
    Turn P w K tg (Itdk a o xs) [it] it (fun i h => h.IsKeyIter it a i xs.length ep) where
  mem := by simp
  obj := fun i h st b hb => by
    have e : b = it := by simpa using hb
    subst e
    obtain ⟨oi, e, c, dd⟩ := st
    exact ⟨oi, e, fun v z => by rw [dd] at z; cases z⟩
  keep := fun i h h' st k => st.at fun oi e => k it (by simp) oi e
  item := by
    intro X hP hw hK hc i pins s σ H E I hf st hg
    subst hP hw hK
    obtain ⟨hd, hi⟩ := hg
    obtain ⟨f0, f1, f2, f3, f4, f5⟩ := hf it (by simp)
    have hgd : s.heap.get? a = some o := (I.hok _ _ hd).1
    have hsz : es.size = xs.length := by rw [← Array.length_toList, he, List.length_map]
    obtain ⟨x, hx⟩ : ∃ p, xs[i]? = some p := ⟨xs[i], List.getElem?_eq_getElem hi⟩
    have hen : es[i]? = some ⟨x.1.hash X.w, .ref x.2.1, x.2.2⟩ := by rw [← Array.getElem?_toList, he, List.getElem?_map, hx]; rfl
    refine next_key_item st hgd hod hsz hen fun h' st' sb => ?_
    have I1 : Inv X pins σ H { s with heap := h' } := I.turned (t' := s.toks) (fun b ob hb e => (sb.2 b hb).trans e) f0 f1 f3 f4 f5
    obtain ⟨oi, e, c, dd⟩ := id st'
    exact ⟨_, rfl, go_of (s := { s with heap := h' }) e c dd (by decide) ⟨.ref x.2.1, H, I1, rfl, ⟨rfl, x, hx, rfl⟩, st', fun b hb => (hf b hb).1⟩⟩
  done := by
    intro X hP hw hK hc i pins s σ H E I hf st hg
    subst hP hw hK
    obtain ⟨hd, hi⟩ := hg
    obtain ⟨f0, f1, f2, f3, f4, f5⟩ := hf it (by simp)
    have hgd : s.heap.get? a = some o := (I.hok _ _ hd).1
    have hsz : es.size = xs.length := by rw [← Array.length_toList, he, List.length_map]
    exact next_key_end (I.ok.hd hc) st hgd hod hsz hi fun h' eb => ⟨rfl, I.turned (t' := s.toks) (fun b ob hb e => eb b ob hb e) f0 f1 f3 f4 f5⟩
  self := fun A i s Q E st h => wpAny_pyIter_keyiter st h
theorem RpD.get {H : Hp} : ∀ {vs : List (NestedKey × Addr × Value)} {ds : List (PyData × PyData)} {i : Nat} {d : PyData × PyData}, RpD H vs ds → ds[i]? = some d → ∃ v, vs[i]? = some v ∧ keyB d.1 = true ∧ v.1 = nkey d.1 ∧ Rp H (.ref v.2.1) d.1 ∧ ∃ y, RelV y v.2.2 ∧ Rp H y d.2
  | _, _, _, _, .nil, e => by simp at e
  | _, _, 0, _, .cons a b c d _, e => by simp at e; subst e; exact ⟨_, rfl, a, rfl, b, _, c, d⟩
  | _, _, i + 1, d, .cons _ _ _ _ t, e => by
    obtain ⟨u, h1, h2⟩ := RpD.get (i := i) (d := d) t (by simpa using e)
    exact ⟨u, by simpa using h1, h2⟩
theorem goes_dict {Hd : Hp} {a : Addr} {o : Obj} {xs : List (NestedKey × Addr × Value)} {kvs : List (PyData × PyData)} (h : Hd a = some (OB a o)) (ha : RpD Hd xs kvs) : Goes (Itdk a o xs) Hd (kvs.map (·.1)) where
  go := fun i x H O s dm e => by
    have q : H a = some (OB a o) := (hd_some (s _ _ h)).2
    rw [List.getElem?_map] at e
    obtain ⟨p, ep, rfl⟩ := Option.map_eq_some_iff.mp e
    obtain ⟨v, e1, e2, e3, e4, _⟩ := ha.get ep
    refine ⟨⟨q, (List.getElem?_eq_some_iff.mp e1).1⟩, fun w H' y => ?_⟩
    obtain ⟨eH, v', y1, y2⟩ := y
    subst eH y2
    rw [e1] at y1
    cases y1
    exact ⟨Same.refl _, e4.up s⟩
  stop := fun H O s => ⟨(hd_some (s _ _ h)).2, by rw [List.length_map]; exact Nat.le_of_eq ha.length⟩
theorem rp_dctN {H : Hp} {v : V} {p : PyData × PyData} {kvs : List (PyData × PyData)} (h : Rp H v (.dict (p :: kvs))) (hk : keyB p.1 = true) : ∃ a o xs, v = .ref a ∧ H a = some (OB a o) ∧ DictObj o xs ∧ (a == sysModules) = false ∧ xs.length ≤ sizeLine ∧ RpD H xs (p :: kvs) := by
  cases h with
  | dct1 i j a => cases hk
  | dctN a b c d e => exact ⟨_, _, _, rfl, a, b, c, d, e⟩
def rngD (lo : Int) (n : Nat) : List PyData := (List.range n).map fun (i : Nat) => PyData.int (lo + (i : Int))
theorem rngD_get {lo : Int} {n i : Nat} {x : PyData} (h : (rngD lo n)[i]? = some x) : i < n ∧ x = .int (lo + (i : Int)) := by
  unfold rngD at h
  rw [List.getElem?_map] at h
  cases q : (List.range n)[i]? with
  | none => rw [q] at h; cases h
  | some j =>
    rw [q] at h
    obtain ⟨hl, e⟩ := List.getElem?_eq_some_iff.mp q
    rw [List.getElem_range] at e
    rw [List.length_range] at hl
    subst e
    cases h
    exact ⟨hl, rfl⟩
theorem goes_rng {Hd : Hp} {lo : Int} {n : Nat} : Goes (Itr lo n) Hd (rngD lo n) where
  go := fun i x H O s dm e => by
    obtain ⟨h1, h2⟩ := rngD_get e
    refine ⟨h1, fun w H' y => ?_⟩
    obtain ⟨eH, y⟩ := y
    subst eH y h2
    exact ⟨Same.refl _, .int _⟩
  stop := fun H O s => by
    show n ≤ (rngD lo n).length
    unfold rngD
    simp
theorem rp_pair {H : Hp} {O : List Addr} {T : Addr} {x y : V} {dx dy : PyData} (dm : ∀ a ∈ O, H a ≠ none) (n : H T = none) (h1 : Rp (hd H O) x dx) (h2 : Rp (hd H O) y dy) : Rp (hd (upd H T (.tup [x, y])) O) (.ref T) (.tuple [dx, dy]) :=
  rp_new dm n (by show 2 ≤ sizeLine; decide) (.cons h1 (.cons h2 .nil))
def enuD (xs : List PyData) : List PyData := xs.zipIdx.map fun p => .tuple [.int (p.2 : Int), p.1]
theorem enuD_get {xs : List PyData} {i : Nat} {z : PyData} (h : (enuD xs)[i]? = some z) : ∃ x, xs[i]? = some x ∧ z = .tuple [.int (i : Int), x] := by
  unfold enuD at h
  rw [List.getElem?_map, List.getElem?_zipIdx] at h
  cases q : xs[i]? with
  | none => rw [q] at h; cases h
  | some x =>
    rw [q] at h
    cases h
    exact ⟨x, rfl, by simp⟩
theorem enuD_len (xs : List PyData) : (enuD xs).length = xs.length := by unfold enuD; simp
theorem goes_enumL {K : PySem.W.Frag} {Hd : Hp} {a : Addr} {vs : List V} {xs : List PyData} (h : Rd Hd a (.lst vs)) (ha : RpA Hd vs xs) : Goes (Ite K a) Hd (enuD xs) where
  go := fun i x H O s dm e => by
    obtain ⟨x', e0, rfl⟩ := enuD_get e
    have q : SqL K H a vs := .inl (DP.Rd.full (Rd.mono s h))
    obtain ⟨v, e1, e2⟩ := ha.get e0
    refine ⟨⟨vs, v, q, e1⟩, fun w H' y => ?_⟩
    obtain ⟨T, z, rfl, hT, rfl, y⟩ := y
    have e3 := y vs q
    rw [e1] at e3
    cases e3
    exact ⟨same_new hT, rp_pair dm hT (.int _) (e2.up s)⟩
  stop := fun H O s => ⟨vs, .inl (DP.Rd.full (Rd.mono s h)), by rw [enuD_len]; exact Nat.le_of_eq ha.length⟩
theorem goes_enumT {Hd : Hp} {a : Addr} {vs : List V} {xs : List PyData} (h : Hd a = some (.tup vs)) (ha : RpA Hd vs xs) : Goes (IteT a) Hd (enuD xs) where
  go := fun i x H O s dm e => by
    obtain ⟨x', e0, rfl⟩ := enuD_get e
    have q : H a = some (.tup vs) := (hd_some (s _ _ h)).2
    obtain ⟨v, e1, e2⟩ := ha.get e0
    refine ⟨⟨vs, v, q, e1⟩, fun w H' y => ?_⟩
    obtain ⟨T, z, rfl, hT, rfl, y⟩ := y
    have e3 := y vs q
    rw [e1] at e3
    cases e3
    exact ⟨same_new hT, rp_pair dm hT (.int _) (e2.up s)⟩
  stop := fun H O s => ⟨vs, (hd_some (s _ _ h)).2, by rw [enuD_len]; exact ha.length⟩
def zipD (xs ys : List PyData) : List PyData := List.zipWith (fun x y => .tuple [x, y]) xs ys
theorem zipD_get {xs ys : List PyData} {i : Nat} {z : PyData} (h : (zipD xs ys)[i]? = some z) : ∃ x y, xs[i]? = some x ∧ ys[i]? = some y ∧ z = .tuple [x, y] := by
  unfold zipD at h
  rw [List.getElem?_zipWith] at h
  cases q1 : xs[i]? with
  | none => rw [q1] at h; simp at h
  | some x =>
    cases q2 : ys[i]? with
    | none => rw [q1, q2] at h; simp at h
    | some y =>
      rw [q1, q2] at h
      simp at h
      exact ⟨x, y, rfl, rfl, h.symm⟩
theorem goes_zipL {K : PySem.W.Frag} {Hd : Hp} {a b : Addr} {vs ws : List V} {xs ys : List PyData} (h : Rd Hd a (.lst vs)) (ha : RpA Hd vs xs) (h2 : Rd Hd b (.lst ws)) (hb : RpA Hd ws ys) : Goes (Itz K a b) Hd (zipD xs ys) where
  go := fun i x H O s dm e => by
    obtain ⟨x', y', e0, e0', rfl⟩ := zipD_get e
    have q : SqL K H a vs := .inl (DP.Rd.full (Rd.mono s h))
    have q2 : SqL K H b ws := .inl (DP.Rd.full (Rd.mono s h2))
    obtain ⟨v, e1, e2⟩ := ha.get e0
    obtain ⟨v', e1', e2'⟩ := hb.get e0'
    refine ⟨⟨vs, ws, v, v', q, q2, e1, e1'⟩, fun w H' y => ?_⟩
    obtain ⟨T, z, z', rfl, hT, rfl, y, y'⟩ := y
    have e3 := y vs q
    rw [e1] at e3
    cases e3
    have e4 := y' ws q2
    rw [e1'] at e4
    cases e4
    exact ⟨same_new hT, rp_pair dm hT (e2.up s) (e2'.up s)⟩
  stop := fun H O s => ⟨vs, ws, .inl (DP.Rd.full (Rd.mono s h)), .inl (DP.Rd.full (Rd.mono s h2)), by
    have l1 := ha.length
    have l2 := hb.length
    unfold zipD
    rw [List.length_zipWith]
    omega⟩
theorem goes_zipT {K : PySem.W.Frag} {Hd : Hp} {a b : Addr} {vs ws : List V} {xs ys : List PyData} (h : Hd a = some (.tup vs)) (ha : RpA Hd vs xs) (h2 : Hd b = some (.tup ws)) (hb : RpA Hd ws ys) : Goes (RZ.ItzT K a b) Hd (zipD xs ys) where
  go := fun i x H O s dm e => by
    obtain ⟨x', y', e0, e0', rfl⟩ := zipD_get e
    have q : SqT K H a vs := .inl (.inl (hd_some (s _ _ h)).2)
    have q2 : SqT K H b ws := .inl (.inl (hd_some (s _ _ h2)).2)
    obtain ⟨v, e1, e2⟩ := ha.get e0
    obtain ⟨v', e1', e2'⟩ := hb.get e0'
    refine ⟨⟨vs, ws, v, v', q, q2, e1, e1'⟩, fun w H' y => ?_⟩
    obtain ⟨T, z, z', rfl, hT, rfl, y, y'⟩ := y
    have e3 := y vs q
    rw [e1] at e3
    cases e3
    have e4 := y' ws q2
    rw [e1'] at e4
    cases e4
    exact ⟨same_new hT, rp_pair dm hT (e2.up s) (e2'.up s)⟩
  stop := fun H O s => ⟨vs, ws, .inl (.inl (hd_some (s _ _ h)).2), .inl (.inl (hd_some (s _ _ h2)).2), by
    have l1 := ha.length
    have l2 := hb.length
    unfold zipD
    rw [List.length_zipWith]
    omega⟩
theorem goes_zipM {K : PySem.W.Frag} {Hd : Hp} {a b : Addr} {vs ws : List V} {xs ys : List PyData} (h : Hd a = some (.tup vs)) (ha : RpA Hd vs xs) (h2 : Rd Hd b (.lst ws)) (hb : RpA Hd ws ys) : Goes (ItzM K a b) Hd (zipD xs ys) where
  go := fun i x H O s dm e => by
    obtain ⟨x', y', e0, e0', rfl⟩ := zipD_get e
    have q : SqT K H a vs := .inl (.inl (hd_some (s _ _ h)).2)
    have q2 : SqL K H b ws := .inl (DP.Rd.full (Rd.mono s h2))
    obtain ⟨v, e1, e2⟩ := ha.get e0
    obtain ⟨v', e1', e2'⟩ := hb.get e0'
    refine ⟨⟨vs, ws, v, v', ⟨q, q2⟩, e1, e1'⟩, fun w H' y => ?_⟩
    obtain ⟨T, z, z', ⟨rfl, hT, rfl⟩, y, y'⟩ := y
    have e3 := y vs q
    rw [e1] at e3
    cases e3
    have e4 := y' ws q2
    rw [e1'] at e4
    cases e4
    exact ⟨same_new hT, rp_pair dm hT (e2.up s) (e2'.up s)⟩
  stop := fun H O s => by
    have l1 := ha.length
    have l2 := hb.length
    have lz : (zipD xs ys).length = min xs.length ys.length := by unfold zipD; rw [List.length_zipWith]
    exact ⟨vs, ws, ⟨.inl (.inl (hd_some (s _ _ h)).2), .inl (DP.Rd.full (Rd.mono s h2))⟩, by omega, by omega, by omega⟩
abbrev TID := SEnv → (List PyData → Prop) → Prop
def upI (C : Cfg) (t : TID) : TI := fun σ H R => ∃ (r : DEnv) (Q' : List PyData → Prop), RepE C σ H r ∧ t (er r) Q' ∧ ∀ J H' xs, Gr C r H H' → xs.length ≤ sizeLine → Goes J (hd H' (C.O ++ oA r)) xs → Q' xs → R J H'
def PDI (X : Cx) (C : Cfg) (tg iter : Expr) (t : TID) : Prop := PI X tg iter (upI C t)
theorem PI_imp {X : Cx} {tg iter : Expr} {t u : TI} (h : PI X tg iter t) (q : ∀ σ H R, u σ H R → t σ H R) : PI X tg iter u := ⟨fun pins s σ H R I hw => h.run pins s σ H R I (q σ H R hw)⟩
section
variable {X : Cx} {C : Cfg} {tg e e2 : Expr} {es : List Expr} {pos : Pos}
/-- the items of a list or a tuple, the keys of a dict -/
def seqD (k : List PyData → Prop) : PyData → Prop
  | .list xs => k xs
  | .tuple xs => k xs
  | .dict (p :: kvs) => keyB p.1 = true ∧ k (p.1 :: kvs.map (·.1))
  | _ => False
def iSeq (t : TD) : TID := fun r Q => t r fun x => seqD Q x
theorem pi_seq {l : Expr} {tl : TE} (hl : PE X l tl) : PI X tg l (fun σ H R => tl σ H fun x H1 => ∃ a, x = .ref a ∧ ((∃ xs, SqL X.K H1 a xs ∧ R (Itl X.K a) H1) ∨ (∃ xs, SqT X.K H1 a xs ∧ R (Itt X.K a) H1) ∨ ∃ o xs, H1 a = some (OB a o) ∧ DictObj o xs ∧ (a == sysModules) = false ∧ R (Itdk a o xs) H1)) := by
  refine ⟨fun pins s σ H R I h => ?_⟩
  refine thn (hl.run pins s σ H _ I h) fun v s1 ⟨x, H1, I1, r1, q1⟩ => ?_
  obtain ⟨a, e, q1⟩ := q1
  subst e
  cases r1
  have fp : ∀ b, b ∈ [s1.heap.objs.size] → FpOk X pins H1 b := fun b hb => by
    have e : b = s1.heap.objs.size := by simpa using hb
    subst e
    exact I1.fpOk (Nat.le_refl _) (I1.hok.fresh (Nat.le_refl _))
  rcases q1 with ⟨xs, hq, q⟩ | ⟨xs, hq, q⟩ | ⟨o, xs, hq, od, sy, q⟩
  · obtain ⟨its, rv, p, hz⟩ := I1.list hq
    exact wpAny_pyIter_list p.isList ⟨s1.heap.objs.size, [s1.heap.objs.size], _, _, H1, rfl, I1.kept (t' := s1.toks) fun b o e => Heap.get?_push_of_some _ e, turn_list a _, ⟨_, Heap.get?_push_size _ rfl, rfl, rfl⟩, fp, q⟩
  · obtain ⟨its, rv, p, hz⟩ := I1.tuple hq
    exact wpAny_pyIter_tuple (show s1.heap.IsTuple a its.toArray from p) ⟨s1.heap.objs.size, [s1.heap.objs.size], _, _, H1, rfl, I1.kept (t' := s1.toks) fun b o e => Heap.get?_push_of_some _ e, turn_tuple a _, ⟨_, Heap.get?_push_size _ rfl, rfl, rfl⟩, fp, q⟩
  · obtain ⟨es, ep, hr, hod, he⟩ := od.raw X.w (show s1.heap.get? a = some o from (I1.hok _ _ hq).1)
    have hsz : es.size = xs.length := by rw [← Array.length_toList, he, List.length_map]
    refine wpAny_pyIter_dict_raw sy hr (pi_one (tk := s1.toks) I1 _ (turn_dk _ od.1 hod he) ⟨_, Heap.get?_push_size _ rfl, rfl, ?_⟩ q)
    rw [hsz] <;> rfl
theorem pdi_seq {t : TD} (h : PD X C e t) : PDI X C tg e (iSeq t) := PI_imp (pi_seq h) fun σ H R ⟨r, Q', R0, q, k⟩ => ⟨r, _, R0, q, fun v H1 x g rp qx => by
  cases x with
  | list xs =>
    obtain ⟨a, ys, rfl, h1, h2, h3⟩ := rp_lst rp
    exact ⟨a, rfl, .inl ⟨ys, .inl (DP.Rd.full h1), k _ H1 xs g (by rw [← h3.length]; exact h2) (goes_list h1 h3) qx⟩⟩
  | tuple xs =>
    obtain ⟨a, ys, rfl, h1, h2, h3⟩ := rp_tup rp
    exact ⟨a, rfl, .inr (.inl ⟨ys, .inl (.inl (hd_some h1).2), k _ H1 xs g (by rw [← h3.length]; exact h2) (goes_tup h1 h3) qx⟩)⟩
  | dict kvs =>
    cases kvs with
    | nil => exact (show False from qx).elim
    | cons p kvs =>
      obtain ⟨hk, qx⟩ := (show keyB p.1 = true ∧ _ from qx)
      obtain ⟨a, o, xs, rfl, h1, h2, h3, h4, h5⟩ := rp_dctN rp hk
      exact ⟨a, rfl, .inr (.inr ⟨o, xs, (hd_some h1).2, h2, h3, k _ H1 _ g (by rw [List.length_map, ← h5.length]; exact h4) (goes_dict h1 h5) qx⟩)⟩
  | _ => exact (show False from qx).elim⟩
def rng1 (Q : List PyData → Prop) : List PyData → Prop
  | [.int j] => j ≤ 1000000 ∧ -1000000 ≤ j ∧ Q (rngD 0 j.toNat)
  | _ => False
def rng2 (Q : List PyData → Prop) : List PyData → Prop
  | [.int i, .int j] => (j ≤ 1000000 ∧ -1000000 ≤ i ∧ i ≤ 1000000 ∧ -1000000 ≤ j) ∧ Q (rngD i (j - i).toNat)
  | _ => False
def iRange1 (t : TAD) : TID := fun r Q => t r fun xs => rng1 Q xs
def iRange2 (t : TAD) : TID := fun r Q => t r fun xs => rng2 Q xs
theorem rngD_len (lo : Int) (n : Nat) : (rngD lo n).length = n := by unfold rngD; simp
theorem pdi_range1 {p : Pos} {t : TAD} (hm : X.mg "range" = none) (hg : Gl X "range") (ha : PDA X C [e] t) (hs : starEach [e] X.env = [(false, eval e X.env)]) : PDI X C tg (.Call (.Name "range" p) [e] [] pos) (iRange1 t) :=
  PI_imp (pi_range1 hg hm ha hs) fun σ H R ⟨r, Q', R0, q, k⟩ => ⟨r, _, R0, q, fun vs H1 xs g rp qx => by
    unfold rng1 at qx
    split at qx
    · rename_i j
      obtain ⟨v, rfl, hv⟩ := rpa1 rp
      rw [rp_int hv]
      exact ⟨j, rfl, by omega, by omega, k _ H1 _ g (by rw [rngD_len, sizeLine_eq]; omega) goes_rng qx.2.2⟩
    · exact qx.elim⟩
theorem pdi_range2 {p : Pos} {t : TAD} (hm : X.mg "range" = none) (hg : Gl X "range") (ha : PDA X C [e, e2] t) (hs : starEach [e, e2] X.env = [(false, eval e X.env), (false, eval e2 X.env)]) (hs2 : starEach [e2] X.env = [(false, eval e2 X.env)]) : PDI X C tg (.Call (.Name "range" p) [e, e2] [] pos) (iRange2 t) :=
  PI_imp (pi_range2 hg hm ha hs hs2) fun σ H R ⟨r, Q', R0, q, k⟩ => ⟨r, _, R0, q, fun vs H1 xs g rp qx => by
    unfold rng2 at qx
    split at qx
    · rename_i i j
      obtain ⟨v, w, rfl, hv, hw⟩ := rpa2 rp
      rw [rp_int hv, rp_int hw]
      exact ⟨i, j, rfl, ⟨by omega, by omega, by omega, by omega⟩, k _ H1 _ g (by rw [rngD_len, sizeLine_eq]; omega) goes_rng qx.2⟩
    · exact qx.elim⟩
/-- enumerate of a list or a tuple -/
def enu1 (Q : List PyData → Prop) : List PyData → Prop
  | [.list xs] => Q (enuD xs)
  | [.tuple xs] => Q (enuD xs)
  | _ => False
def iEnu (t : TAD) : TID := fun r Q => t r fun xs => enu1 Q xs
theorem pi_enumA {ta : TA} {p tpos : Pos} {elts : List Expr} {kk : Nat} (hg : Gl X "enumerate") (hm : X.mg "enumerate" = none) (ha : PA X [e] ta) (hs : starEach [e] X.env = [(false, eval e X.env)]) :
    PI X (.Tuple elts kk tpos) (.Call (.Name "enumerate" p) [e] [] pos) (fun σ H R => ta σ H fun vs H1 => ∃ a xs, vs = [.ref a] ∧ ((SqL X.K H1 a xs ∧ R (Ite X.K a) H1) ∨ (H1 a = some (.tup xs) ∧ R (IteT a) H1))) := by
  refine ⟨fun pins s σ H R I h => ?_⟩
  refine Call_ (ld_blt I hg hm boot_enumerate (PyProof.Rows.callWith_type1 (thn (ha.run pos pins s σ H _ I h) fun us s1 ⟨vs, H1, I1, r1, q1⟩ => ?_) hs rfl))
  obtain ⟨a, xs, ex, q1⟩ := q1
  subst ex
  cases r1 with
  | cons r rr =>
    cases rr
    cases r
    have fp : ∀ b, b ∈ [s1.heap.objs.size + 1, s1.heap.objs.size] → FpOk X pins H1 b := fun b hb => by
      have e' : b = s1.heap.objs.size + 1 ∨ b = s1.heap.objs.size := by simpa using hb
      have hle : s1.heap.objs.size ≤ b := by
        rcases e' with z | z
        · rw [z]; exact Nat.le_succ _
        · rw [z]; exact Nat.le_refl _
      exact I1.fpOk hle (I1.hok.fresh hle)
    rcases q1 with ⟨hq, q⟩ | ⟨hq, q⟩
    · obtain ⟨its, rv, p1, _⟩ := I1.list hq
      refine call_enumerate_list p1.isList fun h' he hit hsz hk => wpAny_pyIter_enum he ?_
      have I2 : Inv X pins σ H1 { s1 with heap := h' } := I1.kept (t' := s1.toks) hk
      exact ⟨s1.heap.objs.size + 1, [s1.heap.objs.size + 1, s1.heap.objs.size], _, _, H1, rfl, I2, turn_enum a (s1.heap.objs.size + 1) s1.heap.objs.size, ⟨⟨_, he⟩, hit, Nat.succ_ne_self _⟩, fp, q⟩
    · obtain ⟨its, hz, rv, p1⟩ := tupR I1 hq
      obtain ⟨o1, ho1, _⟩ := id p1
      refine call_enumerate_tuple (show s1.heap.IsTuple a its.toArray from p1) fun h' he hit hsz hk => wpAny_pyIter_enum he ?_
      have I2 : Inv X pins σ H1 { s1 with heap := h' } := I1.kept (t' := s1.toks) hk
      exact ⟨s1.heap.objs.size + 1, [s1.heap.objs.size + 1, s1.heap.objs.size], _, _, H1, rfl, I2, turn_enumT a (s1.heap.objs.size + 1) s1.heap.objs.size, ⟨⟨_, he⟩, hit, Nat.succ_ne_self _, Nat.ne_of_lt (Heap.lt_size ho1)⟩, fp, q⟩
theorem pdi_enum {p tpos : Pos} {elts : List Expr} {kk : Nat} {t : TAD} (hm : X.mg "enumerate" = none) (hg : Gl X "enumerate") (ha : PDA X C [e] t) (hs : starEach [e] X.env = [(false, eval e X.env)]) : PDI X C (.Tuple elts kk tpos) (.Call (.Name "enumerate" p) [e] [] pos) (iEnu t) :=
  PI_imp (pi_enumA hg hm ha hs) fun σ H R ⟨r, Q', R0, q, k⟩ => ⟨r, _, R0, q, fun vs H1 xs g rp qx => by
    unfold enu1 at qx
    split at qx
    · rename_i xs
      obtain ⟨v, rfl, hv⟩ := rpa1 rp
      obtain ⟨a, ys, rfl, h1, h2, h3⟩ := rp_lst hv
      exact ⟨a, ys, rfl, .inl ⟨.inl (DP.Rd.full h1), k _ H1 _ g (by rw [enuD_len, ← h3.length]; exact h2) (goes_enumL h1 h3) qx⟩⟩
    · rename_i xs
      obtain ⟨v, rfl, hv⟩ := rpa1 rp
      obtain ⟨a, ys, rfl, h1, h2, h3⟩ := rp_tup hv
      exact ⟨a, ys, rfl, .inr ⟨(hd_some h1).2, k _ H1 _ g (by rw [enuD_len, ← h3.length]; exact h2) (goes_enumT h1 h3) qx⟩⟩
    · exact qx.elim⟩
/-- zip of two lists, of two tuples -/
def zip2 (Q : List PyData → Prop) : List PyData → Prop
  | [.list xs, .list ys] => Q (zipD xs ys)
  | [.tuple xs, .tuple ys] => Q (zipD xs ys)
  | [.tuple xs, .list ys] => Q (zipD xs ys)
  | _ => False
def iZip2 (t : TAD) : TID := fun r Q => t r fun xs => zip2 Q xs
theorem zipD_len (xs ys : List PyData) : (zipD xs ys).length ≤ xs.length := by unfold zipD; rw [List.length_zipWith]; omega
theorem pdi_zip {p tpos : Pos} {elts : List Expr} {kk : Nat} {t : TAD} (hm : X.mg "zip" = none) (hg : Gl X "zip") (ha : PDA X C [e, e2] t) (hs : starEach [e, e2] X.env = (false, eval e X.env) :: starEach [e2] X.env) (hpl : (backTo pos (starEach [e2] X.env)).any (·.1) = false) :
    PDI X C (.Tuple elts kk tpos) (.Call (.Name "zip" p) [e, e2] [] pos) (iZip2 t) :=
  PI_imp (pi_zipC hg hm ha hs hpl) fun σ H R ⟨r, Q', R0, q, k⟩ => ⟨r, _, R0, q, fun vs H1 xs g rp qx => by
    unfold zip2 at qx
    split at qx
    · rename_i xs ys
      obtain ⟨v, w, rfl, hv, hw⟩ := rpa2 rp
      obtain ⟨a, vs, rfl, h1, h2, h3⟩ := rp_lst hv
      obtain ⟨b, ws, rfl, h4, h5, h6⟩ := rp_lst hw
      exact ⟨a, b, vs, ws, rfl, .inl ⟨.inl (DP.Rd.full h1), .inl (DP.Rd.full h4), k _ H1 _ g (Nat.le_trans (zipD_len _ _) (by rw [← h3.length]; exact h2)) (goes_zipL h1 h3 h4 h6) qx⟩⟩
    · rename_i xs ys
      obtain ⟨v, w, rfl, hv, hw⟩ := rpa2 rp
      obtain ⟨a, vs, rfl, h1, h2, h3⟩ := rp_tup hv
      obtain ⟨b, ws, rfl, h4, h5, h6⟩ := rp_tup hw
      exact ⟨a, b, vs, ws, rfl, .inr (.inl ⟨.inl (.inl (hd_some h1).2), .inl (.inl (hd_some h4).2), k _ H1 _ g (Nat.le_trans (zipD_len _ _) (by rw [← h3.length]; exact h2)) (goes_zipT h1 h3 h4 h6) qx⟩)⟩
    · rename_i xs ys
      obtain ⟨v, w, rfl, hv, hw⟩ := rpa2 rp
      obtain ⟨a, vs, rfl, h1, h2, h3⟩ := rp_tup hv
      obtain ⟨b, ws, rfl, h4, h5, h6⟩ := rp_lst hw
      exact ⟨a, b, vs, ws, rfl, .inr (.inr ⟨.inl (.inl (hd_some h1).2), .inl (DP.Rd.full h4), k _ H1 _ g (Nat.le_trans (zipD_len _ _) (by rw [← h3.length]; exact h2)) (goes_zipM h1 h3 h4 h6) qx⟩)⟩
    · exact qx.elim⟩
end
/-! ### targets -/
inductive Tg where
  | one (i : Nat)
  | two (i j : Nat)
  | three (i j k : Nat)
def Tg.slots : Tg → List Nat
  | .one i => [i]
  | .two i j => [i, j]
  | .three i j k => [i, j, k]
def bindT : Tg → PyData → SEnv → (SEnv → Prop) → Prop
  | .one i, x, r, Q => Q (r.set i (some (.d x)))
  | .two i j, .tuple [x, y], r, Q => Q ((r.set i (some (.d x))).set j (some (.d y)))
  | .two i j, .list [x, y], r, Q => Q ((r.set i (some (.d x))).set j (some (.d y)))
  | .three i j k, .tuple [x, y, z], r, Q => Q (((r.set i (some (.d x))).set j (some (.d y))).set k (some (.d z)))
  | .three i j k, .list [x, y, z], r, Q => Q (((r.set i (some (.d x))).set j (some (.d y))).set k (some (.d z)))
  | _, _, _, _ => False
/-- the slots of is alone may differ -/
def Agree (is : List Nat) (σ σ' : L2.St) : Prop := σ'.length = σ.length ∧ ∀ j, j ∉ is → σ'[j]? = σ[j]?
def upG (C : Cfg) (tg : Tg) : TG := fun v σ H Q => ∃ (r : DEnv) (x : PyData) (Q' : SEnv → Prop), RepE C σ H r ∧ Rp (hd H (C.O ++ oA r)) v x ∧ bindT tg x (er r) Q' ∧
  ∀ σ' r', RepE C σ' H r' → Agree tg.slots σ σ' → (∀ (j : Nat), j ∉ tg.slots → r'[j]? = r[j]?) → (∀ j ∈ tg.slots, ∃ y, r'[j]? = some (some (.d y))) → Q' (er r') → Q σ' H
theorem PG_imp {X : Cx} {tg : Expr} {t u : TG} (h : PG X tg t) (q : ∀ v σ H Q, u v σ H Q → t v σ H Q) : PG X tg u := ⟨fun pins s σ H v w Q I r hw => h.run pins s σ H v w Q I r (q v σ H Q hw)⟩
section
variable {X : Cx} {C : Cfg} {pos p1 p2 p3 : Pos} {k : Nat}
/-- what a name must be so that it may be stored -/
structure StoreOk (X : Cx) (i : Nat) (x : Str) : Prop where
  hi : X.N[i]? = some x
  hx : Loc X.env.scope x
  hf : X.fn x = true ∨ X.env.scope.names.lookup x = some .local
theorem pdg_one {i : Nat} {x : Str} (hN : X.N.Nodup) (hn : C.n = X.N.length) (s : StoreOk X i x) : PG X (.Name x pos) (upG C (.one i)) :=
  PG_imp (pg_name hN s.hi s.hx s.hf) fun v σ H Q ⟨r, x, Q', R, rp, q, k⟩ => by
    have hi' : i < C.n := by rw [hn]; exact (List.getElem?_eq_some_iff.mp s.hi).1
    refine k _ _ (R.set_d hi' rp) ⟨List.length_set, fun j hj => ?_⟩ (fun j hj => ?_) (fun j hj => ?_) (by rw [er_set]; exact q)
    · rw [List.getElem?_set_ne (fun z => hj (by simp [Tg.slots, z]))]
    · rw [List.getElem?_set_ne (fun z => hj (by simp [Tg.slots, z]))]
    · have e : j = i := by simpa [Tg.slots] using hj
      subst e
      exact ⟨x, List.getElem?_set_self (by rw [R.len]; exact hi')⟩
theorem set2_get {α : Type} {l : List (Option α)} {i j m : Nat} {x y : α} (hi : i < l.length) (hj : j < l.length) (hm : m = i ∨ m = j) : ∃ z, ((l.set i (some x)).set j (some y))[m]? = some (some z) ∧ (z = x ∨ z = y) := by
  by_cases e : m = j
  · subst e
    exact ⟨y, List.getElem?_set_self (by rw [List.length_set]; exact hj), .inr rfl⟩
  · rcases hm with rfl | h
    · exact ⟨x, by rw [List.getElem?_set_ne (Ne.symm e), List.getElem?_set_self hi], .inl rfl⟩
    · exact absurd h e
theorem PG_or {tg : Expr} {t u : TG} (h1 : PG X tg t) (h2 : PG X tg u) : PG X tg (fun v σ H Q => t v σ H Q ∨ u v σ H Q) := ⟨fun pins s σ H v w Q I r hw => hw.elim (fun z => h1.run pins s σ H v w Q I r z) fun z => h2.run pins s σ H v w Q I r z⟩
theorem bind2_get {i j : Nat} {x : PyData} {r : SEnv} {Q : SEnv → Prop} (h : bindT (.two i j) x r Q) : ∃ dx dy, (x = .tuple [dx, dy] ∨ x = .list [dx, dy]) ∧ Q ((r.set i (some (.d dx))).set j (some (.d dy))) := by
  unfold bindT at h
  split at h
  all_goals rename_i hq
  all_goals first | (cases hq; done) | skip
  · cases hq; exact ⟨_, _, .inl rfl, h⟩
  · cases hq; exact ⟨_, _, .inr rfl, h⟩
  · exact h.elim
theorem bind3_get {i j k : Nat} {x : PyData} {r : SEnv} {Q : SEnv → Prop} (h : bindT (.three i j k) x r Q) : ∃ dx dy dz, (x = .tuple [dx, dy, dz] ∨ x = .list [dx, dy, dz]) ∧ Q (((r.set i (some (.d dx))).set j (some (.d dy))).set k (some (.d dz))) := by
  unfold bindT at h
  split at h
  all_goals rename_i hq
  all_goals first | (cases hq; done) | skip
  · cases hq; exact ⟨_, _, _, .inl rfl, h⟩
  · cases hq; exact ⟨_, _, _, .inr rfl, h⟩
  · exact h.elim
theorem set_less {C : Cfg} {r : DEnv} {i : Nat} {x : PyData} : ∀ a, a ∈ C.O ++ oA (r.set i (some (.d x))) → a ∈ C.O ++ oA r := fun b hb => by
  rcases List.mem_append.mp hb with h | h
  · exact List.mem_append_left _ h
  · exact List.mem_append_right _ (oA_set_less (fun y e => by cases e; rfl) h)
/-- two slots set, one behind the other -/
theorem set2_all {σ : L2.St} {H : Hp} {r : DEnv} {i j : Nat} {v1 v2 : V} {dx dy : PyData} (R : RepE C σ H r) (hi : i < C.n) (hj : j < C.n) (r1 : Rp (hd H (C.O ++ oA r)) v1 dx) (r2 : Rp (hd H (C.O ++ oA r)) v2 dy) :
    RepE C ((σ.set i (some v1)).set j (some v2)) H ((r.set i (some (.d dx))).set j (some (.d dy))) ∧ Agree [i, j] σ ((σ.set i (some v1)).set j (some v2)) ∧ (∀ m, m ∉ [i, j] → ((r.set i (some (.d dx))).set j (some (.d dy)))[m]? = r[m]?) ∧ ∀ m ∈ [i, j], ∃ y, ((r.set i (some (.d dx))).set j (some (.d dy)))[m]? = some (some (.d y)) := by
  have R1 := R.set_d (i := i) hi r1
  have R2 := R1.set_d (i := j) hj (r2.up (hd_sub set_less))
  refine ⟨R2, ⟨by simp, fun m hm => ?_⟩, fun m hm => ?_, fun m hm => ?_⟩
  · rw [List.getElem?_set_ne (fun z => hm (by simp [z])), List.getElem?_set_ne (fun z => hm (by simp [z]))]
  · rw [List.getElem?_set_ne (fun z => hm (by simp [z])), List.getElem?_set_ne (fun z => hm (by simp [z]))]
  · have e : m = i ∨ m = j := by simpa using hm
    obtain ⟨z, h1, h2⟩ := set2_get (l := r) (x := DV.d dx) (y := DV.d dy) (by rw [R.len]; exact hi) (by rw [R.len]; exact hj) e
    rcases h2 with rfl | rfl
    · exact ⟨_, h1⟩
    · exact ⟨_, h1⟩
theorem pdg_two {i j : Nat} {x y : Str} (hN : X.N.Nodup) (hn : C.n = X.N.length) (hK : C.K = X.K) (hc : X.calm = true) (s : StoreOk X i x) (s2 : StoreOk X j y) : PG X (.Tuple [.Name x p1, .Name y p2] k pos) (upG C (.two i j)) :=
  have gs := pgs_cons (pg_name (pos := p1) hN s.hi s.hx s.hf) (pgs_cons (pg_name (pos := p2) hN s2.hi s2.hx s2.hf) pgs_nil)
  PG_imp (PG_or (pg_tup (n := 2) (pos := pos) (k := k) hc gs) (pg_unl (n := 2) (pos := pos) (k := k) hc gs)) fun v σ H Q ⟨r, x, Q', R, rp, q, k⟩ => by
    have hi' : i < C.n := by rw [hn]; exact (List.getElem?_eq_some_iff.mp s.hi).1
    have hj' : j < C.n := by rw [hn]; exact (List.getElem?_eq_some_iff.mp s2.hi).1
    obtain ⟨dx, dy, ex, q⟩ := bind2_get q
    rcases ex with rfl | rfl
    · obtain ⟨a, vs, rfl, h1, h2, h3⟩ := rp_tup rp
      obtain ⟨v1, v2, rfl, r1, r2⟩ := rpa2 h3
      obtain ⟨R2, g1, g2, g3⟩ := set2_all R hi' hj' r1 r2
      exact .inl ⟨a, [v1, v2], rfl, .inl (.inl (hd_some h1).2), rfl, v1, [v2], rfl, v2, [], rfl, rfl, k _ _ R2 g1 g2 g3 (by rw [er_set, er_set]; exact q)⟩
    · obtain ⟨a, vs, rfl, h1, h2, h3⟩ := rp_lst rp
      obtain ⟨v1, v2, rfl, r1, r2⟩ := rpa2 h3
      obtain ⟨R2, g1, g2, g3⟩ := set2_all R hi' hj' r1 r2
      exact .inr ⟨a, [v1, v2], rfl, .inl (DP.Rd.full h1), rfl, v1, [v2], rfl, v2, [], rfl, rfl, k _ _ R2 g1 g2 g3 (by rw [er_set, er_set]; exact q)⟩
theorem set3_get {α : Type} {l : List (Option α)} {i j k m : Nat} {x y z : α} (hi : i < l.length) (hj : j < l.length) (hk : k < l.length) (hm : m = i ∨ m = j ∨ m = k) : ∃ u, (((l.set i (some x)).set j (some y)).set k (some z))[m]? = some (some u) ∧ (u = x ∨ u = y ∨ u = z) := by
  by_cases e : m = k
  · subst e
    exact ⟨z, List.getElem?_set_self (by simpa using hk), .inr (.inr rfl)⟩
  · obtain ⟨u, h1, h2⟩ := set2_get (l := l) (x := x) (y := y) hi hj (hm.elim .inl fun h => h.elim .inr fun h => absurd h e)
    exact ⟨u, by rw [List.getElem?_set_ne (Ne.symm e)]; exact h1, h2.elim .inl fun h => .inr (.inl h)⟩
theorem rpa3 {H : Hp} {vs : List V} {d d' d'' : PyData} (h : RpA H vs [d, d', d'']) : ∃ v w u, vs = [v, w, u] ∧ Rp H v d ∧ Rp H w d' ∧ Rp H u d'' := by
  cases h with
  | cons a b =>
    obtain ⟨w, u, rfl, c, e⟩ := rpa2 b
    exact ⟨_, w, u, rfl, a, c, e⟩
theorem pdg_three {i j l : Nat} {x y z : Str} (hN : X.N.Nodup) (hn : C.n = X.N.length) (hK : C.K = X.K) (hc : X.calm = true) (s : StoreOk X i x) (s2 : StoreOk X j y) (s3 : StoreOk X l z) : PG X (.Tuple [.Name x p1, .Name y p2, .Name z p3] k pos) (upG C (.three i j l)) :=
  have gs := pgs_cons (pg_name (pos := p1) hN s.hi s.hx s.hf) (pgs_cons (pg_name (pos := p2) hN s2.hi s2.hx s2.hf) (pgs_cons (pg_name (pos := p3) hN s3.hi s3.hx s3.hf) pgs_nil))
  PG_imp (PG_or (pg_tup (n := 3) (pos := pos) (k := k) hc gs) (pg_unl (n := 3) (pos := pos) (k := k) hc gs)) fun v σ H Q ⟨r, x, Q', R, rp, q, k⟩ => by
    have hi' : i < C.n := by rw [hn]; exact (List.getElem?_eq_some_iff.mp s.hi).1
    have hj' : j < C.n := by rw [hn]; exact (List.getElem?_eq_some_iff.mp s2.hi).1
    have hl' : l < C.n := by rw [hn]; exact (List.getElem?_eq_some_iff.mp s3.hi).1
    obtain ⟨dx, dy, dz, ex, q⟩ := bind3_get q
    have main : ∀ {v1 v2 v3 : V}, Rp (hd H (C.O ++ oA r)) v1 dx → Rp (hd H (C.O ++ oA r)) v2 dy → Rp (hd H (C.O ++ oA r)) v3 dz → Q (((σ.set i (some v1)).set j (some v2)).set l (some v3)) H := fun {v1 v2 v3} r1 r2 r3 => by
      obtain ⟨R2, g1, g2, g3⟩ := set2_all R hi' hj' r1 r2
      have R3 := R2.set_d (i := l) hl' (r3.up (hd_sub fun a ha => set_less a (set_less a ha)))
      refine k _ _ R3 ⟨by simp, fun m hm => ?_⟩ (fun m hm => ?_) (fun m hm => ?_) (by rw [er_set, er_set, er_set]; exact q)
      · rw [List.getElem?_set_ne (fun z => hm (by simp [Tg.slots, z])), List.getElem?_set_ne (fun z => hm (by simp [Tg.slots, z])), List.getElem?_set_ne (fun z => hm (by simp [Tg.slots, z]))]
      · rw [List.getElem?_set_ne (fun z => hm (by simp [Tg.slots, z])), List.getElem?_set_ne (fun z => hm (by simp [Tg.slots, z])), List.getElem?_set_ne (fun z => hm (by simp [Tg.slots, z]))]
      · have e : m = i ∨ m = j ∨ m = l := by simpa [Tg.slots] using hm
        obtain ⟨u, h1, h2⟩ := set3_get (l := r) (x := DV.d dx) (y := DV.d dy) (z := DV.d dz) (by rw [R.len]; exact hi') (by rw [R.len]; exact hj') (by rw [R.len]; exact hl') e
        rcases h2 with rfl | rfl | rfl
        · exact ⟨_, h1⟩
        · exact ⟨_, h1⟩
        · exact ⟨_, h1⟩
    rcases ex with rfl | rfl
    · obtain ⟨a, vs, rfl, h1, h2, h3⟩ := rp_tup rp
      obtain ⟨v1, v2, v3, rfl, r1, r2, r3⟩ := rpa3 h3
      exact .inl ⟨a, [v1, v2, v3], rfl, .inl (.inl (hd_some h1).2), rfl, v1, [v2, v3], rfl, v2, [v3], rfl, v3, [], rfl, rfl, main r1 r2 r3⟩
    · obtain ⟨a, vs, rfl, h1, h2, h3⟩ := rp_lst rp
      obtain ⟨v1, v2, v3, rfl, r1, r2, r3⟩ := rpa3 h3
      exact .inr ⟨a, [v1, v2, v3], rfl, .inl (DP.Rd.full h1), rfl, v1, [v2, v3], rfl, v2, [v3], rfl, v3, [], rfl, rfl, main r1 r2 r3⟩
end
/-! ### for -/
def forGo (tg : Tg) (body : TSD) (D : EndsD) : List PyData → SEnv → Prop
  | [], r => D.nx r
  | x :: xs, r => bindT tg x r fun r1 => body { D with nx := forGo tg body D xs, ct := forGo tg body D xs, bk := D.nx } r1
def sFor (tg : Tg) (it : TID) (body : TSD) : TSD := fun D r => it r fun xs => forGo tg body D xs r
theorem psd_for {X : Cx} {C : Cfg} {E : Str → Prop} {tgE iter : Expr} {body : List Stmt} {pos : Pos} {tg : Tg} {it : TID} {tb : TSD} (tk : Takes X (wOf X.mg C E)) (hp : PassesOwn (model X.prog X.w) X.A X.env X.xe) (hc : X.calm = true)
    (hi : PDI X C tgE iter it) (hg : ∀ C2 : Cfg, C2.n = C.n → C2.K = C.K → PG X tgE (upG C2 tg)) (hb : ∀ C2 : Cfg, C2.n = C.n → C2.K = C.K → C2.S = C.S → Takes X (wOf X.mg C2 E) → PSDs X C2 body tb) (hs : ∀ x, foldedSetIterable iter X.env x = pure x) :
    PSD X C (.For tgE iter body [] pos) (sFor tg it tb) := by
  have pg : PG X tgE (fun v σ H Q => ∃ C2 : Cfg, (C2.n = C.n ∧ C2.K = C.K) ∧ upG C2 tg v σ H Q) := ⟨fun pins s σ H v w Q I r ⟨C2, ⟨h1, h2⟩, hw⟩ => (hg C2 h1 h2).run pins s σ H v w Q I r hw⟩
  have pb : PSs X body (fun D σ H => ∃ C2 : Cfg, (C2.n = C.n ∧ C2.K = C.K ∧ C2.S = C.S ∧ Takes X (wOf X.mg C2 E)) ∧ upS C2 tb D σ H) := ⟨fun pins s σ H D I ⟨C2, ⟨h1, h2, h4, h3⟩, hw⟩ => (hb C2 h1 h2 h4 h3).run pins s σ H D I hw⟩
  refine PS_imp (ps_for hp hc hi pg pb hs) fun D σ H ⟨r, D', R, q, k1, k2, k3, k4⟩ => ⟨r, fun xs => forGo tg tb D' xs (er r), R, q, fun J H1 xs g hl J0 qx => ?_⟩
  have R1 := R.grow g
  have tk2 : Takes X (wOf X.mg (C.at H1 r) E) := tk.imp fun c d σ H h => wOf.at R1 h
  refine ⟨fun i m σ' H' => ∃ r', RepE (C.at H1 r) σ' H' r' ∧ forGo tg tb D' (xs.drop i) (er r') ∧ m = xs.length - i ∧ i ≤ xs.length, ⟨xs.length, r, R1.toAt, by simpa using qx, by simp, Nat.zero_le _⟩, ?_⟩
  rintro i m σ3 H3 ⟨r3, R3, q3, rfl, hil⟩
  have sm := R1.later R3
  by_cases hlt : i < xs.length
  · have ex : xs[i]? = some xs[i] := by simp [hlt]
    obtain ⟨jg, jy⟩ := J0.go i xs[i] H3 (C.O ++ oA r3) sm R3.domA ex
    rw [List.drop_eq_getElem_cons hlt] at q3
    refine .inr ⟨jg, fun σ' H' => ∃ r', RepE (C.at H1 r) σ' H' r' ∧ forGo tg tb D' (xs.drop (i + 1)) (er r'), fun σ' H' ⟨r', a, b⟩ => ⟨xs.length - (i + 1), by omega, r', a, b, rfl, hlt⟩, fun x H' y => ?_⟩
    obtain ⟨s1, rp⟩ := jy x H' y
    refine ⟨C.at H1 r, ⟨rfl, rfl⟩, r3, xs[i], _, R3.grow (Gr.of_same R3 s1), rp, q3, fun σ4 r4 R4 _ _ _ q4 => ?_⟩
    refine ⟨C.at H1 r, ⟨rfl, rfl, rfl, tk2⟩, r4, _, R4, q4, fun σ' H' r' R' q' => ⟨r', R', q'⟩, fun v H' rv o rt qq => k2 v H' rv (o.ofAt R1) (rt.ofAt R1) qq, fun σ' H' r' R' q' => k1 _ _ _ (R1.ofAt R') q', fun σ' H' r' R' q' => ⟨r', R', q'⟩⟩
  · have e : i = xs.length := by omega
    subst e
    refine .inl ⟨J0.stop H3 _ sm, k1 _ _ _ (R1.ofAt R3) ?_⟩
    rw [List.drop_length] at q3
    exact q3
/-! ### while -/
def whileN (c : TTD) (body : TSD) (D : EndsD) : Nat → SEnv → Prop
  | 0, _ => False
  | n + 1, r => c r fun b => if b = true then body { D with nx := whileN c body D n, ct := whileN c body D n, bk := D.nx } r else D.nx r
def sWhile (c : TTD) (body : TSD) : TSD := fun D r => ∃ n, whileN c body D n r
theorem psd_while {X : Cx} {C : Cfg} {c : Expr} {body : List Stmt} {pos : Pos} {tc : TTD} {tb : TSD} (hp : PassesOwn (model X.prog X.w) X.A X.env X.xe) (hc : PDT X C c tc) (hb : PSDs X C body tb) : PSD X C (.While c body [] pos) (sWhile tc tb) := by
  refine PS_imp (ps_while hp hc hb) fun D σ H ⟨r, D', R, ⟨n, q⟩, k1, k2, k3, k4⟩ => ?_
  refine ⟨fun m σ' H' => ∃ r', RepE C σ' H' r' ∧ whileN tc tb D' m (er r'), ⟨n, r, R, q⟩, ?_⟩
  rintro m σ1 H1 ⟨r1, R1, q1⟩
  cases m with
  | zero => exact (show False from q1).elim
  | succ m =>
    refine ⟨r1, _, R1, q1, fun b H2 g q2 => ?_⟩
    have R2 := R1.grow g
    cases b with
    | true =>
      rw [if_pos rfl] at q2
      refine iteT ?_
      exact ⟨fun σ' H' => ∃ r', RepE C σ' H' r' ∧ whileN tc tb D' m (er r'), fun σ' H' h => ⟨m, Nat.lt_succ_self m, h⟩, r1, _, R2, q2, fun σ' H' r' R' q' => ⟨r', R', q'⟩, k2, fun σ' H' r' R' q' => k1 _ _ _ R' q', fun σ' H' r' R' q' => ⟨r', R', q'⟩⟩
    | false =>
      rw [if_neg Bool.false_ne_true] at q2
      exact iteF (k1 _ _ _ R2 q2)
end DP

end
section
set_option Elab.async false
set_option linter.all false
set_option maxRecDepth 100000
set_option autoImplicit false
set_option maxHeartbeats 4000000
namespace DP
open PySem PySem.Spec PyProof.Rows L2
/-! ### list comprehensions -/
def wipeG {α : Type} (r : List (Option α)) : List Nat → List (Option α)
  | [] => r
  | v :: vs => (wipeG r vs).set v none
theorem wipe_eq (σ : L2.St) : ∀ ws : List Nat, wipe σ ws = wipeG σ ws
  | [] => rfl
  | v :: vs => by unfold wipe wipeG; rw [wipe_eq σ vs]
theorem wipeG_len {α : Type} (r : List (Option α)) : ∀ ws : List Nat, (wipeG r ws).length = r.length
  | [] => rfl
  | v :: vs => by unfold wipeG; rw [List.length_set, wipeG_len r vs]
theorem wipeG_out {α : Type} {r : List (Option α)} {j : Nat} : ∀ {ws : List Nat}, j ∉ ws → (wipeG r ws)[j]? = r[j]?
  | [], _ => rfl
  | v :: vs, h => by
    unfold wipeG
    rw [List.getElem?_set_ne (fun z => h (by simp [z])), wipeG_out fun z => h (List.mem_cons_of_mem _ z)]
theorem wipeG_in {α : Type} {r : List (Option α)} {j : Nat} {x : α} : ∀ {ws : List Nat}, j ∈ ws → (wipeG r ws)[j]? ≠ some (some x)
  | [], h => by simp at h
  | v :: vs, h => by
    unfold wipeG
    by_cases e : j = v
    · subst e
      by_cases hl : j < (wipeG r vs).length
      · rw [List.getElem?_set_self hl]; simp
      · rw [List.getElem?_eq_none (by rw [List.length_set]; omega)]; simp
    · rw [List.getElem?_set_ne (Ne.symm e)]
      have h' : j ∈ vs := by
        rcases List.mem_cons.mp h with z | z
        · exact absurd z e
        · exact z
      exact wipeG_in h'
theorem wipeG_some {α : Type} {r : List (Option α)} {j : Nat} {x : α} {ws : List Nat} (h : (wipeG r ws)[j]? = some (some x)) : r[j]? = some (some x) ∧ j ∉ ws := by
  by_cases e : j ∈ ws
  · exact absurd h (wipeG_in e)
  · rw [wipeG_out e] at h
    exact ⟨h, e⟩
theorem wipe_agree {σ σ' : L2.St} {is ws : List Nat} (h : Agree is (wipe σ ws) σ') (sub : ∀ i ∈ is, i ∈ ws) : wipe σ' ws = wipe σ ws := by
  rw [wipe_eq, wipe_eq]
  have l : (wipeG σ' ws).length = (wipeG σ ws).length := by
    rw [wipeG_len, wipeG_len, h.1, wipe_length]
  refine List.ext_getElem? fun j => ?_
  by_cases e : j ∈ ws
  · cases q : (wipeG σ' ws)[j]? with
    | none =>
      have := List.getElem?_eq_none_iff.mp q
      rw [List.getElem?_eq_none (by omega)]
    | some a =>
      cases a with
      | some v => exact absurd q (wipeG_in e)
      | none =>
        cases q2 : (wipeG σ ws)[j]? with
        | none =>
          have h1 := List.getElem?_eq_none_iff.mp q2
          have h2 := (List.getElem?_eq_some_iff.mp q).1
          omega
        | some b =>
          cases b with
          | none => rfl
          | some v => exact absurd q2 (wipeG_in e)
  · rw [wipeG_out e, wipeG_out e, h.2 j fun z => e (sub j z), wipe_eq, wipeG_out e]
theorem er_wipe (r : DEnv) : ∀ ws : List Nat, er (wipeG r ws) = wipeG (er r) ws
  | [] => rfl
  | v :: vs => by unfold wipeG; rw [er_set, er_wipe r vs]; rfl
/-- no slot of these holds what may change -/
def noM (ws : List Nat) (r : SEnv) : Bool := ws.all fun i => match r[i]? with
  | some (some (.m _)) => false
  | _ => true
theorem noM_get {ws : List Nat} {r : DEnv} (h : noM ws (er r) = true) {i : Nat} {a : Addr} {o : MO} (e : r[i]? = some (some (.m a o))) : i ∉ ws := fun z => by
  have q := List.all_eq_true.mp h i z
  rw [er_get, e] at q
  cases q
def lcGo (tg : Tg) (tt : TTD) (te : TD) (r : SEnv) (Q : List PyData → Prop) : List PyData → List PyData → Prop
  | [], acc => Q acc
  | x :: xs, acc => bindT tg x r fun r1 => tt r1 fun b => if b = true then te r1 fun y => lcGo tg tt te r Q xs (acc ++ [y]) else lcGo tg tt te r Q xs acc
def fLc (tg : Tg) (it : TID) (tt : TTD) (te : TD) (ws : List Nat) : TAD := fun r Q => it r fun xs => noM ws r = true ∧ lcGo tg tt te (wipeG r ws) Q xs []
section
variable {C : Cfg} {σ : L2.St} {H H' : Hp} {r : DEnv}
theorem RepE.wiped (R : RepE C σ H r) (ws : List Nat) : RepE C (wipe σ ws) H (wipeG r ws) := by
  refine R.weak (by rw [wipe_length]; exact R.lenS) (by rw [wipeG_len]; exact R.len) (fun j y e => (wipeG_some e).1) fun j y w e q => ?_
  rw [wipe_eq, wipeG_out (wipeG_some e).2]
  exact q
/-- a new object, not to be named by data -/
def Cfg.add (C : Cfg) (D : Addr) : Cfg := { C with O := D :: C.O }
theorem RepE.addO (R : RepE C σ H r) {D : Addr} {u : HO} (n : H D = none) : RepE (C.add D) σ (upd H D u) r := by
  have sm : Same H (upd H D u) := same_new n
  have ne : ∀ a, H a ≠ none → a ≠ D := fun a h z => h (z ▸ n)
  refine ⟨R.lenS, R.len, fun i x e => ?_, fun i a o e nn => ?_, fun a ha => ?_, fun a o hn e => sm _ _ (R.ext a o hn e), R.ownf, fun i a e => ?_, fun s hs => (R.sto s hs).mono sm, fun s hs => ⟨List.mem_cons_of_mem _ (R.szo s hs).1, (R.szo s hs).2⟩⟩
  · obtain ⟨v, h1, h2⟩ := R.slot i x e
    refine ⟨v, h1, ?_⟩
    cases x with
    | d y => exact Rp.up h2 (new_in n)
    | m a o => exact ⟨h2.1, h2.2.keep (fun u q => sm _ _ q) (new_in n)⟩
    | scr a ns => exact ⟨h2.1, h2.2.keep fun o u q => sm _ _ q⟩
  · obtain ⟨h1, h2⟩ := R.sep i a o e nn
    obtain ⟨v, _, _, hm⟩ := R.slot i _ e
    refine ⟨fun z => ?_, h2⟩
    rcases List.mem_cons.mp z with z | z
    · exact ne a hm.ne z
    · exact h1 z
  · rcases List.mem_cons.mp ha with rfl | h
    · rw [upd_same]; simp
    · intro z
      cases q : H a with
      | none => exact R.dom a h q
      | some o => rw [sm _ _ q] at z; cases z
  · rcases R.stf i a e with h | ⟨h1, h2⟩
    · exact .inl h
    · obtain ⟨v, _, _, hm⟩ := R.slot i _ e
      refine .inr ⟨h1, fun z => ?_⟩
      rcases List.mem_cons.mp z with z | z
      · exact ne a hm.ne z
      · exact h2 z
/-- .. it is changed -/
theorem RepE.updO {D : Addr} {u : HO} {vs : List V} (R : RepE (C.add D) σ H r) (h0 : C.H_0 D = none) (e0 : H D = some (.lst vs)) (nS : ∀ k, (D, k) ∉ C.S) (nA : D ∉ oA r) : RepE (C.add D) σ (upd H D u) r := by
  have nx : ∀ φ, HO.lst vs ≠ .ext φ := fun φ z => by cases z
  have inO : D ∈ (C.add D).O ++ oA r := List.mem_append_left _ List.mem_cons_self
  have sm : Same (hd H ((C.add D).O ++ oA r)) (hd (upd H D u) ((C.add D).O ++ oA r)) := fun b w q => by
    obtain ⟨e1, e2⟩ := hd_some q
    have e3 : b ≠ D := fun z => e1 (z ▸ inO)
    rw [hd_out e1, upd_ne e3]
    exact e2
  refine ⟨R.lenS, R.len, fun i x e => ?_, R.sep, fun a ha => ?_, fun a o hn e => ?_, R.ownf, R.stf, fun s hs => ?_, R.szo⟩
  · obtain ⟨v, h1, h2⟩ := R.slot i x e
    refine ⟨v, h1, ?_⟩
    cases x with
    | d y => exact Rp.up h2 sm
    | m a o =>
      have hne : a ≠ D := fun z => nA (z ▸ mem_oA.mpr ⟨i, o, e⟩)
      exact ⟨h2.1, h2.2.keep (fun w q => by rw [upd_ne hne]; exact q) sm⟩
    | scr a ns =>
      refine ⟨h2.1, h2.2.keep fun o w q => ?_⟩
      rw [upd_ne]
      · exact q
      · rintro rfl
        rw [e0] at q
        cases q
  · by_cases z : a = D
    · subst z
      rw [upd_same]; simp
    · rw [upd_ne z]
      exact R.dom a ha
  · have q := R.ext a o hn e
    rw [upd_ne]
    · exact q
    · rintro rfl
      have e' : C.H_0 a = some o := e
      rw [h0] at e'
      cases e'
  · exact (R.sto s hs).upd e0 (fun c q z => by unfold LamX.CodeO at z; exact nx _ z) fun z => nS s.2 (by rw [← z]; exact hs)
end
abbrev BlkAll (X : Cx) (scope : Scope) (P : Cx → Prop) : Prop := ∀ (s : Shared) (H : Hp) (Ca : Addr) (cl : List (Str × Addr)) (fp : List Addr), P (X.blk s H scope (compEnvC scope cl Ca X.env) fp)
def gEx (C : Cfg) (tg : Tg) : TG := fun v σ H Q => ∃ C2 : Cfg, (C2.n = C.n ∧ C2.K = C.K) ∧ upG C2 tg v σ H Q
def tEx (C : Cfg) (tt : TTD) : TT := fun σ H Q => ∃ C2 : Cfg, (C2.n = C.n ∧ C2.K = C.K) ∧ upT C2 tt σ H Q
def eEx (C : Cfg) (te : TD) : TE := fun σ H Q => ∃ C2 : Cfg, (C2.n = C.n ∧ C2.K = C.K) ∧ up C2 te σ H Q
theorem lc_read {C : Cfg} {tg : Tg} {it : TID} {tt : TTD} {te : TD} {ws : List Nat} (sub : ∀ i ∈ tg.slots, i ∈ ws) {σ : L2.St} {H : Hp} {Q : VK} (h : upF C (fLc tg it tt te ws) σ H Q) : tLc (upI C it) (gEx C tg) (tEx C tt) (eEx C te) ws σ H Q := by
  obtain ⟨r, Q', R, q, k⟩ := h
  refine ⟨r, _, R, q, fun J H1 xs g hl J0 ⟨nm, qx⟩ D nD => ?_⟩
  have R1 := R.grow g
  have nH : H D = none := Gr.none R g nD
  have h0 : C.H_0 D = none := R1.h0 nD
  have frD := R1.fresh nD
  have nS : ∀ k, (D, k) ∉ C.S := fun k z => (R1.sto _ z).ne nD
  -- the slots without the block's own
  have inr : ∀ (i : Nat) (a : Addr) (o : MO), r[i]? = some (some (.m a o)) → (wipeG r ws)[i]? = some (some (.m a o)) := fun i a o e => by
    rw [wipeG_out (noM_get nm e)]
    exact e
  have oAw : ∀ a, a ∈ oA r ↔ a ∈ oA (wipeG r ws) := fun a => by
    constructor
    · intro h
      obtain ⟨i, o, e⟩ := mem_oA.mp h
      exact mem_oA.mpr ⟨i, o, inr i a o e⟩
    · intro h
      obtain ⟨i, o, e⟩ := mem_oA.mp h
      exact mem_oA.mpr ⟨i, o, (wipeG_some e).1⟩
  have shw : ∀ s, s ∈ sh C r ↔ s ∈ sh (C.add D) (wipeG r ws) := fun s => by
    constructor
    · intro h
      rcases List.mem_append.mp h with h | h
      · exact List.mem_append_left _ h
      · obtain ⟨e, i, q⟩ := mem_sA.mp h
        exact List.mem_append_right _ (mem_sA.mpr ⟨e, i, inr _ _ _ q⟩)
    · intro h
      rcases List.mem_append.mp h with h | h
      · exact List.mem_append_left _ h
      · obtain ⟨e, i, q⟩ := mem_sA.mp h
        exact List.mem_append_right _ (mem_sA.mpr ⟨e, i, (wipeG_some q).1⟩)
  have RD := (R1.wiped ws).addO (u := .lst []) nD
  have qx' : lcGo tg tt te (er (wipeG r ws)) Q' xs [] := by rw [er_wipe]; exact qx
  refine ⟨fun i m H3 => ∃ acc accd, m = xs.length - i ∧ i ≤ xs.length ∧ H3 D = some (.lst acc) ∧ acc.length ≤ i ∧ RpA (hd H3 (D :: (C.O ++ oA r))) acc accd ∧ RepE (C.add D) (wipe σ ws) H3 (wipeG r ws) ∧
    (∀ a o, (∀ k, (a, k) ∉ sh C r) → H1 a = some o → H3 a = some o) ∧ Same (hd H1 (C.O ++ oA r)) (hd H3 (D :: (C.O ++ oA r))) ∧ lcGo tg tt te (er (wipeG r ws)) Q' (xs.drop i) accd,
    ⟨xs.length, [], [], by simp, Nat.zero_le _, upd_same, Nat.le_refl _, .nil, RD, fun a o _ e => same_new nD _ _ e, new_in nD, by simpa using qx'⟩, ?_⟩
  rintro i m H3 ⟨acc, accd, rfl, hil, eD, al, ra, R3, gk, sm, q3⟩
  -- addresses that data of the block don't name
  have memO : ∀ {r2 : DEnv}, (∀ a, a ∈ oA r2 ↔ a ∈ oA r) → ∀ a, a ∈ (C.add D).O ++ oA r2 ↔ a ∈ D :: (C.O ++ oA r) := fun {r2} h a => by
    show a ∈ (D :: C.O) ++ oA r2 ↔ _
    rw [List.cons_append, List.mem_cons, List.mem_cons, List.mem_append, List.mem_append, h a]
  by_cases hlt : i < xs.length
  · have ex : xs[i]? = some xs[i] := by simp [hlt]
    obtain ⟨jg, jy⟩ := J0.go i xs[i] H3 (D :: (C.O ++ oA r)) sm (fun a ha => R3.domA a ((memO (fun a => (oAw a).symm) a).mpr ha)) ex
    rw [List.drop_eq_getElem_cons hlt] at q3
    refine .inr ⟨jg, fun H' => ∃ acc accd, H' D = some (.lst acc) ∧ acc.length ≤ i + 1 ∧ RpA (hd H' (D :: (C.O ++ oA r))) acc accd ∧ RepE (C.add D) (wipe σ ws) H' (wipeG r ws) ∧
      (∀ a o, (∀ k, (a, k) ∉ sh C r) → H1 a = some o → H' a = some o) ∧ Same (hd H1 (C.O ++ oA r)) (hd H' (D :: (C.O ++ oA r))) ∧ lcGo tg tt te (er (wipeG r ws)) Q' (xs.drop (i + 1)) accd,
      fun H' ⟨acc, accd, h1, h2, h3, h4, h5, h6, h7⟩ => ⟨xs.length - (i + 1), by omega, acc, accd, rfl, hlt, h1, h2, h3, h4, h5, h6, h7⟩, fun x H4 y => ?_⟩
    obtain ⟨s1, rp⟩ := jy x H4 y
    have R4 := R3.grow (Gr.of_same R3 s1)
    refine ⟨C.add D, ⟨rfl, rfl⟩, wipeG r ws, xs[i], _, R4, rp.up (hd_sub fun a ha => (memO (fun a => (oAw a).symm) a).mp ha), q3, fun σ5 r5 R5 ag e5 d5 q5 => ⟨wipe_agree ag sub, ?_⟩⟩
    -- the slots of the turn
    have in5 : ∀ (j : Nat) (a : Addr) (o : MO), r5[j]? = some (some (.m a o)) ↔ r[j]? = some (some (.m a o)) := fun j a o => by
      by_cases hj : j ∈ tg.slots
      · obtain ⟨z, hz⟩ := d5 j hj
        constructor
        · intro h; rw [hz] at h; cases h
        · intro h; exact absurd (sub j hj) (noM_get nm h)
      · rw [e5 j hj]
        constructor
        · intro h; exact (wipeG_some h).1
        · intro h; exact inr j a o h
    have oA5 : ∀ a, a ∈ oA r5 ↔ a ∈ oA r := fun a => by
      constructor
      · intro h
        obtain ⟨j, o, e⟩ := mem_oA.mp h
        exact mem_oA.mpr ⟨j, o, (in5 j a o).mp e⟩
      · intro h
        obtain ⟨j, o, e⟩ := mem_oA.mp h
        exact mem_oA.mpr ⟨j, o, (in5 j a o).mpr e⟩
    have sh5 : ∀ s, s ∈ sh C r ↔ s ∈ sh (C.add D) r5 := fun s => by
      constructor
      · intro h
        rcases List.mem_append.mp h with h | h
        · exact List.mem_append_left _ h
        · obtain ⟨e, j, q⟩ := mem_sA.mp h
          exact List.mem_append_right _ (mem_sA.mpr ⟨e, j, (in5 _ _ _).mpr q⟩)
      · intro h
        rcases List.mem_append.mp h with h | h
        · exact List.mem_append_left _ h
        · obtain ⟨e, j, q⟩ := mem_sA.mp h
          exact List.mem_append_right _ (mem_sA.mpr ⟨e, j, (in5 _ _ _).mp q⟩)
    have nD5 : ∀ k, (D, k) ∉ sh (C.add D) r5 := fun k z => frD (R1.shO ((sh5 _).mpr z))
    have nA : D ∉ oA (wipeG r ws) := fun z => frD (List.mem_append_right _ ((oAw D).mpr z))
    -- what stands at any time of the turn
    have step : ∀ {H5 H6 : Hp}, Gr (C.add D) r5 H5 H6 → RepE (C.add D) σ5 H5 r5 → Same (hd H5 (D :: (C.O ++ oA r))) (hd H6 (D :: (C.O ++ oA r))) := fun {H5 H6} g6 R5 b o e => by
      obtain ⟨e1, e2⟩ := hd_some e
      rw [hd_out e1]
      exact g6.1 b o (fun k z => e1 ((memO oA5 b).mp (R5.shO z))) e2
    have back : ∀ {H5 : Hp}, RepE (C.add D) σ5 H5 r5 → RepE (C.add D) (wipe σ ws) H5 (wipeG r ws) := fun {H5} R6 => by
      refine R6.weak (by rw [wipe_length]; exact R.lenS) (by rw [wipeG_len]; exact R.len) (fun j y e => ?_) fun j y w e q => ?_
      · by_cases hj : j ∈ tg.slots
        · exact absurd (sub j hj) (wipeG_some e).2
        · rw [e5 j hj]; exact e
      · have hj : j ∉ tg.slots := fun z => (wipeG_some e).2 (sub j z)
        rw [← ag.2 j hj]
        exact q
    have s14 : Same (hd H3 (D :: (C.O ++ oA r))) (hd H4 (D :: (C.O ++ oA r))) := same_hd s1
    refine ⟨C.add D, ⟨rfl, rfl⟩, r5, _, R5, q5, fun b H6 g6 q6 => ?_⟩
    have R6 := R5.grow g6
    have d6 : H6 D = some (.lst acc) := g6.1 D _ nD5 (s1 _ _ eD)
    cases b with
    | false =>
      rw [if_neg Bool.false_ne_true] at q6
      refine iteF ⟨acc, accd, d6, by omega, (ra.up s14).up (step g6 R5), back R6, fun a o hn e => g6.1 a o (fun k z => hn k ((sh5 _).mpr z)) (s1 _ _ (gk a o hn e)), fun a o e => step g6 R5 a o (s14 a o (sm a o e)), q6⟩
    | true =>
      rw [if_pos rfl] at q6
      refine iteT ⟨C.add D, ⟨rfl, rfl⟩, r5, _, R6, q6, fun y H7 dy g7 rp7 q7 => ?_⟩
      have R7 := R6.grow g7
      have d7 : H7 D = some (.lst acc) := g7.1 D _ nD5 d6
      have keepD : ∀ {b : Addr} {o : HO}, hd H7 (D :: (C.O ++ oA r)) b = some o → hd (upd H7 D (.lst (acc ++ [y]))) (D :: (C.O ++ oA r)) b = some o := fun {b o} e => by
        obtain ⟨e1, e2⟩ := hd_some e
        have hne : b ≠ D := fun z => e1 (by rw [z]; exact List.mem_cons_self)
        rw [hd_out e1, upd_ne hne]
        exact e2
      refine ⟨acc, d7, by rw [sizeLine_eq] at hl ⊢; omega, acc ++ [y], accd ++ [dy], upd_same, by rw [List.length_append]; simp; omega, ?_, (back R7).updO h0 d7 nS nA, fun a o hn e => ?_, fun a o e => ?_, q7⟩
      · refine RpA.up (RpA.append (((ra.up s14).up (step g6 R5)).up (step g7 R6)) (.cons (rp7.up (hd_sub fun a ha => (memO oA5 a).mpr ha)) .nil)) fun b o e => keepD e
      · have e7 := g7.1 a o (fun k z => hn k ((sh5 _).mpr z)) (g6.1 a o (fun k z => hn k ((sh5 _).mpr z)) (s1 _ _ (gk a o hn e)))
        have hne : a ≠ D := ne_of_none e nD
        rw [upd_ne hne]
        exact e7
      · exact keepD (step g7 R6 a o (step g6 R5 a o (s14 a o (sm a o e))))
  · have e : i = xs.length := by omega
    subst e
    rw [List.drop_length] at q3
    refine .inl ⟨J0.stop H3 _ sm, k D H3 acc accd ⟨fun a o hn e => gk a o hn (g.1 a o hn e), fun s hs => R3.shI s ((shw s).mp hs)⟩ nH eD (by omega) ra q3⟩
section
variable {X : Cx} {C : Cfg} {elt tgE iter : Expr} {ifs : List Expr} {scope : Scope} {own : List (Str × Nat)} {pos : Pos} {tg : Tg} {it : TID} {tt : TTD} {te : TD}
structure LcOk (X : Cx) (C : Cfg) (elt tgE iter : Expr) (ifs : List Expr) (scope : Scope) (own : List (Str × Nat)) (tg : Tg) (it : TID) (tt : TTD) (te : TD) : Prop where
  hc : X.calm = true
  hN : X.N.Nodup
  sub : ∀ i ∈ tg.slots, i ∈ own.map (·.2)
  hi : PDI X C tgE iter it
  ok : BlkOk X.N X.env.scope scope own
  hg : BlkAll X scope fun B => ∀ C2 : Cfg, C2.n = C.n → C2.K = C.K → PG B tgE (upG C2 tg)
  ht : BlkAll X scope fun B => ∀ C2 : Cfg, C2.n = C.n → C2.K = C.K → PTs B ifs (upT C2 tt)
  he : BlkAll X scope fun B => ∀ C2 : Cfg, C2.n = C.n → C2.K = C.K → PE B elt (up C2 te)
  hs : ∀ x, foldedSetIterable iter X.env x = pure x
theorem LcOk.g (h : LcOk X C elt tgE iter ifs scope own tg it tt te) : BlkAll X scope fun B => PG B tgE (gEx C tg) := fun s H Ca cl fp => ⟨fun pins s' σ H' v w Q I r ⟨C2, ⟨h1, h2⟩, hw⟩ => (h.hg s H Ca cl fp C2 h1 h2).run pins s' σ H' v w Q I r hw⟩
theorem LcOk.t (h : LcOk X C elt tgE iter ifs scope own tg it tt te) : BlkAll X scope fun B => PTs B ifs (tEx C tt) := fun s H Ca cl fp => ⟨fun pins s' σ H' Q I ⟨C2, ⟨h1, h2⟩, hw⟩ => (h.ht s H Ca cl fp C2 h1 h2).run pins s' σ H' Q I hw⟩
theorem LcOk.e (h : LcOk X C elt tgE iter ifs scope own tg it tt te) : BlkAll X scope fun B => PE B elt (eEx C te) := fun s H Ca cl fp => ⟨fun pins s' σ H' Q I ⟨C2, ⟨h1, h2⟩, hw⟩ => (h.he s H Ca cl fp C2 h1 h2).run pins s' σ H' Q I hw⟩
theorem pf_lc (h : LcOk X C elt tgE iter ifs scope own tg it tt te) : PF X C (.ListComp elt [⟨tgE, iter, ifs, 0⟩] scope pos) (fLc tg it tt te (own.map (·.2))) :=
  PE_imp (pe_lc h.hc h.hN h.hi h.ok h.g h.t h.e h.hs) fun σ H Q w => lc_read h.sub w
/-- y = [.. for ..] -/
theorem psd_setLcF (i : Nat) {y : Str} {py spos : Pos} (hn : C.n = X.N.length) (h : LcOk X C elt tgE iter ifs scope own tg it tt te) (hy : X.N[i]? = some y) (hyl : X.env.scope.names.lookup y = some .local)
    (hsw : swapsWith (.ListComp elt [⟨tgE, iter, ifs, 0⟩] scope pos) (some (.Name y py)) spos.line X.env = pure true) : PSD X C (.Assign [.Name y py] (.ListComp elt [⟨tgE, iter, ifs, 0⟩] scope pos) spos) (sSetF i (fLc tg it tt te (own.map (·.2)))) :=
  PS_imp (ps_setLc h.hc h.hN hy hyl hsw h.hi h.ok h.g h.t h.e h.hs) fun D σ H ⟨r, D', R, q, k⟩ => lc_read h.sub ⟨r, _, R, q, fun a H' vs xs g na ea l rp qx => k.1 _ H' _ (R.new g (o := .lst xs) (by rw [hn]; exact (List.getElem?_eq_some_iff.mp hy).1) na ⟨vs, ea, l, rp⟩) (by rw [er_set]; exact qx)⟩
theorem psd_setLc (i : Nat) {y : Str} {py spos : Pos} (hn : C.n = X.N.length) (h : LcOk X C elt tgE iter ifs scope own tg it tt te) (hy : X.N[i]? = some y) (hyl : X.env.scope.names.lookup y = some .local)
    (hsw : swapsWith (.ListComp elt [⟨tgE, iter, ifs, 0⟩] scope pos) (some (.Name y py)) spos.line X.env = pure true) : PSD X C (.Assign [.Name y py] (.ListComp elt [⟨tgE, iter, ifs, 0⟩] scope pos) spos) (sSet i (dLst (fLc tg it tt te (own.map (·.2))))) :=
  PS_imp (ps_setLc h.hc h.hN hy hyl hsw h.hi h.ok h.g h.t h.e h.hs) fun D σ H ⟨r, D', R, q, k⟩ => lc_read h.sub ⟨r, _, R, q, fun a H' vs xs g na ea l rp qx => set_d_nx R g (by rw [hn]; exact (List.getElem?_eq_some_iff.mp hy).1) (RpA.put ea (R.fresh na) l rp) k.1 qx⟩
end
end DP

end
section
set_option Elab.async false
set_option linter.all false
set_option maxRecDepth 100000
set_option autoImplicit false
set_option maxHeartbeats 4000000
namespace DP
open PySem PySem.Spec PyProof.Rows L2
/-! ### dicts whose keys are tuples of numbers, nested -/
section
variable {X : Cx} {pins : List (Addr × Obj)} {σ : L2.St} {H : Hp} {s : Shared}
mutual
theorem nested_of (I : Inv X pins σ H s) : ∀ (d : PyData) (v : V) (u : Value), nkB d = true → Rp H v d → RelV v u → NestedIs s.heap (nkey d) u
  | .int i, v, u, _, h, r => by
    cases h
    obtain ⟨t, rfl⟩ := r
    rw [nkey]
    exact .int i t
  | .tuple ds, v, u, hb, h, r => by
    cases h with
    | tup hs hl ha =>
      cases r
      rw [nkB] at hb
      obtain ⟨its, _, rv, ⟨o, ho, hc, n, hd⟩⟩ := tupR I hs
      rw [nkey]
      exact .tup ho hc hd (by simpa using nesteds_of I ds _ its hb ha rv)
  | .none, _, _, h, _, _ => by simp [nkB] at h
  | .bool _, _, _, h, _, _ => by simp [nkB] at h
  | .str _, _, _, h, _, _ => by simp [nkB] at h
  | .list _, _, _, h, _, _ => by simp [nkB] at h
  | .dict _, _, _, h, _, _ => by simp [nkB] at h
theorem nesteds_of (I : Inv X pins σ H s) : ∀ (ds : List PyData) (vs : List V) (us : List Value), nkBs ds = true → RpA H vs ds → Vals vs us → NestedAll s.heap (nkeys ds) us
  | [], _, _, _, h, r => by
    cases h
    cases r
    rw [nkeys]
    exact .nil
  | d :: ds, _, _, hb, h, r => by
    rw [nkBs, Bool.and_eq_true] at hb
    cases h with
    | cons h1 h2 =>
      cases r with
      | cons r1 r2 =>
        rw [nkeys]
        exact .cons (nested_of I d _ _ hb.1 h1 r1) (nesteds_of I ds _ _ hb.2 h2 r2)
end
theorem keyB_nk {d : PyData} (h : keyB d = true) : nkB d = true := by
  unfold keyB at h
  rw [Bool.and_eq_true, Bool.and_eq_true] at h
  exact h.1.2
theorem keyB_depth {d : PyData} (h : keyB d = true) : d.depth ≤ 8 := by
  unfold keyB at h
  rw [Bool.and_eq_true] at h
  exact of_decide_eq_true h.2
theorem key_is (I : Inv X pins σ H s) {d : PyData} {b : Addr} (hk : keyB d = true) (h : Rp H (.ref b) d) : (nestedKind X.prog X.w).is s.heap (nkey d) b :=
  ⟨nested_of I d _ _ (keyB_nk hk) h rfl, by rw [nkey_depth d (keyB_nk hk)]; exact keyB_depth hk⟩
theorem keyB_ref {H : Hp} {d : PyData} {v : V} (hk : keyB d = true) (h : Rp H v d) : ∃ b, v = .ref b := by
  cases h with
  | tup => exact ⟨_, rfl⟩
  | lst => exact ⟨_, rfl⟩
  | dct => exact ⟨_, rfl⟩
  | dct1 => exact ⟨_, rfl⟩
  | dctN => exact ⟨_, rfl⟩
  | _ => cases hk
theorem RpD.mem {H : Hp} : ∀ {xs : List (NestedKey × Addr × Value)} {kvs : List (PyData × PyData)}, RpD H xs kvs → ∀ x ∈ xs, ∃ d, keyB d = true ∧ x.1 = nkey d ∧ Rp H (.ref x.2.1) d
  | _, _, .nil, x, hx => by cases hx
  | _, _, .cons a b c d t, x, hx => by
    cases hx with
    | head => exact ⟨_, a, rfl, b⟩
    | tail _ hx => exact RpD.mem t x hx
theorem RpD.keys {H : Hp} : ∀ {xs : List (NestedKey × Addr × Value)} {kvs : List (PyData × PyData)}, RpD H xs kvs → RpA H (xs.map fun x => V.ref x.2.1) (kvs.map (·.1))
  | _, _, .nil => .nil
  | _, _, .cons a b c d t => .cons b (RpD.keys t)
theorem dict_toH (I : Inv X pins σ H s) {a : Addr} {o : Obj} {xs : List (NestedKey × Addr × Value)} {kvs : List (PyData × PyData)} (e : s.heap.get? a = some o) (od : DictObj o xs) (h : RpD H xs kvs) : s.heap.DictOfH (nestedKind X.prog X.w) a xs :=
  od.toH e fun x hx => by
    obtain ⟨d, h1, h2, h3⟩ := h.mem x hx
    rw [h2]
    exact key_is I h1 h3
/-- a dict as it stands -/
theorem dict_at {Hd : Hp} (I : Inv X pins σ H s) (sm : Same Hd H) {v : V} {kvs : List (PyData × PyData)} (h : Rp Hd v (.dict kvs)) (hk : (kvs.all fun p => keyB p.1) = true) : ∃ a o xs, v = .ref a ∧ s.heap.get? a = some o ∧ DictObj o xs ∧ (a == sysModules) = false ∧ xs.length ≤ sizeLine ∧ RpD Hd xs kvs := by
  cases h with
  | dct ha =>
    obtain ⟨_, sy, vs, kv, o, es, ep, h1, h2, h3, h4, h5, h6⟩ := (show ObjOk X.prog X.w H s.heap _ (.dK []) from I.hok _ _ (sm _ _ ha))
    have e0 : vs = [] := by
      cases kv
      rfl
    subst e0
    have e1 : es.toList = [] := by
      generalize es.toList = l at h5
      cases h5
      rfl
    exact ⟨_, o, [], rfl, h1, ⟨h2, List.nodup_nil, es, ep, h3, fun w => e1⟩, sy, Nat.zero_le _, .nil⟩
  | dct1 i j ha => cases hk
  | dctN ha od sy hl hr => exact ⟨_, _, _, rfl, (I.hok _ _ (sm _ _ ha)).1, od, sy, hl, hr⟩
/-! ### what it holds -/
def hasD (kvs : List (PyData × PyData)) (k : PyData) : Bool := kvs.any fun p => PyData.eqv p.1 k
def putD (kvs : List (PyData × PyData)) (k v : PyData) : List (PyData × PyData) := if hasD kvs k = true then kvs.map fun p => if PyData.eqv p.1 k = true then (p.1, v) else p else kvs ++ [(k, v)]
def getD (kvs : List (PyData × PyData)) (k : PyData) : Option PyData := (kvs.find? fun p => PyData.eqv p.1 k).map (·.2)
def mergeD (kvs more : List (PyData × PyData)) : List (PyData × PyData) := more.foldl (fun acc p => putD acc p.1 p.2) kvs
mutual
theorem nk_eqv : ∀ d e, nkB d = true → nkB e = true → PyData.eqv d e = decide (nkey d = nkey e)
  | .int i, e, _, he => by
    cases e with
    | int j =>
      rw [nkey, nkey, PyData.eqv]
      by_cases c : i = j
      · rw [c]; simp
      · have : ¬ (NestedKey.num i = NestedKey.num j) := fun z => c (NestedKey.num.inj z)
        simp [c, this]
    | tuple ds => rw [nkey, nkey]; simp [PyData.eqv]
    | _ => simp [nkB] at he
  | .tuple ds, e, hd, he => by
    cases e with
    | int j => rw [nkey, nkey]; simp [PyData.eqv]
    | tuple es =>
      rw [nkB] at hd he
      rw [nkey, nkey, PyData.eqv, nks_eqv ds es hd he]
      exact decide_eq_decide.mpr ⟨fun z => by rw [z], fun z => NestedKey.tup.inj z⟩
    | _ => simp [nkB] at he
  | .none, _, h, _ => by simp [nkB] at h
  | .bool _, _, h, _ => by simp [nkB] at h
  | .str _, _, h, _ => by simp [nkB] at h
  | .list _, _, h, _ => by simp [nkB] at h
  | .dict _, _, h, _ => by simp [nkB] at h
theorem nks_eqv : ∀ ds es, nkBs ds = true → nkBs es = true → PyData.eqvAll ds es = decide (nkeys ds = nkeys es)
  | [], [], _, _ => by rw [PyData.eqvAll]; simp
  | [], e :: es, _, _ => by rw [nkeys, nkeys]; simp [PyData.eqvAll]
  | d :: ds, [], _, _ => by rw [nkeys, nkeys]; simp [PyData.eqvAll]
  | d :: ds, e :: es, hd, he => by
    rw [nkBs, Bool.and_eq_true] at hd he
    rw [nkeys, nkeys, PyData.eqvAll, nk_eqv d e hd.1 he.1, nks_eqv ds es hd.2 he.2]
    by_cases c1 : nkey d = nkey e <;> by_cases c2 : nkeys ds = nkeys es <;> simp [c1, c2]
end
theorem key_eqv {d e : PyData} (hd : keyB d = true) (he : keyB e = true) : PyData.eqv d e = decide (nkey d = nkey e) := nk_eqv d e (keyB_nk hd) (keyB_nk he)
theorem RpD.has {H : Hp} {k : PyData} (hk : keyB k = true) : ∀ {xs : List (NestedKey × Addr × Value)} {kvs : List (PyData × PyData)}, RpD H xs kvs → (atKey xs (nkey k)).isSome = hasD kvs k
  | _, _, .nil => rfl
  | _, _, .cons (dk := dk) a b c d t => by
    have ih := RpD.has hk t
    unfold atKey hasD at ih ⊢
    rw [List.find?_cons, List.any_cons, key_eqv a hk]
    by_cases e : nkey dk = nkey k
    · simp [e]
    · simp only [e, decide_false, Bool.false_or]
      exact ih
theorem RpD.get1 {H : Hp} {k : PyData} (hk : keyB k = true) : ∀ {xs : List (NestedKey × Addr × Value)} {kvs : List (PyData × PyData)} {d : PyData}, RpD H xs kvs → getD kvs k = some d → ∃ b u v, atKey xs (nkey k) = some (b, u) ∧ RelV v u ∧ Rp H v d
  | _, _, _, .nil, e => by cases e
  | _, _, d', .cons (dk := dk) (dv := dv) (b := b) (u := u) (v := v) a b' c d t, e => by
    unfold getD at e
    rw [List.find?_cons, key_eqv a hk] at e
    unfold atKey
    rw [List.find?_cons]
    by_cases q : nkey dk = nkey k
    · simp only [q, decide_true, Option.map_some, Option.some.injEq] at e ⊢
      subst e
      exact ⟨_, _, _, rfl, c, d⟩
    · simp only [q, decide_false] at e ⊢
      exact RpD.get1 hk t e
theorem RpD.snoc {H : Hp} {b : Addr} {u : Value} {v : V} {dk dv : PyData} (h1 : keyB dk = true) (h2 : Rp H (.ref b) dk) (h3 : RelV v u) (h4 : Rp H v dv) : ∀ {xs : List (NestedKey × Addr × Value)} {kvs : List (PyData × PyData)}, RpD H xs kvs → RpD H (xs ++ [(nkey dk, b, u)]) (kvs ++ [(dk, dv)])
  | _, _, .nil => .cons h1 h2 h3 h4 .nil
  | _, _, .cons a b c d t => .cons a b c d (RpD.snoc h1 h2 h3 h4 t)
theorem RpD.repl {H : Hp} {u : Value} {v : V} {dk dv : PyData} (h1 : keyB dk = true) (h3 : RelV v u) (h4 : Rp H v dv) : ∀ {xs : List (NestedKey × Addr × Value)} {kvs : List (PyData × PyData)}, RpD H xs kvs → RpD H (xs.map (putAt (nkey dk) u)) (kvs.map fun p => if PyData.eqv p.1 dk = true then (p.1, dv) else p)
  | _, _, .nil => .nil
  | _, _, .cons (dk := dk') a b c d t => by
    have ih := RpD.repl h1 h3 h4 t
    rw [List.map_cons, List.map_cons, key_eqv a h1]
    unfold putAt at ih ⊢
    by_cases q : nkey dk' = nkey dk
    · simp only [q, decide_true, if_true]
      rw [← q]
      rw [← q] at ih
      exact .cons a b h3 h4 ih
    · simp only [q, decide_false, if_false, Bool.false_eq_true]
      exact .cons a b c d ih
theorem RpD.put {H : Hp} {b : Addr} {u : Value} {v : V} {dk dv : PyData} (h1 : keyB dk = true) (h2 : Rp H (.ref b) dk) (h3 : RelV v u) (h4 : Rp H v dv) {xs : List (NestedKey × Addr × Value)} {kvs : List (PyData × PyData)} (h : RpD H xs kvs) : RpD H (storedH xs (nkey dk) b u) (putD kvs dk dv) := by
  unfold storedH putD
  rw [h.has h1]
  by_cases c : hasD kvs dk = true
  · rw [if_pos c, if_pos c]
    exact h.repl h1 h3 h4
  · rw [if_neg c, if_neg c]
    exact h.snoc h1 h2 h3 h4
theorem RpD.merge {H : Hp} : ∀ {ps : List (NestedKey × Addr × Value)} {more : List (PyData × PyData)} {xs : List (NestedKey × Addr × Value)} {kvs : List (PyData × PyData)}, RpD H ps more → RpD H xs kvs → RpD H (storedAllH xs ps) (mergeD kvs more)
  | _, _, _, _, .nil, h => h
  | _, _, xs, kvs, .cons a b c d t, h => by
    have q := RpD.merge t (h.put a b c d)
    exact q
theorem putD_len (kvs : List (PyData × PyData)) (k v : PyData) : (putD kvs k v).length ≤ kvs.length + 1 := by
  unfold putD
  split
  · rw [List.length_map]; omega
  · rw [List.length_append]; simp
theorem mergeD_len : ∀ (more kvs : List (PyData × PyData)), (mergeD kvs more).length ≤ kvs.length + more.length
  | [], kvs => by show kvs.length ≤ _; omega
  | p :: r, kvs => by
    have h1 := mergeD_len r (putD kvs p.1 p.2)
    have h2 := putD_len kvs p.1 p.2
    show (mergeD (putD kvs p.1 p.2) r).length ≤ _
    rw [List.length_cons]
    omega
end
/-! ### in, not in -/
def rInDct (neg : Bool) : R2D := fun x y Q => ∃ kvs, y = .dict kvs ∧ keyB x = true ∧ (kvs.all fun p => keyB p.1) = true ∧ Q (.bool (if neg = true then !hasD kvs x else hasD kvs x))
section
variable {X : Cx}
theorem room8 (hu : X.A.units + 64 < cLine) : (nestedKind X.prog X.w).room X.A.in1 := by
  show X.A.units + 1 + 8 < cLine
  omega
theorem opd_inD (hu : X.A.units + 64 < cLine) : OpD X (compareOp .In) (rInDct false) := by
  intro pins s σ H x y v u Q I rx ry w
  obtain ⟨O, dx, dy, Q', dm, hx, hy, ⟨kvs, rfl, hk, ha, q⟩, k⟩ := w
  obtain ⟨b, rfl⟩ := keyB_ref hk hx
  obtain ⟨a, o, xs, rfl, e1, od, sy, hl, rp⟩ := dict_at I (hd_same _ _) hy ha
  cases rx
  cases ry
  refine wpAny_in_heap (room8 hu) (key_is I hk (hx.up (hd_same _ _))) sy (dict_toH I e1 od (rp.up (hd_same _ _))) ?_
  rw [rp.has hk]
  exact ⟨.bl _, H, I.tok _, rfl, k _ H _ (Same.refl H) (.bl _) q⟩
theorem opd_notInD (hu : X.A.units + 64 < cLine) : OpD X (compareOp .NotIn) (rInDct true) := by
  intro pins s σ H x y v u Q I rx ry w
  obtain ⟨O, dx, dy, Q', dm, hx, hy, ⟨kvs, rfl, hk, ha, q⟩, k⟩ := w
  obtain ⟨b, rfl⟩ := keyB_ref hk hx
  obtain ⟨a, o, xs, rfl, e1, od, sy, hl, rp⟩ := dict_at I (hd_same _ _) hy ha
  cases rx
  cases ry
  show wpAny _ _ (do return Value.bool (!(← contains (.ref a) (.ref b)))) _ _ s
  refine wpAny_bind (wpAny_contains_heap (room8 hu) (key_is I hk (hx.up (hd_same _ _))) sy (dict_toH I e1 od (rp.up (hd_same _ _))) (wpAny_pure ?_))
  rw [rp.has hk]
  exact ⟨.bl _, H, I.tok _, rfl, k _ H _ (Same.refl H) (.bl _) q⟩
end
end DP

end
section
set_option Elab.async false
set_option linter.all false
set_option maxRecDepth 100000
set_option autoImplicit false
set_option maxHeartbeats 4000000
namespace DP
open PySem PySem.Spec PyProof.Rows L2
/-! ### a new dict that nothing else holds -/
abbrev TDD := SEnv → (List (PyData × PyData) → Prop) → Prop
def upFd (C : Cfg) (t : TDD) : TE := fun σ H Q => ∃ (r : DEnv) (Q' : List (PyData × PyData) → Prop), RepE C σ H r ∧ t (er r) Q' ∧ ∀ a H' kvs, Gr C r H H' → H a = none → MOk H' (a :: (C.O ++ oA r)) a (.dct kvs) → Q' kvs → Q (.ref a) H'
def PFd (X : Cx) (C : Cfg) (e : Expr) (t : TDD) : Prop := PE X e (upFd C t)
def dDct (t : TDD) : TD := fun r Q => t r fun kvs => Q (.dict kvs)
def o00 : Obj := { cls := .type "dict", data := .dict #[] }
theorem dob_nil : DictObj o00 [] := ⟨⟨rfl, rfl, rfl⟩, List.nodup_nil, #[], 0, rfl, fun _ => rfl⟩
section
variable {X : Cx} {C : Cfg} {e a b : Expr} {es : List Expr} {pos : Pos}
theorem PFd.d {t : TDD} (h : PFd X C e t) : PD X C e (dDct t) := PE_imp h fun σ H Q ⟨r, Q', R, q, k⟩ => ⟨r, _, R, q, fun a H' kvs g na m qx => k _ H' _ g (m.rp rfl (fun b hb => List.mem_cons_of_mem _ hb) (R.fresh na)) qx⟩
/-- {} -/
def tD0 : TE := fun _ H Q => ∀ p, H p = none → (p == sysModules) = false → Q (.ref p) (upd H p (OB p o00))
theorem pe_d0 : PE X (.Dict [] [] pos) tD0 := ⟨fun pins s σ H Q I h =>
  wpAny_Dict_empty ⟨.ref s.heap.objs.size, _, I.laid (a := s.heap.objs.size) (o := OB s.heap.objs.size o00) (t' := s.toks) (fun _ _ q => Heap.get?_push_of_some _ q) (Nat.le_refl _) (ob_new (Heap.get?_push_size _ rfl)), rfl,
    h _ (I.hok.fresh (Nat.le_refl _)) (beq_eq_false_iff_ne.mpr (Ne.symm (Nat.ne_of_lt I.big)))⟩⟩
def fD0 : TDD := fun _ Q => Q []
theorem pfd_nil : PFd X C (.Dict [] [] pos) fD0 :=
  PE_imp pe_d0 fun σ H Q ⟨r, Q', R, q, k⟩ p np sy => k p _ [] (Gr.of_same R (same_new np)) np ⟨o00, [], upd_same, dob_nil, sy, Nat.zero_le _, .nil⟩ q
/-- {k: v} -/
def bD1 (p : Addr) (Q : VK) (x y : V) (H2 : Hp) : Prop := H2 p = some (OB p o00) ∧ ∃ b dk, x = .ref b ∧ keyB dk = true ∧ Rp H2 (.ref b) dk ∧ ∀ o u, RelV y u → DictObj o [(nkey dk, b, u)] → Q (.ref p) (upd H2 p (OB p o))
def bD1s (p : Addr) (Q : VK) : List (V × V) → Hp → Prop
  | [(x, y)], H2 => bD1 p Q x y H2
  | _, _ => False
def tD1 (tk tv : TE) : TE := fun σ H Q => ∀ p, H p = none → (p == sysModules) = false → tk σ (upd H p (OB p o00)) fun x H1 => tv σ H1 fun y H2 => bD1 p Q x y H2
theorem pe_d1 {k v : Expr} {tk tv : TE} (hu : X.A.units + 64 < cLine) (hk : PE X k tk) (hv : PE X v tv) : PE X (.Dict [some k] [v] pos) (tD1 tk tv) := by
  refine ⟨fun pins s σ H Q I q => ?_⟩
  have hn := I.hok.fresh (Nat.le_refl s.heap.objs.size)
  have sy : (s.heap.objs.size == sysModules) = false := beq_eq_false_iff_ne.mpr (Ne.symm (Nat.ne_of_lt I.big))
  have I1 := I.laid (a := s.heap.objs.size) (o := OB s.heap.objs.size o00) (h' := s.heap.push { cls := .type "dict", data := .dict #[] }) (t' := s.toks) (fun _ _ q => Heap.get?_push_of_some _ q) (Nat.le_refl _) (ob_new (Heap.get?_push_size _ rfl))
  have pp := pps_cons (pos := pos) hk hv pps_nil
  rw [arm_eval_Dict]
  have hshape : (evalEachOpt [some k] X.env).zip ((evalEach [v] X.env).map fun v => do let x ← v; standAt pos; pure x) = (pairTrees [some k] [v] X.env pos).map fun p => (some p.1, p.2) := rfl
  rw [hshape, dictDisplay_pairs (pairTrees [some k] [v] X.env pos) (by intro z; cases z) (by show 1 < 17; omega)]
  refine wpAny_bind (wpAny_standAt (wpAny_bind (wpAny_subDictH (knd := nestedKind X.prog X.w) (by show X.A.units + 8 < cLine; omega) (by show 1 ≤ 15; omega) (thn (pp.run pins _ σ _ (bD1s s.heap.objs.size Q) I1 (q _ hn sy)) fun ws s2 ⟨ps, H2, I2, rel, qb⟩ => ?_))))
  cases rel with
  | nil => exact qb.elim
  | @cons p q' ps' qs' r t =>
    cases t with
    | cons _ _ => exact qb.elim
    | nil =>
      obtain ⟨x, y⟩ := p
      obtain ⟨u1, u2⟩ := q'
      obtain ⟨r1, r2⟩ := r
      obtain ⟨e, b, dk, ex, kb, rp, q2⟩ := (show bD1 s.heap.objs.size Q x y H2 from qb)
      have ex : x = .ref b := ex
      subst ex
      cases (show u1 = Value.ref b from r1)
      have he := (show s2.heap.get? s.heap.objs.size = some o00 from (I2.hok _ _ e).1)
      refine ⟨[(nkey dk, b, u2)], ⟨rfl, rfl, key_is I2 kb rp, True.intro⟩, dob_nil.toH he (fun _ hx => by cases hx), fun h' tk d' hs => wpAny_pure ?_⟩
      obtain ⟨o, ho, od⟩ := DictObj.ofH (show h'.DictOfH (nestedKind X.prog X.w) s.heap.objs.size [(nkey dk, b, u2)] from d') (fun x hx => by
        rw [List.mem_singleton.mp hx]
        exact ⟨dk, keyB_nk kb, rfl⟩)
      exact ⟨.ref s.heap.objs.size, _, d_write (t' := tk) I2 (by rw [e]; exact True.intro) hs ⟨o, ho⟩ (ob_new ho), rfl, q2 o u2 r2 od⟩
def fD1 (tk tv : TD) : TDD := fun r Q => tk r fun k => tv r fun v => keyB k = true ∧ flatD v = true ∧ Q [(k, v)]
mutual
/-- keys lean on tuples alone -/
theorem nk_rp {H H' : Hp} (ht : ∀ b xs, H b = some (.tup xs) → H' b = some (.tup xs)) : ∀ (d : PyData) (v : V), nkB d = true → Rp H v d → Rp H' v d
  | .int i, v, _, h => by cases h; exact .int i
  | .tuple ds, v, hb, h => by
    rw [nkB] at hb
    cases h with
    | tup a b c => exact .tup (ht _ _ a) b (nks_rp ht ds _ hb c)
  | .none, _, h, _ => by simp [nkB] at h
  | .bool _, _, h, _ => by simp [nkB] at h
  | .str _, _, h, _ => by simp [nkB] at h
  | .list _, _, h, _ => by simp [nkB] at h
  | .dict _, _, h, _ => by simp [nkB] at h
theorem nks_rp {H H' : Hp} (ht : ∀ b xs, H b = some (.tup xs) → H' b = some (.tup xs)) : ∀ (ds : List PyData) (vs : List V), nkBs ds = true → RpA H vs ds → RpA H' vs ds
  | [], _, _, h => by cases h; exact .nil
  | d :: ds, _, hb, h => by
    rw [nkBs, Bool.and_eq_true] at hb
    cases h with
    | cons a b => exact .cons (nk_rp ht d _ hb.1 a) (nks_rp ht ds _ hb.2 b)
end
theorem Gr.keepN {σ : L2.St} {H H' : Hp} {r : DEnv} (R : RepE C σ H r) (g : Gr C r H H') {p : Addr} {o : HO} (n : p ∉ C.O ++ oA r) (e : H p = some o) : H' p = some o := g.1 p o (fun k z => n (R.shO z)) e
theorem pfd_one {k v : Expr} {tk tv : TD} (hu : X.A.units + 64 < cLine) (hk : PD X C k tk) (hv : PD X C v tv) : PFd X C (.Dict [some k] [v] pos) (fD1 tk tv) :=
  PE_imp (pe_d1 hu hk hv) fun σ H Q ⟨r, Q', R, q, kk⟩ p np sy => by
    have g0 : Gr C r H (upd H p (OB p o00)) := Gr.of_same R (same_new np)
    have R0 := R.grow g0
    have fr : p ∉ C.O ++ oA r := R.fresh np
    refine ⟨r, _, R0, q, fun x H1 dx g1 rp1 q1 => ⟨r, _, R0.grow g1, q1, fun y H2 dy g2 rp2 q2 => ?_⟩⟩
    obtain ⟨kb, fl, q2⟩ := q2
    obtain ⟨b, rfl⟩ := keyB_ref kb rp1
    have e2 : H2 p = some (OB p o00) := Gr.keepN (R0.grow g1) g2 fr (Gr.keepN R0 g1 fr upd_same)
    have rp1' := rp1.up (g2.hd (R0.grow g1))
    refine ⟨e2, b, dx, rfl, kb, rp1'.up (hd_same _ _), fun o u ru od => ?_⟩
    have R2 := (R0.grow g1).grow g2
    have nx : ∀ c q, OB p o00 ≠ LamX.CodeO c q := fun c q => ob_code (es := #[]) (ep := 0) rfl
    have g3 : Gr C r H (upd H2 p (OB p o)) := ⟨fun a w hs e => by
        have ha := ((g0.trans g1).trans g2).1 a w hs e
        rw [upd_ne (ne_of_none e np)]
        exact ha, fun s hs => (((g0.trans g1).trans g2).2 s hs).upd e2 nx fun z => fr (by rw [← z]; exact R.shO (k := s.2) hs)⟩
    have tt : ∀ c xs, hd H2 (C.O ++ oA r) c = some (.tup xs) → hd (upd H2 p (OB p o)) (p :: (C.O ++ oA r)) c = some (.tup xs) := fun c xs ec => by
      obtain ⟨h1, h2⟩ := hd_some ec
      have ne : c ≠ p := fun z => by rw [z, e2] at h2; cases h2
      rw [hd_out (by rw [List.mem_cons, not_or]; exact ⟨ne, h1⟩), upd_ne ne]
      exact h2
    exact kk p _ _ g3 np ⟨o, _, upd_same, od, sy, by rw [sizeLine_eq]; show 1 ≤ _; omega, .cons kb (nk_rp tt _ _ (keyB_nk kb) rp1') ru (rp2.flat fl) .nil⟩ q2
/-! ### dict(pairs) -/
/-- what pairs tell -/
def pairsD : List PyData → Option (List (PyData × PyData))
  | [] => some []
  | .tuple [k, v] :: ds => if keyB k = true then (pairsD ds).map fun r => (k, v) :: r else none
  | _ :: _ => none
abbrev RD := List PyData → (List (PyData × PyData) → Prop) → Prop
def upCD (r : RD) : List V → Hp → VK → Prop := fun vs H Q => ∃ (O : List Addr) (ds : List PyData) (Q' : List (PyData × PyData) → Prop), (∀ a ∈ O, H a ≠ none) ∧ RpA (hd H O) vs ds ∧ r ds Q' ∧ ∀ a H' kvs, Same H H' → H a = none → MOk H' (a :: O) a (.dct kvs) → Q' kvs → Q (.ref a) H'
def CallDD (X : Cx) (f : Value) (r : RD) : Prop := CallR X f (upCD r)
def fCallD (r : RD) (t : TAD) : TDD := fun e Q => t e fun xs => r xs Q
theorem callD_go {r : RD} {t : TAD} {σ : L2.St} {H : Hp} {Q : VK} (h : upFd C (fCallD r t) σ H Q) : tCB (upCD r) (upA C t) σ H Q := by
  obtain ⟨ρ, Q', R, q, k⟩ := h
  exact ⟨ρ, _, R, q, fun vs H1 xs g1 rp q1 => ⟨C.O ++ oA ρ, xs, Q', (R.grow g1).domA, rp, q1, fun a H' kvs sm na m qz => k a H' kvs (g1.then_same sm) (Gr.none R g1 na) m qz⟩⟩
theorem pfd_callTy {T : String} {x : Str} {p : Pos} {t : TAD} {r : RD} (hc : CallDD X (.type T) r) (hm : X.mg x = none) (hv : bootBuiltins x = some (.type T)) (ha : PDA X C (e :: es) t) (hg : Gl X x) (hn : x ≠ "__name__") (hdb : (x == ("__debug__" : Str)) = false)
    (he : starEach (e :: es) X.env = (false, eval e X.env) :: starEach es X.env) (hpl : (backTo pos (starEach es X.env)).any (·.1) = false) : PFd X C (.Call (.Name x p) (e :: es) [] pos) (fCallD r t) :=
  PE_imp (pe_callTy hc hg hm hv ha hn hdb he hpl) fun _ _ _ => callD_go
def dpW : RD
  | [.list ds], Q => (match pairsD ds with
    | some kvs => ds.length ≤ sizeLine ∧ Q (mergeD [] kvs)
    | none => False)
  | _, _ => False
theorem pairs_get {H Hd : Hp} {pins : List (Addr × Obj)} {s : Shared} {σ : L2.St} (I : Inv X pins σ H s) (sm : Same Hd H) : ∀ {ds : List PyData} {kvs : List (PyData × PyData)} {vs : List V} {us : List Value}, pairsD ds = some kvs → RpA Hd vs ds → Vals vs us →
    ∃ (Ts : List Addr) (ps : List (NestedKey × Addr × Value)), us = Ts.map Value.ref ∧ ps.length = Ts.length ∧ RpD Hd ps kvs ∧ ∀ (j : Nat) (T : Addr) (p : NestedKey × Addr × Value), Ts[j]? = some T → ps[j]? = some p → s.heap.IsTuple T #[.ref p.2.1, p.2.2]
  | [], _, _, _, e, h, r => by
    cases e
    cases h
    cases r
    exact ⟨[], [], rfl, rfl, .nil, fun j T p h => by simp at h⟩
  | d :: ds, kvs, _, _, e, h, r => by
    cases h with
    | cons h1 h2 =>
      cases r with
      | cons r1 r2 =>
        unfold pairsD at e
        split at e
        · rename_i e0; cases e0
        · rename_i k v ds' e0
          cases e0
          split at e
          · rename_i kb
            obtain ⟨r', e1, rfl⟩ := Option.map_eq_some_iff.mp e
            obtain ⟨Ts, ps, rfl, hl, hr, hp⟩ := pairs_get I sm e1 h2 r2
            obtain ⟨T, ys, rfl, g1, g2, g3⟩ := rp_tup h1
            cases r1
            cases g3 with
            | cons g4 g5 =>
              cases g5 with
              | cons g6 g7 =>
                cases g7
                obtain ⟨b, rfl⟩ := keyB_ref kb g4
                obtain ⟨its, _, rv, tp⟩ := tupR I (sm _ _ g1)
                cases rv with
                | cons a1 a2 =>
                  cases a2 with
                  | cons a3 a4 =>
                    cases a4
                    rename_i u1 _ u2 _
                    cases a1
                    refine ⟨T :: Ts, (nkey k, b, _) :: ps, rfl, by simp [hl], .cons kb g4 a3 g6 hr, fun j T' p h1 h2 => ?_⟩
                    cases j with
                    | zero =>
                      simp only [List.getElem?_cons_zero, Option.some.injEq] at h1 h2
                      subst h1 h2
                      exact tp
                    | succ j =>
                      simp only [List.getElem?_cons_succ] at h1 h2
                      exact hp j T' p h1 h2
          · cases e
        · cases e
theorem cd_dict (hc : X.calm = true) (hu : X.A.units + 64 < cLine) : CallDD X (.type "dict") dpW := by
  intro pins s σ H vs us Q I rv w
  obtain ⟨O, ds, Q', dm, rp, q, k⟩ := w
  unfold dpW at q
  split at q
  · rename_i ds'
    split at q
    · rename_i kvs hp
      obtain ⟨hlen, q⟩ := q
      obtain ⟨v, rfl, hv⟩ := rpa1 rp
      obtain ⟨a, xs, rfl, h1, h2, h3⟩ := rp_lst hv
      obtain ⟨u, eu, rx⟩ := vals1 rv
      subst eu
      cases rx
      obtain ⟨its, n, _, rvs, ho⟩ := lstR I (DP.Rd.full h1)
      obtain ⟨Ts, ps, rfl, hl, hr, hT⟩ := pairs_get I (hd_same H O) hp h3 rvs
      have hn : (ps.map fun p => (Value.ref p.2.1, p.2.2)).length = Ts.length := by rw [List.length_map, hl]
      have hxl : xs.length = Ts.length := by have := rvs.length; rw [List.length_map] at this; exact this
      have hsz : Ts.length ≤ sizeLine := by rw [← hxl]; exact h2
      have kis : ∀ x ∈ ps, (nestedKind X.prog X.w).is s.heap x.1 x.2.1 := fun x hx => by
        obtain ⟨d, q1, q2, q3⟩ := hr.mem x hx
        rw [q2]
        exact key_is I q1 (q3.up (hd_same _ _))
      refine call_dict_pairsH (knd := nestedKind X.prog X.w) (ps := ps) (PairArg.list a (Ts.map Value.ref).toArray (fun j => Ts.getD j 0) (ps.map fun p => (Value.ref p.2.1, p.2.2))) (I.ok.hd hc) (by show X.A.units + 1 + 1 + 8 < cLine; omega) ⟨⟨_, _, ho, rfl, rfl, rfl⟩, ?_, fun j kk v hj => ?_⟩ ⟨?_, fun i key v hi => ?_⟩ (fun h' hk x hx => ?_) (by rw [hn]; exact hsz) fun h' tk hd' hk => ?_
      · simp [hl]
      · rw [List.getElem?_map] at hj
        obtain ⟨p, e1, e2⟩ := Option.map_eq_some_iff.mp hj
        cases e2
        have hjl : j < Ts.length := by rw [← hl]; exact (List.getElem?_eq_some_iff.mp e1).1
        have e3 : Ts[j]? = some Ts[j] := List.getElem?_eq_getElem hjl
        have e4 : Ts.getD j 0 = Ts[j] := by rw [List.getD_eq_getElem?_getD, e3]; rfl
        refine ⟨?_, .inl ?_⟩
        · rw [List.getElem?_toArray, List.getElem?_map, e3]
          show some (Value.ref Ts[j]) = some (Value.ref (Ts.getD j 0))
          rw [e4]
        · show s.heap.IsTuple (Ts.getD j 0) _
          rw [e4]
          exact hT j _ p e3 e1
      · rw [List.length_map]
      · have hi : (ps.map fun p => (Value.ref p.2.1, p.2.2))[i]? = some (key, v) := hi
        rw [List.getElem?_map] at hi
        obtain ⟨p, e1, e2⟩ := Option.map_eq_some_iff.mp hi
        cases e2
        exact ⟨p.1, p.2.1, e1, rfl⟩
      · exact nestedKind_stays.stays (fun b o vs n e _ => hk b o (Nat.ne_of_lt (Heap.lt_size e)) (fun z => nomatch z) e) (kis x hx)
      · have hr2 : RpD (hd H O) (storedAllH [] ps) (mergeD [] kvs) := RpD.merge hr .nil
        obtain ⟨o, ho2, od⟩ := DictObj.ofH hd' (fun x hx => by
          obtain ⟨d, q1, q2, _⟩ := hr2.mem x hx
          exact ⟨d, keyB_nk q1, q2⟩)
        have np := I.hok.fresh (Nat.le_refl s.heap.objs.size)
        have sy : (s.heap.objs.size == sysModules) = false := beq_eq_false_iff_ne.mpr (Ne.symm (Nat.ne_of_lt I.big))
        have hl2 : (storedAllH [] ps).length ≤ sizeLine := by
          have := storedAllH_length ps []
          rw [List.length_nil, Nat.zero_add] at this
          omega
        exact ⟨.ref s.heap.objs.size, _, I.laid (a := s.heap.objs.size) (o := OB s.heap.objs.size o) (t' := tk) (fun b u e => hk b u (fun z => nomatch z) e) (Nat.le_refl _) (ob_new ho2), rfl,
          k _ _ _ (same_new np) np ⟨o, _, upd_same, od, sy, hl2, hr2.up (new_in np)⟩ q⟩
    · exact q.elim
  · exact q.elim
/-! ### list(d), sorted(d) -/
def rListD : RF := fun xs Q => ∃ kvs, xs = [.dict kvs] ∧ (kvs.all fun p => keyB p.1) = true ∧ Q (kvs.map (·.1))
theorem items_keys {w : World} {es : Array DictEntry} {xs : List (NestedKey × Addr × Value)} {acc : Array Value} (he : es.toList = xs.map fun x => (⟨x.1.hash w, .ref x.2.1, x.2.2⟩ : DictEntry)) (ha : ItemsOf (fun i v => ∃ hi : i < es.size, v = es[i].key) acc es.size) : acc.toList = xs.map fun x => Value.ref x.2.1 := by
  have hsz : es.size = xs.length := by rw [← Array.length_toList, he, List.length_map]
  refine List.ext_getElem? fun i => ?_
  rw [List.getElem?_map]
  by_cases c : i < xs.length
  · have hia : i < acc.size := by rw [ha.1, hsz]; exact c
    have h1 : acc[i]? = some acc[i] := Array.getElem?_eq_getElem hia
    obtain ⟨hi, e1⟩ := ha.2 i _ h1
    rw [Array.getElem?_toList, h1, e1]
    have e2 : es[i]? = some es[i] := Array.getElem?_eq_getElem hi
    rw [← Array.getElem?_toList, he, List.getElem?_map] at e2
    obtain ⟨x, e3, e4⟩ := Option.map_eq_some_iff.mp e2
    rw [e3, ← e4]
    rfl
  · rw [List.getElem?_eq_none (by rw [Array.length_toList, ha.1, hsz]; omega), List.getElem?_eq_none (by omega)]
    rfl
theorem vals_refs : ∀ xs : List (NestedKey × Addr × Value), Vals (xs.map fun x => V.ref x.2.1) (xs.map fun x => Value.ref x.2.1)
  | [] => .nil
  | x :: xs => .cons rfl (vals_refs xs)
theorem cf_listD (hc : X.calm = true) : CallF X (.type "list") rListD := by
  intro pins s σ H vs us Q I rv w
  obtain ⟨O, ds, Q', dm, rp, ⟨kvs, rfl, hk, q⟩, k⟩ := w
  obtain ⟨v, rfl, hv⟩ := rpa1 rp
  obtain ⟨u, eu, rx⟩ := vals1 rv
  subst eu
  obtain ⟨a, o, xs, rfl, e1, od, sy, hl, hr⟩ := dict_at I (hd_same _ _) hv hk
  cases rx
  obtain ⟨es, ep, hraw, hod, he⟩ := od.raw X.w e1
  have hsz : es.size = xs.length := by rw [← Array.length_toList, he, List.length_map]
  refine PySem.W.kdl_call (PySem.KdlSrc.rawDict (prog := X.prog) (w := X.w) (es := es) (ep := ep) sy) (I.ok.hd hc) hraw (by rw [hsz]; exact hl) fun h' tk acc c' hk' hg hacc => ?_
  have ea := items_keys he hacc
  have np := I.hok.fresh (Nat.le_refl s.heap.objs.size)
  have lw : (xs.map fun x => V.ref x.2.1).length ≤ sizeLine := by rw [List.length_map]; exact hl
  refine ⟨.ref s.heap.objs.size, _, I.laid (a := s.heap.objs.size) (o := .lst (xs.map fun x => V.ref x.2.1)) (t' := tk) hk' (Nat.le_refl _) ⟨lw, acc.toList, c', ?_, by simpa using hg⟩, rfl, k _ _ _ _ (same_new np) np upd_same lw (hr.keys.up (new_in np)) q⟩
  rw [ea]
  exact vals_refs xs
open PySem.W in
/-- sorted(x): what is met while x is walked, sorted -/
theorem sorted_coll {prog : Program} {w : World} {A : Around} {E : Value → Shared → Prop} {s : Shared} {r : Addr} {G : List Value → List (V × PyData) → Prop} {Q : Value → Shared → Prop}
    (hcol : ∀ (R : List Value → Shared → Prop) (E' : Value → Shared → Prop), (∀ h' tk its ps, (∀ b o, s.heap.get? b = some o → h'.get? b = some o) → G its ps → R its { s with heap := h', toks := tk }) → wpAny (model prog w) A.in1 (collect (.ref r)) R E' s)
    (hG : ∀ its ps, G its ps → EachIs (fun v (b : V × PyData) => RelV b.1 v) its ps ∧ EachIs (fun v (b : V × PyData) => ∃ as, Reads s.heap v b.2 as) its ps ∧ SortOk (ps.map (·.2)) ∧ ps.length ≤ sizeLine) (hu : A.units + 64 < cLine)
    (h : ∀ its ps out (h' h'' : Heap) tk n, G its ps → out.length = ps.length → EachIs (fun v (b : V × PyData) => RelV b.1 v) out (ps.mergeSort (dataLe false (·.2))) → (∀ b o, s.heap.get? b = some o → h'.get? b = some o) → (∀ b o, h'.get? b = some o → h''.get? b = some o) → h''.get? h'.objs.size = some (seqObj "list" (List.toArray out) n) → Q (.ref h'.objs.size) { s with heap := h'', toks := tk }) :
    wpAny (model prog w) A (call (.builtin "sorted") [.ref r]) Q E s := by
  refine Calls.call_function_entry kind_sorted plain_sorted entry_sorted (args_sorted1 _) ?_
  unfold Builtin.«sorted»
  refine wpAny_bind (m := checkCount "sorted" 1 1 _) (wpAny_pure ?_)
  refine wpAny_bind (hcol _ _ fun h' tk its ps hk g => ?_)
  obtain ⟨e, er, ⟨hal, hsk, hd⟩, hL⟩ := hG its ps g
  have hd' : ∀ b ∈ ps, b.2.depth ≤ 60 := fun b hb => hd _ (List.mem_map.mpr ⟨b, hb, rfl⟩)
  refine wpAny_bind (wpAny_newList ?_ (by rw [e.length]; exact hL))
  have hoL : (h'.push (seqObj "list" its.toArray 0)).get? h'.objs.size = some (seqObj "list" its.toArray 0) := Heap.get?_push_size _ rfl
  have kp : ∀ b o, s.heap.get? b = some o → (h'.push (seqObj "list" its.toArray 0)).get? b = some o := fun b o q => Heap.get?_push_of_some _ (hk b o q)
  have bn : ∀ b o, s.heap.get? b = some o → b ≠ h'.objs.size := fun b o q => Nat.ne_of_lt (Heap.lt_size (hk b o q))
  have er' : EachIs (fun v (b : V × PyData) => ∃ as, Reads (sortingHeap (h'.push (seqObj "list" its.toArray 0)) h'.objs.size its) v b.2 as) its ps := er.mono fun _ _ ⟨as, r⟩ => ⟨as, PyProof.Rows.Reads.keeps (fun b o q => sortingHeap_old (bn b o q) (kp b o q)) r⟩
  show wpAny _ _ _ _ _ { s with heap := h'.push (seqObj "list" its.toArray 0), toks := tk }
  have S : SortsAt prog w A.in1.in1 { s with heap := sortingHeap (h'.push (seqObj "list" its.toArray 0)) h'.objs.size its, toks := tk } (dataKind (sortingHeap (h'.push (seqObj "list" its.toArray 0)) h'.objs.size its) (ps.map (·.2))) its := by
    have bd : ∀ d, d ∈ ps.map (fun b : V × PyData => b.2) → A.units + 1 + 1 + d.depth < cLine := fun d hd => by
      obtain ⟨b, hb, rfl⟩ := List.mem_map.mp hd
      have := hd' b hb
      omega
    rcases hsk with hsk | ⟨h1, hn⟩
    · exact SortsAt.data (s := { s with heap := sortingHeap (h'.push (seqObj "list" its.toArray 0)) h'.objs.size its, toks := tk }) (each_map (R := fun v d => ∃ as, Reads (sortingHeap (h'.push (seqObj "list" its.toArray 0)) h'.objs.size its) v d as) (fun b : V × PyData => b.2) er') hal hsk bd
    · exact sorts_one (s := { s with heap := sortingHeap (h'.push (seqObj "list" its.toArray 0)) h'.objs.size its, toks := tk }) (each_map (R := fun v d => ∃ as, Reads (sortingHeap (h'.push (seqObj "list" its.toArray 0)) h'.objs.size its) v d as) (fun b : V × PyData => b.2) er') hal h1 hn bd
  refine wpAny_bind (wpAny_holding (wpAny_call_entry slot_list_sort ⟨_, hoL, rfl⟩ entry_list_sort
    (list_sort_vals (s := { s with heap := h'.push (seqObj "list" its.toArray 0), toks := tk }) hoL S (by rw [e.length]; exact hL) ⟨_, rfl, ?_⟩) (args_list_sort _)))
  obtain ⟨n, he⟩ := sortedHeap_at (vs := its) (out := (sortVals (dataKind (sortingHeap (h'.push (seqObj "list" its.toArray 0)) h'.objs.size its) (ps.map (·.2))) false its its).toArray) hoL
  refine wpAny_pure ⟨_, rfl, h its ps _ h' _ tk n g (by rw [sortVals_length false rfl]; exact e.length) (sortVals_data false e er' hal) hk (fun b o q => ?_) he⟩
  have q2 : (h'.push (seqObj "list" its.toArray 0)).get? b = some o := Heap.get?_push_of_some _ q
  rw [sortedHeap_old (Nat.ne_of_lt (Heap.lt_size q)) (Heap.lt_size q2)]
  exact q2
def rSortedDD : RF := fun xs Q => ∃ kvs, xs = [.dict kvs] ∧ (kvs.all fun p => keyB p.1) = true ∧ SortOk (kvs.map (·.1)) ∧ Q (sortD (kvs.map (·.1)))
/-- what sorted hands back, over a walk -/
theorem sorted_out {pins : List (Addr × Obj)} {s : Shared} {σ : L2.St} {H : Hp} {Q : VK} {O : List Addr} {Q' : List PyData → Prop} {vs : List V} {ds : List PyData} {out : List Value} {h' h'' : Heap} {tk n : Nat} (I : Inv X pins σ H s) (rp : RpA (hd H O) vs ds) (hl : vs.length ≤ sizeLine)
    (he : PySem.W.EachIs (fun v (b : V × PyData) => RelV b.1 v) out ((vs.zip ds).mergeSort (PySem.W.dataLe false (·.2)))) (k1 : ∀ b o, s.heap.get? b = some o → h'.get? b = some o) (k2 : ∀ b o, h'.get? b = some o → h''.get? b = some o) (e : h''.get? h'.objs.size = some (seqObj "list" (List.toArray out) n))
    (k : ∀ a H' ws xs, Same H H' → H a = none → H' a = some (.lst ws) → ws.length ≤ sizeLine → RpA (hd H' (a :: O)) ws xs → Q' xs → Q (.ref a) H') (q : Q' (sortD ds)) : EP X pins σ Q (.ref h'.objs.size) { s with heap := h'', toks := tk } := by
  have I1 : Inv X pins σ H { s with heap := h', toks := tk } := I.kept k1
  have np : H h'.objs.size = none := I1.hok.fresh (Nat.le_refl _)
  have ln := rp.length
  have e2 : (vs.zip ds).map (·.2) = ds := List.map_snd_zip (by omega)
  have vo := each_vals he
  have lw : (((vs.zip ds).mergeSort (PySem.W.dataLe false (·.2))).map (·.1)).length ≤ sizeLine := by
    rw [List.length_map, List.length_mergeSort, List.length_zip]
    omega
  refine ⟨.ref h'.objs.size, _, I1.laid (t' := tk) (a := h'.objs.size) (o := .lst (((vs.zip ds).mergeSort (PySem.W.dataLe false (·.2))).map (·.1))) k2 (Nat.le_refl _) ⟨lw, out, n, vo, e⟩, rfl, k _ _ _ (sortD ds) (same_new np) np upd_same lw ?_ q⟩
  have es : sortD ds = ((vs.zip ds).mergeSort (PySem.W.dataLe false (·.2))).map (·.2) := by
    have z := PySem.W.sort_maps (r := PySem.W.dataLe false fun b : V × PyData => b.2) (s := PySem.W.dataLe false id) (fun b : V × PyData => b.2) (l := vs.zip ds) (fun a _ b _ => rfl)
    rw [e2] at z
    exact z.symm
  rw [es]
  refine (rpa_pairs fun p hp => ?_).up (new_in np)
  exact pairs_rpa rp p (List.mem_mergeSort.mp hp)
theorem cf_sortedDD (hc : X.calm = true) (hu : X.A.units + 64 < cLine) : CallF X (.builtin "sorted") rSortedDD := by
  intro pins s σ H vs us Q I rv w
  obtain ⟨O, ds, Q', dm, rp, ⟨kvs, rfl, hk, ok, q⟩, k⟩ := w
  obtain ⟨v, rfl, hv⟩ := rpa1 rp
  obtain ⟨u, eu, rx⟩ := vals1 rv
  subst eu
  obtain ⟨a, o, xs, rfl, e1, od, sy, hl, hr⟩ := dict_at I (hd_same _ _) hv hk
  cases rx
  obtain ⟨es, ep, hraw, hod, he⟩ := od.raw X.w e1
  have hsz : es.size = xs.length := by rw [← Array.length_toList, he, List.length_map]
  have rk := hr.keys
  have ln := rk.length
  have lx : (xs.map fun x => V.ref x.2.1).length = xs.length := List.length_map _
  have e2 : ((xs.map fun x => V.ref x.2.1).zip (kvs.map (·.1))).map (·.2) = kvs.map (·.1) := List.map_snd_zip (by omega)
  refine sorted_coll (G := fun its ps => its = (xs.map fun x => Value.ref x.2.1) ∧ ps = (xs.map fun x => V.ref x.2.1).zip (kvs.map (·.1))) (fun R E' hR => ?_) (fun its ps g => ?_) hu fun its ps out h' h'' tk n g hlo hee k1 k2 e => ?_
  · refine PySem.W.kdu_collect (A := X.A.in1) (PySem.KdlSrc.rawDict (prog := X.prog) (w := X.w) (es := es) (ep := ep) sy) (I.ok.hd hc) hraw (by rw [hsz]; exact hl) fun h' tk acc hk' hacc => ?_
    exact hR h' tk _ _ hk' ⟨items_keys he hacc, rfl⟩
  · obtain ⟨rfl, rfl⟩ := g
    exact ⟨each_pairs rk (vals_refs xs), rpa_each I (rk.up (hd_same _ _)) (vals_refs xs), by rw [e2]; exact ok, by rw [List.length_zip]; omega⟩
  · obtain ⟨rfl, rfl⟩ := g
    exact sorted_out I rk (by omega) hee k1 k2 e k q
end
end DP

end
section
set_option Elab.async false
set_option linter.all false
set_option maxRecDepth 100000
set_option autoImplicit false
set_option maxHeartbeats 4000000
namespace DP
open PySem PySem.Spec PyProof.Rows L2
/-! ### dicts of one's own -/
/-- the owned dict of a slot -/
def oDct (i : Nat) (k : List (PyData × PyData) → Prop) : SEnv → Prop := fun r => match r[i]? with
  | some (some (.m (.dct kvs))) => k kvs
  | _ => False
theorem oDct_get {i : Nat} {k : List (PyData × PyData) → Prop} {r : DEnv} (h : oDct i k (er r)) : ∃ a kvs, r[i]? = some (some (.m a (.dct kvs))) ∧ k kvs := by
  unfold oDct at h
  split at h
  · rename_i kvs e
    obtain ⟨a, q⟩ := er_m e
    exact ⟨a, kvs, q, h⟩
  · exact h.elim
section
variable {X : Cx} {C : Cfg} {e a b : Expr} {es : List Expr} {pos : Pos}
/-- x = e, a new dict that is to be changed -/
def sSetD (i : Nat) (te : TDD) : TSD := fun D r => te r fun kvs => D.nx (r.set i (some (.m (.dct kvs))))
theorem psd_setD (i : Nat) {tf : TDD} {x : Str} {pos' : Pos} (hN : X.N.Nodup) (hn : C.n = X.N.length) (he : PFd X C e tf) (hi : X.N[i]? = some x) (hx : Loc X.env.scope x) (hs : swapsWith e (some (.Name x pos')) pos.line X.env = pure false) (hf : X.fn x = true ∨ X.env.scope.names.lookup x = some .local) :
    PSD X C (.Assign [.Name x pos'] e pos) (sSetD i tf) := PS_imp (ps_set hN hi hx he hs hf) fun D σ H ⟨r, D', R, q, k⟩ =>
  ⟨r, _, R, q, fun a H' kvs g na m qx => k.1 _ H' _ (R.new g (o := .dct kvs) (by rw [hn]; exact (List.getElem?_eq_some_iff.mp hi).1) na m) (by rw [er_set]; exact qx)⟩
/-- x[k] = v -/
def bPut (D : Ends) (σ : L2.St) (v x y : V) (H3 : Hp) : Prop := ∃ (O : List Addr) (a b : Addr) (o : Obj) (xs : List (NestedKey × Addr × Value)) (kvs : List (PyData × PyData)) (dk : PyData), x = .ref a ∧ y = .ref b ∧ H3 a = some (OB a o) ∧ DictObj o xs ∧ xs.length ≤ sizeLine ∧ RpD (hd H3 O) xs kvs ∧ keyB dk = true ∧ Rp H3 (.ref b) dk ∧
  ∀ o' u, RelV v u → DictObj o' (storedH xs (nkey dk) b u) → D.nx σ (upd H3 a (OB a o'))
theorem ps_putN {o i value : Expr} {pos' : Pos} {td ty tv : TE} (hu : X.A.units + 64 < cLine) (ho : PE X o td) (hi : PE X i ty) (hv : PE X value tv) (hs : swapsWith value (some (.Subscript o i pos')) pos.line X.env = pure false) :
    PS X (.Assign [.Subscript o i pos'] value pos) (fun D σ H => tv σ H fun v H1 => td σ H1 fun x H2 => ty σ H2 fun y H3 => bPut D σ v x y H3) := by
  refine ⟨fun pins s σ H D I h => ?_⟩
  refine wpAny_Assign_Subscript (thn (hv.run pins s σ H _ I h) fun r s1 ⟨v, H1, I1, rv, q1⟩ => thn (ho.run pins s1 σ H1 _ I1 q1) fun u s2 ⟨x, H2, I2, rx, q2⟩ => thn (hi.run pins s2 σ H2 _ I2 q2) fun iv s3 ⟨y, H3, I3, ry, q3⟩ => ?_) hs
  obtain ⟨O, a, b, ob, xs, kvs, dk, rfl, rfl, e, od, hl, rp, kb, rk, q⟩ := q3
  cases rx
  cases ry
  have e1 : s3.heap.get? a = some ob := (I3.hok _ _ e).1
  have rp' := rp.up (hd_same _ _)
  refine wpAny_setItem_heap (knd := nestedKind X.prog X.w) (hsz := hl) (room8 hu) (key_is I3 kb rk) (dict_toH I3 e1 od rp') fun h' d' sb => ?_
  obtain ⟨o', h1, h2⟩ := DictObj.ofH d' (fun z hz => by
    rcases mem_storedH_key hz with ⟨y, hy, z1, z2⟩ | ⟨z1, z2⟩
    · obtain ⟨d, w1, w2, _⟩ := rp'.mem y hy
      exact ⟨d, keyB_nk w1, by rw [z1, w2]⟩
    · exact ⟨dk, keyB_nk kb, z1⟩)
  exact ⟨σ, _, d_write I3 (by rw [e]; exact True.intro) sb ⟨o', h1⟩ (ob_new h1), q o' r rv h2⟩
def sPut (i : Nat) (tk tv : TD) : TSD := fun D r => tv r fun v => oDct i (fun kvs => tk r fun k => keyB k = true ∧ kvs.length < sizeLine ∧ D.nx (r.set i (some (.m (.dct (putD kvs k v)))))) r
theorem psd_put (i : Nat) {x : Str} {k v : Expr} {p pos' : Pos} {tk tv : TD} (hu : X.A.units + 64 < cLine) (hk : PD X C k tk) (hv : PD X C v tv) (hN : X.N[i]? = some x) (hvis : Vis X.env.scope x) (hd' : (x == ("__debug__" : Str)) = false) (hcd : (x == ("__classdict__" : Str)) = false)
    (hs : swapsWith v (some (.Subscript (.Name x p) k pos')) pos.line X.env = pure false) : PSD X C (.Assign [.Subscript (.Name x p) k pos'] v pos) (sPut i tk tv) :=
  PS_imp (ps_putN hu (pe_var hN hvis hd' hcd) hk hv hs) fun D σ H ⟨r, D', R, q, kn, _⟩ => by
    refine ⟨r, _, R, q, fun vv H1 dv g1 rp1 q1 => ?_⟩
    have R1 := R.grow g1
    obtain ⟨a, kvs, ea, q1⟩ := oDct_get q1
    obtain ⟨va, e2, rfl, _⟩ := R1.slot i _ ea
    refine ⟨_, e2, r, _, R1, q1, fun vk H2 dk g2 rp2 q2 => ?_⟩
    obtain ⟨kb, hlt, qn⟩ := q2
    have R2 := R1.grow g2
    obtain ⟨va', e3, e4, m⟩ := R2.slot i _ ea
    obtain ⟨o, xs, m1, m2, m3, m4, m5⟩ := m
    obtain ⟨b, rfl⟩ := keyB_ref kb rp2
    refine ⟨C.O ++ oA r, a, b, o, xs, kvs, dk, rfl, rfl, m1, m2, m4, m5, kb, rp2.up (hd_same _ _), fun o' u ru od' => ?_⟩
    have rp1' := rp1.up (g2.hd R1)
    have st : (storedH xs (nkey dk) b u).length ≤ sizeLine := by
      have h1 := storedH_length xs (nkey dk) b u
      have h2 := m5.length
      omega
    have nw : Same (hd H2 (C.O ++ oA r)) (hd (upd H2 a (OB a o')) (C.O ++ oA r)) := fun c w z => by
      obtain ⟨z1, z2⟩ := hd_some z
      have ne : c ≠ a := fun zz => z1 (by rw [zz]; exact List.mem_append_right _ (mem_oA.mpr ⟨i, _, ea⟩))
      rw [hd_out z1, upd_ne ne]
      exact z2
    refine kn _ _ _ (R2.change ea (by intro z; cases z) (by intro z; cases z) (o' := .dct (putD kvs dk dv)) ⟨o', _, upd_same, od', m3, st, ((m5.put kb rp2 ru rp1').up nw)⟩) ?_
    rw [er_set]
    exact qn
/-! list(d), sorted(d) of one's own dict -/
def upCO (ok : List PyData → Prop) (f : List PyData → List PyData) : List V → Hp → VK → Prop := fun vs H Q => ∃ (O : List Addr) (a : Addr) (o : Obj) (xs : List (NestedKey × Addr × Value)) (kvs : List (PyData × PyData)) (Q' : List PyData → Prop), vs = [.ref a] ∧ H a = some (OB a o) ∧ DictObj o xs ∧ (a == sysModules) = false ∧ xs.length ≤ sizeLine ∧ RpD (hd H O) xs kvs ∧
  ok (kvs.map (·.1)) ∧ Q' (f (kvs.map (·.1))) ∧ ∀ a H' ws xs, Same H H' → H a = none → H' a = some (.lst ws) → ws.length ≤ sizeLine → RpA (hd H' (a :: O)) ws xs → Q' xs → Q (.ref a) H'
theorem cr_listO (hc : X.calm = true) : CallR X (.type "list") (upCO (fun _ => True) id) := by
  intro pins s σ H vs us Q I rv w
  obtain ⟨O, a, o, xs, kvs, Q', rfl, ha, od, sy, hl, hr, _, q, k⟩ := w
  obtain ⟨u, eu, rx⟩ := vals1 rv
  subst eu
  cases rx
  have e1 : s.heap.get? a = some o := (I.hok _ _ ha).1
  obtain ⟨es, ep, hraw, hod, he⟩ := od.raw X.w e1
  have hsz : es.size = xs.length := by rw [← Array.length_toList, he, List.length_map]
  refine PySem.W.kdl_call (PySem.KdlSrc.rawDict (prog := X.prog) (w := X.w) (es := es) (ep := ep) sy) (I.ok.hd hc) hraw (by rw [hsz]; exact hl) fun h' tk acc c' hk' hg hacc => ?_
  have ea := items_keys he hacc
  have np := I.hok.fresh (Nat.le_refl s.heap.objs.size)
  have lw : (xs.map fun x => V.ref x.2.1).length ≤ sizeLine := by rw [List.length_map]; exact hl
  refine ⟨.ref s.heap.objs.size, _, I.laid (a := s.heap.objs.size) (o := .lst (xs.map fun x => V.ref x.2.1)) (t' := tk) hk' (Nat.le_refl _) ⟨lw, acc.toList, c', ?_, by simpa using hg⟩, rfl, k _ _ _ _ (same_new np) np upd_same lw (hr.keys.up (new_in np)) q⟩
  rw [ea]
  exact vals_refs xs
theorem cr_sortedO (hc : X.calm = true) (hu : X.A.units + 64 < cLine) : CallR X (.builtin "sorted") (upCO SortOk sortD) := by
  intro pins s σ H vs us Q I rv w
  obtain ⟨O, a, o, xs, kvs, Q', rfl, ha, od, sy, hl, hr, ok, q, k⟩ := w
  obtain ⟨u, eu, rx⟩ := vals1 rv
  subst eu
  cases rx
  have e1 : s.heap.get? a = some o := (I.hok _ _ ha).1
  obtain ⟨es, ep, hraw, hod, he⟩ := od.raw X.w e1
  have hsz : es.size = xs.length := by rw [← Array.length_toList, he, List.length_map]
  have rk := hr.keys
  have ln := rk.length
  have lx : (xs.map fun x => V.ref x.2.1).length = xs.length := List.length_map _
  have e2 : ((xs.map fun x => V.ref x.2.1).zip (kvs.map (·.1))).map (·.2) = kvs.map (·.1) := List.map_snd_zip (by omega)
  refine sorted_coll (G := fun its ps => its = (xs.map fun x => Value.ref x.2.1) ∧ ps = (xs.map fun x => V.ref x.2.1).zip (kvs.map (·.1))) (fun R E' hR => ?_) (fun its ps g => ?_) hu fun its ps out h' h'' tk n g hlo hee k1 k2 e => ?_
  · refine PySem.W.kdu_collect (A := X.A.in1) (PySem.KdlSrc.rawDict (prog := X.prog) (w := X.w) (es := es) (ep := ep) sy) (I.ok.hd hc) hraw (by rw [hsz]; exact hl) fun h' tk acc hk' hacc => ?_
    exact hR h' tk _ _ hk' ⟨items_keys he hacc, rfl⟩
  · obtain ⟨rfl, rfl⟩ := g
    exact ⟨each_pairs rk (vals_refs xs), rpa_each I (rk.up (hd_same _ _)) (vals_refs xs), by rw [e2]; exact ok, by rw [List.length_zip]; omega⟩
  · obtain ⟨rfl, rfl⟩ := g
    exact sorted_out I rk (by omega) hee k1 k2 e k q
def fKeysO (i : Nat) : TAD := fun r Q => oDct i (fun kvs => Q (kvs.map (·.1))) r
def fSortO (i : Nat) : TAD := fun r Q => oDct i (fun kvs => SortOk (kvs.map (·.1)) ∧ Q (sortD (kvs.map (·.1)))) r
theorem pf_keysO (i : Nat) {x : Str} {p p2 : Pos} (hc : X.calm = true) (hm : X.mg "list" = none) (hg : Gl X "list") (hN : X.N[i]? = some x) (hvis : Vis X.env.scope x) (hd' : (x == ("__debug__" : Str)) = false) (hcd : (x == ("__classdict__" : Str)) = false) : PF X C (.Call (.Name "list" p) [.Name x p2] [] pos) (fKeysO i) :=
  PE_imp (pe_callTy (cr_listO hc) hg hm (by decide +kernel) (pa_cons (pe_var hN hvis hd' hcd) pa_nil rfl) (by decide) (by decide) rfl rfl) fun σ H Q ⟨r, Q', R, q, k⟩ => by
    obtain ⟨a, kvs, ea, q⟩ := oDct_get q
    obtain ⟨va, e2, rfl, o, xs, m1, m2, m3, m4, m5⟩ := R.slot i _ ea
    exact ⟨_, e2, C.O ++ oA r, a, o, xs, kvs, Q', rfl, m1, m2, m3, m4, m5, True.intro, q, fun b H' ws ys sm na eb l rp qz => k b H' ws ys (Gr.of_same R sm) na eb l rp qz⟩
theorem pf_sortO (i : Nat) {x : Str} {p p2 : Pos} (hc : X.calm = true) (hu : X.A.units + 64 < cLine) (hm : X.mg "sorted" = none) (hg : Gl X "sorted") (hN : X.N[i]? = some x) (hvis : Vis X.env.scope x) (hd' : (x == ("__debug__" : Str)) = false) (hcd : (x == ("__classdict__" : Str)) = false) : PF X C (.Call (.Name "sorted" p) [.Name x p2] [] pos) (fSortO i) :=
  PE_imp (pe_callB (cr_sortedO hc hu) hg hm (by decide +kernel) (pa_cons (pe_var hN hvis hd' hcd) pa_nil rfl) (by decide) (by decide) rfl rfl) fun σ H Q ⟨r, Q', R, q, k⟩ => by
    obtain ⟨a, kvs, ea, ok, q⟩ := oDct_get q
    obtain ⟨va, e2, rfl, o, xs, m1, m2, m3, m4, m5⟩ := R.slot i _ ea
    exact ⟨_, e2, C.O ++ oA r, a, o, xs, kvs, Q', rfl, m1, m2, m3, m4, m5, ok, q, fun b H' ws ys sm na eb l rp qz => k b H' ws ys (Gr.of_same R sm) na eb l rp qz⟩
end
end DP

end
section
set_option Elab.async false
set_option linter.all false
set_option maxRecDepth 100000
set_option autoImplicit false
set_option maxHeartbeats 4000000
namespace DP
open PySem PySem.Spec PyProof.Rows L2
/-! ### x.update(e), x a dict of one's own -/
mutual
/-- the hash of a key -/
def hashK : PyData → Int
  | .int i => hashInt i
  | .tuple ds => reduceHash (Builtin.Tuple.tupleHashOf (hashKs ds))
  | _ => 0
def hashKs : List PyData → List Int
  | [] => []
  | d :: ds => hashK d :: hashKs ds
end
mutual
theorem hashK_ok (w : World) : ∀ d, nkB d = true → (nkey d).hash w = hashK d
  | .int i, _ => by rw [nkey, NestedKey.hash, hashK]
  | .tuple ds, h => by
    rw [nkB] at h
    rw [nkey, NestedKey.hash, hashK, hashKs_ok w ds h]
  | .none, h => by simp [nkB] at h
  | .bool _, h => by simp [nkB] at h
  | .str _, h => by simp [nkB] at h
  | .list _, h => by simp [nkB] at h
  | .dict _, h => by simp [nkB] at h
theorem hashKs_ok (w : World) : ∀ ds, nkBs ds = true → NestedKey.hashes w (nkeys ds) = hashKs ds
  | [], _ => by rw [nkeys, NestedKey.hashes, hashKs]
  | d :: ds, h => by
    rw [nkBs, Bool.and_eq_true] at h
    rw [nkeys, NestedKey.hashes, hashKs, hashK_ok w d h.1, hashKs_ok w ds h.2]
end
theorem RpD.hashes {H : Hp} (w : World) : ∀ {xs : List (NestedKey × Addr × Value)} {kvs : List (PyData × PyData)}, RpD H xs kvs → xs.map (fun x => x.1.hash w) = kvs.map fun q => hashK q.1
  | _, _, .nil => rfl
  | _, _, .cons a _ _ _ t => by
    rw [List.map_cons, List.map_cons, RpD.hashes w t, hashK_ok w _ (keyB_nk a)]
section
variable {X : Cx} {C : Cfg} {e o : Expr} {pos : Pos}
theorem key_tuple {pins : List (Addr × Obj)} {σ : L2.St} {H : Hp} {s : Shared} (I : Inv X pins σ H s) {d : PyData} {b : Addr} (hk : keyB d = true) (h : Rp H (.ref b) d) : s.TypeIs (.ref b) "tuple" := by
  cases h with
  | tup h1 h2 h3 =>
    obtain ⟨its, _, _, ⟨q, h1, h2, _⟩⟩ := tupR I h1
    exact ⟨q, h1, h2⟩
  | lst => cases hk
  | dct => cases hk
  | dct1 => cases hk
  | dctN => cases hk
/-- what is wanted of the dict and of what is put to it -/
def bUpd (x y : V) (H2 : Hp) (Q : VK) : Prop := ∃ (O : List Addr) (a : Addr) (o : Obj) (xs : List (NestedKey × Addr × Value)) (kvs more : List (PyData × PyData)), x = .ref a ∧ a ∈ O ∧ H2 a = some (OB a o) ∧ DictObj o xs ∧ RpD (hd H2 O) xs kvs ∧
  Rp (hd H2 O) y (.dict more) ∧ (more.all fun q => keyB q.1) = true ∧ (xs ≠ [] ∨ (more.map fun q => hashK q.1).Nodup) ∧ xs.length + more.length ≤ sizeLine ∧
    ∀ o' ys, DictObj o' (storedAllH xs ys) → RpD (hd H2 O) ys more → Q .non (upd H2 a (OB a o'))
def tUpd (to te : TE) : TE := fun σ H Q => to σ H fun x H1 => (∃ a o xs, x = .ref a ∧ H1 a = some (OB a o) ∧ DictObj o xs) ∧ te σ H1 fun y H2 => bUpd x y H2 Q
theorem pe_dupd {to te : TE} {apos cpos : Pos} (hu : X.A.units + 64 < cLine) (ho : PE X o to) (he : PE X e te) (m : M1 X o "update" apos e cpos) : PE X (.Call (.Attribute o "update" apos) [e] [] cpos) (tUpd to te) := by
  refine ⟨fun pins s σ H Q I h => ?_⟩
  refine wpAny_Call_method m.base m.few m.line F.plainAttrs_dict F.slot_dict_update F.type_dict_update (thn (ho.run pins s σ H _ I h) fun u s1 ⟨x, H1, I1, rx, ⟨a, ob, xs0, ex, h1, h2⟩, q1⟩ => ?_)
  subst ex
  obtain rfl : u = Value.ref a := rx
  have g1 : s1.heap.get? a = some ob := (I1.hok _ _ h1).1
  refine ⟨⟨ob, g1, h2.1.1⟩, fun b q => ?_, ?_⟩
  · cases q
    exact ⟨ob, g1, h2.1.2.1⟩
  rw [m.trees]
  refine Calls.callWith_builtin rfl (Calls.evalArgs_plain (Calls.spliced_cons (thn (he.run pins s1 σ H1 _ I1 q1) fun iv s2 ⟨y, H2, I2, ry, q2⟩ => Calls.spliced_nil ?_)))
  obtain ⟨O, a', o1, xs, kvs, more, ea, aO, e1, od, rp, rq, hk, hap, hsz, q⟩ := q2
  cases ea
  have f1 : s2.heap.get? a = some o1 := (I2.hok _ _ e1).1
  have rp' := rp.up (hd_same _ _)
  obtain ⟨b, o2, ys, ey, f2, od2, sy, _, rpy⟩ := dict_at I2 (hd_same _ _) rq hk
  subst ey
  obtain rfl : iv = Value.ref b := ry
  have ab : a ≠ b := fun z => by
    subst z
    cases rq with
    | dct z => rw [hd_in aO] at z; cases z
    | dctN z => rw [hd_in aO] at z; cases z
    | dct1 i j z => rw [hd_in aO] at z; cases z
  have rpy' := rpy.up (hd_same _ _)
  have ln := rpy.length
  refine call_update_dictH (knd := nestedKind X.prog X.w) (room8 hu) ab sy (dict_toH I2 f1 od rp') (dict_toH I2 f2 od2 rpy') ?_ (by omega) fun h' d' _ sb => ?_
  · rcases hap with z | z
    · exact .inl z
    · refine .inr ⟨fun x hx => ?_, ?_⟩
      · obtain ⟨d, w1, _, w3⟩ := rpy'.mem x hx
        exact key_tuple I2 w1 w3
      · have := RpD.hashes X.w rpy
        rw [← this] at z
        exact z
  · have hr2 : RpD (hd H2 O) (storedAllH xs ys) (mergeD kvs more) := RpD.merge rpy rp
    obtain ⟨o', ho2, od'⟩ := DictObj.ofH d' (fun x hx => by
      obtain ⟨d, q1, q2, _⟩ := hr2.mem x hx
      exact ⟨d, keyB_nk q1, q2⟩)
    exact ⟨.non, _, d_write I2 (by rw [e1]; exact True.intro) sb ⟨o', ho2⟩ (ob_new ho2), rfl, q o' ys od' rpy⟩
def sUpd (i : Nat) (te : TD) : TSD := fun D r => oDct i (fun kvs => te r fun y => match y with
  | .dict more => (more.all fun q => keyB q.1) = true ∧ (kvs ≠ [] ∨ (more.map fun q => hashK q.1).Nodup) ∧ kvs.length + more.length ≤ sizeLine ∧ D.nx (r.set i (some (.m (.dct (mergeD kvs more)))))
  | _ => False) r
theorem psd_upd (i : Nat) {x : Str} {te : TD} {p apos cpos : Pos} (hu : X.A.units + 64 < cLine) (he : PD X C e te) (hN : X.N[i]? = some x) (hv : Vis X.env.scope x) (hd' : (x == ("__debug__" : Str)) = false) (hcd : (x == ("__classdict__" : Str)) = false)
    (m : M1 X (.Name x p) "update" apos e cpos) (hs : swapsWith (.Call (.Attribute (.Name x p) "update" apos) [e] [] cpos) none pos.line X.env = pure false := by rfl) : PSD X C (.Expr (.Call (.Attribute (.Name x p) "update" apos) [e] [] cpos) pos) (sUpd i te) :=
  PS_imp (ps_expr (pe_dupd hu (pe_var hN hv hd' hcd) he m) hs) fun D σ H ⟨r, D', R, w, k⟩ => by
  obtain ⟨a, kvs, e1, q⟩ := oDct_get w
  obtain ⟨v, e2, rfl, o, xs, m1, m2, m3, m4, m5⟩ := R.slot i _ e1
  have ns : ∀ ys, MO.dct ys ≠ .st := fun ys z => by cases z
  refine ⟨_, e2, ⟨a, o, xs, rfl, m1, m2⟩, r, _, R, q, fun w H' y g rp qy => ?_⟩
  cases y with
  | dict more =>
    obtain ⟨hk, hap, hl, qy⟩ := qy
    have R' := R.grow g
    obtain ⟨v', e3, e4, o', xs', n1, n2, n3, n4, n5⟩ := R'.slot i _ e1
    have aO : a ∈ C.O ++ oA r := List.mem_append_right _ (mem_oA.mpr ⟨i, _, e1⟩)
    have ln := n5.length
    refine ⟨C.O ++ oA r, a, o', xs', kvs, more, rfl, aO, n1, n2, n5, rp, hk, ?_, by omega, fun o2 ys od hy => ?_⟩
    · rcases hap with z | z
      · exact .inl fun z2 => z (by
          rw [z2] at ln
          exact List.length_eq_zero_iff.mp ln.symm)
      · exact .inr z
    · have hm := RpD.merge hy n5
      have lm := hm.length
      have lm2 := mergeD_len more kvs
      refine k.1 σ _ _ (R'.change e1 (ns _) (ns (mergeD kvs more)) ⟨o2, _, upd_same, od, n3, by omega, hm.up fun b oo z => ?_⟩) (by rw [er_set]; exact qy)
      obtain ⟨z1, z2⟩ := hd_some z
      have na : b ≠ a := fun q => z1 (by rw [q]; exact aO)
      rw [hd_out z1, upd_ne na]
      exact z2
  | _ => exact (show False from qy).elim
/-! ### len(d) -/
theorem cd_lenD : CallD X (.builtin "len") (fun xs Q => ∃ kvs, xs = [.dict kvs] ∧ (kvs.all fun q => keyB q.1) = true ∧ Q (.int kvs.length)) := by
  intro pins s σ H vs us Q I rv w
  obtain ⟨O, ds, Q', dm, rp, ⟨kvs, rfl, hk, q⟩, k⟩ := w
  obtain ⟨v, rfl, hv⟩ := rpa1 rp
  obtain ⟨u, rfl, rx⟩ := vals1 rv
  obtain ⟨a, o, xs, rfl, f, od, sy, hl, hr⟩ := dict_at I (hd_same _ _) hv hk
  cases rx
  have ln := hr.length
  refine call_len_dictH (knd := nestedKind X.prog X.w) sy (dict_toH I f od (hr.up (hd_same _ _))) (by rw [sizeLine_eq] at hl; omega) ?_
  rw [ln]
  exact ⟨.int ((kvs.length : Nat) : Int), H, I.tok _, ⟨_, rfl⟩, k _ H _ (Same.refl H) (.int _) q⟩
end
end DP

end
section
set_option Elab.async false
set_option linter.all false
set_option maxRecDepth 100000
set_option autoImplicit false
set_option maxHeartbeats 4000000
namespace DP
open PySem PySem.Spec PyProof.Rows L2
/-! ### operators and built-ins by their kinds of arguments -/
theorem OpD.or {X : Cx} {f : Value → Value → Sem Value} {r r1 r2 : R2D} (h1 : OpD X f r1) (h2 : OpD X f r2) (q : ∀ x y Q, r x y Q → r1 x y Q ∨ r2 x y Q) : OpD X f r := fun pins s σ H x y v u Q I rx ry w => by
  obtain ⟨O, dx, dy, Q', dm, hx, hy, w, k⟩ := w
  rcases q _ _ _ w with w | w
  · exact h1 pins s σ H x y v u Q I rx ry ⟨O, dx, dy, Q', dm, hx, hy, w, k⟩
  · exact h2 pins s σ H x y v u Q I rx ry ⟨O, dx, dy, Q', dm, hx, hy, w, k⟩
theorem OpD.imp {X : Cx} {f : Value → Value → Sem Value} {r r' : R2D} (h : OpD X f r) (q : ∀ x y Q, r' x y Q → r x y Q) : OpD X f r' := fun pins s σ H x y v u Q I rx ry w => by
  obtain ⟨O, dx, dy, Q', dm, hx, hy, hr, k⟩ := w
  exact h pins s σ H x y v u Q I rx ry ⟨O, dx, dy, Q', dm, hx, hy, q _ _ _ hr, k⟩
theorem CallD.imp {X : Cx} {f : Value} {r r' : RC} (h : CallD X f r) (q : ∀ x Q, r' x Q → r x Q) : CallD X f r' := fun pins s σ H vs us Q I rv w => by
  obtain ⟨O, ds, Q', dm, hx, hr, k⟩ := w
  exact h pins s σ H vs us Q I rv ⟨O, ds, Q', dm, hx, q _ _ hr, k⟩
theorem CallD.or {X : Cx} {f : Value} {r r1 r2 : RC} (h1 : CallD X f r1) (h2 : CallD X f r2) (q : ∀ xs Q, r xs Q → r1 xs Q ∨ r2 xs Q) : CallD X f r := fun pins s σ H vs us Q I rv w => by
  obtain ⟨O, ds, Q', dm, rp, w, k⟩ := w
  rcases q _ _ w with w | w
  · exact h1 pins s σ H vs us Q I rv ⟨O, ds, Q', dm, rp, w, k⟩
  · exact h2 pins s σ H vs us Q I rv ⟨O, ds, Q', dm, rp, w, k⟩
theorem CallF.imp {X : Cx} {f : Value} {r r' : RF} (h : CallF X f r) (q : ∀ x Q, r' x Q → r x Q) : CallF X f r' := fun pins s σ H vs us Q I rv w => by
  obtain ⟨O, ds, Q', dm, hx, hr, k⟩ := w
  exact h pins s σ H vs us Q I rv ⟨O, ds, Q', dm, hx, q _ _ hr, k⟩
def subW : R2D
  | .int i, .int j, Q => Q (.int (i - j))
  | _, _, _ => False
def modW : R2D
  | .int i, .int j, Q => 0 < j ∧ Q (.int (i % j))
  | _, _, _ => False
def fdivW : R2D
  | .int i, .int j, Q => CDivW i j ∧ Q (.int (i / j))
  | _, _, _ => False
def powW : R2D
  | .int i, .int j, Q => (0 ≤ j ∧ j ≤ 1000000 ∧ i.natAbs < 2 ^ 64) ∧ Q (.int (i ^ j.toNat))
  | _, _, _ => False
def binW : Operator → R2D
  | .Add => rAdd
  | .Sub => subW
  | .Mult => rMul
  | .Mod => modW
  | .FloorDiv => fdivW
  | .Pow => powW
  | _ => fun _ _ _ => False
theorem int2 {r : Int → Int → (PyData → Prop) → Prop} {x y : PyData} {Q : PyData → Prop} {f : R2D} (hf : ∀ i j, f (.int i) (.int j) Q = r i j Q) (hn : ∀ x y, (∀ i, x ≠ .int i) ∨ (∀ j, y ≠ .int j) → f x y Q = False) (h : f x y Q) : ∃ i j, x = .int i ∧ y = .int j ∧ r i j Q := by
  by_cases hx : ∃ i, x = .int i
  · by_cases hy : ∃ j, y = .int j
    · obtain ⟨i, rfl⟩ := hx
      obtain ⟨j, rfl⟩ := hy
      rw [hf] at h
      exact ⟨i, j, rfl, rfl, h⟩
    · rw [hn _ _ (.inr fun j e => hy ⟨j, e⟩)] at h; exact h.elim
  · rw [hn _ _ (.inl fun j e => hx ⟨j, e⟩)] at h; exact h.elim
theorem bin_ok {X : Cx} (o : Operator) (h : o = .Add ∨ o = .Sub ∨ o = .Mult ∨ o = .Mod ∨ o = .FloorDiv ∨ o = .Pow) : OpD X (binaryOp o) (binW o) := by
  rcases h with rfl | rfl | rfl | rfl | rfl | rfl
  · exact opd_add
  · refine opd_sub.imp fun x y Q h => ?_
    have h : subW x y Q := h
    unfold subW at h
    split at h
    · exact ⟨_, _, rfl, rfl, trivial, h⟩
    · exact h.elim
  · exact opd_mul
  · refine opd_mod.imp fun x y Q h => ?_
    have h : modW x y Q := h
    unfold modW at h
    split at h
    · exact ⟨_, _, rfl, rfl, h.1, h.2⟩
    · exact h.elim
  · refine opd_fdivW.imp fun x y Q h => ?_
    have h : fdivW x y Q := h
    unfold fdivW at h
    split at h
    · exact ⟨_, _, rfl, rfl, h.1, h.2⟩
    · exact h.elim
  · refine opd_pow.imp fun x y Q h => ?_
    have h : powW x y Q := h
    unfold powW at h
    split at h
    · exact ⟨_, _, rfl, rfl, h.1, h.2⟩
    · exact h.elim
def ltW : R2D
  | .int i, .int j, Q => Q (.bool (decide (i < j)))
  | x, y, Q => rOrd (fun x y => PySem.W.dataLt x y) x y Q
def leW : R2D
  | .int i, .int j, Q => Q (.bool (decide (i ≤ j)))
  | x, y, Q => rOrd (fun x y => !PySem.W.dataLt y x) x y Q
def gtW : R2D
  | .int i, .int j, Q => Q (.bool (decide (j < i)))
  | x, y, Q => rOrd (fun x y => PySem.W.dataLt y x) x y Q
def geW : R2D
  | .int i, .int j, Q => Q (.bool (decide (j ≤ i)))
  | x, y, Q => rOrd (fun x y => !PySem.W.dataLt x y) x y Q
def eqW : R2D
  | .int i, .int j, Q => Q (.bool (decide (i = j)))
  | x, y, Q => rEqq x y Q
def neW : R2D
  | .int i, .int j, Q => Q (.bool (!decide (i = j)))
  | x, y, Q => rNeq x y Q
def inW (neg : Bool) : R2D
  | x, .list xs, Q => dOk x = true ∧ PyData.plainAll xs = true ∧ Q (.bool (if neg = true then !inD x xs else inD x xs))
  | x, .tuple xs, Q => dOk x = true ∧ PyData.plainAll xs = true ∧ Q (.bool (if neg = true then !inD x xs else inD x xs))
  | x, .dict kvs, Q => keyB x = true ∧ (kvs.all fun p => keyB p.1) = true ∧ Q (.bool (if neg = true then !hasD kvs x else hasD kvs x))
  | _, _, _ => False
def isW (neg : Bool) : R2D := fun x y Q => match isV x y with
  | some k => Q (.bool (if neg = true then !k else k))
  | none => False
def cmpW : CmpOp → R2D
  | .Lt => ltW
  | .LtE => leW
  | .Gt => gtW
  | .GtE => geW
  | .Eq => eqW
  | .NotEq => neW
  | .In => inW false
  | .NotIn => inW true
  | .Is => isW false
  | .IsNot => isW true
theorem ordInt {g : PyData → PyData → Bool} {i j : Int} {b : Bool} {Q : PyData → Prop} (e : g (.int i) (.int j) = b) (h : Q (.bool b)) : rOrd g (.int i) (.int j) Q := ⟨by simp [PySem.W.alike], by simp, by simp [PyData.depth], by rw [e]; exact h⟩
theorem not_lt_le (i j : Int) : (!decide (i < j)) = decide (j ≤ i) := by
  by_cases h : i < j
  · rw [decide_eq_true h, decide_eq_false (by omega)]; rfl
  · rw [decide_eq_false h, decide_eq_true (by omega)]; rfl
theorem cmp_ok {X : Cx} (hu : X.A.units + 64 < cLine) (o : CmpOp) : OpD X (compareOp o) (cmpW o) := by
  cases o with
  | Lt =>
    refine (opd_lt hu).imp fun x y Q h => ?_
    have h : ltW x y Q := h
    unfold ltW at h
    split at h
    · exact ordInt (PySem.W.dataLt_int _ _) h
    · exact h
  | LtE =>
    refine (opd_le hu).imp fun x y Q h => ?_
    have h : leW x y Q := h
    unfold leW at h
    split at h
    · exact ordInt (by rw [PySem.W.dataLt_int, not_lt_le]) h
    · exact h
  | Gt =>
    refine (opd_gt hu).imp fun x y Q h => ?_
    have h : gtW x y Q := h
    unfold gtW at h
    split at h
    · exact ordInt (PySem.W.dataLt_int _ _) h
    · exact h
  | GtE =>
    refine (opd_ge hu).imp fun x y Q h => ?_
    have h : geW x y Q := h
    unfold geW at h
    split at h
    · exact ordInt (by rw [PySem.W.dataLt_int, not_lt_le]) h
    · exact h
  | Eq =>
    refine (opd_eq hu).imp fun x y Q h => ?_
    have h : eqW x y Q := h
    unfold eqW at h
    split at h
    · refine ⟨rfl, rfl, ?_⟩
      have e : ∀ i j : Int, PyData.eqv (.int i) (.int j) = decide (i = j) := fun i j => by
        rw [PyData.eqv]
        by_cases h : i = j
        · subst h; simp
        · simp [h]
      rw [e]
      exact h
    · exact h
  | NotEq =>
    refine (opd_ne hu).imp fun x y Q h => ?_
    have h : neW x y Q := h
    unfold neW at h
    split at h
    · refine ⟨rfl, rfl, ?_⟩
      have e : ∀ i j : Int, PyData.eqv (.int i) (.int j) = decide (i = j) := fun i j => by
        rw [PyData.eqv]
        by_cases h : i = j
        · subst h; simp
        · simp [h]
      rw [e]
      exact h
    · exact h
  | In =>
    refine OpD.or (opd_in hu) (opd_inD hu) fun x y Q h => ?_
    have h : inW false x y Q := h
    unfold inW at h
    split at h
    · exact .inl ⟨h.1, _, .inl rfl, h.2.1, h.2.2⟩
    · exact .inl ⟨h.1, _, .inr rfl, h.2.1, h.2.2⟩
    · exact .inr ⟨_, rfl, h.1, h.2.1, h.2.2⟩
    · exact h.elim
  | NotIn =>
    refine OpD.or (opd_notIn hu) (opd_notInD hu) fun x y Q h => ?_
    have h : inW true x y Q := h
    unfold inW at h
    split at h
    · exact .inl ⟨h.1, _, .inl rfl, h.2.1, h.2.2⟩
    · exact .inl ⟨h.1, _, .inr rfl, h.2.1, h.2.2⟩
    · exact .inr ⟨_, rfl, h.1, h.2.1, h.2.2⟩
    · exact h.elim
  | Is =>
    refine opd_is.imp fun x y Q h => ?_
    have h : isW false x y Q := h
    unfold isW at h
    split at h
    · exact ⟨_, by assumption, h⟩
    · exact h.elim
  | IsNot =>
    refine opd_isnot.imp fun x y Q h => ?_
    have h : isW true x y Q := h
    unfold isW at h
    split at h
    · exact ⟨_, by assumption, h⟩
    · exact h.elim
/-! built-ins -/
inductive BI where
  | len | tuple | all | any | sum | int | max | min
  deriving DecidableEq
def BI.name : BI → Str
  | .len => "len"
  | .tuple => "tuple"
  | .all => "all"
  | .any => "any"
  | .sum => "sum"
  | .int => "int"
  | .max => "max"
  | .min => "min"
def intsOf : List PyData → Option (List Int)
  | [] => some []
  | .int i :: xs => (intsOf xs).map (i :: ·)
  | _ :: _ => none
theorem intsOf_eq : ∀ {xs : List PyData} {ns : List Int}, intsOf xs = some ns → xs = ns.map PyData.int
  | [], ns, h => by cases h; rfl
  | x :: xs, ns, h => by
    cases x with
    | int i =>
      unfold intsOf at h
      cases q : intsOf xs with
      | none => rw [q] at h; cases h
      | some ms =>
        rw [q] at h
        cases h
        rw [List.map_cons, ← intsOf_eq q]
    | _ => cases h
def fits (y : PyData) : Bool := match y with
  | .str x => Nat.blt x.length 9223372036854775808
  | .list xs => Nat.blt xs.length 9223372036854775808
  | .tuple xs => Nat.blt xs.length 9223372036854775808
  | _ => true
theorem blt63 {n : Nat} (h : Nat.blt n 9223372036854775808 = true) : (n : Int) < 2 ^ 63 := by
  have h1 : n < 9223372036854775808 := by
    rw [Nat.blt_eq] at h
    exact h
  omega
theorem fits_ok {y : PyData} (h : fits y = true) : y.fits63 := by
  cases y with
  | str x => exact blt63 h
  | list x => exact blt63 h
  | tuple x => exact blt63 h
  | _ => trivial
def truW (f : List PyData → Bool) (ys : List PyData) (Q : PyData → Prop) : Prop := PyData.plainAll ys = true ∧ ys.all fits = true ∧ Q (.bool (f ys))
def biW : BI → RC
  | .len, [.dict kvs], Q => (kvs.all fun q => keyB q.1) = true ∧ Q (.int kvs.length)
  | .len, [d], Q => (match lenD d with
    | some n => Q (.int n)
    | none => False)
  | .tuple, [.list ys], Q => Q (.tuple ys)
  | .tuple, [.tuple ys], Q => Q (.tuple ys)
  | .all, [.list ys], Q => truW (fun ys => ys.all PyData.truthy) ys Q
  | .all, [.tuple ys], Q => truW (fun ys => ys.all PyData.truthy) ys Q
  | .any, [.list ys], Q => truW (fun ys => ys.any PyData.truthy) ys Q
  | .any, [.tuple ys], Q => truW (fun ys => ys.any PyData.truthy) ys Q
  | .sum, [.list ys], Q => (match intsOf ys with
    | some ns => Q (.int ns.sum)
    | none => False)
  | .int, [.int i], Q => Q (.int i)
  | .int, [.bool b], Q => Q (.int (if b = true then 1 else 0))
  | .max, [.int i, .int j], Q => Q (.int (if j > i then j else i))
  | .min, [.int i, .int j], Q => Q (.int (if j < i then j else i))
  | _, _, _ => False
theorem tru_ok {f : List PyData → Bool} {ys : List PyData} {xs : List PyData} {Q : PyData → Prop} (e : xs = [.list ys] ∨ xs = [.tuple ys]) (h : truW f ys Q) : rTruth f xs Q := ⟨ys, e, h.1, fun y hy => fits_ok (List.all_eq_true.mp h.2.1 y hy), h.2.2⟩
theorem bi_ok {X : Cx} {C : Cfg} (hc : X.calm = true) (f : BI) {e : Expr} {es : List Expr} {t : TAD} {p pos : Pos} (hm : X.mg f.name = none) (hg : Gl X f.name) (ha : PDA X C (e :: es) t) (he : starEach (e :: es) X.env = (false, eval e X.env) :: starEach es X.env) (hpl : (backTo pos (starEach es X.env)).any (·.1) = false) :
    PD X C (.Call (.Name f.name p) (e :: es) [] pos) (dCall (biW f) t) := by
  cases f with
  | len =>
    refine pd_callB (bid := "len") (CallD.or cd_len cd_lenD fun xs Q h => ?_) hm (by decide +kernel) ha hg (by decide) (by decide) he hpl
    cases xs with
    | nil => exact h.elim
    | cons d t =>
      cases t with
      | cons _ _ => cases d <;> exact h.elim
      | nil =>
        cases d with
        | dict kvs => exact .inr ⟨kvs, rfl, h.1, h.2⟩
        | list ys => exact .inl ⟨_, _, rfl, rfl, h⟩
        | tuple ys => exact .inl ⟨_, _, rfl, rfl, h⟩
        | str x =>
          have h : (match lenD (.str x) with
            | some n => Q (.int n)
            | none => False) := h
          split at h
          · exact .inl ⟨_, _, rfl, by assumption, h⟩
          · exact h.elim
        | _ => exact h.elim
  | tuple =>
    refine pd_callTy (T := "tuple") (cd_tuple.imp fun xs Q h => ?_) hm (by decide +kernel) ha hg (by decide) (by decide) he hpl
    match xs, h with
    | [.list ys], h => exact ⟨ys, .inl rfl, h⟩
    | [.tuple ys], h => exact ⟨ys, .inr rfl, h⟩
  | all =>
    refine pd_callB (bid := "all") ((cd_all hc).imp fun xs Q h => ?_) hm (by decide +kernel) ha hg (by decide) (by decide) he hpl
    match xs, h with
    | [.list ys], h => exact tru_ok (.inl rfl) h
    | [.tuple ys], h => exact tru_ok (.inr rfl) h
  | any =>
    refine pd_callB (bid := "any") ((cd_any hc).imp fun xs Q h => ?_) hm (by decide +kernel) ha hg (by decide) (by decide) he hpl
    match xs, h with
    | [.list ys], h => exact tru_ok (.inl rfl) h
    | [.tuple ys], h => exact tru_ok (.inr rfl) h
  | sum =>
    refine pd_callB (bid := "sum") ((cd_sum hc).imp fun xs Q h => ?_) hm (by decide +kernel) ha hg (by decide) (by decide) he hpl
    match xs, h with
    | [.list ys], h =>
      have h : (match intsOf ys with
        | some ns => Q (.int ns.sum)
        | none => False) := h
      cases q : intsOf ys with
      | none => rw [q] at h; exact h.elim
      | some ns =>
        rw [q] at h
        exact ⟨ns, by rw [← intsOf_eq q], h⟩
  | int =>
    refine pd_callTy (T := "int") (cd_int.imp fun xs Q h => ?_) hm (by decide +kernel) ha hg (by decide) (by decide) he hpl
    match xs, h with
    | [.int i], h => exact .inl ⟨i, rfl, h⟩
    | [.bool b], h => exact .inr ⟨b, rfl, h⟩
  | max =>
    refine pd_callB (bid := "max") ((cd_max2 hc).imp fun xs Q h => ?_) hm (by decide +kernel) ha hg (by decide) (by decide) he hpl
    match xs, h with
    | [.int i, .int j], h => exact ⟨i, j, rfl, h⟩
  | min =>
    refine pd_callB (bid := "min") ((cd_min2 hc).imp fun xs Q h => ?_) hm (by decide +kernel) ha hg (by decide) (by decide) he hpl
    match xs, h with
    | [.int i, .int j], h => exact ⟨i, j, rfl, h⟩
end DP

end
section
set_option Elab.async false
set_option linter.all false
set_option maxRecDepth 100000
set_option autoImplicit false
set_option maxHeartbeats 4000000
namespace DP
open PySem PySem.Spec PyProof.Rows L2
/-! ### list(range(..)), tuple(range(..)), lists added and repeated, index -/
def int1 (Q : Int → Prop) : PyData → Prop
  | .int i => Q i
  | _ => False
def rgB (a b : Int) : Prop := 0 ≤ a ∧ a ≤ 16777216 ∧ 0 ≤ b ∧ b ≤ 16777216
def fRg1 (t : TD) : TAD := fun r Q => t r (int1 fun n => rgB 0 n ∧ Q (rngD 0 n.toNat))
def fRg2 (t u : TD) : TAD := fun r Q => t r fun x => u r fun y => int1 (fun m => int1 (fun n => rgB m n ∧ Q (rngD m (n - m).toNat)) y) x
theorem rp_ints {H : Hp} (f : Nat → Int) : ∀ l : List Nat, RpA H (l.map fun i => V.int (f i)) (l.map fun i => PyData.int (f i))
  | [] => .nil
  | i :: l => .cons (.int _) (rp_ints f l)
theorem rp_rg {H : Hp} {a b : Int} : RpA H (rgV a b) (rngD a (b - a).toNat) := rp_ints (fun i => a + (i : Int)) _
section
variable {X : Cx} {C : Cfg} {e a b : Expr} {es : List Expr} {pos : Pos} {ta tb : TD}
theorem rgl {m n : Int} (h : rgB m n) : (rgV m n).length ≤ sizeLine := by
  obtain ⟨h1, h2, h3, h4⟩ := h
  rw [rgV_length, sizeLine_eq]
  omega
theorem pf_lrg1 {p p2 pos2 : Pos} (hc : X.calm = true) (hg : Gl X "list") (hm : X.mg "list" = none) (hg2 : Gl X "range") (hm2 : X.mg "range" = none) (ha : PD X C a ta) (sa : starEach [a] X.env = (false, eval a X.env) :: starEach [] X.env) : PF X C (.Call (.Name "list" p) [.Call (.Name "range" p2) [a] [] pos2] [] pos) (fRg1 ta) :=
  PE_imp (pe_listRg hc hg hm (prg_1 hg2 hm2 ha sa)) fun σ H Q ⟨r, Q', R, q, k⟩ => ⟨r, _, R, q, fun v H1 x g rp qx => by
    cases x with
    | int i =>
      obtain ⟨h, qx⟩ := (show rgB 0 i ∧ Q' (rngD 0 i.toNat) from qx)
      refine ⟨i, rp_int rp, RgOk.of_le h.1 h.2.2.2 h.2.1 h.2.2.1, fun p np => ?_⟩
      have e : i.toNat = (i - 0).toNat := by rw [Int.sub_zero]
      rw [e] at qx
      exact k p _ _ _ (g.then_same (same_new np)) (Gr.none R g np) upd_same (rgl h) rp_rg qx
    | _ => exact (show False from qx).elim⟩
theorem pf_lrg2 {p p2 pos2 : Pos} (hc : X.calm = true) (hg : Gl X "list") (hm : X.mg "list" = none) (hg2 : Gl X "range") (hm2 : X.mg "range" = none) (ha : PD X C a ta) (hb : PD X C b tb) (sa : starEach [a, b] X.env = (false, eval a X.env) :: starEach [b] X.env) (sb : starEach [b] X.env = (false, eval b X.env) :: starEach [] X.env) (sp : (backTo pos2 (starEach [b] X.env)).any (·.1) = false) : PF X C (.Call (.Name "list" p) [.Call (.Name "range" p2) [a, b] [] pos2] [] pos) (fRg2 ta tb) :=
  PE_imp (pe_listRg hc hg hm (prg_2 hg2 hm2 ha hb sa sb sp)) fun σ H Q ⟨r, Q', R, q, k⟩ => ⟨r, _, R, q, fun v H1 x g rp qx => ⟨r, _, R.grow g, qx, fun w H2 y g2 rp2 qy => by
    cases x with
    | int m =>
      cases y with
      | int n =>
        obtain ⟨h, qx⟩ := (show rgB m n ∧ Q' (rngD m (n - m).toNat) from qy)
        exact ⟨m, n, rp_int rp, rp_int rp2, RgOk.of_le h.1 h.2.2.2 h.2.1 h.2.2.1, fun p np => k p _ _ _ ((g.trans g2).then_same (same_new np)) (Gr.none R (g.trans g2) np) upd_same (rgl h) rp_rg qx⟩
      | _ => exact (show False from qy).elim
    | _ => exact (show False from qy).elim⟩⟩
def dTupL (t : TAD) : TD := fun r Q => t r fun xs => Q (.tuple xs)
theorem pd_trg1 {p p2 pos2 : Pos} (hc : X.calm = true) (hg : Gl X "tuple") (hm : X.mg "tuple" = none) (hg2 : Gl X "range") (hm2 : X.mg "range" = none) (ha : PD X C a ta) (sa : starEach [a] X.env = (false, eval a X.env) :: starEach [] X.env) : PD X C (.Call (.Name "tuple" p) [.Call (.Name "range" p2) [a] [] pos2] [] pos) (dTupL (fRg1 ta)) :=
  PE_imp (pe_tupRg hc hg hm (prg_1 hg2 hm2 ha sa)) fun σ H Q ⟨r, Q', R, q, k⟩ => ⟨r, _, R, q, fun v H1 x g rp qx => by
    cases x with
    | int i =>
      obtain ⟨h, qx⟩ := (show rgB 0 i ∧ Q' (.tuple (rngD 0 i.toNat)) from qx)
      refine ⟨i, rp_int rp, RgOk.of_le h.1 h.2.2.2 h.2.1 h.2.2.1, fun p np => ?_⟩
      have e : i.toNat = (i - 0).toNat := by rw [Int.sub_zero]
      rw [e] at qx
      exact k _ _ _ (g.then_same (same_new np)) (.tup (new_hd (R.grow g) np) (rgl h) rp_rg) qx
    | _ => exact (show False from qx).elim⟩
theorem pd_trg2 {p p2 pos2 : Pos} (hc : X.calm = true) (hg : Gl X "tuple") (hm : X.mg "tuple" = none) (hg2 : Gl X "range") (hm2 : X.mg "range" = none) (ha : PD X C a ta) (hb : PD X C b tb) (sa : starEach [a, b] X.env = (false, eval a X.env) :: starEach [b] X.env) (sb : starEach [b] X.env = (false, eval b X.env) :: starEach [] X.env) (sp : (backTo pos2 (starEach [b] X.env)).any (·.1) = false) : PD X C (.Call (.Name "tuple" p) [.Call (.Name "range" p2) [a, b] [] pos2] [] pos) (dTupL (fRg2 ta tb)) :=
  PE_imp (pe_tupRg hc hg hm (prg_2 hg2 hm2 ha hb sa sb sp)) fun σ H Q ⟨r, Q', R, q, k⟩ => ⟨r, _, R, q, fun v H1 x g rp qx => ⟨r, _, R.grow g, qx, fun w H2 y g2 rp2 qy => by
    cases x with
    | int m =>
      cases y with
      | int n =>
        obtain ⟨h, qx⟩ := (show rgB m n ∧ Q' (.tuple (rngD m (n - m).toNat)) from qy)
        exact ⟨m, n, rp_int rp, rp_int rp2, RgOk.of_le h.1 h.2.2.2 h.2.1 h.2.2.1, fun p np => k _ _ _ ((g.trans g2).then_same (same_new np)) (.tup (new_hd ((R.grow g).grow g2) np) (rgl h) rp_rg) qx⟩
      | _ => exact (show False from qy).elim
    | _ => exact (show False from qy).elim⟩⟩
/-! a + b, a new list -/
def addL (Q : List PyData → Prop) : PyData → PyData → Prop
  | .list a, .list b => a.length + b.length ≤ sizeLine ∧ Q (a ++ b)
  | _, _ => False
def fAdd (t u : TD) : TAD := fun r Q => t r fun x => u r fun y => addL Q x y
def rCat : R2 := fun x y H Q => ∃ a b xs ys, x = .ref a ∧ y = .ref b ∧ Rd H a (.lst xs) ∧ Rd H b (.lst ys) ∧ xs.length + ys.length ≤ sizeLine ∧ ∀ p, H p = none → Q (.ref p) (upd H p (.lst (xs ++ ys)))
theorem op_catR : OpR X (binaryOp .Add) rCat := by
  intro pins s σ H x y v u Q I rx ry h
  obtain ⟨a, b, xs, ys, rfl, rfl, h1, h2, hz, q⟩ := h
  cases rx
  cases ry
  exact catL I h1 h2 hz q
theorem pf_add (ha : PD X C a ta) (hb : PD X C b tb) : PF X C (.BinOp a .Add b pos) (fAdd ta tb) :=
  PE_imp (pe_op op_catR ha hb) fun σ H Q ⟨r, Q', R, q, k⟩ => ⟨r, _, R, q, fun v H1 x g rp qx => ⟨r, _, R.grow g, qx, fun w H2 y g2 rp2 qy => by
    unfold addL at qy
    split at qy
    · obtain ⟨c, xs, rfl, h1, h2, h3⟩ := rp_lst (rp.up (g2.hd (R.grow g)))
      obtain ⟨d, ys, rfl, h4, h5, h6⟩ := rp_lst rp2
      have l1 := h3.length
      have l2 := h6.length
      exact ⟨c, d, xs, ys, rfl, rfl, DP.Rd.full h1, DP.Rd.full h4, by omega, fun p np => k p _ _ _ ((g.trans g2).then_same (same_new np)) (Gr.none R (g.trans g2) np) upd_same (by rw [List.length_append]; omega) ((h3.append h6).up (new_in np)) qy.2⟩
    · exact qy.elim⟩⟩
/-! a * n of a new list -/
def fMul (t : TAD) (u : TD) : TAD := fun r Q => t r fun xs => u r (int1 fun j => (0 ≤ j ∧ j ≤ 1000 ∧ xs.length ≤ 1000) ∧ Q (List.replicate j.toNat xs).flatten)
theorem pf_mul {tf : TAD} (ha : PF X C a tf) (hb : PD X C b tb) : PF X C (.BinOp a .Mult b pos) (fMul tf tb) :=
  PE_imp (pe_op op_rep ha hb) fun σ H Q ⟨r, Q', R, q, k⟩ => ⟨r, _, R, q, fun c H1 vs xs g nc ec l rp qx => ⟨r, _, R.grow g, qx, fun w H2 y g2 rp2 qy => by
    cases y with
    | int j =>
      obtain ⟨⟨h1, h2, h3⟩, qx⟩ := (show (0 ≤ j ∧ j ≤ 1000 ∧ xs.length ≤ 1000) ∧ Q' (List.replicate j.toNat xs).flatten from qy)
      have l1 := rp.length
      have ns : ∀ k, (c, k) ∉ sh C r := fun k z => (R.shI _ z).ne nc
      have ec2 := g2.1 c _ ns ec
      have hz : vs.length * j.toNat ≤ sizeLine := by
        have a1 : vs.length * j.toNat ≤ 1000 * 1000 := Nat.mul_le_mul (by omega) (by omega)
        rw [sizeLine_eq]
        omega
      refine ⟨c, j, vs, rfl, rp_int rp2, ec2, by omega, by omega, hz, fun p np => ?_⟩
      have np1 : H1 p = none := Gr.none (R.grow g) g2 np
      refine k p _ _ _ ((g.trans g2).then_same (same_new np)) (Gr.none R g np1) upd_same ?_ ?_ qx
      · rw [PyProof.Rows.lm_len_rep_flat, Nat.mul_comm]
        exact hz
      · refine RpA.replicate (RpA.up rp fun b o z => ?_) _
        obtain ⟨z1, z2⟩ := hd_some z
        have b1 : b ∉ C.O ++ oA r := fun w => z1 (List.mem_cons_of_mem _ w)
        have e2 : H2 b = some o := g2.1 b o (fun k w => b1 (R.shO w)) z2
        have bp : b ≠ p := ne_of_none e2 np
        rw [hd_out (by rw [List.mem_cons, not_or]; exact ⟨bp, b1⟩), upd_ne bp]
        exact e2
    | _ => exact (show False from qy).elim⟩⟩
/-! a.index(b) -/
def idxOf (d : PyData) : List PyData → Nat → Option Nat
  | [], _ => none
  | x :: xs, i => if PyData.eqv x d = true then some i else idxOf d xs (i + 1)
theorem idxOf_get {d : PyData} : ∀ {xs : List PyData} {i j : Nat}, idxOf d xs i = some j → i ≤ j ∧ (∃ z, xs[j - i]? = some z ∧ PyData.eqv z d = true) ∧ ∀ (m : Nat) (z : PyData), m < j - i → xs[m]? = some z → PyData.eqv z d = false
  | [], _, _, h => by cases h
  | x :: xs, i, j, h => by
    unfold idxOf at h
    split at h
    · rename_i e
      cases h
      exact ⟨Nat.le_refl _, ⟨x, by rw [Nat.sub_self]; rfl, e⟩, fun m z hm => absurd hm (by omega)⟩
    · rename_i e
      obtain ⟨h1, ⟨z, h2, h3⟩, h4⟩ := idxOf_get h
      have e1 : j - i = (j - (i + 1)) + 1 := by omega
      refine ⟨by omega, ⟨z, by rw [e1]; exact h2, h3⟩, fun m y hm hy => ?_⟩
      cases m with
      | zero =>
        cases hy
        exact Bool.eq_false_iff.mpr e
      | succ m => exact h4 m y (by omega) hy
def idxW : R2D
  | .list xs, d, Q => dOk d = true ∧ PyData.plainAll xs = true ∧ (match idxOf d xs 0 with
    | some j => Q (.int (j : Nat))
    | none => False)
  | _, _, _ => False
def rIdx : V → List V → Hp → VK → Prop := fun x xs H Q => ∃ (a : Addr) (y : V) (d : PyData) (vs : List V) (ds : List PyData) (j : Nat), x = V.ref a ∧ xs = [y] ∧ Rd H a (.lst vs) ∧ RpA H vs ds ∧ Rp H y d ∧ dOk d = true ∧ PyData.plainAll ds = true ∧ idxOf d ds 0 = some j ∧ Q (.int (j : Nat)) H
theorem mt_idx (hu : X.A.units + 64 < cLine) : MtR X "list.index" rIdx := by
  intro pins s σ H x xs v us Q I rx rxs h
  obtain ⟨a, y, d, vs, ds, j, rfl, rfl, hl, ha, hy, od, pl, hj0, q⟩ := h
  obtain ⟨_, ⟨z, hz, hzj⟩, hno⟩ := idxOf_get hj0
  rw [Nat.sub_zero] at hz hno
  cases rx
  cases rxs with
  | cons ry rt =>
    rename_i uy ut
    cases rt
    obtain ⟨bs, r1⟩ := Rp.reads I d y uy hy ry
    have hroom : X.A.units + 1 + min (PyData.depthAll ds) d.depth < cLine := room_in2 hu (dOk_depth od)
    obtain ⟨its, n, hlen, rv, ho⟩ := lstR I hl
    obtain ⟨as, h4⟩ := Rp.readsAll I ds _ its ha rv
    have hn : its.length = ds.length := SeqAt.ReadsAll.length ds its as h4
    have hmap : its.map (SeqAt.readOf s.heap) = ds := SeqAt.readsAll_map_plain ds its as pl h4
    have hvl := rv.length
    have hsl := sizeLine_eq
    obtain ⟨hjd, _⟩ := List.getElem?_eq_some_iff.mp hz
    have hjl : j < its.length := by omega
    have hj : j < its.toArray.size := by simpa using hjl
    have at_ : ∀ (m : Nat) (hm : m < its.toArray.size) (z' : PyData), ds[m]? = some z' → SeqAt.readOf s.heap its.toArray[m] = z' := by
      intro m hm z' hz'
      have hml : m < its.length := by simpa using hm
      rw [← hmap, List.getElem?_map, List.getElem?_eq_getElem hml] at hz'
      have e1 : SeqAt.readOf s.heap its[m] = z' := Option.some.inj (show some (SeqAt.readOf s.heap its[m]) = some z' from hz')
      simpa using e1
    refine call_meets PySem.F.slot_list_index ⟨_, ho, rfl⟩ PySem.F.entry_list_index (PySem.F.args_list_index_2 _ _)
      (SeqAt.list_indexAt a its.toArray n none #[] uy (fun u => PyData.eqv (SeqAt.readOf s.heap u) d) j hj (by omega) ?_ ?_) ⟨ho, SeqAt.items_plain (vs := its.toArray) (show ReadsAll s.heap its.toArray.toList ds as from h4) r1 pl (dOk_plain od) hroom, ?_⟩
    · show PyData.eqv (SeqAt.readOf s.heap its.toArray[j]) d = true
      rw [at_ j hj z hz]
      exact hzj
    · intro m hm hmj
      have hmd : m < ds.length := by omega
      have hz' : ds[m]? = some ds[m] := List.getElem?_eq_getElem hmd
      show PyData.eqv (SeqAt.readOf s.heap its.toArray[m]) d = false
      rw [at_ m hm _ hz']
      exact hno m _ hmj hz'
    · exact ⟨.int (j : Nat), H, I.tok _, ⟨_, rfl⟩, q⟩
def lst1 (Q : List PyData → Prop) : PyData → Prop
  | .list i => Q i
  | _ => False
def eIdx (ta tb : TD) : TD := fun r Q => ta r (lst1 fun xs => tb r fun y => idxW (.list xs) y Q)
theorem pd_idx {p apos : Pos} (hu : X.A.units + 64 < cLine) (ha : PD X C a ta) (hb : PD X C b tb) (hbase : attributeBase a "index" X.env (eval a X.env) = eval a X.env)
    (hfew : ((backTo pos (starEach [b] X.env)).all (fun x => !x.1) && (backToKw pos (keywordEach [] X.env)).all (fun x => x.1.isSome) && decide ([b].length + ([] : List Keyword).length + (if ([] : List Keyword).isEmpty then 0 else 1) < 30)) = true)
    (hline : (apos.endLine == pos.line) = true) (sb : starEach [b] X.env = (false, eval b X.env) :: starEach [] X.env) : PD X C (.Call (.Attribute a "index" apos) [b] [] pos) (eIdx ta tb) :=
  PE_imp (pe_bm PySem.F.plainAttrs_list PySem.F.slot_list_index PySem.F.type_list_index (mt_idx hu) ha (pa_cons hb pa_nil sb) hbase hfew hline sb) fun σ H Q ⟨r, Q', R, q, k⟩ => ⟨r, _, R, q, fun v H1 x g rp qx => by
    cases x with
    | list xs =>
      have qx : tb (er r) fun y => idxW (.list xs) y Q' := qx
      obtain ⟨c, vs, rfl, h1, h2, h3⟩ := rp_lst rp
      refine ⟨.inl ⟨rfl, vs, .inl (DP.Rd.full h1)⟩, r, _, R.grow g, qx, fun w H2 y g2 rp2 qy => ?_⟩
      obtain ⟨q1, q2, q3⟩ := qy
      cases e : idxOf y xs 0 with
      | none => rw [e] at q3; exact q3.elim
      | some j =>
        rw [e] at q3
        have sm : Same (hd H1 (C.O ++ oA r)) H2 := fun b o z => hd_same _ _ _ _ (g2.hd (R.grow g) _ _ z)
        exact ⟨c, w, y, vs, xs, j, rfl, rfl, Rd.mono sm h1, h3.up sm, rp2.up (hd_same _ _), q1, q2, e, k _ H2 _ (g.trans g2) (.int _) q3⟩
    | _ => exact (show False from qx).elim⟩
/-! isinstance(x, (tuple, list)) -/
def tyN : PyData → String
  | .none => "NoneType"
  | .bool _ => "bool"
  | .int _ => "int"
  | .str _ => "str"
  | .list _ => "list"
  | .tuple _ => "tuple"
  | .dict _ => "dict"
/-- what the library's isinstance asks of data -/
theorem rp_kit {pins : List (Addr × Obj)} {σ : L2.St} {H : Hp} {s : Shared} {v : V} {u : Value} {d : PyData} (I : Inv X pins σ H s) (h : Rp H v d) (r : RelV v u) : ∃ P : Heap → Prop, PySem.W.KitX X.K u (.type (tyN d)) P ∧ P s.heap ∧ u ≠ .builtin "__main__.__loader__#opaque" := by
  cases h with
  | non => exact kit_of I r (.base .non)
  | bl b => exact kit_of I r (.base (.bl b))
  | int b => exact kit_of I r (.base (.int b))
  | str b => exact kit_of I r (.base (.str b))
  | lst a b c =>
    rcases a with a | ⟨o, a⟩
    · exact kit_of I r (.base (.lst a))
    · exact kit_of I r (.base (.frz a))
  | tup a b c => exact kit_of I r (.base (.tup a))
  | dct a => exact kit_of I r (.base (.dK a))
  | dct1 i j a => exact kit_of I r (.base (.dK a))
  | dctN a b c d e =>
    cases r
    exact ⟨_, PySem.W.kitx_dict, ⟨_, (I.hok _ _ a).1, b.1.1⟩, fun z => nomatch z⟩
theorem kit_tl (K : PySem.W.Frag) (d : PyData) : PySem.W.kitAny K (.type (tyN d)) [.type "tuple", .type "list"] = some (d.isTuple || d.isList) := by
  cases d with
  | none => show PySem.W.kitAny K (.type "NoneType") _ = some false; kernel_rfl
  | bool _ => show PySem.W.kitAny K (.type "bool") _ = some false; kernel_rfl
  | int _ => show PySem.W.kitAny K (.type "int") _ = some false; kernel_rfl
  | str _ => show PySem.W.kitAny K (.type "str") _ = some false; kernel_rfl
  | list _ => show PySem.W.kitAny K (.type "list") _ = some true; kernel_rfl
  | tuple _ => show PySem.W.kitAny K (.type "tuple") _ = some true; kernel_rfl
  | dict _ => show PySem.W.kitAny K (.type "dict") _ = some false; kernel_rfl
theorem kit_lt (K : PySem.W.Frag) (d : PyData) : PySem.W.kitAny K (.type (tyN d)) [.type "list", .type "tuple"] = some (d.isTuple || d.isList) := by
  cases d with
  | none => show PySem.W.kitAny K (.type "NoneType") _ = some false; kernel_rfl
  | bool _ => show PySem.W.kitAny K (.type "bool") _ = some false; kernel_rfl
  | int _ => show PySem.W.kitAny K (.type "int") _ = some false; kernel_rfl
  | str _ => show PySem.W.kitAny K (.type "str") _ = some false; kernel_rfl
  | list _ => show PySem.W.kitAny K (.type "list") _ = some true; kernel_rfl
  | tuple _ => show PySem.W.kitAny K (.type "tuple") _ = some true; kernel_rfl
  | dict _ => show PySem.W.kitAny K (.type "dict") _ = some false; kernel_rfl
def rIsi2 : List V → Hp → VK → Prop := fun vs H Q => ∃ v d tp, vs = [v, .ref tp] ∧ Rp H v d ∧ (H tp = some (.tup [.ty "tuple", .ty "list"]) ∨ H tp = some (.tup [.ty "list", .ty "tuple"])) ∧ Q (.bl (d.isTuple || d.isList)) H
theorem cr_isi2 : CallR X (.builtin "isinstance") rIsi2 := by
  intro pins s σ H xs us Q I rv w
  obtain ⟨v, d, tp, rfl, hv, ht, q⟩ := w
  obtain ⟨u1, u2, rfl, r1, r2⟩ := vals2 rv
  cases (show u2 = Value.ref tp from r2)
  obtain ⟨P, Z, p, hx⟩ := rp_kit I hv r1
  have go : ∀ (cs : List V) (ws : List Value), H tp = some (.tup cs) → Paired ClsV cs ws → PySem.W.kitAny X.K (.type (tyN d)) ws = some (d.isTuple || d.isList) → wpAny (model X.prog X.w) X.A (call (.builtin "isinstance") [u1, .ref tp]) (EP X pins σ Q) X.xe s := fun cs ws h1 h2 h3 => by
    obtain ⟨_, its, rv', o, g1, g2, n, g3⟩ := (show ObjOk X.prog X.w H s.heap tp (.tup cs) from I.hok tp _ h1)
    have e3 := ClsV.all h2 rv'
    subst e3
    obtain ⟨oc, od, dt, sl⟩ := o
    simp only at g2 g3
    subst g2 g3
    exact PySem.W.kia_tup Z I.kIn p g1 h3 hx fun tk => ⟨.bl _, H, I.tok tk, rfl, q⟩
  rcases ht with ht | ht
  · exact go _ [.type "tuple", .type "list"] ht (.cons (.ty _) (.cons (.ty _) .nil)) (kit_tl _ d)
  · exact go _ [.type "list", .type "tuple"] ht (.cons (.ty _) (.cons (.ty _) .nil)) (kit_lt _ d)
def dIsi2 (t : TD) : TD := fun r Q => t r fun x => Q (.bool (x.isTuple || x.isList))
theorem pd_isi2 {p p1 p2 p3 : Pos} {k : Nat} (hm : X.mg "isinstance" = none) (hg : Gl X "isinstance") (hmT : X.mg "tuple" = none) (hgT : Gl X "tuple") (hmL : X.mg "list" = none) (hgL : Gl X "list") (ha : PD X C a ta) (sa : starEach [a, .Tuple [.Name "tuple" p1, .Name "list" p2] k p3] X.env = (false, eval a X.env) :: starEach [.Tuple [.Name "tuple" p1, .Name "list" p2] k p3] X.env) :
    PD X C (.Call (.Name "isinstance" p) [a, .Tuple [.Name "tuple" p1, .Name "list" p2] k p3] [] pos) (dIsi2 ta) :=
  PE_imp (pe_callB cr_isi2 hg hm (by decide +kernel) (pa_cons ha (pa_cons (pe_tup (pa_cons (pe_bltn (v := .ty "tuple") hgT hmT (by decide +kernel) rfl) (pa_cons (pe_bltn (v := .ty "list") hgL hmL (by decide +kernel) rfl) pa_nil))) pa_nil) sa) (by decide) (by decide) sa rfl) fun σ H Q ⟨r, Q', R, q, k⟩ =>
    ⟨r, _, R, q, fun v H1 x g rp qx => ⟨by show 2 ≤ sizeLine; rw [sizeLine_eq]; omega, fun tp nt => ⟨v, x, tp, rfl, (rp.up (hd_same _ _)).up (same_new nt), .inl upd_same, k _ _ _ (g.then_same (same_new nt)) (.bl _) qx⟩⟩⟩
theorem pd_isi3 {p p1 p2 p3 : Pos} {k : Nat} (hm : X.mg "isinstance" = none) (hg : Gl X "isinstance") (hmT : X.mg "tuple" = none) (hgT : Gl X "tuple") (hmL : X.mg "list" = none) (hgL : Gl X "list") (ha : PD X C a ta) (sa : starEach [a, .Tuple [.Name "list" p1, .Name "tuple" p2] k p3] X.env = (false, eval a X.env) :: starEach [.Tuple [.Name "list" p1, .Name "tuple" p2] k p3] X.env) :
    PD X C (.Call (.Name "isinstance" p) [a, .Tuple [.Name "list" p1, .Name "tuple" p2] k p3] [] pos) (dIsi2 ta) :=
  PE_imp (pe_callB cr_isi2 hg hm (by decide +kernel) (pa_cons ha (pa_cons (pe_tup (pa_cons (pe_bltn (v := .ty "list") hgL hmL (by decide +kernel) rfl) (pa_cons (pe_bltn (v := .ty "tuple") hgT hmT (by decide +kernel) rfl) pa_nil))) pa_nil) sa) (by decide) (by decide) sa rfl) fun σ H Q ⟨r, Q', R, q, k⟩ =>
    ⟨r, _, R, q, fun v H1 x g rp qx => ⟨by show 2 ≤ sizeLine; rw [sizeLine_eq]; omega, fun tp nt => ⟨v, x, tp, rfl, (rp.up (hd_same _ _)).up (same_new nt), .inr upd_same, k _ _ _ (g.then_same (same_new nt)) (.bl _) qx⟩⟩⟩
end
end DP

end
section
set_option Elab.async false
set_option linter.all false
set_option maxRecDepth 100000
set_option autoImplicit false
set_option maxHeartbeats 4000000
namespace DP
open PySem PySem.Spec PyProof.Rows L2 LamX
/-! ### x(lambda: body): all but the maker's table stays -/
section
variable {X : Cx} {pins : List (Addr × Obj)} {σ : L2.St} {H : Hp} {s : Shared}
theorem lam_new {T : List (Addr × Str)} {c P : Addr} {params : Arguments} {body : Expr} {scope : Scope} {pos : Pos} {E : Value → Shared → Prop} {Q : Value → Shared → Prop} (I : Inv X pins σ H s) (TB : TabB X.base X.mg c P) (hcode : X.env.code = .ref c)
    (hm : (P, X.env.qual ++ "<lambda>") ∈ T) (hu : ∀ p ∈ T, p.1 = P → p.2 = X.env.qual ++ "<lambda>") (hT : Tabs T H) (hdef : defaultsOf params X.env = ([], [])) (hfree : ∀ y ∈ scope.names, y.2 = .free → ∃ c, X.env.cells.lookup y.1 = some c)
    (h : ∀ (f c' : Addr) (pm ctv : Value) (H1 : Hp) (s' : Shared), Inv X pins σ H1 s' → (∀ b o, b ≠ P → H b = some o → H1 b = some o) → Tabs T H1 →
      s'.heap.get? f = some (PySem.W.kla_obj "<lambda>" (X.env.qual ++ "<lambda>") params body scope (cloFrom X.env.cells scope.names []) pm c' ctv) → H1 f = none → f ∉ frs X.stack → H1 c' = some (CodeO c' (X.env.qual ++ "<lambda>")) → Q (.ref f) s') :
    wpAny (model X.prog X.w) X.A (eval (.Lambda params body scope pos) X.env) Q E s := by
  obtain ⟨ps, hP, ht, ha⟩ := hT _ hm
  have hP' : s.heap.get? P = some { cls := .none, data := .fields ps } := I.hok P _ hP
  have bP : s.heap.BuiltinsAt X.mg P := TB.bm.keeps I.bk
  have far : ∀ f, s.heap.objs.size ≤ f → f ∉ frs X.stack := fun f hf z => by
    rcases List.mem_cons.mp (I.stkSub _ z) with e | e
    · have h1 := I.lt
      rw [← e] at h1
      exact Nat.lt_irrefl _ (Nat.lt_of_lt_of_le h1 hf)
    · exact I.nofs hf e
  refine PySem.W.kla_eval hdef ?_
  cases hc : codeAmong pos ps.toList with
  | some cv =>
    obtain ⟨c', rfl, hco⟩ := ha pos cv hc
    refine PySem.W.kla_makeFunctionHit (mg := X.mg) (c := c) (P := P) (ps := ps) (closure_ok hfree) I.ok.glob (I.mod.glob.keeps I.bk) hcode (TB.code.keeps I.bk) hP' ht hc bP fun ctv h' tk hx hsz => ?_
    exact h h'.objs.size c' ((X.mg "__name__").getD .none) ctv H _ (I.kept fun b o e => Heap.get?_push_of_some _ (hx b o e)) (fun _ _ _ e => e) hT (Heap.get?_push_size _ rfl) (I.hok.fresh hsz) (far _ hsz) hco
  | none =>
    refine PySem.W.kla_makeFunction (mg := X.mg) (c := c) (P := P) (ps := ps) (closure_ok hfree) I.ok.glob (I.mod.glob.keeps I.bk) hcode (TB.code.keeps I.bk) hP' ht hc TB.gP bP fun c' ctv h' tk hx hge hlt hrec htb => ?_
    obtain ⟨c2, oc, vs, t, e2, hoc, hd, hv⟩ := hrec
    cases e2
    have nC : H c' = none := I.hok.fresh hge
    have hsz : s.heap.objs.size ≤ h'.objs.size := by omega
    have kp : ∀ b o, b ≠ P → H b = some o → upd (upd H P (.tbl (ps ++ #[rawInt pos.line, rawInt pos.col, .ref c']))) c' (CodeO c' (X.env.qual ++ "<lambda>")) b = some o := fun b o hb e => by
      rw [upd_ne (ne_of_none e nC), upd_ne hb]
      exact e
    have nPc : P ≠ c' := ne_of_none hP nC
    have eL : (ps ++ #[rawInt pos.line, rawInt pos.col, .ref c']).toList = ps.toList ++ [rawInt pos.line, rawInt pos.col, .ref c'] := by simp
    refine h h'.objs.size c' ((X.mg "__name__").getD .none) ctv _ _ (inv_table (t' := tk) (more := #[rawInt pos.line, rawInt pos.col, .ref c']) (h' := h'.push (PySem.W.kla_obj "<lambda>" (X.env.qual ++ "<lambda>") params body scope (cloFrom X.env.cells scope.names []) ((X.mg "__name__").getD .none) c' ctv)) I hP
      (fun b o hb e => Heap.get?_push_of_some _ (hx b o hb e)) (Heap.get?_push_of_some _ htb) hge ⟨oc, vs, t, Heap.get?_push_of_some _ hoc, hd, hv⟩) kp (fun p hp => ?_) (Heap.get?_push_size _ rfl) ?_ (far _ hsz) upd_same
    · have old : ∀ {cv : Value} {q : Str}, (∃ c0, cv = .ref c0 ∧ H c0 = some (CodeO c0 q)) → ∃ c0, cv = .ref c0 ∧ upd (upd H P (.tbl (ps ++ #[rawInt pos.line, rawInt pos.col, .ref c']))) c' (CodeO c' (X.env.qual ++ "<lambda>")) c0 = some (CodeO c0 q) := fun {cv q} ⟨c0, e1, e2⟩ => by
        refine ⟨c0, e1, kp c0 _ (fun z => ?_) e2⟩
        rw [z, hP] at e2
        exact codeO_ne ps (Option.some.inj e2).symm
      by_cases hb : p.1 = P
      · rw [hu p hp hb, hb]
        refine ⟨_, by rw [upd_ne nPc, upd_same], by rw [eL]; exact PySem.TriplesOk_snoc _ _ _ _ ht, fun p' cv hcv => ?_⟩
        rw [eL] at hcv
        rcases among_app _ ht hcv with z | z
        · exact old (ha p' cv z)
        · exact ⟨c', z, upd_same⟩
      · obtain ⟨qs, a1, a2, a3⟩ := hT p hp
        exact ⟨qs, kp _ _ hb a1, a2, fun p' cv hcv => old (a3 p' cv hcv)⟩
    · have n1 : h'.objs.size ≠ c' := by omega
      have n2 : h'.objs.size ≠ P := Nat.ne_of_gt (Nat.lt_of_lt_of_le (Heap.lt_size hP') hsz)
      rw [upd_ne n1, upd_ne n2]
      exact I.hok.fresh hsz
end
def tLamP (T : List (Addr × Str)) (P : Addr) (TT : (XK → Hp → VK → Prop) → Hp → VK → Prop) (t : XK → TE) : TE := fun σ H Q => Tabs T H ∧ ∀ H1, (∀ b o, b ≠ P → H b = some o → H1 b = some o) → Tabs T H1 → TT (fun E H' Q' => t E σ H' Q') H1 Q
/-- what is known of the def that calls what it gets -/
structure RefOk (X : Cx) (x : Str) (TT : (XK → Hp → VK → Prop) → Hp → VK → Prop) : Prop where
  ex : ∃ (a : Str) (g : Addr) (pg : Arguments) (bg : List Stmt) (sg : Scope) (dV kV doc pm cdv ct oc : Value) (an od : Option Addr) (osl : Array (Option Value)) (Ng : List Str),
    X.mg x = some (.ref g) ∧ PySem.W.keepIn X.K (.ref g) = true ∧ X.K.lookup g = some ⟨oc, od, .func (PySem.W.fnOf x x pg bg sg dV kV doc pm an cdv ct), osl⟩ ∧ PySem.W.codeIn X.K cdv x = true ∧
    L2.Binds X.K (PySem.W.fnOf x x pg bg sg dV kV doc pm an cdv ct) [a] [] ∧ FnScope Ng [a] sg ∧ Ng[0]? = some a ∧ Vis sg a ∧ (a == ("__debug__" : Str)) = false ∧ (a == ("__classdict__" : Str)) = false ∧ ∀ q, GivesTo X Ng x sg g cdv bg a q TT
theorem pe_lamP {X : Cx} {T : List (Addr × Str)} {TT : (XK → Hp → VK → Prop) → Hp → VK → Prop} {x : Str} {c P : Addr} {k : Nat} {params : Arguments} {body : Expr} {scope : Scope} {t : XK → TE} {p lpos pos : Pos} (hg : Gl X x) (R : RefOk X x TT)
    (TB : TabB X.base X.mg c P) (hcode : X.env.code = .ref c) (hmT : (P, X.env.qual ++ "<lambda>") ∈ T) (hu : ∀ p ∈ T, p.1 = P → p.2 = X.env.qual ++ "<lambda>") (hr : Room (k + 2) X.A) (L : LamS X.env.scope scope) (hdef : defaultsOf params X.env = ([], []))
    (hbind : ∀ (q : Str) (cl : List (Str × Addr)) (pm cv ctv : Value), bindArgs (PySem.W.kla_fn "<lambda>" q params body scope cl pm cv ctv) ⟨[], []⟩ = pure [])
    (hbody : ∀ (A : Around) (outer : List Env) (s : Shared) (H : Hp) (E : XK) (f c' : Addr), Room k (A.deeper (lamEnv X scope s.heap.objs.size f c')) → PE (lamCx X A outer s H E scope f c') body (t E))
    (hdb : (x == ("__debug__" : Str)) = false) : PE X (.Call (.Name x p) [.Lambda params body scope lpos] [] pos) (tLamP T P TT t) := by
  obtain ⟨a, g, pg, bg, sg, dV, kV, doc, pm, cdv, ct, oc, an, od, osl, Ng, hm, hk, lk, hcg, hb, Sg, hNg, hva, hd, hcd, hG⟩ := R.ex
  refine ⟨fun pins s σ H Q I h => ?_⟩
  obtain ⟨hT, h⟩ := h
  refine wpAny_Call_Name_kw (ld_glob I hg hm (PySem.W.callWith_K (h₀ := X.base) I.ok.mod.kin hk ?_ (by rfl) (by rfl)) hdb)
  show wpAny _ _ (spliced ((false, eval (.Lambda params body scope lpos) X.env) :: backTo pos (starEach [] X.env))) _ _ s
  refine Calls.spliced_cons (lam_new I TB hcode hmT hu hT hdef (L.has I.ok) fun f c' pm' ctv H1 s' I1 eN T1 hf hfn hfr hco => Calls.spliced_nil ⟨I1.kIn, ?_⟩)
  have rc : codeAny (model X.prog X.w) X.A (.call (.ref g) ⟨[.ref f], []⟩) (CR C8.CX0 X.stack X.prog X.w H1 s' Q C8.E0) s' := by
    refine run_ofS (N := Ng) (ps := [a]) (us := [.ref f]) (vs := [.ref f]) lk hcg Sg hr I1.env0 (hb s' [.ref f] I1.kIn rfl) (.cons rfl .nil) rfl fun hr' => ?_
    obtain ⟨t', ht', hq'⟩ := hG (X.env.qual ++ "<lambda>") f c' s' H1 Q (fun E H' Q' => t E σ H' Q') (fun W pn xe E p1 p2 tk hW => pe_act (i := 0) I1 L hf hfn hfr (hbind _ _ _ _ _) tk hW hr' (fun A outer s H hr2 => hbody A outer s H E f c' hr2) hNg hva hd hcd) hco (h H1 eN T1)
    exact ⟨t', ht'.nox, hq'⟩
  refine wpAny_call (codeAny_mono rc fun r s2 hq => ?_)
  cases r with
  | error e => exact (show False from hq).elim
  | ok fl =>
    cases fl with
    | ret u => exact I1.after hq
    | next => exact False.elim hq
    | brk => exact False.elim hq
    | cont => exact False.elim hq
/-! ### what is told of a refusal -/
def excNames : List Str := ["NoRow", "NoPart", "NoNumber", "NoHeads", "NotBeside", "NotIn", "NoTurn", "NoLot", "TooMany", "BadNote"]
def excWords : List Str := ["row", "part", "number", "heads", "not beside", "not in", "turn", "lot", "many", "note"]
def nameIx (c : Str) : List Str → Nat → Option Nat
  | [], _ => none
  | y :: ys, i => if y = c then some i else nameIx c ys (i + 1)
def refV (kind : Nat) (i : Nat) : V := if kind = 0 then .str (excWords.getD i "") else .int i
def refD (kind : Nat) (i : Nat) : PyData := if kind = 0 then .str (excWords.getD i "") else .int i
theorem ref_rp {H : Hp} (kind i : Nat) : Rp H (refV kind i) (refD kind i) := by
  unfold refV refD
  split
  · exact .str _
  · exact .int _
/-- the def _law_refused of a reading of what is called -/
def TTref (kind : Nat) (mg : Str → Option Value) : (XK → Hp → VK → Prop) → Hp → VK → Prop := fun tl H Q =>
  tl (fun cls d H' => d = none ∧ ∃ c i, mg c = some cls ∧ nameIx c excNames 0 = some i ∧ ∀ H'', Same H' H'' → Q (refV kind i) H'') H fun _ H' => ∀ H'', Same H' H'' → Q .non H''
def refQ (kind : Nat) (c : Str) (Q : PyData → Prop) : Prop := match nameIx c excNames 0 with
  | some i => Q (refD kind i)
  | none => False
/-- owned lists are out of a lambda's reach -/
def clr1 : Option SV → Option SV
  | some (.m (.lst _)) => none
  | some (.m (.dct _)) => none
  | x => x
def clrS (r : SEnv) : SEnv := r.map clr1
def clrD1 : Option DV → Option DV
  | some (.m _ (.lst _)) => none
  | some (.m _ (.dct _)) => none
  | x => x
def clrD (r : DEnv) : DEnv := r.map clrD1
theorem er_clr (r : DEnv) : er (clrD r) = clrS (er r) := by
  unfold er clrD clrS
  rw [List.map_map, List.map_map]
  refine List.map_congr_left fun x _ => ?_
  cases x with
  | none => rfl
  | some y =>
    cases y with
    | d z => rfl
    | m a o => cases o <;> rfl
    | scr a ns => rfl
theorem clr_get {r : DEnv} {i : Nat} {x : DV} (h : (clrD r)[i]? = some (some x)) : r[i]? = some (some x) ∧ ∀ a o, x = .m a o → o = .st := by
  unfold clrD at h
  rw [List.getElem?_map] at h
  cases q : r[i]? with
  | none => rw [q] at h; cases h
  | some y =>
    rw [q] at h
    cases y with
    | none => cases h
    | some y =>
      cases y with
      | d z => cases h; exact ⟨rfl, fun a o e => by cases e⟩
      | scr a ns => cases h; exact ⟨rfl, fun a o e => by cases e⟩
      | m a o =>
        cases o with
        | st => cases h; exact ⟨rfl, fun a o e => by cases e; rfl⟩
        | lst xs => cases h
        | dct xs => cases h
def eRef (kind : Nat) (t : (Str → Prop) → TD) : TD := fun r Q => t (fun c => refQ kind c Q) (clrS r) fun _ => Q .none
/-- what a lambda's body stands on -/
def Cfg.lam (C : Cfg) (H : Hp) (r : DEnv) : Cfg := ⟨C.K, C.n, C.O ++ oA r, H, sh C r⟩
theorem RepE.lam {C : Cfg} {σ : L2.St} {H : Hp} {r : DEnv} (R : RepE C σ H r) : RepE (C.lam H r) σ H (clrD r) := by
  have sub : ∀ a, a ∈ (C.lam H r).O ++ oA (clrD r) → a ∈ C.O ++ oA r := fun a h => by
    rcases List.mem_append.mp h with h | h
    · exact h
    · obtain ⟨i, o, e⟩ := mem_oA.mp h
      exact List.mem_append_right _ (mem_oA.mpr ⟨i, o, (clr_get e).1⟩)
  refine ⟨R.lenS, ?_, fun i x e => ?_, fun i a o e n => ?_, R.domA, fun a o _ e => e, fun i a o e n => ?_, fun i a e => ?_, fun s hs => R.shI s hs, fun s hs => ⟨R.shO (a := s.1) (k := s.2) hs, (R.shI s hs).ne⟩⟩
  · unfold clrD
    rw [List.length_map]
    exact R.len
  · obtain ⟨e1, e2⟩ := clr_get e
    obtain ⟨v, h1, h2⟩ := R.slot i x e1
    refine ⟨v, h1, ?_⟩
    cases x with
    | d y => exact Rp.up h2 (hd_sub sub)
    | m a o =>
      have e3 := e2 a o rfl
      subst e3
      exact h2
    | scr a ns => exact h2
  · exact absurd ((clr_get e).2 a o rfl) n
  · exact absurd ((clr_get e).2 a o rfl) n
  · exact .inl (List.mem_append_right _ (mem_sA.mpr ⟨rfl, i, (clr_get e).1⟩))
theorem gr_lam {C : Cfg} {σ : L2.St} {H H' : Hp} {r : DEnv} (R : RepE C σ H r) (g : Gr (C.lam H r) (clrD r) H H') : Gr C r H H' := by
  refine ⟨fun a o n e => g.1 a o (fun k z => ?_) e, fun s hs => g.2 s (List.mem_append_left _ hs)⟩
  rcases List.mem_append.mp z with z | z
  · exact n k z
  · obtain ⟨e1, i, e2⟩ := mem_sA.mp z
    exact n k (List.mem_append_right _ (mem_sA.mpr ⟨e1, i, (clr_get e2).1⟩))
/-- the maker's table among the shared objects -/
def TabC (X : Cx) (C : Cfg) : Prop := ∃ c P, X.env.code = .ref c ∧ TabB X.base X.mg c P ∧ (P, SK.tab (X.env.qual ++ "<lambda>")) ∈ C.S ∧ ∀ q, (P, SK.tab q) ∈ C.S → q = X.env.qual ++ "<lambda>"
def tabsOf : List (Addr × SK) → List (Addr × Str)
  | [] => []
  | (a, .tab q) :: l => (a, q) :: tabsOf l
  | _ :: l => tabsOf l
theorem mem_tabs {a : Addr} {q : Str} : ∀ {l : List (Addr × SK)}, (a, q) ∈ tabsOf l ↔ (a, SK.tab q) ∈ l
  | [] => by simp [tabsOf]
  | (b, .tab r) :: l => by
    simp only [tabsOf, List.mem_cons, mem_tabs (l := l), Prod.mk.injEq, SK.tab.injEq]
  | (b, .dr) :: l => by
    simp only [tabsOf, List.mem_cons, mem_tabs (l := l), Prod.mk.injEq]
    simp
theorem takes_lam {X : Cx} {A : Around} {outer : List Env} {s : Shared} {H : Hp} {E : XK} {scope : Scope} {f c' : Addr} : Takes (lamCx X A outer s H E scope f c') (fun cls d _ H' => E cls d H') :=
  takes_of (X := lamCx X A outer s H E scope f c') (E := E) rfl rfl rfl rfl
/-- the rule -/
theorem pd_ref {X : Cx} {C : Cfg} {x : Str} {kind k : Nat} {params : Arguments} {body : Expr} {scope : Scope} {t : (Str → Prop) → TD} {p lpos pos : Pos} (hg : Gl X x) (R : RefOk X x (TTref kind X.mg)) (tc : TabC X C) (hr : Room (k + 2) X.A) (L : LamS X.env.scope scope) (hdef : defaultsOf params X.env = ([], []))
    (hbind : ∀ (q : Str) (cl : List (Str × Addr)) (pm cv ctv : Value), bindArgs (PySem.W.kla_fn "<lambda>" q params body scope cl pm cv ctv) ⟨[], []⟩ = pure [])
    (hbody : ∀ (A : Around) (outer : List Env) (s : Shared) (H : Hp) (E : XK) (f c' : Addr) (E' : Str → Prop) (C2 : Cfg), C2.n = C.n → C2.K = C.K → Room k (A.deeper (lamEnv X scope s.heap.objs.size f c')) → Takes (lamCx X A outer s H E scope f c') (wOf X.mg C2 E') → PD (lamCx X A outer s H E scope f c') C2 body (t E'))
    (hdb : (x == ("__debug__" : Str)) = false) : PD X C (.Call (.Name x p) [.Lambda params body scope lpos] [] pos) (eRef kind t) := by
  obtain ⟨c, P, hcode, TB, hP, hPu⟩ := tc
  have main := pe_lamP (T := tabsOf C.S) (p := p) (lpos := lpos) (pos := pos) (t := fun E σ H Q => ∃ (E' : Str → Prop) (C2 : Cfg), C2.n = C.n ∧ C2.K = C.K ∧ (∀ cls d σ' H', wOf X.mg C2 E' cls d σ' H' → E cls d H') ∧ up C2 (t E') σ H Q) hg R TB hcode (mem_tabs.mpr hP) (fun p hp e => hPu p.2 (by rw [← e]; exact mem_tabs.mp hp)) hr L hdef hbind
    (fun A outer s H E f c' hr' => ⟨fun pins s' σ H' Q I ⟨E', C2, c1, c2, hE, h⟩ => (hbody A outer s H E f c' E' C2 c1 c2 hr' (takes_lam.imp fun cls d σ H' h => hE cls d σ H' h)).run pins s' σ H' Q I h⟩) hdb
  refine PE_imp main ?_
  rintro σ H Q ⟨r, Q', R0, w, kk⟩
  refine ⟨fun q hq => R0.sto _ (mem_tabs.mp hq), fun H1 hk hT => ?_⟩
  have g : Gr C r H H1 := by
    refine ⟨fun a o n e => hk a o (fun z => n (SK.tab (X.env.qual ++ "<lambda>")) (by rw [z]; exact List.mem_append_left _ hP)) e, fun q hq => ?_⟩
    obtain ⟨a, kd⟩ := q
    cases kd with
    | dr =>
      have st : StOk H a := R0.shI _ hq
      refine StOk.keep st fun o e => hk a o (fun z => ?_) e
      obtain ⟨ps, hP0, _⟩ := (show TabS H P _ from R0.sto _ hP)
      obtain ⟨y, b, e1, _⟩ := st
      rw [z, hP0] at e1
      cases e1
    | tab q =>
      rcases List.mem_append.mp hq with h | h
      · exact hT _ (mem_tabs.mpr h)
      · exact absurd (mem_sA.mp h).1 (by simp)
  have R1 := R0.grow g
  refine ⟨fun c => refQ kind c Q', C.lam H1 r, rfl, rfl, fun cls d σ' H' hw => ?_, clrD r, fun _ => Q' .none, R1.lam, by rw [er_clr]; exact w, fun v H' y g1 _ qy H'' sm => ?_⟩
  · obtain ⟨c, Ca, h1, rfl, rfl, o, hq⟩ := hw
    unfold refQ at hq
    cases e : nameIx c excNames 0 with
    | none => rw [e] at hq; exact hq.elim
    | some i =>
      rw [e] at hq
      refine ⟨rfl, c, i, h1, e, fun H'' sm => ?_⟩
      have g2 : Gr C r H1 H' := ⟨o.ext, o.sto⟩
      exact kk _ H'' _ ((g.trans g2).then_same sm) (ref_rp kind i) hq
  · exact kk _ H'' _ ((g.trans (gr_lam R1 g1)).then_same sm) .non qy
end DP

end
section
set_option Elab.async false
set_option linter.all false
set_option maxRecDepth 100000
set_option autoImplicit false
set_option maxHeartbeats 4000000
namespace DP
open PySem PySem.Spec PyProof.Rows L2
/-! ### sorted(set(xs)), xs a list of numbers -/
/-- a new set -/
def oSet (w : World) : Obj := { cls := .type "set", dict := none, data := .set #[] 0 (.fresh 0 0 (!w.params.followText "set-order")) }
section
variable {P : Program} {w : World} {A : Around} {E : Value → Shared → Prop} {s : Shared}
theorem set_of_list {la : Addr} {vals : Array Value} (zs : List Int) {Q : Value → Shared → Prop} (nh : A.handled = none) (isl : s.heap.IsList la vals) (iz : IntsAre vals.toList zs) (few : zs.length + 1 < scanBound)
    (fin : ∀ (g : Heap) (tk c : Nat), SetR w g s.heap.objs.size (fun j => decide (j ∈ zs)) c → c ≤ zs.length → (∀ b o, s.heap.get? b = some o → g.get? b = some o) → Q (.ref s.heap.objs.size) { s with heap := g, toks := tk }) :
    wpAny (model P w) A (call (.type "set") [.ref la]) Q E s := by
  have vz : vals.size = zs.length := by have q := IntsAre.length iz; rw [Array.length_toList] at q; exact q
  obtain ⟨c0, tl0, mro0⟩ := F.called_set.mro
  have made0 := F.called_set.made
  have sub0 := F.called_set.sub
  refine wpAny_call (codeAny_of_tree (show wpAny _ _ (callAny (.type "set") _) _ _ _ from ?_))
  refine wpAny_pure ⟨Code.quiet_builtin _ (by decide +kernel), codeAny_builtin F.entry_type_call ?_⟩
  rw [Around.under_plain (weight_type_call_type "set" [.ref la] []) rfl]
  have a1 := F.called_set.notType
  have a2 := F.called_set.canCreate
  have a3 := F.typeCall_set_1 (.ref la)
  repeat (any_goals (first | assumption | wp_step))
  refine codeAny_mono (code_set_led1 (.ref la) (E := E) (Q₁ := fun ob st => ob = .ref s.heap.objs.size ∧ st = { s with heap := s.heap.push (oSet w) }) ⟨rfl, rfl⟩) fun r st hr => ?_
  cases r with
  | error e => exact hr
  | ok fl =>
    cases fl with
    | ret ob =>
      obtain ⟨rfl, rfl⟩ := hr
      have g0 : (s.heap.push (oSet w)).get? s.heap.objs.size = some (oSet w) := Heap.get?_push_size _ rfl
      have ty0 : Shared.TypeIs { s with heap := s.heap.push (oSet w) } (.ref s.heap.objs.size) "set" := ⟨_, g0, rfl⟩
      have b1 := F.called_set.init.lookup
      have b2 := F.called_set.init.bind (.ref s.heap.objs.size)
      repeat (any_goals (first | assumption | wp_step))
      refine codeAny_mono (codeAny_call_builtin (R := wants (fun r st => r = .none ∧ ∃ g tk c, st = { s with heap := g, toks := tk } ∧ SetR w g s.heap.objs.size (fun j => decide (j ∈ zs)) c ∧ c ≤ zs.length ∧
          (∀ b o, s.heap.get? b = some o → g.get? b = some o)) E) F.called_set.init.plain F.entry_set_init (check_set_init_1 ty0 ?_)) fun r2 st2 hr2 => ?_
      · obtain ⟨⟨lc, ld, lt, ls⟩, gl, cl, ln, dl⟩ := isl
        simp only at cl dl
        subst cl dl
        have gl' : (s.heap.push (oSet w)).get? la = some { cls := .type "list", dict := ld, data := .seq vals ln, slots := ls } := Heap.get?_push_of_some _ gl
        have k1 := F.sub_list_set
        have k2 := F.sub_list_frozenset
        have k3 : (Value.type "list" == Value.type "dict") = false := by decide
        have il : (s.heap.push (oSet w)).IsList la vals := ⟨_, gl', rfl, ln, rfl⟩
        unfold Builtin.«set.__init__» noKeywords Builtin.Frozenset.updateFrom
        generalize hI : pyIter = It0
        wp_walk
        subst hI
        refine wpAny_pyIter_list il (wpAny_bind (wpAny_runValue ?_))
        have lS : la < s.heap.objs.size := Heap.lt_size gl
        have nh3 : A.in1.in1.in1.handled = none := by simp [nh]
        have neI : la ≠ (s.heap.push (oSet w)).objs.size := by rw [Heap.size_push]; exact Nat.ne_of_lt (Nat.lt_succ_of_lt lS)
        have off : s.heap.objs.size ∉ [(s.heap.push (oSet w)).objs.size, la] := by
          rw [Heap.size_push]
          simp only [List.mem_cons, List.not_mem_nil, or_false, not_or]
          exact ⟨Nat.ne_of_lt (Nat.lt_succ_self _), Nat.ne_of_gt lS⟩
        have each : ∀ (i : Nat) (v : Value), vals[i]? = some v → ∃ k t, zs[i]? = some k ∧ v = .int k t := fun i v hv => by
          have hi : i < zs.length := by rw [← vz]; exact (Array.getElem?_eq_some_iff.mp hv).1
          obtain ⟨t, e⟩ := IntsAre.int_at iz i v (by rw [Array.getElem?_toList]; exact hv)
          refine ⟨zs[i], t, List.getElem?_eq_getElem hi, ?_⟩
          rw [e, List.getD_eq_getElem?_getD, List.getElem?_eq_getElem hi] <;> rfl
        refine set_update_ints ((Walks.list nh3 _ la neI vals).toS) s.heap.objs.size off zs vz few each (vals.size - 0) 0 _ (by omega) (Nat.zero_le _) ⟨⟨_, Heap.get?_push_size _ rfl, rfl, rfl⟩, (il.push _)⟩
          ⟨0, Nat.le_refl 0, setR_new_at (Heap.get?_push_of_some _ g0)⟩ ?fin
        case fin =>
          intro st' c' mv cc ss
          obtain ⟨g, g2, d2, tk2, os2⟩ := st'
          have eg : g2 = s.gens := mv.gens
          have ed : d2 = s.drawn := mv.drawn
          have eo : os2 = s.os := mv.os
          subst eg ed eo
          show wpAny _ _ _ _ _ _
          refine wpAny_pure (show wpAny _ _ (ret Value.none) _ _ _ from ?_)
          rw [vz] at cc
          refine wpAny_pure ⟨rfl, g, tk2, c', rfl, ss, cc, fun b o e => ?_⟩
          have l0 : b < s.heap.objs.size := Heap.lt_size e
          have l2 : b ≠ (s.heap.push (oSet w)).objs.size := by rw [Heap.size_push]; exact Nat.ne_of_lt (Nat.lt_succ_of_lt l0)
          exact mv.heap b o (by simp only [List.mem_cons, List.not_mem_nil, or_false, not_or]; exact ⟨Nat.ne_of_lt l0, l2⟩) (Heap.get?_push_of_some _ (Heap.get?_push_of_some _ e))
      · cases r2 with
        | error e => exact hr2
        | ok fl2 =>
          cases fl2 with
          | ret r3 =>
            obtain ⟨rfl, g, tk, c', rfl, ss, cc, kk⟩ := hr2
            repeat (any_goals (first | assumption | wp_step))
            exact fin _ _ _ ss cc kk
          | _ => exact hr2.elim
    | _ => exact hr.elim
end
end DP

end
section
set_option Elab.async false
set_option linter.all false
set_option maxRecDepth 100000
set_option autoImplicit false
set_option maxHeartbeats 4000000
namespace DP
open PySem PySem.Spec PyProof.Rows L2
/-! ### sorted(set(xs)), xs a tuple of numbers -/
section
variable {P : Program} {w : World} {A : Around} {E : Value → Shared → Prop} {s : Shared}
theorem set_of_tuple {la : Addr} {vals : Array Value} (zs : List Int) {Q : Value → Shared → Prop} (nh : A.handled = none) (isl : s.heap.IsTuple la vals) (iz : IntsAre vals.toList zs) (few : zs.length + 1 < scanBound)
    (fin : ∀ (g : Heap) (tk c : Nat), SetR w g s.heap.objs.size (fun j => decide (j ∈ zs)) c → c ≤ zs.length → (∀ b o, s.heap.get? b = some o → g.get? b = some o) → Q (.ref s.heap.objs.size) { s with heap := g, toks := tk }) :
    wpAny (model P w) A (call (.type "set") [.ref la]) Q E s := by
  have vz : vals.size = zs.length := by have q := IntsAre.length iz; rw [Array.length_toList] at q; exact q
  obtain ⟨c0, tl0, mro0⟩ := F.called_set.mro
  have made0 := F.called_set.made
  have sub0 := F.called_set.sub
  refine wpAny_call (codeAny_of_tree (show wpAny _ _ (callAny (.type "set") _) _ _ _ from ?_))
  refine wpAny_pure ⟨Code.quiet_builtin _ (by decide +kernel), codeAny_builtin F.entry_type_call ?_⟩
  rw [Around.under_plain (weight_type_call_type "set" [.ref la] []) rfl]
  have a1 := F.called_set.notType
  have a2 := F.called_set.canCreate
  have a3 := F.typeCall_set_1 (.ref la)
  repeat (any_goals (first | assumption | wp_step))
  refine codeAny_mono (code_set_led1 (.ref la) (E := E) (Q₁ := fun ob st => ob = .ref s.heap.objs.size ∧ st = { s with heap := s.heap.push (oSet w) }) ⟨rfl, rfl⟩) fun r st hr => ?_
  cases r with
  | error e => exact hr
  | ok fl =>
    cases fl with
    | ret ob =>
      obtain ⟨rfl, rfl⟩ := hr
      have g0 : (s.heap.push (oSet w)).get? s.heap.objs.size = some (oSet w) := Heap.get?_push_size _ rfl
      have ty0 : Shared.TypeIs { s with heap := s.heap.push (oSet w) } (.ref s.heap.objs.size) "set" := ⟨_, g0, rfl⟩
      have b1 := F.called_set.init.lookup
      have b2 := F.called_set.init.bind (.ref s.heap.objs.size)
      repeat (any_goals (first | assumption | wp_step))
      refine codeAny_mono (codeAny_call_builtin (R := wants (fun r st => r = .none ∧ ∃ g tk c, st = { s with heap := g, toks := tk } ∧ SetR w g s.heap.objs.size (fun j => decide (j ∈ zs)) c ∧ c ≤ zs.length ∧
          (∀ b o, s.heap.get? b = some o → g.get? b = some o)) E) F.called_set.init.plain F.entry_set_init (check_set_init_1 ty0 ?_)) fun r2 st2 hr2 => ?_
      · obtain ⟨⟨lc, ld, lt, ls⟩, gl, cl, ln, dl⟩ := isl
        simp only at cl dl
        subst cl dl
        have gl' : (s.heap.push (oSet w)).get? la = some { cls := .type "tuple", dict := ld, data := .seq vals ln, slots := ls } := Heap.get?_push_of_some _ gl
        have k1 := F.sub_tuple_set
        have k2 := F.sub_tuple_frozenset
        have k3 : (Value.type "tuple" == Value.type "dict") = false := by decide
        have il : (s.heap.push (oSet w)).IsTuple la vals := ⟨_, gl', rfl, ln, rfl⟩
        unfold Builtin.«set.__init__» noKeywords Builtin.Frozenset.updateFrom
        generalize hI : pyIter = It0
        wp_walk
        subst hI
        refine wpAny_pyIter_tuple il (wpAny_bind (wpAny_runValue ?_))
        have lS : la < s.heap.objs.size := Heap.lt_size gl
        have nh3 : A.in1.in1.in1.handled = none := by simp [nh]
        have neI : la ≠ (s.heap.push (oSet w)).objs.size := by rw [Heap.size_push]; exact Nat.ne_of_lt (Nat.lt_succ_of_lt lS)
        have off : s.heap.objs.size ∉ [(s.heap.push (oSet w)).objs.size, la] := by
          rw [Heap.size_push]
          simp only [List.mem_cons, List.not_mem_nil, or_false, not_or]
          exact ⟨Nat.ne_of_lt (Nat.lt_succ_self _), Nat.ne_of_gt lS⟩
        have each : ∀ (i : Nat) (v : Value), vals[i]? = some v → ∃ k t, zs[i]? = some k ∧ v = .int k t := fun i v hv => by
          have hi : i < zs.length := by rw [← vz]; exact (Array.getElem?_eq_some_iff.mp hv).1
          obtain ⟨t, e⟩ := IntsAre.int_at iz i v (by rw [Array.getElem?_toList]; exact hv)
          refine ⟨zs[i], t, List.getElem?_eq_getElem hi, ?_⟩
          rw [e, List.getD_eq_getElem?_getD, List.getElem?_eq_getElem hi] <;> rfl
        refine set_update_ints ((Walks.tuple nh3 _ la neI vals).toS) s.heap.objs.size off zs vz few each (vals.size - 0) 0 _ (by omega) (Nat.zero_le _) ⟨⟨_, Heap.get?_push_size _ rfl, rfl, rfl⟩, (il.push _)⟩
          ⟨0, Nat.le_refl 0, setR_new_at (Heap.get?_push_of_some _ g0)⟩ ?fin
        case fin =>
          intro st' c' mv cc ss
          obtain ⟨g, g2, d2, tk2, os2⟩ := st'
          have eg : g2 = s.gens := mv.gens
          have ed : d2 = s.drawn := mv.drawn
          have eo : os2 = s.os := mv.os
          subst eg ed eo
          show wpAny _ _ _ _ _ _
          refine wpAny_pure (show wpAny _ _ (ret Value.none) _ _ _ from ?_)
          rw [vz] at cc
          refine wpAny_pure ⟨rfl, g, tk2, c', rfl, ss, cc, fun b o e => ?_⟩
          have l0 : b < s.heap.objs.size := Heap.lt_size e
          have l2 : b ≠ (s.heap.push (oSet w)).objs.size := by rw [Heap.size_push]; exact Nat.ne_of_lt (Nat.lt_succ_of_lt l0)
          exact mv.heap b o (by simp only [List.mem_cons, List.not_mem_nil, or_false, not_or]; exact ⟨Nat.ne_of_lt l0, l2⟩) (Heap.get?_push_of_some _ (Heap.get?_push_of_some _ e))
      · cases r2 with
        | error e => exact hr2
        | ok fl2 =>
          cases fl2 with
          | ret r3 =>
            obtain ⟨rfl, g, tk, c', rfl, ss, cc, kk⟩ := hr2
            repeat (any_goals (first | assumption | wp_step))
            exact fin _ _ _ ss cc kk
          | _ => exact hr2.elim
    | _ => exact hr.elim
end
end DP

end
section
set_option Elab.async false
set_option linter.all false
set_option maxRecDepth 100000
set_option autoImplicit false
set_option maxHeartbeats 4000000
namespace DP
open PySem PySem.Spec PyProof.Rows L2
/-! ### the round i -> 5 i + 1 modulo a power of two meets all -/
def S5 : Nat → Nat
  | 0 => 0
  | k + 1 => 5 * S5 k + 1
theorem S5_add (a : Nat) : ∀ b, S5 (a + b) = 5 ^ b * S5 a + S5 b
  | 0 => by simp [S5]
  | b + 1 => by
    show 5 * S5 (a + b) + 1 = 5 ^ (b + 1) * S5 a + (5 * S5 b + 1)
    rw [S5_add a b, Nat.pow_succ, Nat.mul_add, ← Nat.mul_assoc, Nat.mul_comm 5 (5 ^ b)]
    omega
theorem five_mod : ∀ n : Nat, ∃ c, 5 ^ n = 4 * c + 1
  | 0 => ⟨0, rfl⟩
  | n + 1 => by
    obtain ⟨c, e⟩ := five_mod n
    exact ⟨5 * c + 1, by rw [Nat.pow_succ, e]; omega⟩
theorem S5_pow : ∀ q : Nat, ∃ o, S5 (2 ^ q) = 2 ^ q * (2 * o + 1)
  | 0 => ⟨0, rfl⟩
  | q + 1 => by
    obtain ⟨o, e⟩ := S5_pow q
    obtain ⟨c, f⟩ := five_mod (2 ^ q)
    refine ⟨2 * o * c + o + c, ?_⟩
    have h : 2 ^ (q + 1) = 2 ^ q + 2 ^ q := by rw [Nat.pow_succ]; omega
    rw [h, S5_add, f, e]
    generalize 2 ^ q = N
    have h1 : (4 * c + 1) * (N * (2 * o + 1)) + N * (2 * o + 1) = (N + N) * ((2 * c + 1) * (2 * o + 1)) := by
      have a1 : (4 * c + 1) * (N * (2 * o + 1)) + N * (2 * o + 1) = (4 * c + 1 + 1) * (N * (2 * o + 1)) := by rw [Nat.add_mul (4 * c + 1) 1, Nat.one_mul]
      have a2 : 4 * c + 1 + 1 = 2 * (2 * c + 1) := by omega
      have a3 : N + N = 2 * N := by omega
      rw [a1, a2, a3, Nat.mul_assoc, Nat.mul_assoc, Nat.mul_left_comm N (2 * c + 1)]
    rw [h1]
    congr 1
    have b1 : (2 * c + 1) * (2 * o + 1) = 2 * c * (2 * o + 1) + (2 * o + 1) := by rw [Nat.add_mul, Nat.one_mul]
    have b2 : 2 * c * (2 * o + 1) = 2 * c * (2 * o) + 2 * c := by rw [Nat.mul_add, Nat.mul_one]
    have b3 : 2 * c * (2 * o) = 2 * (2 * o * c) := by rw [Nat.mul_assoc, Nat.mul_comm c]
    rw [b1, b2, b3]
    omega
theorem S5_hits : ∀ q j : Nat, j < 2 ^ q → ∃ k, k < 2 ^ q ∧ S5 k % 2 ^ q = j
  | 0, j, h => ⟨0, by decide, by
    have : j = 0 := by simpa using h
    rw [this]
    rfl⟩
  | q + 1, j, h => by
    have hN : 2 ^ (q + 1) = 2 * 2 ^ q := by rw [Nat.pow_succ, Nat.mul_comm]
    have pN : 0 < 2 ^ q := Nat.pow_pos (by decide)
    obtain ⟨k, hk, e⟩ := S5_hits q (j % 2 ^ q) (Nat.mod_lt _ pN)
    obtain ⟨o, f⟩ := S5_pow q
    obtain ⟨c, g⟩ := five_mod k
    have em : S5 (2 ^ q + k) = (4 * c + 1) * (2 ^ q * (2 * o + 1)) + S5 k := by rw [S5_add, f, g]
    rw [hN] at h ⊢
    have r1 : S5 k % (2 * 2 ^ q) % 2 ^ q = j % 2 ^ q := by rw [Nat.mod_mod_of_dvd _ ⟨2, Nat.mul_comm _ _⟩]; exact e
    generalize 2 ^ q = N at *
    have r2 : S5 k % (2 * N) < 2 * N := Nat.mod_lt _ (by omega)
    have two : ∀ x y : Nat, x < 2 * N → y < 2 * N → x % N = y % N → x = y ∨ x = y + N ∨ y = x + N := by
      intro x y hx hy hxy
      have low : ∀ z : Nat, z < 2 * N → (z % N = z ∧ z < N) ∨ (z % N = z - N ∧ N ≤ z) := fun z hz => by
        by_cases c : z < N
        · exact .inl ⟨Nat.mod_eq_of_lt c, c⟩
        · refine .inr ⟨?_, by omega⟩
          rw [Nat.mod_eq_sub_mod (by omega), Nat.mod_eq_of_lt (by omega)]
      rcases low x hx with ⟨a, a'⟩ | ⟨a, a'⟩ <;> rcases low y hy with ⟨b, b'⟩ | ⟨b, b'⟩ <;> omega
    by_cases ex : S5 k % (2 * N) = j
    · exact ⟨k, by omega, ex⟩
    · refine ⟨N + k, by omega, ?_⟩
      have od : (4 * c + 1) * (N * (2 * o + 1)) = 2 * N * ((4 * c + 1) * o + 2 * c) + N := by
        have a1 : (4 * c + 1) * (N * (2 * o + 1)) = N * ((4 * c + 1) * (2 * o + 1)) := Nat.mul_left_comm _ _ _
        have a2 : (4 * c + 1) * (2 * o + 1) = 2 * ((4 * c + 1) * o + 2 * c) + 1 := by
          rw [Nat.mul_add, Nat.mul_one, Nat.mul_left_comm]
          omega
        rw [a1, a2, Nat.mul_add, Nat.mul_one, Nat.mul_left_comm, Nat.mul_assoc]
      rw [em, od]
      have a3 : 2 * N * ((4 * c + 1) * o + 2 * c) + N + S5 k = (N + S5 k) + 2 * N * ((4 * c + 1) * o + 2 * c) := by omega
      rw [a3, Nat.add_mul_mod_self_left, Nat.add_mod]
      have a4 : N % (2 * N) = N := Nat.mod_eq_of_lt (by omega)
      rw [a4]
      generalize S5 k % (2 * N) = r at r1 r2 ex
      rcases two r j r2 h r1 with z | z | z
      · exact absurd z ex
      · rw [z, Nat.mod_eq_sub_mod (by omega), Nat.mod_eq_of_lt (by omega)]
        omega
      · rw [Nat.mod_eq_of_lt (by omega)]
        omega
theorem lcgI_S5 {m i : Nat} (hi : i ≤ m) : ∀ k, lcgI m i k = (5 ^ k * i + S5 k) % (m + 1)
  | 0 => by
    show i = (5 ^ 0 * i + 0) % (m + 1)
    rw [Nat.pow_zero, Nat.one_mul, Nat.add_zero, Nat.mod_eq_of_lt (by omega)]
  | k + 1 => by
    show (lcgI m i k * 5 + 1) % (m + 1) = (5 ^ (k + 1) * i + (5 * S5 k + 1)) % (m + 1)
    rw [lcgI_S5 hi k]
    have e : 5 ^ (k + 1) * i + (5 * S5 k + 1) = (5 ^ k * i + S5 k) * 5 + 1 := by
      rw [Nat.pow_succ, Nat.mul_comm (5 ^ k) 5, Nat.mul_assoc]
      omega
    rw [e]
    generalize 5 ^ k * i + S5 k = x
    rw [Nat.add_mod, Nat.mul_mod, Nat.mod_mod, ← Nat.mul_mod, ← Nat.add_mod]
/-- the masks: one less than powers of two -/
def Mk (m : Nat) : Prop := ∃ q, 3 ≤ q ∧ q ≤ 13 ∧ m + 1 = 2 ^ q
theorem lcg_hits {m i j : Nat} (hm : Mk m) (hi : i ≤ m) (hj : j ≤ m) : ∃ k, k ≤ m ∧ lcgI m i k = j := by
  obtain ⟨q, _, _, e⟩ := hm
  obtain ⟨a, ha, ea⟩ := S5_hits q i (by omega)
  obtain ⟨b, hb, eb⟩ := S5_hits q j (by omega)
  obtain ⟨o, f⟩ := S5_pow q
  have key : ∀ k, lcgI m i k = S5 (a + k) % (m + 1) := fun k => by
    rw [lcgI_S5 hi, S5_add, e, Nat.add_mod, Nat.mul_mod, ← ea, Nat.mod_mod, ← Nat.mul_mod, ← Nat.add_mod]
  by_cases c : a ≤ b
  · refine ⟨b - a, by omega, ?_⟩
    rw [key, show a + (b - a) = b by omega, e, eb]
  · refine ⟨b + 2 ^ q - a, by omega, ?_⟩
    rw [key, show a + (b + 2 ^ q - a) = 2 ^ q + b by omega, S5_add, f, e]
    rw [show 5 ^ b * (2 ^ q * (2 * o + 1)) = 2 ^ q * (5 ^ b * (2 * o + 1)) from Nat.mul_left_comm _ _ _, Nat.add_comm, Nat.add_mul_mod_self_left, eb]
theorem Mk.bd {m : Nat} (h : Mk m) : 7 ≤ m ∧ m ≤ 8191 := by
  obtain ⟨q, h1, h2, e⟩ := h
  have a := Nat.pow_le_pow_right (show 0 < 2 by decide) h1
  have b := Nat.pow_le_pow_right (show 0 < 2 by decide) h2
  have c : (2 : Nat) ^ 3 = 8 := rfl
  have d : (2 : Nat) ^ 13 = 8192 := rfl
  omega
theorem Mk.odd {m : Nat} (h : Mk m) : m % 2 = 1 := by
  obtain ⟨q, h1, _, e⟩ := h
  obtain ⟨p, rfl⟩ : ∃ p, q = p + 1 := ⟨q - 1, by omega⟩
  rw [Nat.pow_succ] at e
  omega
/-- each slot begins a run, early enough -/
theorem meets {m : Nat} (hm : Mk m) (h : Int) {j : Nat} (hj : j ≤ m) : ∃ n, n ≤ m + 12 ∧ runI m (SetTable.bits h) n = j := by
  obtain ⟨k, hk, e⟩ := lcg_hits hm (runI_le m (SetTable.bits h) 12) hj
  exact ⟨12 + k, by omega, by rw [runI_tail (bits_lt h)]; exact e⟩
theorem way_in {m : Nat} {h : Int} (k : Nat) : way m h k ≤ m := by
  have hi : SetTable.bits h % (m + 1) ≤ m := Nat.le_of_lt_succ (Nat.mod_lt _ (Nat.succ_pos _))
  have r := runEnd_bd hi
  have q := nth_in (m := m) k (runAt m (SetTable.bits h % (m + 1)) (SetTable.bits h)) (by
    show SetTable.bits h % (m + 1) + (SetTable.runEnd m (SetTable.bits h % (m + 1)) - SetTable.bits h % (m + 1)) ≤ m
    omega)
  show (nth m (runAt m (SetTable.bits h % (m + 1)) (SetTable.bits h)) k).j ≤ m
  omega
/-- the first slot on the way that is in no list -/
theorem way_first {m : Nat} (hm : Mk m) (h : Int) (l : List Nat) (hl : l.length ≤ m) : ∃ K, K < 10 * SetTable.turns m ∧ way m h K ∉ l ∧ ∀ k, k < K → way m h k ∈ l := by
  obtain ⟨j, hj, hn⟩ := st_missing l (m + 1) (by omega)
  obtain ⟨n, hn2, e⟩ := meets hm h (Nat.le_of_lt_succ hj)
  obtain ⟨k, hk, e2⟩ := run_nth m (SetTable.bits h) n
  have ew : way m h k = j := by
    show (nth m (runAt m (SetTable.bits h % (m + 1)) (SetTable.bits h)) k).j = j
    rw [e2]
    exact e
  obtain ⟨K, h1, h2, h3⟩ := st_least (p := fun k => way m h k ∉ l) k (by show way m h k ∉ l; rw [ew]; exact hn)
  refine ⟨K, ?_, h2, fun k' hk' => Classical.byContradiction fun z => h3 k' hk' z⟩
  have : 10 * SetTable.turns m = 10 * (m + 15) := rfl
  omega
end DP

end
section
set_option Elab.async false
set_option linter.all false
set_option maxRecDepth 100000
set_option autoImplicit false
set_option maxHeartbeats 4000000
namespace DP
open PySem PySem.Spec PyProof.Rows L2
/-! ### keys of numbers alone -/
mutual
def numK : NestedKey → Bool
  | .num _ => true
  | .tup ks => numKs ks
  | .none => false
  | .text _ => false
def numKs : List NestedKey → Bool
  | [] => true
  | k :: ks => numK k && numKs ks
end
section
variable {prog : Program} {w : World}
def ByAt (prog : Program) (w : World) (n : Nat) (s : Shared) (v : Value) : Prop := ∀ (A : Around) (E : Value → Shared → Prop) (Q : Bool → Shared → Prop), Q true s → wpAny (model prog w) A (hashByValue n v) Q E s
def NcAt (prog : Program) (w : World) (n : Nat) (s : Shared) (v : Value) : Prop := ∀ (A : Around) (E : Value → Shared → Prop) (Q : Bool → Shared → Prop), Q false s → wpAny (model prog w) A (ofAClassStatement n v) Q E s
theorem NcAt.leaf {n : Nat} {s : Shared} {v : Value} (h : carriedByValue v = true) : NcAt prog w n s v := fun A E Q hq => by
  have e : ofAClassStatement n v = pure false := by
    cases v with
    | ref a => cases h
    | _ => cases n <;> rfl
  rw [e]
  exact wpAny_pure hq
theorem ByAt.int {n : Nat} {s : Shared} {i : Int} {t : Tok} : ByAt prog w n s (.int i t) := fun A E Q hq => by
  have e : hashByValue n (.int i t) = pure true := by cases n <;> rfl
  rw [e]
  exact wpAny_pure hq
theorem ByAt.bool {n : Nat} {s : Shared} {b : Bool} : ByAt prog w n s (.bool b) := fun A E Q hq => by
  have e : hashByValue n (.bool b) = pure true := by cases n <;> rfl
  rw [e]
  exact wpAny_pure hq
theorem ByAt.tup {n : Nat} {s : Shared} {a : Addr} {o : Obj} {vs : Array Value} {m : Nat} (ho : s.heap.get? a = some o) (hc : o.cls = .type "tuple") (hd : o.data = .seq vs m) (hq : ∀ v ∈ vs.toList, ByAt prog w n s v) : ByAt prog w (n + 1) s (.ref a) := fun A E Q h => by
  have hT : s.TypeIs (.ref a) "tuple" := ⟨o, ho, hc⟩
  unfold hashByValue
  refine wpAny_bind (wpAny_specialOf hT F.slot_tuple_hash.lookup ?_)
  show wpAny _ _ (seqItems? (.ref a) >>= _) _ _ s
  refine wpAny_bind (wpAny_seqItems ho hd (wpAny_bind ?_))
  show wpAny _ _ (forIn vs _ _) _ _ s
  rw [← Array.forIn_toList]
  refine wpAny_forIn_list _ (fun rest r s' => (r.1 = none ∧ s' = s) ∧ ∀ v ∈ rest, ByAt prog w n s v) _ ?_ ?_ _ _ ⟨⟨rfl, rfl⟩, hq⟩
  · rintro v rest r s' ⟨⟨hr, rfl⟩, all⟩
    refine wpAny_bind (all v (.head _) _ _ _ ?_)
    simp only [Bool.not_true, Bool.false_eq_true, if_false]
    exact wpAny_pure ⟨⟨rfl, rfl⟩, fun u z => all u (.tail _ z)⟩
  · rintro ⟨r1, r2⟩ s' ⟨⟨hr, rfl⟩, _⟩
    cases hr
    exact wpAny_pure h
theorem NcAt.tup {n : Nat} {s : Shared} {a : Addr} {o : Obj} {vs : Array Value} {m : Nat} (ho : s.heap.get? a = some o) (hc : o.cls = .type "tuple") (hd : o.data = .seq vs m) (hq : ∀ v ∈ vs.toList, NcAt prog w n s v) : NcAt prog w (n + 1) s (.ref a) := fun A E Q h => by
  have hT : s.TypeIs (.ref a) "tuple" := ⟨o, ho, hc⟩
  unfold ofAClassStatement
  refine wpAny_bind (wpAny_typeOf hT ?_)
  dsimp only
  have e : (("tuple" : String) == "tuple") = true := by decide
  simp only [e, if_true, Bool.not_true, Bool.false_eq_true, if_false]
  try refine wpAny_bind (wpAny_pure ?_)
  try simp only [Bool.not_true, Bool.false_eq_true, if_false]
  show wpAny _ _ (seqItems? (.ref a) >>= _) _ _ s
  refine wpAny_bind (wpAny_seqItems ho hd ?_)
  dsimp only
  refine wpAny_bind ?_
  show wpAny _ _ (forIn vs _ _) _ _ s
  rw [← Array.forIn_toList]
  refine wpAny_forIn_list _ (fun rest r s' => (r.1 = none ∧ s' = s) ∧ ∀ v ∈ rest, NcAt prog w n s v) _ ?_ ?_ _ _ ⟨⟨rfl, rfl⟩, hq⟩
  · rintro v rest r s' ⟨⟨hr, rfl⟩, all⟩
    refine wpAny_bind (all v (.head _) _ _ _ ?_)
    simp only [Bool.false_eq_true, if_false]
    exact wpAny_pure ⟨⟨rfl, rfl⟩, fun u z => all u (.tail _ z)⟩
  · rintro ⟨r1, r2⟩ s' ⟨⟨hr, rfl⟩, _⟩
    cases hr
    exact wpAny_pure h
mutual
theorem by_key : ∀ (k : NestedKey) (v : Value) (n : Nat) (s : Shared), NestedIs s.heap k v → numK k = true → k.depth ≤ n → ByAt prog w n s v
  | .none, _, _, _, _, h, _ => nomatch h
  | .text _, _, _, _, _, h, _ => nomatch h
  | .num i, _, n, s, x, _, _ => by
    cases x with
    | bool e => exact .bool
    | int _ t => exact .int
  | .tup ks, _, n, s, x, hk, hn => by
    cases x with
    | tup hg hc hd ha =>
      simp only [NestedKey.depth] at hn
      cases n with
      | zero => omega
      | succ n => exact .tup hg hc hd (by_keys ks _ n s ha hk (by omega))
theorem by_keys : ∀ (ks : List NestedKey) (vs : List Value) (n : Nat) (s : Shared), NestedAll s.heap ks vs → numKs ks = true → NestedKey.depthAll ks ≤ n → ∀ v ∈ vs, ByAt prog w n s v
  | [], _, n, s, x, _, _, v, hv => by cases x; cases hv
  | k :: ks, _, n, s, x, hk, hn, v, hv => by
    cases x with
    | cons x1 x2 =>
      simp only [NestedKey.depthAll] at hn
      unfold numKs at hk
      obtain ⟨k1, k2⟩ := Bool.and_eq_true_iff.mp hk
      rcases List.mem_cons.mp hv with e | hv
      · rw [e]; exact by_key k _ n s x1 k1 (by omega)
      · exact by_keys ks _ n s x2 k2 (by omega) v hv
end
mutual
theorem nc_key : ∀ (k : NestedKey) (v : Value) (n : Nat) (s : Shared), NestedIs s.heap k v → k.depth ≤ n → NcAt prog w n s v
  | .none, _, _, _, x, _ => by cases x; exact .leaf rfl
  | .text _, _, _, _, x, _ => by cases x; exact .leaf rfl
  | .num i, _, n, s, x, _ => by cases x <;> exact .leaf rfl
  | .tup ks, _, n, s, x, hn => by
    cases x with
    | tup hg hc hd ha =>
      simp only [NestedKey.depth] at hn
      cases n with
      | zero => omega
      | succ n => exact .tup hg hc hd (nc_keys ks _ n s ha (by omega))
theorem nc_keys : ∀ (ks : List NestedKey) (vs : List Value) (n : Nat) (s : Shared), NestedAll s.heap ks vs → NestedKey.depthAll ks ≤ n → ∀ v ∈ vs, NcAt prog w n s v
  | [], _, n, s, x, _, v, hv => by cases x; cases hv
  | k :: ks, _, n, s, x, hn, v, hv => by
    cases x with
    | cons x1 x2 =>
      simp only [NestedKey.depthAll] at hn
      rcases List.mem_cons.mp hv with e | hv
      · rw [e]; exact nc_key k _ n s x1 (by omega)
      · exact nc_keys ks _ n s x2 (by omega) v hv
end
/-- the tuple at b is the key k, of numbers alone -/
def IsN (h : Heap) (k : NestedKey) (b : Addr) : Prop := (NestedIs h k (.ref b) ∧ k.depth ≤ 8) ∧ numK k = true
theorem IsN.at {h h' : Heap} {k : NestedKey} {b : Addr} (x : IsN h k b) (hk : ∀ a o vs n, h.get? a = some o → o.data = .seq vs n → h'.get? a = some o) : IsN h' k b := ⟨⟨NestedIs.at hk _ _ x.1.1, x.1.2⟩, x.2⟩
variable {A : Around} {E : Value → Shared → Prop} {s : Shared}
theorem seen_keys {k : NestedKey} {b : Addr} {Q : Bool → Shared → Prop} (hk : IsN s.heap k b) {ys : List Value} (hy : ∀ y ∈ ys, ∃ k' c, y = Value.ref c ∧ IsN s.heap k' c) (h : Q false s) :
    wpAny (model prog w) A (searchCouldBeSeen (.ref b) ys) Q E s := by
  unfold searchCouldBeSeen
  refine wpAny_bind ?_
  refine wpAny_forIn_list _ (fun rest r s' => (r.1 = none ∧ s' = s) ∧ ∀ y ∈ rest, ∃ k' c, y = Value.ref c ∧ IsN s.heap k' c) _ ?_ ?_ _ _ ⟨⟨rfl, rfl⟩, hy⟩
  · rintro v rest r s' ⟨⟨hr, rfl⟩, all⟩
    obtain ⟨k', c, rfl, hc⟩ := all v (.head _)
    have more : ∀ y ∈ rest, ∃ k' c, y = Value.ref c ∧ IsN s'.heap k' c := fun u z => all u (.tail _ z)
    dsimp only
    by_cases hv : (b == c || (carriedByValue (.ref b) && carriedByValue (.ref c))) = true
    · exact wp_if_pos hv (wpAny_pure ⟨⟨rfl, rfl⟩, more⟩)
    · refine wp_if_neg hv ?_
      refine wpAny_bind ((nestedKind prog w).quiet hk.1 ?_)
      simp only [Bool.not_true, Bool.false_eq_true, if_false]
      refine wpAny_bind ((nestedKind prog w).quiet hc.1 ?_)
      simp only [Bool.not_true, Bool.false_eq_true, if_false]
      refine wpAny_bind (nc_key (prog := prog) (w := w) k _ 8 s' hk.1.1 hk.1.2 _ _ _ ?_)
      simp only [Bool.false_eq_true, if_false]
      refine wpAny_bind (nc_key (prog := prog) (w := w) k' _ 8 s' hc.1.1 hc.1.2 _ _ _ ?_)
      simp only [Bool.false_eq_true, if_false]
      exact wpAny_pure ⟨⟨rfl, rfl⟩, more⟩
  · rintro ⟨r1, r2⟩ s' ⟨⟨hr, rfl⟩, _⟩
    cases hr
    exact wpAny_pure h
/-! ### the table -/
/-- a table of n members that none but adding has changed -/
structure Tb (w : World) (t : SetTable) (n : Nat) : Prop where
  ris : Ris t.place.toList
  dm : t.dummies = #[]
  sz : t.place.size = n
  msk : Mk t.mask
  bd : ∀ x ∈ t.place.toList, x ≤ t.mask
  plain : t.plain = true
  led : w.params.followText "set-order" = true ∨ t.led = true
  fit : n ≤ t.mask
theorem Tb.fits {t : SetTable} {n : Nat} (T : Tb w t n) : t.fits n = true := by
  have h := T.fit
  have h2 := T.sz
  unfold SetTable.fits SetTable.fill
  rw [T.dm, Bool.and_eq_true, beq_iff_eq, decide_eq_true_eq]
  show t.place.size = n ∧ t.place.size + 0 ≤ t.mask
  omega
theorem Tb.gw {t : SetTable} {n : Nat} (T : Tb w t n) : ¬ t.gaveWay = true := by
  unfold SetTable.gaveWay
  rw [T.msk.odd]
  decide
theorem Tb.put {t : SetTable} {n j : Nat} (T : Tb w t n) (hj : j ≤ t.mask) (hn : j ∉ t.place.toList) (hf : n + 1 ≤ t.mask) :
    (t.put j).2 = SetTable.below t.place j ∧ SetTable.below t.place j ≤ n ∧ Tb w (t.put j).1 (n + 1) ∧ (t.put j).1.mask = t.mask ∧ (t.put j).1.fill = n + 1 := by
  obtain ⟨c1, _, _⟩ := below_cut T.ris j
  have hpl : SetTable.below t.place j ≤ t.place.toList.length := by
    rw [Array.length_toList]
    exact c1
  have hpn : SetTable.below t.place j ≤ n := by
    rw [← T.sz]
    exact c1
  have hnp : t.place[SetTable.below t.place j]? ≠ some j := fun e => hn (List.mem_of_getElem? (by rw [Array.getElem?_toList]; exact e))
  have hpp := put_place t j
  have hsz : (t.put j).1.place.size = n + 1 := by
    rw [← Array.length_toList, hpp, len_ins _ hpl, Array.length_toList, T.sz]
  refine ⟨rfl, hpn, ⟨ris_insert T.ris hnp, put_dm T.dm j, hsz, T.msk, fun x hx => ?_, T.plain, T.led, hf⟩, rfl, ?_⟩
  · rw [hpp] at hx
    rcases mem_ins.1 hx with z | z
    · rw [z]
      exact hj
    · exact T.bd x z
  · show (t.put j).1.place.size + (t.put j).1.dummies.size = n + 1
    rw [hsz, put_dm T.dm j] <;> rfl
/-! ### laying anew -/
structure Fr (m d : Nat) (owner : Array (Option Nat)) : Prop where
  sz : owner.size = m + 1
  all : ∀ k, k < d → ∃ j, j ≤ m ∧ oAt owner j = some k
  ps : ∃ ps : List Nat, ps.length = d ∧ ∀ j, j ≤ m → (oAt owner j ≠ none ↔ j ∈ ps)
theorem Fr.step {m d : Nat} (hm : Mk m) {owner : Array (Option Nat)} (W : Fr m d owner) (hl : d ≤ m) (h : Int) :
    ∃ j, SetTable.layClean.free m owner (SetTable.turns m) (SetTable.bits h % (m + 1)) (SetTable.bits h) = some j ∧ Fr m (d + 1) (owner.setIfInBounds j (some d)) := by
  obtain ⟨ps, hps, hin⟩ := W.ps
  obtain ⟨j0, h0, hn0⟩ := st_missing ps (m + 1) (by omega)
  obtain ⟨n, hn, e⟩ := meets hm h (Nat.le_of_lt_succ h0)
  have hw : way m h (off m (SetTable.bits h % (m + 1)) (SetTable.bits h) n) = j0 := by
    show (nth m (runAt m (SetTable.bits h % (m + 1)) (SetTable.bits h)) (off m (SetTable.bits h % (m + 1)) (SetTable.bits h) n)).j = j0
    rw [nth_off, itL_run]
    exact e
  obtain ⟨K, k1, k2, k3⟩ := st_least (p := fun k => way m h k ∉ ps) (off m (SetTable.bits h % (m + 1)) (SetTable.bits h) n) (by show way m h _ ∉ ps; rw [hw]; exact hn0)
  have hjm : way m h K ≤ m := way_in K
  have hfr : oAt owner (way m h K) = none := Classical.byContradiction fun z => k2 ((hin _ hjm).mp z)
  have hjs : way m h K < owner.size := by rw [W.sz]; omega
  refine ⟨way m h K, free_spec m owner (SetTable.turns m) n _ _ K (by have : SetTable.turns m = m + 15 := rfl; omega) k1 (fun k hk => ?_) (by
    have z : oAt owner (nth m (runAt m (SetTable.bits h % (m + 1)) (SetTable.bits h)) K).j = none := hfr
    rw [z]
    rfl), ?_⟩
  · have q : oAt owner (way m h k) ≠ none := (hin _ (way_in k)).mpr (Classical.byContradiction fun z => k3 k hk z)
    have q : oAt owner (nth m (runAt m (SetTable.bits h % (m + 1)) (SetTable.bits h)) k).j ≠ none := q
    cases z : oAt owner (nth m (runAt m (SetTable.bits h % (m + 1)) (SetTable.bits h)) k).j with
    | none => exact absurd z q
    | some _ => rfl
  · have self := oAt_set_self (some d) hjs
    refine ⟨by rw [Array.size_setIfInBounds]; exact W.sz, fun k hk => ?_, ⟨way m h K :: ps, by rw [List.length_cons, hps], fun j hj => ?_⟩⟩
    · by_cases c : k < d
      · obtain ⟨j, hj, e⟩ := W.all k c
        refine ⟨j, hj, ?_⟩
        rw [oAt_set_ne _ (fun z => by rw [z, hfr] at e; cases e)]
        exact e
      · have ek : k = d := by omega
        rw [ek]
        exact ⟨way m h K, hjm, self⟩
    · by_cases c : j = way m h K
      · rw [c, self]
        exact ⟨fun _ => .head _, fun _ z => nomatch z⟩
      · rw [oAt_set_ne _ c, hin j hj, List.mem_cons]
        exact ⟨.inr, fun z => z.resolve_left c⟩
theorem fr_fold {m : Nat} (hm : Mk m) : ∀ (rest : List Int) (d : Nat) (owner : Array (Option Nat)), Fr m d owner → d + rest.length ≤ m →
    ∃ owner', rest.foldl (stepF m) (some (owner, d)) = some (owner', d + rest.length) ∧ Fr m (d + rest.length) owner'
  | [], d, owner, W, _ => ⟨owner, rfl, W⟩
  | h :: rest, d, owner, W, hl => by
    rw [List.length_cons] at hl
    obtain ⟨j, e, W'⟩ := W.step hm (by omega) h
    obtain ⟨owner', f, W2⟩ := fr_fold hm rest (d + 1) _ W' (by omega)
    have ea : d + 1 + rest.length = d + (h :: rest).length := by rw [List.length_cons]; omega
    rw [ea] at f W2
    refine ⟨owner', ?_, W2⟩
    rw [List.foldl_cons, stepF_some e]
    exact f
theorem fr_zero (m : Nat) : Fr m 0 (Array.replicate (m + 1) none) where
  sz := by simp
  all := fun k hk => absurd hk (Nat.not_lt_zero _)
  ps := ⟨[], rfl, fun j hj => ⟨fun z => absurd (oAt_init hj) z, fun z => nomatch z⟩⟩
theorem fr_lay {m : Nat} (hm : Mk m) {hs : Array Int} (hn : hs.size ≤ m) : ∃ owner, SetTable.layClean m hs = some owner ∧ Fr m hs.size owner := by
  have z := fr_fold hm hs.toList 0 _ (fr_zero m) (by rw [Array.length_toList]; omega)
  rw [Nat.zero_add, Array.length_toList] at z
  obtain ⟨owner, f, W⟩ := z
  refine ⟨owner, ?_, W⟩
  rw [layClean_eq, f]
  rfl
theorem lay_new (t : SetTable) {hs : Array Int} {wanted M : Nat} (hw : SetTable.sizeAbove wanted - 1 = M) (hM : Mk M) (hn : hs.size ≤ M) (pl : t.plain = true) (ld : w.params.followText "set-order" = true ∨ t.led = true) :
    ∃ t' order, t.relaid hs wanted = some (t', order) ∧ order.toList.Perm (List.range hs.size) ∧ Tb w t' hs.size ∧ t'.mask = M := by
  obtain ⟨owner, e, W⟩ := fr_lay hM hn
  have ris := ris_live (fun j => owner.getD j none) (List.range (M + 1)) (by
    unfold Ris
    first | exact List.pairwise_lt_range | exact List.pairwise_lt_range _)
  have r1 : Ris ((liveOf M owner).map (·.1)) := ris.1
  have r2 : ∀ x ∈ (liveOf M owner).map (·.1), x ∈ List.range (M + 1) := ris.2
  have nd : ((liveOf M owner).map (·.1)).Nodup := List.Pairwise.imp (fun h => Nat.ne_of_lt h) r1
  have hlen : (liveOf M owner).length = hs.size := by
    obtain ⟨ps, p1, p2⟩ := W.ps
    have a := nat_nodup_len ((liveOf M owner).map (·.1)) ps nd fun x hx => by
      obtain ⟨⟨y, k⟩, hq, rfl⟩ := List.mem_map.mp hx
      obtain ⟨b1, b2⟩ := (mem_live W.sz).1 hq
      exact (p2 y b1).mp (by rw [b2]; exact fun z => nomatch z)
    have b := nat_nodup_len (List.range hs.size) ((liveOf M owner).map (·.2)) List.nodup_range fun k hk => by
      obtain ⟨j, b1, b2⟩ := W.all k (List.mem_range.mp hk)
      exact List.mem_map.mpr ⟨(j, k), (mem_live W.sz).2 ⟨b1, b2⟩, rfl⟩
    rw [List.length_map, p1] at a
    rw [List.length_map, List.length_range] at b
    omega
  refine ⟨tabOf t M owner, ((liveOf M owner).map (·.2)).toArray, by rw [relaid_eq, hw, e]; rfl, ?_, ⟨r1, rfl, ?_, hM, fun x hx => Nat.le_of_lt_succ (List.mem_range.mp (r2 x hx)), pl, ld, hn⟩, rfl⟩
  · refine perm_range hs.size _ (by show ((liveOf M owner).map (·.2)).length = hs.size; rw [List.length_map]; exact hlen) fun k hk => ?_
    obtain ⟨j, b1, b2⟩ := W.all k hk
    exact List.mem_map.mpr ⟨(j, k), (mem_live W.sz).2 ⟨b1, b2⟩, rfl⟩
  · show ((liveOf M owner).map (·.1)).toArray.size = hs.size
    rw [List.size_toArray, List.length_map]
    exact hlen
theorem above_go (n : Nat) : ∀ f a : Nat, n < 2 ^ (a + f) → ∃ q, a ≤ q ∧ SetTable.sizeAbove.go n f (2 ^ a) = 2 ^ q ∧ n < 2 ^ q ∧ (q = a ∨ 2 ^ (q - 1) ≤ n)
  | 0, a, h => ⟨a, Nat.le_refl _, rfl, h, .inl rfl⟩
  | f + 1, a, h => by
    unfold SetTable.sizeAbove.go
    by_cases c : 2 ^ a ≤ n
    · rw [if_pos c, ← Nat.pow_succ]
      obtain ⟨q, h1, h2, h3, h4⟩ := above_go n f (a + 1) (by rw [show a + 1 + f = a + (f + 1) by omega]; exact h)
      refine ⟨q, by omega, h2, h3, .inr ?_⟩
      rcases h4 with z | z
      · rw [z]; exact c
      · exact z
    · rw [if_neg c]
      exact ⟨a, Nat.le_refl _, rfl, by omega, .inl rfl⟩
theorem above_ok {n : Nat} (hn : n ≤ 2000) : ∃ M, SetTable.sizeAbove (SetTable.grown n) - 1 = M ∧ Mk M ∧ SetTable.sizeAbove (SetTable.grown n) ≤ 8192 ∧ 4 * n ≤ M := by
  have e : SetTable.grown n = n * 4 := by unfold SetTable.grown; rw [if_neg (by omega)]
  rw [e]
  obtain ⟨q, h1, h2, h3, h4⟩ := above_go (n * 4) 64 3 (Nat.lt_of_lt_of_le (show n * 4 < 2 ^ 13 by omega) (Nat.pow_le_pow_right (by decide) (by decide)))
  have h2 : SetTable.sizeAbove (n * 4) = 2 ^ q := h2
  have q13 : q ≤ 13 := by
    rcases h4 with z | z
    · omega
    · by_cases c : q ≤ 13
      · exact c
      · have : (2 : Nat) ^ 13 ≤ 2 ^ (q - 1) := Nat.pow_le_pow_right (by decide) (by omega)
        have : (2 : Nat) ^ 13 = 8192 := rfl
        omega
  have p13 : (2 : Nat) ^ q ≤ 2 ^ 13 := Nat.pow_le_pow_right (by decide) q13
  have e13 : (2 : Nat) ^ 13 = 8192 := rfl
  refine ⟨2 ^ q - 1, by rw [h2], ⟨q, h1, q13, by omega⟩, by rw [h2]; omega, by omega⟩
end
end DP

end
section
set_option Elab.async false
set_option linter.all false
set_option maxRecDepth 100000
set_option autoImplicit false
set_option maxHeartbeats 4000000
namespace DP
open PySem PySem.Spec PyProof.Rows L2
section
variable {prog : Program} {w : World} {A : Around} {E : Value → Shared → Prop} {s : Shared}
/-- at a stands a set of the values vs, in whatever order -/
structure VSet (w : World) (h : Heap) (a : Addr) (vs : List Value) (es : Array (Int × Value)) (ep : Nat) (t : SetTable) : Prop where
  ob : ∃ o, h.get? a = some o ∧ o.ExactSet ∧ o.data = .set es ep t
  per : (es.toList.map (·.2)).Perm vs
  tb : Tb w t es.size
theorem VSet.len {h : Heap} {a : Addr} {vs : List Value} {es : Array (Int × Value)} {ep : Nat} {t : SetTable} (R : VSet w h a vs es ep t) : es.size = vs.length := by
  have := R.per.length_eq
  rwa [List.length_map, Array.length_toList] at this
variable {a : Addr} {vs : List Value} {es : Array (Int × Value)} {ep : Nat} {t : SetTable}
theorem probe_plain (m : Nat) : ∀ (n : Nat) (p : SetTable.Probe), p.dummy = none → (nth m p n).dummy = none
  | 0, _, h => h
  | n + 1, p, h => probe_plain m n (adv m p) (by unfold adv; split <;> exact h)
/-- the search for a key that none of the members is, from the c-th step of the way on -/
theorem search_way (R : VSet w s.heap a vs es ep t) (hu : A.units + 8 < cLine) {x : Addr} {k : NestedKey} {h : Int} (hx : IsN s.heap k x) (hk : ∀ v ∈ vs, ∃ k' b, v = Value.ref b ∧ IsN s.heap k' b ∧ k' ≠ k) {K : Nat} (hKf : K < 10 * SetTable.turns t.mask)
    (hK : way t.mask h K ∉ t.place.toList) (hKb : ∀ c, c < K → way t.mask h c ∈ t.place.toList) {Q : SetFound → Shared → Prop} (q : Q (.free (way t.mask h K) false) s) :
    ∀ (f c : Nat) (stand : Option SetTable.Probe), stand.getD (t.probeStart h) = nth t.mask (runAt t.mask (SetTable.bits h % (t.mask + 1)) (SetTable.bits h)) c → c ≤ K → K - c < f →
      wpAny (model prog w) A (setSearchFrom a (.ref x) h true f stand) Q E s
  | 0, c, stand, _, _, hf => absurd hf (Nat.not_lt_zero _)
  | f + 1, c, stand, hst, hc, hf => by
    obtain ⟨o, ho, hex, hd⟩ := R.ob
    rw [setSearchFrom_succ]
    refine wpAny_bind (wpAny_setState_of ho hd R.tb.fits ?_)
    dsimp only
    refine wp_if_neg R.tb.gw ?_
    try refine wpAny_bind (wpAny_pure ?_)
    generalize hP : runAt t.mask (SetTable.bits h % (t.mask + 1)) (SetTable.bits h) = P at hst
    have wj : ∀ c, way t.mask h c = (nth t.mask P c).j := fun c => by rw [← hP]
    have sh : ∀ q, nth t.mask (nth t.mask P c) q = nth t.mask P (c + q) := fun q => (nth_add t.mask c _ q).symm
    have e1 : ∀ q, (nth t.mask (nth t.mask P c) q).j = way t.mask h (c + q) := fun q => by rw [sh, wj]
    have hnd : (nth t.mask P c).dummy = none := probe_plain _ _ _ (by rw [← hP]; rfl)
    have spec := go_spec t R.tb.ris R.tb.dm (fun i => (es[i]?.map (·.1)).getD 0) h (10 * SetTable.turns t.mask) (K - c) _ hnd (by omega)
      (fun q hq => by rw [e1]; exact hKb (c + q) (by omega)) (by rw [e1, show c + (K - c) = K by omega]; exact hK)
    rcases spec with ⟨q', i, hq, hi, hh, hno, hpr⟩ | ⟨hno, hpr⟩
    · have hpr' : t.probe (fun i => (es[i]?.map (·.1)).getD 0) h (stand.getD (t.probeStart h)) = some (.candidate (way t.mask h (c + q')) i (nth t.mask P (c + (q' + 1)))) := by
        rw [hst, ← e1, ← sh]
        exact hpr
      rw [hpr']
      dsimp only
      rw [e1] at hi
      have hil : i < es.size := by
        have h1 : i < t.place.toList.length := (List.getElem?_eq_some_iff.mp hi).1
        rw [Array.length_toList, R.tb.sz] at h1
        exact h1
      obtain ⟨hs, v⟩ : Int × Value := es[i]
      obtain ⟨e, he⟩ : ∃ e, es[i]? = some e := ⟨es[i], by simp [hil]⟩
      obtain ⟨hy, y⟩ := e
      have hmem : y ∈ vs := R.per.mem_iff.mp (List.mem_map.mpr ⟨(hy, y), List.mem_of_getElem? (by rw [Array.getElem?_toList]; exact he), rfl⟩)
      obtain ⟨k', b, rfl, kb, ne⟩ := hk y hmem
      have rest : wpAny (model prog w) A (searchRest a (.ref x) h true f es t (way t.mask h (c + q')) i (nth t.mask P (c + (q' + 1)))) Q E s := by
        unfold searchRest
        rw [he]
        dsimp only
        refine wpAny_bind (wpAny_holding ((nestedKind prog w).eqBool (show A.units + 8 < cLine from hu) kb.1 hx.1 ?_))
        refine wpAny_bind (wpAny_setState_of ho hd R.tb.fits ?_)
        dsimp only
        refine wp_if_neg (by simp [ne]) ?_
        try refine wpAny_bind (wpAny_pure ?_)
        rw [sameMem]
        dsimp only
        have hsl : t.slot (way t.mask h (c + q')) = .live i := slot_live R.tb.ris hi
        simp only [if_true, hsl, he]
        refine wpAny_bind (wpAny_isSame_ref_self (wpAny_bind (wpAny_pure ?_)))
        simp only [if_true]
        refine wp_if_neg (by simp [ne]) ?_
        exact search_way R hu hx hk hKf hK hKb q f (c + (q' + 1)) _ (by rw [hP]; rfl) (by omega) (by omega)
      by_cases hl : t.led = true
      · refine wp_if_neg (by simp [hl]) ?_
        try refine wpAny_bind (wpAny_pure ?_)
        exact rest
      · refine wp_if_pos (by simp [hl]) ?_
        refine wpAny_bind (seen_keys hx (fun y hy => ?_) ?_)
        · obtain ⟨e, he, ee⟩ := List.mem_map.mp hy
          have he1 : e ∈ es ∧ e.1 = h := by simpa using he
          have he2 : e ∈ es.toList := by simpa using he1.1
          obtain ⟨k2, b2, e2, kb2, _⟩ := hk y (R.per.mem_iff.mp (List.mem_map.mpr ⟨e, he2, ee⟩))
          exact ⟨k2, b2, e2, kb2⟩
        · refine wp_if_neg (by decide) ?_
          try refine wpAny_bind (wpAny_pure ?_)
          exact rest
    · have hpr' : t.probe (fun i => (es[i]?.map (·.1)).getD 0) h (stand.getD (t.probeStart h)) = some (.empty (way t.mask h K) none) := by
        have e2 : way t.mask h K = (nth t.mask (nth t.mask P c) (K - c)).j := by rw [e1, show c + (K - c) = K by omega]
        rw [hst, e2]
        exact hpr
      rw [hpr']
      dsimp only
      exact wpAny_pure q
theorem search_new (R : VSet w s.heap a vs es ep t) (hu : A.units + 8 < cLine) {x : Addr} {k : NestedKey} {h : Int} (hx : IsN s.heap k x) (hk : ∀ v ∈ vs, ∃ k' b, v = Value.ref b ∧ IsN s.heap k' b ∧ k' ≠ k) {Q : SetFound → Shared → Prop}
    (q : ∀ j, j ≤ t.mask → j ∉ t.place.toList → Q (.free j false) s) : wpAny (model prog w) A (setSearch a (.ref x) h true) Q E s := by
  have hz : t.place.toList.length ≤ t.mask := by rw [Array.length_toList, R.tb.sz]; exact R.tb.fit
  obtain ⟨K, hKf, hK, hKb⟩ := way_first R.tb.msk h t.place.toList hz
  have hb := R.tb.msk.bd
  have ht : SetTable.turns t.mask = t.mask + 15 := rfl
  unfold setSearch
  exact search_way R hu hx hk hKf hK hKb (q _ (way_in K) hK) 100000 0 none rfl (Nat.zero_le _) (by omega)
/-- a tuple isn't the set -/
theorem IsN.same {h h' : Heap} {k : NestedKey} {b : Addr} {o : Obj} (hb : IsN h k b) (ho : h.get? a = some o) (hd : o.data = .set es ep t) (hs : Heap.SameBut a h h') : IsN h' k b :=
  hb.at fun c o' vs n hc hdc => (hs.2 c (fun e => by
    rw [e, ho] at hc
    cases hc
    rw [hd] at hdc
    exact nomatch hdc)).trans hc
theorem vals_order (es : Array (Int × Value)) (order : Array Nat) (hp : order.toList.Perm (List.range es.size)) : (order.filterMap (es[·]?)).toList.Perm es.toList := by
  have h2 : (List.range es.size).filterMap (fun i => es[i]?) = es.toList := by
    have key : ∀ n, n ≤ es.toList.length → (List.range n).filterMap (fun i => es[i]?) = es.toList.take n := by
      intro n
      induction n with
      | zero => intro _; rfl
      | succ n ih =>
        intro hn
        rw [List.range_succ, List.filterMap_append, ih (by omega), List.take_succ]
        have e : es[n]? = some (es.toList[n]'hn) := by rw [← Array.getElem?_toList, List.getElem?_eq_getElem hn]
        rw [List.filterMap_cons_some e, List.getElem?_eq_getElem hn]
        rfl
    have z := key es.size (by rw [Array.length_toList]; exact Nat.le_refl _)
    rw [z]
    exact List.take_of_length_le (by rw [Array.length_toList]; exact Nat.le_refl _)
  have h1 : (order.toList.filterMap fun i => es[i]?).Perm ((List.range es.size).filterMap fun i => es[i]?) := hp.filterMap _
  rw [h2] at h1
  first | (rw [Array.toList_filterMap]; exact h1) | simpa using h1
/-- the table laid anew, larger -/
theorem relay_new {o : Obj} (ho : s.heap.get? a = some o) (hex : o.ExactSet) (hd : o.data = .set es ep t) (T : Tb w t es.size) (hz : es.size ≤ 2000) {Q : Unit → Shared → Prop}
    (hQ : ∀ h' es' ep' t', Heap.SameBut a s.heap h' → VSet w h' a (es.toList.map (·.2)) es' ep' t' → es.size * 5 < t'.mask * 3 ∨ es.size = 0 → Q () { s with heap := h' }) : wpAny (model prog w) A (setRelay a (SetTable.grown es.size)) Q E s := by
  obtain ⟨M, hw, hM, h8, h4⟩ := above_ok hz
  obtain ⟨t', order, e, hp, T', em⟩ := lay_new (w := w) t (hs := es.map (·.1)) hw hM (by rw [Array.size_map]; omega) T.plain T.led
  rw [Array.size_map] at hp T'
  have po := vals_order es order hp
  have hs2 : (order.filterMap (es[·]?)).size = es.size := by
    have := po.length_eq
    rwa [Array.length_toList, Array.length_toList] at this
  rw [setRelay_eq]
  refine wpAny_bind (wpAny_setState_of ho hd T.fits ?_)
  dsimp only
  refine wp_if_neg (by rw [sizeLine_eq]; omega) ?_
  try refine wpAny_bind (wpAny_pure ?_)
  rw [e]
  dsimp only
  refine wpAny_bind ?_
  refine wp_if_neg (by rw [hs2]; simp) ?_
  try refine wpAny_bind (wpAny_pure ?_)
  refine wpAny_pure ?_
  dsimp only
  refine wpAny_storeSet_of ho hd ?_ (by rw [hs2, sizeLine_eq]; omega)
  refine hQ _ (order.filterMap (es[·]?)) (ep + 1) t' (Heap.SameBut.update ..) ⟨⟨_, store_at ho hd, ⟨hex.1, hex.2.1, hex.2.2⟩, rfl⟩, po.map _, by rw [hs2]; exact T'⟩ (by rw [em]; omega)
/-- adding a new key -/
theorem add_new (R : VSet w s.heap a vs es ep t) (rm : vs.length * 5 < t.mask * 3) (hu : A.units + 8 < cLine) {x : Addr} {k : NestedKey} {h : Int} (hx : IsN s.heap k x) (hk : ∀ v ∈ vs, ∃ k' b, v = Value.ref b ∧ IsN s.heap k' b ∧ k' ≠ k) (hz : vs.length + 1 ≤ 2000) {Q : Bool → Shared → Prop}
    (hQ : ∀ h' es' ep' t', Heap.SameBut a s.heap h' → VSet w h' a (.ref x :: vs) es' ep' t' → (vs.length + 1) * 5 < t'.mask * 3 → Q true { s with heap := h' }) :
    wpAny (model prog w) A (setAddHashed a (.ref x) h) Q E s := by
  obtain ⟨o, ho, hex, hd⟩ := R.ob
  have hl := R.len
  have hb := R.tb.msk.bd
  unfold setAddHashed
  refine wpAny_holding ?_
  rw [show (100000 : Nat) = 99999 + 1 from rfl, setAddHashedIn_succ]
  refine wpAny_bind (wpAny_setState_of ho hd R.tb.fits ?_)
  dsimp only
  refine wp_if_neg (by simp [byScan, Value.scannable]) ?_
  try refine wpAny_bind (wpAny_pure ?_)
  refine wpAny_bind (search_new R hu hx hk fun j hj hn => ?_)
  dsimp only
  refine wpAny_bind (wpAny_setState_of ho hd R.tb.fits ?_)
  dsimp only
  obtain ⟨q1, q2, q3, q4, q5⟩ := R.tb.put hj hn (by omega)
  have hp1 : (t.put j).1.plain = true := q3.plain
  generalize hpt : t.put j = pt at q1 q3 q4 q5 hp1 ⊢
  obtain ⟨t1, p⟩ := pt
  dsimp only at q1 q3 q4 q5 hp1 ⊢
  subst q1
  first
    | (refine wpAny_bind ?_; refine wp_if_pos hp1 ?_; refine by_key k _ 8 s hx.1.1 hx.2 hx.1.2 _ _ _ ?_)
    | refine wp_if_pos hp1 (wpAny_bind (by_key k _ 8 s hx.1.1 hx.2 hx.1.2 _ _ _ ?_))
  simp only [if_true]
  generalize SetTable.below t.place j = p at q2
  have hin : (SetTable.insertAt es p (h, Value.ref x)).toList = es.toList.take p ++ (h, Value.ref x) :: es.toList.drop p := SetTable.toList_insertAt _ _ _
  have pm : (SetTable.insertAt es p (h, Value.ref x)).toList.Perm ((h, Value.ref x) :: es.toList) := by
    rw [hin]
    have z : (es.toList.take p ++ (h, Value.ref x) :: es.toList.drop p).Perm ((h, Value.ref x) :: (es.toList.take p ++ es.toList.drop p)) := List.perm_middle
    rwa [List.take_append_drop] at z
  generalize SetTable.insertAt es p (h, Value.ref x) = es1 at pm hin ⊢
  have hes : es1.size = es.size + 1 := by
    have := pm.length_eq
    rw [List.length_cons, Array.length_toList, Array.length_toList] at this
    exact this
  rw [← hes] at q3
  refine wpAny_bind (wpAny_storeSet_of ho hd ?_ (by rw [hes, sizeLine_eq]; omega))
  have sb : Heap.SameBut a s.heap (s.heap.update a (Obj.putSet es1 t1)) := Heap.SameBut.update ..
  have ho1 := store_at (es' := es1) (t' := t1) ho hd
  generalize s.heap.update a (Obj.putSet es1 t1) = h1 at sb ho1 ⊢
  have per1 : (es1.toList.map (·.2)).Perm (.ref x :: vs) := by
    have z := pm.map (fun e : Int × Value => e.2)
    exact z.trans (R.per.cons _)
  by_cases hf : t1.tooFull = true
  · first
      | (refine wpAny_bind ?_; refine wp_if_pos (by simp [hf]) ?_)
      | (refine wp_if_pos (by simp [hf]) ?_; refine wpAny_bind ?_)
    rw [← hes]
    refine relay_new (s := { s with heap := h1 }) ho1 ⟨hex.1, hex.2.1, hex.2.2⟩ rfl q3 (by rw [hes]; omega) fun h2 es2 ep2 t2 sb2 R2 rm2 => ?_
    refine wpAny_pure (hQ h2 es2 ep2 t2 (sb.trans sb2) ⟨R2.ob, R2.per.trans per1, R2.tb⟩ ?_)
    rw [hes] at rm2
    omega
  · first
      | refine wp_if_neg (by simp [hf]) ?_
      | (refine wpAny_bind ?_; refine wp_if_neg (by simp [hf]) ?_; refine wpAny_pure ?_)
    refine wpAny_pure (hQ h1 es1 (ep + 1) t1 sb ⟨⟨_, ho1, ⟨hex.1, hex.2.1, hex.2.2⟩, rfl⟩, per1, q3⟩ ?_)
    have g := hf
    unfold SetTable.tooFull at g
    rw [decide_eq_true_eq, q5] at g
    omega
end
end DP

end
section
set_option Elab.async false
set_option linter.all false
set_option maxRecDepth 100000
set_option autoImplicit false
set_option maxHeartbeats 4000000
namespace DP
open PySem PySem.Spec PyProof.Rows L2
section
variable {prog : Program} {w : World} {A : Around} {E : Value → Shared → Prop} {s : Shared}
abbrev rfs (ks : List (Addr × NestedKey)) : List Value := ks.map fun p => Value.ref p.1
/-- a set with room for more -/
def Has (w : World) (h : Heap) (a : Addr) (ks : List (Addr × NestedKey)) : Prop := ∃ es ep t, VSet w h a (rfs ks) es ep t ∧ ks.length * 5 < t.mask * 3
theorem Has.keep {h h' : Heap} {a : Addr} {ks : List (Addr × NestedKey)} (R : Has w h a ks) (ha : ∀ o, h.get? a = some o → h'.get? a = some o) : Has w h' a ks := by
  obtain ⟨es, ep, t, ⟨⟨o, ho, r⟩, q1, q2⟩, rm⟩ := R
  exact ⟨es, ep, t, ⟨⟨o, ha o ho, r⟩, q1, q2⟩, rm⟩
theorem has_fresh {h : Heap} {a : Addr} (ho : h.get? a = some { cls := .type "set", dict := none, data := .set #[] 0 (.fresh 0 0 (!w.params.followText "set-order")) }) : Has w h a [] :=
  ⟨#[], 0, _, ⟨⟨_, ho, ⟨rfl, rfl, rfl⟩, rfl⟩, .refl _, ⟨List.Pairwise.nil, rfl, rfl, ⟨3, by decide, by decide, rfl⟩, fun x hx => (by cases hx), rfl, by
    show _ ∨ (!w.params.followText "set-order") = true
    cases w.params.followText "set-order"
    · exact .inr rfl
    · exact .inl rfl, (show 0 ≤ 7 by decide)⟩⟩, (show 0 * 5 < 7 * 3 by decide)⟩
/-- set.update's loop over keys of which no two are alike -/
theorem update_new {I : Addr} {fp wr : List Addr} {G : Array GenState → Array GenState → Prop} {n : Nat} {Pv : Nat → Value → Prop} {St : Nat → Shared → Prop} {R : Result → Shared → Prop}
    (W : WalksS prog w A.in1 I fp wr G n Pv St) (S : Addr) (hSf : S ∉ fp) (ks : List (Addr × NestedKey)) (hn : n = ks.length) (hz : ks.length ≤ 2000) (nd : (ks.map (·.2)).Nodup) (hval : ∀ i v, Pv i v → ∃ p, ks[i]? = some p ∧ v = .ref p.1)
    (h0 : Heap) (hk : ∀ p ∈ ks, IsN h0 p.2 p.1) (hS0 : h0.get? S = none) (hw0 : ∀ b ∈ wr, h0.get? b = none) (hu : A.in1.units + 8 < cLine) :
    ∀ (k i : Nat) (s : Shared), n - i = k → i ≤ n → St i s → (∀ b o, h0.get? b = some o → s.heap.get? b = some o) → Has w s.heap S (ks.take i) →
      (∀ s', Moved (S :: wr) G s s' → Has w s'.heap S ks → (∀ b o, h0.get? b = some o → s'.heap.get? b = some o) → R (.ok (.ret .none)) s') →
      codeAny (model prog w) A (.builtin "set.update.loop" ⟨[.ref S, .ref I], []⟩) R s := by
  have hSw : S ∉ wr := fun h => hSf (W.sub _ h)
  have hsub : ∀ b ∈ wr, b ∈ S :: wr := fun b hb => List.mem_cons_of_mem _ hb
  have keepM : ∀ {s s' : Shared}, Moved wr G s s' → (∀ b o, h0.get? b = some o → s.heap.get? b = some o) → ∀ b o, h0.get? b = some o → s'.heap.get? b = some o := fun hm hkp b o e =>
    hm.heap b o (fun hb => by rw [hw0 b hb] at e; cases e) (hkp b o e)
  have up : ∀ {h : Heap}, (∀ b o, h0.get? b = some o → h.get? b = some o) → ∀ p ∈ ks, IsN h p.2 p.1 := fun hkp p hp => (hk p hp).at fun b o _ _ e _ => hkp b o e
  intro k
  induction k with
  | zero =>
    intro i s hk' hi hst hkp hS hR
    have hin : i = n := by omega
    subst hin
    refine codeAny_builtin F.entry_set_update_loop ?_
    rw [Around.under_plainId F.plain_set_update_loop _]
    show wpAny _ A.in1 (pyNext (.ref I) >>= _) _ _ s
    refine wpAny_bind (W.done s _ _ hst fun s' hm => ?_)
    show wpAny _ A.in1 (ret Value.none) _ _ s'
    rw [hn, List.take_length] at hS
    exact wpAny_pure (hR s' (hm.mono hsub) (hS.keep fun o e => hm.heap S o hSw e) (keepM hm hkp))
  | succ k ih =>
    intro i s hk' hi hst hkp hS hR
    have hlt : i < n := by omega
    refine codeAny_builtin F.entry_set_update_loop ?_
    rw [Around.under_plainId F.plain_set_update_loop _]
    show wpAny _ A.in1 (pyNext (.ref I) >>= _) _ _ s
    refine wpAny_bind (W.item i s _ _ hlt hst fun v s' hP hst' hm => ?_)
    obtain ⟨p, hp, rfl⟩ := hval i v hP
    have hkp' := keepM hm hkp
    obtain ⟨es, ep, t, hS', rm⟩ : Has w s'.heap S (ks.take i) := hS.keep fun o e => hm.heap S o hSw e
    have hm2 : p ∈ ks := List.mem_of_getElem? hp
    have hx : IsN s'.heap p.2 p.1 := up hkp' p hm2
    have tn : ks.take (i + 1) = ks.take i ++ [p] := by rw [List.take_succ, hp]; rfl
    have ltk : (ks.take i).length = i := by rw [List.length_take]; omega
    have dis : ∀ v ∈ rfs (ks.take i), ∃ k' b, v = Value.ref b ∧ IsN s'.heap k' b ∧ k' ≠ p.2 := fun v hv => by
      obtain ⟨q, hq, rfl⟩ := List.mem_map.mp hv
      refine ⟨q.2, q.1, rfl, up hkp' q (List.mem_of_mem_take hq), fun e => ?_⟩
      have nd2 : ((ks.take (i + 1)).map (·.2)).Nodup := (((List.take_sublist (i + 1) ks).map (·.2)).nodup nd)
      rw [tn, List.map_append] at nd2
      obtain ⟨_, _, z⟩ := List.nodup_append.mp nd2
      exact z q.2 (List.mem_map.mpr ⟨q, hq, rfl⟩) p.2 (by simp) e
    show wpAny _ A.in1 (holding [Value.ref p.1] (setAdd S (.ref p.1)) >>= _) _ _ s'
    refine wpAny_bind (wpAny_holding ?_)
    unfold setAdd
    refine wpAny_holding ?_
    refine wpAny_bind ((nestedKind prog w).pyHash (show A.in1.units + 8 < cLine from hu) hx.1 ?_)
    refine add_new (s := { s' with toks := s'.toks + (nestedKind prog w).draws p.2 }) hS' (by rw [List.length_map]; exact rm) hu hx dis (by rw [List.length_map, ltk]; omega) fun h' es' ep' t' hsb hS2 rm2 => ?_
    have g' : Has w h' S (ks.take (i + 1)) := by
      refine ⟨es', ep', t', ⟨hS2.ob, hS2.per.trans ?_, hS2.tb⟩, ?_⟩
      · rw [tn]
        show (Value.ref p.1 :: rfs (ks.take i)).Perm ((ks.take i ++ [p]).map fun p => Value.ref p.1)
        rw [List.map_append]
        exact (List.perm_append_singleton _ _).symm
      · rw [tn, List.length_append]
        rw [List.length_map] at rm2
        exact rm2
    have hkp2 : ∀ b o, h0.get? b = some o → h'.get? b = some o := fun b o e => (hsb.2 b (fun z => by rw [z, hS0] at e; cases e)).trans (hkp' b o e)
    refine wpAny_pure ⟨plainId_quiet F.plain_set_update_loop _, ih (i + 1) _ (by omega) hlt (W.frame _ s' _ _ hst' (Nat.le_add_right _ _) fun b hb o e => ?_) hkp2 g' fun s'' hm'' hS'' hkp'' => ?_⟩
    · rw [hsb.2 b (fun h : b = S => hSf (by rw [← h]; exact hb))]; exact e
    · refine hR s'' (Moved.trans W.gtrans ((hm.mono hsub).then_heap (Nat.le_add_right _ _) fun b o hb e => ?_) hm'') hS'' hkp''
      rw [hsb.2 b (fun h : b = S => hb (by rw [h]; exact List.mem_cons_self))]; exact e

set_option maxHeartbeats 8000000 in
/-- set(xs), xs a list of keys of which no two are alike -/
theorem call_set_new {l : Addr} {items : Array Value} (ks : List (Addr × NestedKey)) {Q : Value → Shared → Prop} (hh : A.handled = none) (hl : s.heap.IsList l items) (hit : items.toList = rfs ks)
    (hk : ∀ p ∈ ks, IsN s.heap p.2 p.1) (hz : ks.length ≤ 2000) (nd : (ks.map (·.2)).Nodup) (hu : A.units + 16 < cLine)
    (h : ∀ (h' : Heap) (tk : Nat), Has w h' s.heap.objs.size ks → (∀ b o, s.heap.get? b = some o → h'.get? b = some o) → Q (.ref s.heap.objs.size) { s with heap := h', toks := tk }) :
    wpAny (model prog w) A (call (.type "set") [.ref l]) Q E s := by
  have hisz : items.size = ks.length := by
    have q := congrArg List.length hit
    rw [Array.length_toList, List.length_map] at q
    exact q
  obtain ⟨c, tl, hmro⟩ := F.called_set.mro
  have hmade := F.called_set.made
  have hsub := F.called_set.sub
  refine wpAny_call (codeAny_of_tree ?_)
  show wpAny _ _ (callAny (.type "set") _) _ _ _
  refine wpAny_pure ⟨Code.quiet_builtin _ (by decide +kernel), codeAny_builtin F.entry_type_call ?_⟩
  rw [Around.under_plain (weight_type_call_type "set" [.ref l] []) rfl]
  have h1 := F.called_set.notType
  have h2 := F.called_set.canCreate
  have hct := F.typeCall_set_1 (.ref l)
  repeat (any_goals (first | assumption | wp_step))
  refine codeAny_mono (code_set_led1 (.ref l) (E := E) (Q₁ := fun obj s₁ => obj = .ref s.heap.objs.size ∧ s₁ = { s with heap := s.heap.push { cls := .type "set", dict := none, data := .set #[] 0 (.fresh 0 0 (!w.params.followText "set-order")) } }) ⟨rfl, rfl⟩) fun r s₁ hr => ?_
  cases r with
  | error e => exact hr
  | ok fl =>
    cases fl with
    | ret obj =>
      obtain ⟨rfl, rfl⟩ := hr
      have hS : (s.heap.push { cls := .type "set", dict := none, data := .set #[] 0 (.fresh 0 0 (!w.params.followText "set-order")) }).get? s.heap.objs.size = some { cls := .type "set", dict := none, data := .set #[] 0 (.fresh 0 0 (!w.params.followText "set-order")) } := Heap.get?_push_size _ rfl
      have hT : Shared.TypeIs { s with heap := s.heap.push { cls := .type "set", dict := none, data := .set #[] 0 (.fresh 0 0 (!w.params.followText "set-order")) } } (.ref s.heap.objs.size) "set" := ⟨_, hS, rfl⟩
      have hli := F.called_set.init.lookup
      have hbi := F.called_set.init.bind (.ref s.heap.objs.size)
      repeat (any_goals (first | assumption | wp_step))
      refine codeAny_mono (codeAny_call_builtin (R := wants (fun r s₂ => r = .none ∧ ∃ h' tk, s₂ = { s with heap := h', toks := tk } ∧ Has w h' s.heap.objs.size ks ∧ (∀ b o, s.heap.get? b = some o → h'.get? b = some o)) E) F.called_set.init.plain F.entry_set_init (check_set_init_1 hT ?_)) fun r₂ s₂ hr₂ => ?_
      · obtain ⟨ol, hol, hcl, nl, hdl⟩ := hl
        obtain ⟨ocls, odict, odata, oslots⟩ := ol
        simp only at hcl hdl
        subst hcl; subst hdl
        have hol' : (s.heap.push { cls := .type "set", dict := none, data := .set #[] 0 (.fresh 0 0 (!w.params.followText "set-order")) }).get? l = some { cls := .type "list", dict := odict, data := .seq items nl, slots := oslots } := Heap.get?_push_of_some _ hol
        have hsls := F.sub_list_set
        have hslf := F.sub_list_frozenset
        have hne : (Value.type "list" == Value.type "dict") = false := by decide
        have hl1 : (s.heap.push { cls := .type "set", dict := none, data := .set #[] 0 (.fresh 0 0 (!w.params.followText "set-order")) }).IsList l items := ⟨_, hol', rfl, nl, rfl⟩
        unfold Builtin.«set.__init__» noKeywords Builtin.Frozenset.updateFrom
        generalize hPI : pyIter = PI
        wp_walk
        subst hPI
        refine wpAny_pyIter_list hl1 ?_
        refine wpAny_bind (wpAny_runValue ?_)
        have hlS : l < s.heap.objs.size := Heap.lt_size hol
        have hh3 : A.in1.in1.in1.handled = none := by simp [hh]
        have hz1 : (s.heap.push { cls := .type "set", dict := none, data := .set #[] 0 (.fresh 0 0 (!w.params.followText "set-order")) }).objs.size = s.heap.objs.size + 1 := Heap.size_push ..
        have hneI : l ≠ (s.heap.push { cls := .type "set", dict := none, data := .set #[] 0 (.fresh 0 0 (!w.params.followText "set-order")) }).objs.size := by rw [hz1]; exact Nat.ne_of_lt (Nat.lt_succ_of_lt hlS)
        have hSf : s.heap.objs.size ∉ [(s.heap.push { cls := .type "set", dict := none, data := .set #[] 0 (.fresh 0 0 (!w.params.followText "set-order")) }).objs.size, l] := by
          rw [hz1]
          simp only [List.mem_cons, List.not_mem_nil, or_false, not_or]
          exact ⟨Nat.ne_of_lt (Nat.lt_succ_self _), Nat.ne_of_gt hlS⟩
        have hval : ∀ (i : Nat) (v : Value), items[i]? = some v → ∃ p, ks[i]? = some p ∧ v = .ref p.1 := fun i v hv => by
          have q : items.toList[i]? = some v := by rw [Array.getElem?_toList]; exact hv
          rw [hit, List.getElem?_map] at q
          obtain ⟨p, hp, e⟩ := Option.map_eq_some_iff.mp q
          exact ⟨p, hp, e.symm⟩
        have none_of : ∀ b, s.heap.objs.size ≤ b → s.heap.get? b = none := fun b hb => by
          cases q : s.heap.get? b with
          | none => rfl
          | some o => exact absurd (Nat.lt_of_lt_of_le (Heap.lt_size q) hb) (Nat.lt_irrefl _)
        refine update_new ((Walks.list hh3 _ l hneI items).toS) s.heap.objs.size
          hSf ks hisz hz nd hval s.heap hk (none_of _ (Nat.le_refl _)) (fun b hb => none_of b (by
            rw [List.mem_singleton.mp hb, hz1]
            exact Nat.le_succ _)) ?hU (items.size - 0) 0 _ (by omega) (Nat.zero_le _)
          ⟨⟨_, Heap.get?_push_size _ rfl, rfl, rfl⟩, (hl1.push _)⟩ (fun b o e => Heap.get?_push_of_some _ (Heap.get?_push_of_some _ e)) ?hS0 ?hR
        case hU => show A.units + 1 + 1 + 1 + 8 < cLine; omega
        case hS0 =>
          exact has_fresh (Heap.get?_push_of_some _ hS)
        case hR =>
          intro s' hm hS' hkp
          obtain ⟨h', g2, d', tk', os'⟩ := s'
          have eg : g2 = s.gens := hm.gens
          have ed : d' = s.drawn := hm.drawn
          have eo : os' = s.os := hm.os
          subst eg; subst ed; subst eo
          show wpAny _ _ _ _ _ _
          refine wpAny_pure ?_
          show wpAny _ _ (ret Value.none) _ _ _
          exact wpAny_pure ⟨rfl, h', tk', rfl, hS', hkp⟩
      · cases r₂ with
        | error e => exact hr₂
        | ok fl₂ =>
          cases fl₂ with
          | ret r =>
            obtain ⟨rfl, h', tk, rfl, hS', hk'⟩ := hr₂
            repeat (any_goals (first | assumption | wp_step))
            exact h _ _ hS' hk'
          | _ => exact hr₂.elim
    | _ => exact hr.elim
end
end DP

end
section
set_option Elab.async false
set_option linter.all false
set_option maxRecDepth 100000
set_option autoImplicit false
set_option maxHeartbeats 4000000
namespace DP
open PySem PySem.Spec PyProof.Rows L2
/-! ### set(xs) and sorted(set(xs)), xs a list of tuples of numbers, nested, no two alike -/
mutual
theorem num_nk : ∀ d : PyData, nkB d = true → numK (nkey d) = true
  | .int i, _ => by rw [nkey, numK]
  | .tuple ds, h => by
    rw [nkB] at h
    rw [nkey, numK]
    exact num_nks ds h
  | .none, h => by simp [nkB] at h
  | .bool _, h => by simp [nkB] at h
  | .str _, h => by simp [nkB] at h
  | .list _, h => by simp [nkB] at h
  | .dict _, h => by simp [nkB] at h
theorem num_nks : ∀ ds : List PyData, nkBs ds = true → numKs (nkeys ds) = true
  | [], _ => by rw [nkeys, numKs]
  | d :: ds, h => by
    rw [nkBs, Bool.and_eq_true] at h
    rw [nkeys, numKs, num_nk d h.1, num_nks ds h.2]
    rfl
end
def SetV (w : World) (a : Addr) (us : List Value) : HO := .ext fun h => ∃ es ep t, VSet w h a us es ep t
theorem setV_new {w : World} {P : Program} {H : Hp} {h : Heap} {a : Addr} {us : List Value} {es : Array (Int × Value)} {ep : Nat} {t : SetTable} (R : VSet w h a us es ep t) : ObjOk P w H h a (SetV w a us) := by
  have ⟨o, ho, r⟩ := R.ob
  refine ⟨⟨es, ep, t, R⟩, ⟨o, ho⟩, fun h1 h2 p k => ?_⟩
  have ⟨es', ep', t', R'⟩ := p
  have ⟨o', ho', r'⟩ := R'.ob
  exact ⟨es', ep', t', ⟨⟨o', k o' ho', r'⟩, R'.per, R'.tb⟩⟩
theorem refs_keys {H : Hp} : ∀ {ws : List V} {ds : List PyData}, RpA H ws ds → (∀ d ∈ ds, keyB d = true) → ∃ bs : List Addr, ws = bs.map V.ref ∧ bs.length = ds.length
  | _, _, .nil, _ => ⟨[], rfl, rfl⟩
  | _, _, .cons a b, h => by
    obtain ⟨bs, e, l⟩ := refs_keys b fun d hd => h d (.tail _ hd)
    obtain ⟨c, e2⟩ := keyB_ref (h _ (.head _)) a
    exact ⟨c :: bs, by rw [e2, e]; rfl, by rw [List.length_cons, List.length_cons, l]⟩
theorem vals_bs {bs : List Addr} : Vals (bs.map V.ref) (bs.map Value.ref) := by
  induction bs with
  | nil => exact .nil
  | cons b bs ih => exact .cons rfl ih
theorem bs_vals : ∀ {bs : List Addr} {us : List Value}, Vals (bs.map V.ref) us → us = bs.map Value.ref
  | [], _, h => by cases h; rfl
  | b :: bs, _, h => by
    cases h with
    | cons r t =>
      cases r
      rw [bs_vals t]
      rfl
section
variable {X : Cx} {pins : List (Addr × Obj)} {σ : L2.St} {H : Hp} {s : Shared}
theorem keys_is (I : Inv X pins σ H s) : ∀ {bs : List Addr} {ds : List PyData}, RpA H (bs.map V.ref) ds → (∀ d ∈ ds, keyB d = true) → ∀ p ∈ bs.zip (ds.map nkey), IsN s.heap p.2 p.1
  | [], _, _, _, p, hp => by simp at hp
  | b :: bs, [], h, _, _, _ => by cases h
  | b :: bs, d :: ds, h, hk, p, hp => by
    cases h with
    | cons h1 h2 =>
      rw [List.map_cons, List.zip_cons_cons, List.mem_cons] at hp
      rcases hp with rfl | hp
      · exact ⟨key_is I (hk d (.head _)) h1, num_nk d (keyB_nk (hk d (.head _)))⟩
      · exact keys_is I h2 (fun d hd => hk d (.tail _ hd)) p hp
theorem nodup_nkey {ds : List PyData} (nd : ds.Nodup) (hk : ∀ d ∈ ds, keyB d = true) : (ds.map nkey).Nodup := by
  refine List.pairwise_map.mpr (List.Pairwise.imp_of_mem (fun {a b} ha hb ne e => ne ?_) nd)
  exact nkey_inj a b (keyB_nk (hk a ha)) (keyB_nk (hk b hb)) e
theorem cr_setK (hc : X.calm = true) (hu : X.A.units + 64 < cLine) : CallR X (.type "set") (fun vs H Q => ∃ (a : Addr) (ws : List V) (ds : List PyData), vs = [.ref a] ∧ Rd H a (.lst ws) ∧ RpA H ws ds ∧ (∀ d ∈ ds, keyB d = true) ∧ ds.Nodup ∧ ds.length ≤ 2000 ∧
    ∀ (p : Addr) (bs : List Addr), H p = none → ws = bs.map V.ref → Q (.ref p) (upd H p (SetV X.w p (bs.map Value.ref)))) := by
  intro pins s σ H vs us Q I rv w
  obtain ⟨a, ws, ds, rfl, ha, rp, hk, nd, hl, q⟩ := w
  obtain ⟨u, eu, rx⟩ := vals1 rv
  subst eu
  cases rx
  obtain ⟨bs, rfl, lb⟩ := refs_keys rp hk
  obtain ⟨its, n, _, rvs, ho⟩ := lstR I ha
  have ei := bs_vals rvs
  have z1 : (bs.zip (ds.map nkey)).map (·.1) = bs := List.map_fst_zip (by rw [List.length_map]; omega)
  have z2 : (bs.zip (ds.map nkey)).map (·.2) = ds.map nkey := List.map_snd_zip (by rw [List.length_map]; omega)
  have er : rfs (bs.zip (ds.map nkey)) = bs.map Value.ref := by
    have : rfs (bs.zip (ds.map nkey)) = ((bs.zip (ds.map nkey)).map (·.1)).map Value.ref := by rw [List.map_map]; rfl
    rw [this, z1]
  refine call_set_new (bs.zip (ds.map nkey)) (I.ok.hd hc) ⟨_, ho, rfl, n, rfl⟩ (by rw [er]; simpa using ei) (keys_is I rp hk) (by rw [List.length_zip, List.length_map]; omega) (by rw [z2]; exact nodup_nkey nd hk) (by omega) fun h' tk hs kk => ?_
  have np := I.hok.fresh (Nat.le_refl s.heap.objs.size)
  obtain ⟨es, ep, t, R, _⟩ := hs
  rw [er] at R
  exact ⟨.ref s.heap.objs.size, _, I.laid (a := s.heap.objs.size) (o := SetV X.w s.heap.objs.size (bs.map Value.ref)) (t' := tk) kk (Nat.le_refl _) (setV_new R), rfl, q _ bs np rfl⟩
open PySem.W in
theorem each_both {H : Hp} (I : Inv X pins σ H s) : ∀ {vs : List V} {ds : List PyData} {its : List Value}, RpA H vs ds → Vals vs its → EachIs (fun v (b : V × PyData) => RelV b.1 v ∧ ∃ as, Reads s.heap v b.2 as) its (vs.zip ds)
  | _, _, _, .nil, .nil => .nil
  | _, _, _, .cons a b, .cons r t => .cons ⟨r, Rp.reads I _ _ _ a r⟩ (each_both I b t)
open PySem.W in
theorem each_perm {α β : Type} {R : α → β → Prop} {us its : List α} (p : its.Perm us) : ∀ {l : List β}, EachIs R us l → ∃ l' : List β, l'.Perm l ∧ EachIs R its l' := by
  induction p with
  | nil => intro l h; exact ⟨l, .refl _, h⟩
  | cons x _ ih =>
    intro l h
    cases h with
    | cons h1 h2 =>
      obtain ⟨l', p', e'⟩ := ih h2
      exact ⟨_ :: l', p'.cons _, .cons h1 e'⟩
  | swap x y l0 =>
    intro l h
    cases h with
    | cons h1 h2 =>
      cases h2 with
      | cons h3 h4 => exact ⟨_ :: _ :: _, .swap _ _ _, .cons h3 (.cons h1 h4)⟩
  | trans _ _ ih1 ih2 =>
    intro l h
    obtain ⟨l1, p1, e1⟩ := ih2 h
    obtain ⟨l2, p2, e2⟩ := ih1 e1
    exact ⟨l2, p2.trans p1, e2⟩
open PySem.W in
theorem sorted_any {prog : Program} {w : World} {A : Around} {E : Value → Shared → Prop} {s : Shared} {r : Addr} {G : List Value → List (V × PyData) → Prop} {Q : Value → Shared → Prop}
    (hcol : ∀ (R : List Value → Shared → Prop) (E' : Value → Shared → Prop), (∀ (s' : Shared) its ps, (∀ b o, s.heap.get? b = some o → s'.heap.get? b = some o) → s.heap.objs.size ≤ s'.heap.objs.size → s'.gens = s.gens → s'.os = s.os → G its ps → R its s') → wpAny (model prog w) A.in1 (collect (.ref r)) R E' s)
    (hG : ∀ its ps, G its ps → EachIs (fun v (b : V × PyData) => RelV b.1 v ∧ ∃ as, Reads s.heap v b.2 as) its ps ∧ SortOk (ps.map (·.2)) ∧ ps.length ≤ sizeLine) (hu : A.units + 64 < cLine)
    (h : ∀ its ps (out : List Value) (s' : Shared) (h'' : Heap) (n : Nat), G its ps → EachIs (fun v (b : V × PyData) => RelV b.1 v) out (ps.mergeSort (dataLe false (·.2))) → (∀ b o, s.heap.get? b = some o → s'.heap.get? b = some o) → s.heap.objs.size ≤ s'.heap.objs.size → s'.gens = s.gens → s'.os = s.os → (∀ b o, s'.heap.get? b = some o → h''.get? b = some o) → h''.get? s'.heap.objs.size = some (seqObj "list" (List.toArray out) n) → Q (.ref s'.heap.objs.size) { s' with heap := h'' }) :
    wpAny (model prog w) A (call (.builtin "sorted") [.ref r]) Q E s := by
  refine Calls.call_function_entry kind_sorted plain_sorted entry_sorted (args_sorted1 _) ?_
  unfold Builtin.«sorted»
  refine wpAny_bind (m := checkCount "sorted" 1 1 _) (wpAny_pure ?_)
  refine wpAny_bind (hcol _ _ fun s' its ps hk hsz hge hos g => ?_)
  obtain ⟨eb, ⟨hal, hsk, hd⟩, hL⟩ := hG its ps g
  have e : EachIs (fun v (b : V × PyData) => RelV b.1 v) its ps := eb.mono fun _ _ z => z.1
  have er : EachIs (fun v (b : V × PyData) => ∃ as, Reads s.heap v b.2 as) its ps := eb.mono fun _ _ z => z.2
  have hd' : ∀ b ∈ ps, b.2.depth ≤ 60 := fun b hb => hd _ (List.mem_map.mpr ⟨b, hb, rfl⟩)
  refine wpAny_bind (wpAny_newList ?_ (by rw [e.length]; exact hL))
  obtain ⟨h', g', d', tk, os'⟩ := s'
  have hk : ∀ b o, s.heap.get? b = some o → h'.get? b = some o := hk
  have hoL : (h'.push (seqObj "list" its.toArray 0)).get? h'.objs.size = some (seqObj "list" its.toArray 0) := Heap.get?_push_size _ rfl
  have kp : ∀ b o, s.heap.get? b = some o → (h'.push (seqObj "list" its.toArray 0)).get? b = some o := fun b o q => Heap.get?_push_of_some _ (hk b o q)
  have bn : ∀ b o, s.heap.get? b = some o → b ≠ h'.objs.size := fun b o q => Nat.ne_of_lt (Heap.lt_size (hk b o q))
  have er' : EachIs (fun v (b : V × PyData) => ∃ as, Reads (sortingHeap (h'.push (seqObj "list" its.toArray 0)) h'.objs.size its) v b.2 as) its ps := er.mono fun _ _ ⟨as, r⟩ => ⟨as, PyProof.Rows.Reads.keeps (fun b o q => sortingHeap_old (bn b o q) (kp b o q)) r⟩
  show wpAny _ _ _ _ _ (Shared.mk (h'.push (seqObj "list" its.toArray 0)) g' d' tk os')
  have S : SortsAt prog w A.in1.in1 (Shared.mk (sortingHeap (h'.push (seqObj "list" its.toArray 0)) h'.objs.size its) g' d' tk os') (dataKind (sortingHeap (h'.push (seqObj "list" its.toArray 0)) h'.objs.size its) (ps.map (·.2))) its := by
    have bd : ∀ d, d ∈ ps.map (fun b : V × PyData => b.2) → A.units + 1 + 1 + d.depth < cLine := fun d hd => by
      obtain ⟨b, hb, rfl⟩ := List.mem_map.mp hd
      have := hd' b hb
      omega
    rcases hsk with hsk | ⟨h1, hn⟩
    · exact SortsAt.data (s := Shared.mk (sortingHeap (h'.push (seqObj "list" its.toArray 0)) h'.objs.size its) g' d' tk os') (each_map (R := fun v d => ∃ as, Reads (sortingHeap (h'.push (seqObj "list" its.toArray 0)) h'.objs.size its) v d as) (fun b : V × PyData => b.2) er') hal hsk bd
    · exact sorts_one (s := Shared.mk (sortingHeap (h'.push (seqObj "list" its.toArray 0)) h'.objs.size its) g' d' tk os') (each_map (R := fun v d => ∃ as, Reads (sortingHeap (h'.push (seqObj "list" its.toArray 0)) h'.objs.size its) v d as) (fun b : V × PyData => b.2) er') hal h1 hn bd
  refine wpAny_bind (wpAny_holding (wpAny_call_entry slot_list_sort ⟨_, hoL, rfl⟩ entry_list_sort
    (list_sort_vals (s := Shared.mk (h'.push (seqObj "list" its.toArray 0)) g' d' tk os') hoL S (by rw [e.length]; exact hL) ⟨_, rfl, ?_⟩) (args_list_sort _)))
  obtain ⟨n, he⟩ := sortedHeap_at (vs := its) (out := (sortVals (dataKind (sortingHeap (h'.push (seqObj "list" its.toArray 0)) h'.objs.size its) (ps.map (·.2))) false its its).toArray) hoL
  refine wpAny_pure ⟨_, rfl, h its ps _ (Shared.mk h' g' d' tk os') _ n g (sortVals_data false e er' hal) hk hsz hge hos (fun b o q => ?_) he⟩
  have q2 : (h'.push (seqObj "list" its.toArray 0)).get? b = some o := Heap.get?_push_of_some _ q
  rw [sortedHeap_old (Nat.ne_of_lt (Heap.lt_size q)) (Heap.lt_size q2)]
  exact q2
theorem cr_sortedK (hc : X.calm = true) (hu : X.A.units + 64 < cLine) : CallR X (.builtin "sorted") (fun vs H Q => ∃ (a : Addr) (bs : List Addr) (ds zs : List PyData) (O : List Addr), vs = [.ref a] ∧ H a = some (SetV X.w a (bs.map Value.ref)) ∧ RpA (hd H O) (bs.map V.ref) ds ∧ ds.length ≤ 2000 ∧
    (∀ ds', ds'.Perm ds → SortOk ds' ∧ sortD ds' = zs) ∧ ∀ p ws H', Same H H' → H p = none → H' p = some (.lst ws) → ws.length ≤ sizeLine → RpA (hd H' (p :: O)) ws zs → Q (.ref p) H') := by
  intro pins s σ H vs us Q I rv w
  obtain ⟨a, bs, ds, zs, O, rfl, ha, rp, hl, ok, q⟩ := w
  obtain ⟨u, eu, rx⟩ := vals1 rv
  subst eu
  cases rx
  obtain ⟨es, ep, t, R⟩ : ∃ es ep t, VSet X.w s.heap a (bs.map Value.ref) es ep t := (I.hok a _ ha).1
  have lb : bs.length = ds.length := by
    have := rp.length
    rwa [List.length_map] at this
  have le := R.len
  rw [List.length_map] at le
  obtain ⟨o, ho, hex, hdt⟩ := R.ob
  have eb := each_both I (rp.up (hd_same _ _)) (vals_bs (bs := bs))
  refine sorted_any (G := fun its ps => ps.Perm ((bs.map V.ref).zip ds) ∧ PySem.W.EachIs (fun v (b : V × PyData) => RelV b.1 v ∧ ∃ as, Reads s.heap v b.2 as) its ps) (fun R0 E' hR => ?_) (fun its ps g => ?_) (by omega) fun its ps out s' h'' n g hee k1 hz g1 o1 k2 e => ?_
  · refine collect_set (A := X.A.in1) (I.ok.hd hc) ⟨o, ho, hex.1, hdt⟩ R.tb.fits (by show es.size < 4096; omega) R.tb.ris R.tb.led fun s1 vs1 k1 hz g1 o1 pm => ?_
    obtain ⟨ps, pp, ep⟩ := each_perm (pm.trans R.per) eb
    exact hR s1 vs1 ps k1 hz g1 o1 ⟨pp, ep⟩
  · obtain ⟨pp, ep⟩ := g
    have pd : (ps.map (·.2)).Perm ds := by
      have z := pp.map (fun p : V × PyData => p.2)
      rwa [List.map_snd_zip (by rw [List.length_map]; omega)] at z
    refine ⟨ep, (ok _ pd).1, ?_⟩
    have := pp.length_eq
    rw [List.length_zip, List.length_map] at this
    rw [sizeLine_eq]
    omega
  · obtain ⟨pp, ep⟩ := g
    have pd : (ps.map (·.2)).Perm ds := by
      have z := pp.map (fun p : V × PyData => p.2)
      rwa [List.map_snd_zip (by rw [List.length_map]; omega)] at z
    have es : zs = (ps.mergeSort (PySem.W.dataLe false (·.2))).map (·.2) := by
      have z := PySem.W.sort_maps (r := PySem.W.dataLe false fun b : V × PyData => b.2) (s := PySem.W.dataLe false id) (fun b : V × PyData => b.2) (l := ps) (fun a _ b _ => rfl)
      rw [z]
      exact (ok _ pd).2.symm
    have lps : ps.length = bs.length := by
      have := pp.length_eq
      rw [List.length_zip, List.length_map] at this
      omega
    have lw : ((ps.mergeSort (PySem.W.dataLe false (·.2))).map (·.1)).length ≤ sizeLine := by
      rw [List.length_map, List.length_mergeSort, sizeLine_eq]
      omega
    have np : H s'.heap.objs.size = none := I.hok.fresh hz
    have J : Inv X pins σ (upd H s'.heap.objs.size (.lst ((ps.mergeSort (PySem.W.dataLe false (·.2))).map (·.1)))) { s with heap := h'', gens := s'.gens, drawn := s'.drawn, toks := s'.toks } :=
      I.call (ch := []) (Un.laid (fun b o q => k2 b o (k1 b o q)) hz np) (I.hok.laid (fun b o q => k2 b o (k1 b o q)) hz ⟨lw, out, n, each_vals hee, e⟩) (by rw [g1]; exact I.bare) (fun _ z => nomatch z)
    have ee : { s' with heap := h'' } = { s with heap := h'', gens := s'.gens, drawn := s'.drawn, toks := s'.toks } := by
      cases s'
      cases s
      cases o1
      rfl
    rw [ee]
    refine ⟨.ref s'.heap.objs.size, _, J, rfl, q _ _ _ (same_new np) np upd_same lw ?_⟩
    rw [es]
    refine (rpa_pairs fun p hp => ?_).up (new_in np)
    exact pairs_rpa rp p (pp.mem_iff.mp (List.mem_mergeSort.mp hp))
end
end DP

end
section
set_option Elab.async false
set_option linter.all false
set_option maxRecDepth 100000
set_option autoImplicit false
set_option maxHeartbeats 4000000
namespace DP
open PySem PySem.Spec PyProof.Rows L2
/-- the numbers of a list, rising, none twice -/
def dedI : List Int → List Int
  | [] => []
  | x :: l => if x ∈ l then dedI l else x :: dedI l
theorem mem_dedI {k : Int} : ∀ {l : List Int}, k ∈ dedI l ↔ k ∈ l
  | [] => Iff.rfl
  | x :: l => by
    unfold dedI
    split
    · rename_i h
      rw [mem_dedI]
      exact ⟨fun q => .tail _ q, fun q => by
        rcases List.mem_cons.mp q with rfl | q
        · exact h
        · exact q⟩
    · rw [List.mem_cons, List.mem_cons, mem_dedI]
theorem nodup_dedI : ∀ l : List Int, (dedI l).Nodup
  | [] => List.nodup_nil
  | x :: l => by
    unfold dedI
    split
    · exact nodup_dedI l
    · rename_i h
      exact List.nodup_cons.mpr ⟨fun q => h (mem_dedI.mp q), nodup_dedI l⟩
def setI (zs : List Int) : List Int := (dedI zs).mergeSort fun a b => decide (a ≤ b)
theorem lt_ext : ∀ {l m : List Int}, l.Pairwise (· < ·) → m.Pairwise (· < ·) → (∀ k, k ∈ l ↔ k ∈ m) → l = m
  | [], [], _, _, _ => rfl
  | [], y :: m, _, _, h => by have := (h y).mpr (.head _); cases this
  | x :: l, [], _, _, h => by have := (h x).mp (.head _); cases this
  | x :: l, y :: m, hl, hm, h => by
    obtain ⟨l1, l2⟩ := List.pairwise_cons.mp hl
    obtain ⟨m1, m2⟩ := List.pairwise_cons.mp hm
    have e : x = y := by
      have hx := (h x).mp (.head _)
      have hy := (h y).mpr (.head _)
      rcases List.mem_cons.mp hx with hx | hx
      · exact hx
      · rcases List.mem_cons.mp hy with hy | hy
        · exact hy.symm
        · have := l1 y hy
          have := m1 x hx
          omega
    subst e
    congr 1
    refine lt_ext l2 m2 fun k => ⟨fun hk => ?_, fun hk => ?_⟩
    · have := (h k).mp (.tail _ hk)
      rcases List.mem_cons.mp this with c | c
      · have := l1 k hk; omega
      · exact c
    · have := (h k).mpr (.tail _ hk)
      rcases List.mem_cons.mp this with c | c
      · have := m1 k hk; omega
      · exact c
theorem mem_setI {zs : List Int} {k : Int} : k ∈ setI zs ↔ k ∈ zs := by
  unfold setI
  rw [List.mem_mergeSort, mem_dedI]
theorem setI_lt (zs : List Int) : (setI zs).Pairwise (· < ·) := by
  have h1 : (setI zs).Pairwise fun a b => a ≤ b := (List.pairwise_mergeSort (le := fun a b : Int => decide (a ≤ b)) (fun a b c h1 h2 => by simp at h1 h2 ⊢; omega) (fun a b => by simp; omega) (dedI zs)).imp fun h => of_decide_eq_true h
  have h2 : (setI zs).Nodup := (List.mergeSort_perm _ _).nodup_iff.mpr (nodup_dedI zs)
  exact lt_of_le_nodup _ h1 h2
theorem setI_eq {zs ns : List Int} (h1 : ns.Pairwise (· < ·)) (h2 : ∀ k, k ∈ ns ↔ k ∈ zs) : setI zs = ns := lt_ext (setI_lt zs) h1 fun k => mem_setI.trans (h2 k).symm
section
variable {X : Cx} {C : Cfg} {e : Expr} {pos : Pos}
theorem ints_vals : ∀ {zs : List Int} {vals : List Value}, Vals (zs.map V.int) vals → IntsAre vals zs
  | [], _, r => by cases r; exact .nil
  | z :: zs, _, r => by
    cases r with
    | cons r1 r2 =>
      obtain ⟨t, rfl⟩ := r1
      exact .cons z t (ints_vals r2)
theorem cr_setL (hc : X.calm = true) : CallR X (.type "set") (fun vs H Q => ∃ (a : Addr) (zs : List Int), vs = [.ref a] ∧ (Rd H a (.lst (zs.map V.int)) ∨ H a = some (.tup (zs.map V.int))) ∧ zs.length ≤ 1000 ∧ ∀ p, H p = none → Q (.ref p) (upd H p (SetO X.w p (fun j => decide (j ∈ zs)) (setI zs).length))) := by
  intro pins s σ H vs us Q I rv w
  obtain ⟨a, zs, rfl, ha, hl, q⟩ := w
  obtain ⟨u, eu, rx⟩ := vals1 rv
  subst eu
  cases rx
  rcases ha with ha | ha
  · obtain ⟨its, n, _, rvs, ho⟩ := lstR I ha
    refine set_of_list zs (I.ok.hd hc) ⟨_, ho, rfl, n, rfl⟩ (by simpa using ints_vals rvs) (by show zs.length + 1 < 4096; omega) fun g tk c ss cc kk => ?_
    have np := I.hok.fresh (Nat.le_refl s.heap.objs.size)
    have en : c = (setI zs).length := by
      obtain ⟨o, es, ep, t, _, _, _, _, nd, hm, _, _, hn, _⟩ := id ss
      have e : (es.toList.map keyOf).Perm (setI zs) := by
        refine (List.perm_ext_iff_of_nodup nd ((setI_lt zs).imp fun h => by omega)).mpr fun k => ?_
        rw [← hm k, mem_setI]
        exact decide_eq_true_iff
      have := e.length_eq
      rw [List.length_map, Array.length_toList, hn] at this
      exact this
    rw [← en] at q
    exact ⟨.ref s.heap.objs.size, _, I.laid (a := s.heap.objs.size) (o := SetO X.w s.heap.objs.size (fun j => decide (j ∈ zs)) c) (t' := tk) kk (Nat.le_refl _) (setO_new ss), rfl, q _ np⟩
  · obtain ⟨its, rvs, p, _⟩ := I.tuple (.inl (.inl ha))
    refine set_of_tuple zs (I.ok.hd hc) p (by simpa using ints_vals rvs) (by show zs.length + 1 < 4096; omega) fun g tk c ss cc kk => ?_
    have np := I.hok.fresh (Nat.le_refl s.heap.objs.size)
    have en : c = (setI zs).length := by
      obtain ⟨o, es, ep, t, _, _, _, _, nd, hm, _, _, hn, _⟩ := id ss
      have e : (es.toList.map keyOf).Perm (setI zs) := by
        refine (List.perm_ext_iff_of_nodup nd ((setI_lt zs).imp fun h => by omega)).mpr fun k => ?_
        rw [← hm k, mem_setI]
        exact decide_eq_true_iff
      have := e.length_eq
      rw [List.length_map, Array.length_toList, hn] at this
      exact this
    rw [← en] at q
    exact ⟨.ref s.heap.objs.size, _, I.laid (a := s.heap.objs.size) (o := SetO X.w s.heap.objs.size (fun j => decide (j ∈ zs)) c) (t' := tk) kk (Nat.le_refl _) (setO_new ss), rfl, q _ np⟩
def intsD : List PyData → Option (List Int)
  | [] => some []
  | .int i :: ds => (intsD ds).map (i :: ·)
  | _ :: _ => none
theorem intsD_get : ∀ {ds : List PyData} {zs : List Int}, intsD ds = some zs → ds = zs.map PyData.int
  | [], _, e => by cases e; rfl
  | d :: ds, zs, e => by
    unfold intsD at e
    split at e
    · rename_i h; cases h
    · rename_i i ds' h
      cases h
      obtain ⟨zs', e1, rfl⟩ := Option.map_eq_some_iff.mp e
      rw [intsD_get e1]
      rfl
    · cases e
/-- sorted(set(xs)) -/
def ssK (Q : List PyData → Prop) (ds : List PyData) : Prop := ((∀ d ∈ ds, keyB d = true) ∧ ds.Nodup ∧ ds.length ≤ 2000 ∧ ∀ ds' : List PyData, ds'.Perm ds → SortOk ds' ∧ sortD ds' = sortD ds) ∧ Q (sortD ds)
def ssW (Q : List PyData → Prop) : PyData → Prop
  | .list ds => (match intsD ds with
    | some zs => zs.length ≤ 1000 ∧ (setI zs).length < 64 ∧ Q ((setI zs).map PyData.int)
    | none => ssK Q ds)
  | .tuple ds => (match intsD ds with
    | some zs => zs.length ≤ 1000 ∧ (setI zs).length < 64 ∧ Q ((setI zs).map PyData.int)
    | none => False)
  | _ => False
def fSset (t : TD) : TAD := fun r Q => t r (ssW Q)
theorem rp_is {H : Hp} : ∀ l : List Int, RpA H (l.map V.int) (l.map PyData.int)
  | [] => .nil
  | i :: l => .cons (.int _) (rp_is l)
theorem cr_or {f : Value} {r1 r2 : List V → Hp → VK → Prop} (h1 : CallR X f r1) (h2 : CallR X f r2) : CallR X f (fun vs H Q => r1 vs H Q ∨ r2 vs H Q) := by
  intro pins s σ H vs us Q I rv w
  rcases w with w | w
  · exact h1 pins s σ H vs us Q I rv w
  · exact h2 pins s σ H vs us Q I rv w
theorem pf_sset {t : TD} {p p2 pos2 : Pos} (hc : X.calm = true) (hu : X.A.units + 64 < cLine) (hg : Gl X "sorted") (hm : X.mg "sorted" = none) (hg2 : Gl X "set") (hm2 : X.mg "set" = none) (ha : PD X C e t) (sa : starEach [e] X.env = (false, eval e X.env) :: starEach [] X.env) :
    PF X C (.Call (.Name "sorted" p) [.Call (.Name "set" p2) [e] [] pos2] [] pos) (fSset t) :=
  PE_imp (pe_callB (cr_or (cr_sortedSet hc) (cr_sortedK hc hu)) hg hm (by decide +kernel) (pa_cons (pe_callTy (cr_or (cr_setL hc) (cr_setK hc hu)) hg2 hm2 (by decide +kernel) (pa_cons ha pa_nil sa) (by decide) (by decide) sa rfl) pa_nil rfl) (by decide) (by decide) rfl rfl) fun σ H Q ⟨r, Q', R, q, k⟩ => ⟨r, _, R, q, fun v H1 x g rp qx => by
    unfold ssW at qx
    split at qx
    · rename_i ds
      split at qx
      · rename_i zs hz
        obtain ⟨h1, h2, qx⟩ := qx
        have e := intsD_get hz
        subst e
        obtain ⟨a, vs, rfl, g1, g2, g3⟩ := rp_lst rp
        have ev := rpa_ints g3
        subst ev
        refine .inl ⟨a, zs, rfl, (.inl (DP.Rd.full g1)), h1, fun p np => .inl ⟨p, _, _, rfl, upd_same, h2, fun ns p' hs hmm hl np' => ?_⟩⟩
        have en : setI zs = ns := setI_eq hs fun j => (hmm j).trans decide_eq_true_iff
        rw [← en]
        have sm := same_new (o := SetO X.w p (fun j => decide (j ∈ zs)) (setI zs).length) np
        have R1 := R.grow g
        have np1 : H1 p' = none := by
          cases e5 : H1 p' with
          | none => rfl
          | some o => have := sm _ _ e5; rw [np'] at this; cases this
        exact k p' _ _ _ ((g.then_same sm).then_same (same_new np')) (Gr.none R g np1) upd_same (by rw [List.length_map, sizeLine_eq]; omega) (rp_is _) qx
      · obtain ⟨⟨hk, nd, hl, ok⟩, qx⟩ := qx
        obtain ⟨a, vs, rfl, g1, g2, g3⟩ := rp_lst rp
        have R1 := R.grow g
        refine .inr ⟨a, vs, ds, rfl, DP.Rd.full g1, g3.up (hd_same _ _), hk, nd, hl, fun p bs np eb => .inr ⟨p, bs, ds, _, C.O ++ oA r, rfl, upd_same, ?_, hl, ok, fun p' ws H' sm' np' e' lw rw' => ?_⟩⟩
        · rw [← eb]
          exact g3.up (same_hd (same_new np))
        · have sm := same_new (o := SetV X.w p (bs.map Value.ref)) np
          have np1 : H1 p' = none := by
            cases e5 : H1 p' with
            | none => rfl
            | some o => have := sm _ _ e5; rw [np'] at this; cases this
          exact k p' _ _ _ ((g.then_same sm).then_same sm') (Gr.none R g np1) e' lw rw' qx
    · rename_i ds
      split at qx
      · rename_i zs hz
        obtain ⟨h1, h2, qx⟩ := qx
        have e := intsD_get hz
        subst e
        obtain ⟨a, vs, rfl, g1, g2, g3⟩ := rp_tup rp
        have ev := rpa_ints g3
        subst ev
        refine .inl ⟨a, zs, rfl, (.inr (hd_some g1).2), h1, fun p np => .inl ⟨p, _, _, rfl, upd_same, h2, fun ns p' hs hmm hl np' => ?_⟩⟩
        have en : setI zs = ns := setI_eq hs fun j => (hmm j).trans decide_eq_true_iff
        rw [← en]
        have sm := same_new (o := SetO X.w p (fun j => decide (j ∈ zs)) (setI zs).length) np
        have R1 := R.grow g
        have np1 : H1 p' = none := by
          cases e5 : H1 p' with
          | none => rfl
          | some o => have := sm _ _ e5; rw [np'] at this; cases this
        exact k p' _ _ _ ((g.then_same sm).then_same (same_new np')) (Gr.none R g np1) upd_same (by rw [List.length_map, sizeLine_eq]; omega) (rp_is _) qx
      · exact qx.elim
    · exact qx.elim⟩
end
end DP

end
section
set_option Elab.async false
set_option linter.all false
set_option maxRecDepth 100000
set_option autoImplicit false
set_option maxHeartbeats 4000000
namespace DP
open PySem PySem.Spec PyProof.Rows L2
/-! ### sorted(a tuple) -/
section
variable {prog : Program} {w : World} {A : Around} {E : Value → Shared → Prop} {s : Shared}
theorem collect_tupD {b : Addr} {us : List Value} {o : Obj} {n : Nat} {R : List Value → Shared → Prop} (e : s.heap.get? b = some o) (c : o.cls = .type "tuple") (d : o.data = .seq us.toArray n) (z : us.length ≤ sizeLine)
    (h : R us { s with heap := (s.heap.push (seqObj "list" #[] 0)).update s.heap.objs.size (Obj.mapSeq (· ++ us.toArray)) }) : wpAny (model prog w) A (collect (.ref b)) R E s := by
  have e2 : (s.heap.push (seqObj "list" #[] 0)).get? b = some o := Heap.get?_push_of_some _ e
  have en : (s.heap.push (seqObj "list" #[] 0)).get? s.heap.objs.size = some (seqObj "list" #[] 0) := Heap.get?_push_size _ rfl
  have zz : ((#[] : Array Value) ++ us.toArray).size ≤ sizeLine + 1 := by rw [Array.size_append, List.size_toArray]; show 0 + us.length ≤ sizeLine + 1; omega
  have cc : (#[] : Array Value) ++ us.toArray = us.toArray := by simp
  unfold collect
  refine wpAny_bind (wpAny_runValue (codeAny_builtin entry_proto_collect' (show wpAny (model prog w) _ (do again (.builtin "list.__iadd__" ⟨[← newList [], .ref b], []⟩)) _ _ s from wpAny_bind (wpAny_newList (wpAny_pure ⟨Code.quiet_builtin _ (by decide +kernel), codeAny_builtin entry_list_iadd' ?_⟩)))))
  show wpAny (model prog w) _ (Builtin.List.listExtendWith (.ref s.heap.objs.size) (.ref b) (.ref s.heap.objs.size)) _ _ { s with heap := s.heap.push (seqObj "list" #[] 0) }
  unfold Builtin.List.listExtendWith
  refine wpAny_bind (wpAny_typeOf (T := "tuple") ⟨o, e2, c⟩ ?_)
  have tt : (Value.type "tuple" == Value.type "tuple") = true := by rfl
  rw [if_pos (by rw [tt, Bool.or_true])]
  refine wpAny_bind (listItems_at e2 d (wpAny_bind (listItems_at (xs := #[]) (n := 0) en rfl ?_)))
  rw [if_neg (by simp)]
  refine wpAny_bind (listUpdate_at (xs := #[]) (n := 0) en rfl ?_ (Nat.zero_le _) zz)
  refine wpAny_pure (show wpAny (model prog w) A (do
      let o ← load s.heap.objs.size
      match o.data with
      | .seq xs _ => pure xs.toList
      | _ => unsupported "internal:collect") R E { s with heap := (s.heap.push (seqObj "list" #[] 0)).update s.heap.objs.size (Obj.mapSeq (· ++ us.toArray)) } from ?_)
  refine wpAny_bind (wpAny_load (get?_update_seq en _) (show wpAny (model prog w) A (pure ((#[] : Array Value) ++ us.toArray).toList) R E _ from ?_))
  rw [cc]
  exact wpAny_pure h
end
def rSortedT : RF := fun xs Q => ∃ ys, xs = [.tuple ys] ∧ SortOk ys ∧ Q (sortD ys)
theorem cf_sortedT {X : Cx} (hu : X.A.units + 64 < cLine) : CallF X (.builtin "sorted") rSortedT := by
  intro pins s σ H vs us Q I rv w
  obtain ⟨O, ds, Q', dm, rp, ⟨ys, rfl, ok, q⟩, k⟩ := w
  obtain ⟨v, rfl, hv⟩ := rpa1 rp
  obtain ⟨a, xs, rfl, h1, h2, h3⟩ := rp_tup hv
  obtain ⟨its, z, r, ⟨o, eo, hc, n, hd2⟩⟩ := tupR I (hd_some h1).2
  rw [Vals.ref1 rv]
  have ln := h3.length
  have li := r.length
  have e2 : (xs.zip ys).map (·.2) = ys := List.map_snd_zip (by omega)
  have lz : (xs.zip ys).length ≤ sizeLine := by rw [List.length_zip]; omega
  refine sorted_coll (G := fun its' ps => its' = its ∧ ps = xs.zip ys) (fun R E' hR => ?_) (fun its' ps g => ?_) hu fun its' ps out h' h'' tk m g hlo hee k1 k2 e => ?_
  · refine collect_tupD eo hc hd2 (by omega) (hR _ s.toks _ _ (fun b u q => ?_) ⟨rfl, rfl⟩)
    have lt := Heap.lt_size q
    rw [Heap.get?_update_ne _ _ _ _ (Nat.ne_of_lt lt)]
    exact Heap.get?_push_of_some _ q
  · obtain ⟨rfl, rfl⟩ := g
    exact ⟨each_pairs h3 r, rpa_each I (h3.up (hd_same _ _)) r, by rw [e2]; exact ok, lz⟩
  · obtain ⟨rfl, rfl⟩ := g
    exact sorted_out I h3 h2 hee k1 k2 e k q
end DP

end
section
set_option Elab.async false
set_option linter.all false
set_option maxRecDepth 100000
set_option autoImplicit false
set_option maxHeartbeats 4000000
namespace DP
open PySem PySem.Spec PyProof.Rows L2
/-! ### list(x), sorted(x) -/
def lstW : RF
  | [.list ys], Q => Q ys
  | [.tuple ys], Q => Q ys
  | [.dict kvs], Q => (kvs.all fun p => keyB p.1) = true ∧ Q (kvs.map (·.1))
  | _, _ => False
def srtW : RF
  | [.list ys], Q => SortOk ys ∧ Q (sortD ys)
  | [.tuple ys], Q => SortOk ys ∧ Q (sortD ys)
  | [.dict kvs], Q => (kvs.all fun p => keyB p.1) = true ∧ SortOk (kvs.map (·.1)) ∧ Q (sortD (kvs.map (·.1)))
  | _, _ => False
section
variable {X : Cx} {C : Cfg} {e : Expr} {es : List Expr} {pos : Pos}
theorem CallF.or {f : Value} {r r1 r2 : RF} (h1 : CallF X f r1) (h2 : CallF X f r2) (q : ∀ xs Q, r xs Q → r1 xs Q ∨ r2 xs Q) : CallF X f r := fun pins s σ H vs us Q I rv w => by
  obtain ⟨O, ds, Q', dm, rp, w, k⟩ := w
  rcases q _ _ w with w | w
  · exact h1 pins s σ H vs us Q I rv ⟨O, ds, Q', dm, rp, w, k⟩
  · exact h2 pins s σ H vs us Q I rv ⟨O, ds, Q', dm, rp, w, k⟩
theorem cf_lst (hc : X.calm = true) : CallF X (.type "list") lstW := CallF.or cf_list (cf_listD hc) fun xs Q h => by
  unfold lstW at h
  split at h
  · exact .inl ⟨_, .inl rfl, h⟩
  · exact .inl ⟨_, .inr rfl, h⟩
  · exact .inr ⟨_, rfl, h.1, h.2⟩
  · exact h.elim
theorem cf_srt (hc : X.calm = true) (hu : X.A.units + 64 < cLine) : CallF X (.builtin "sorted") srtW := CallF.or (r1 := fun xs Q => rSortedD xs Q ∨ rSortedT xs Q) (CallF.or (cf_sorted hu) (cf_sortedT hu) fun _ _ h => h) (cf_sortedDD hc hu) fun xs Q h => by
  unfold srtW at h
  split at h
  · exact .inl (.inl ⟨_, rfl, h.1, h.2⟩)
  · exact .inl (.inr ⟨_, rfl, h.1, h.2⟩)
  · exact .inr ⟨_, rfl, h.1, h.2.1, h.2.2⟩
  · exact h.elim
theorem pfB_list {p : Pos} {t : TAD} (hc : X.calm = true) (hm : X.mg "list" = none) (hg : Gl X "list") (ha : PDA X C (e :: es) t) (he : starEach (e :: es) X.env = (false, eval e X.env) :: starEach es X.env) (hpl : (backTo pos (starEach es X.env)).any (·.1) = false) : PF X C (.Call (.Name "list" p) (e :: es) [] pos) (fCall lstW t) :=
  pf_callTy (T := "list") (cf_lst hc) hm (by decide +kernel) ha hg (by decide) (by decide) he hpl
theorem pfB_sorted {p : Pos} {t : TAD} (hc : X.calm = true) (hu : X.A.units + 64 < cLine) (hm : X.mg "sorted" = none) (hg : Gl X "sorted") (ha : PDA X C (e :: es) t) (he : starEach (e :: es) X.env = (false, eval e X.env) :: starEach es X.env) (hpl : (backTo pos (starEach es X.env)).any (·.1) = false) : PF X C (.Call (.Name "sorted" p) (e :: es) [] pos) (fCall srtW t) :=
  pf_callB (bid := "sorted") (cf_srt hc hu) hm (by decide +kernel) ha hg (by decide) (by decide) he hpl
/-! of a name: data, or a dict of one's own -/
def fListN (i : Nat) : TAD := fun r Q => match r[i]? with
  | some (some (.d x)) => lstW [x] Q
  | some (some (.m (.dct kvs))) => Q (kvs.map (·.1))
  | _ => False
def fSortN (i : Nat) : TAD := fun r Q => match r[i]? with
  | some (some (.d x)) => srtW [x] Q
  | some (some (.m (.dct kvs))) => SortOk (kvs.map (·.1)) ∧ Q (sortD (kvs.map (·.1)))
  | some (some (.m (.lst xs))) => SortOk xs ∧ Q (sortD xs)
  | _ => False
theorem CallR.or {f : Value} {r1 r2 : List V → Hp → VK → Prop} (h1 : CallR X f r1) (h2 : CallR X f r2) : CallR X f (fun vs H Q => r1 vs H Q ∨ r2 vs H Q) := fun pins s σ H vs us Q I rv w => by
  rcases w with w | w
  · exact h1 pins s σ H vs us Q I rv w
  · exact h2 pins s σ H vs us Q I rv w
/-- sorted of a list of one's own -/
def upCM (vs : List V) (H : Hp) (Q : VK) : Prop := ∃ (O : List Addr) (a : Addr) (xs : List V) (ys : List PyData) (Q' : List PyData → Prop), vs = [.ref a] ∧ Rd H a (.lst xs) ∧ xs.length ≤ sizeLine ∧ RpA (hd H O) xs ys ∧ SortOk ys ∧ Q' (sortD ys) ∧
  ∀ p H' ws zs, Same H H' → H p = none → H' p = some (.lst ws) → ws.length ≤ sizeLine → RpA (hd H' (p :: O)) ws zs → Q' zs → Q (.ref p) H'
theorem cr_sortedM (hu : X.A.units + 64 < cLine) : CallR X (.builtin "sorted") upCM := by
  intro pins s σ H vs us Q I rv w
  obtain ⟨O, a, xs, ys, Q', rfl, h1, h2, h3, ok, q, k⟩ := w
  obtain ⟨its, n, z, r, eo⟩ := lstR I h1
  rw [Vals.ref1 rv]
  have ln := h3.length
  have e2 : (xs.zip ys).map (·.2) = ys := List.map_snd_zip (by omega)
  have elen : (xs.zip ys).length = xs.length := by rw [List.length_zip]; omega
  refine sorted_pairs (ps := xs.zip ys) ⟨_, eo, rfl, n, rfl⟩ (each_pairs h3 r) (rpa_each I (h3.up (hd_same _ _)) r) (by rw [e2]; exact ok) (by omega) hu fun out hlen he => ?_
  obtain ⟨ee, he2⟩ := sortedAll_at s.heap its out.toArray
  have vo := each_vals he
  have np : H (s.heap.objs.size + 1) = none := I.hok.fresh (Nat.le_succ _)
  have lw : (((xs.zip ys).mergeSort (PySem.W.dataLe false (·.2))).map (·.1)).length ≤ sizeLine := by
    rw [List.length_map, List.length_mergeSort]
    omega
  refine ⟨.ref (s.heap.objs.size + 1), _, I.laid (t' := s.toks) (o := .lst (((xs.zip ys).mergeSort (PySem.W.dataLe false (·.2))).map (·.1))) (fun b u z => sortedAll_old z) (Nat.le_succ _) ⟨lw, out, ee, vo, he2⟩, rfl,
    k _ _ _ (sortD ys) (same_new np) np upd_same lw ?_ q⟩
  have es : sortD ys = ((xs.zip ys).mergeSort (PySem.W.dataLe false (·.2))).map (·.2) := by
    have z := PySem.W.sort_maps (r := PySem.W.dataLe false fun b : V × PyData => b.2) (s := PySem.W.dataLe false id) (fun b : V × PyData => b.2) (l := xs.zip ys) (fun a _ b _ => rfl)
    rw [e2] at z
    exact z.symm
  rw [es]
  refine (rpa_pairs fun p hp => ?_).up (new_in np)
  exact pairs_rpa h3 p (List.mem_mergeSort.mp hp)
theorem name_go {i : Nat} {r1 : RF} {ok : List PyData → Prop} {f : List PyData → List PyData} {σ : L2.St} {H : Hp} {Q : VK} {r : DEnv} {Q' : List PyData → Prop} (R : RepE C σ H r)
    (w : match (er r)[i]? with
      | some (some (.d x)) => r1 [x] Q'
      | some (some (.m (.dct kvs))) => ok (kvs.map (·.1)) ∧ Q' (f (kvs.map (·.1)))
      | _ => False)
    (k : ∀ a H' vs xs, Gr C r H H' → H a = none → H' a = some (.lst vs) → vs.length ≤ sizeLine → RpA (hd H' (a :: (C.O ++ oA r))) vs xs → Q' xs → Q (.ref a) H') :
    ∃ v, σ[i]? = some (some v) ∧ (upCF r1 [v] H Q ∨ upCO ok f [v] H Q) := by
  split at w
  · rename_i x e
    have e := er_d e
    obtain ⟨v, e2, h⟩ := R.slot i _ e
    exact ⟨v, e2, .inl ⟨C.O ++ oA r, [x], Q', R.domA, .cons h .nil, w, fun a H' ws xs sm na ea l rp qz => k a H' ws xs (Gr.of_same R sm) na ea l rp qz⟩⟩
  · rename_i kvs e
    obtain ⟨a, ea⟩ := er_m e
    obtain ⟨va, e2, rfl, o, xs, m1, m2, m3, m4, m5⟩ := R.slot i _ ea
    exact ⟨_, e2, .inr ⟨C.O ++ oA r, a, o, xs, kvs, Q', rfl, m1, m2, m3, m4, m5, w.1, w.2, fun b H' ws ys sm na eb l rp qz => k b H' ws ys (Gr.of_same R sm) na eb l rp qz⟩⟩
  · exact w.elim
theorem pf_listN (i : Nat) {x : Str} {p p2 : Pos} (hc : X.calm = true) (hm : X.mg "list" = none) (hg : Gl X "list") (hN : X.N[i]? = some x) (hvis : Vis X.env.scope x) (hd' : (x == ("__debug__" : Str)) = false) (hcd : (x == ("__classdict__" : Str)) = false) : PF X C (.Call (.Name "list" p) [.Name x p2] [] pos) (fListN i) :=
  PE_imp (pe_callTy (CallR.or (cf_lst hc) (cr_listO hc)) hg hm (by decide +kernel) (pa_cons (pe_var hN hvis hd' hcd) pa_nil rfl) (by decide) (by decide) rfl rfl) fun σ H Q ⟨r, Q', R, q, k⟩ => by
    obtain ⟨v, h1, h2⟩ := name_go (i := i) (r1 := lstW) (ok := fun _ => True) (f := id) (Q := Q) R (by
      unfold fListN at q
      split at q
      · exact q
      · exact ⟨True.intro, q⟩
      · exact q.elim) k
    exact ⟨v, h1, h2⟩
theorem pf_sortN (i : Nat) {x : Str} {p p2 : Pos} (hc : X.calm = true) (hu : X.A.units + 64 < cLine) (hm : X.mg "sorted" = none) (hg : Gl X "sorted") (hN : X.N[i]? = some x) (hvis : Vis X.env.scope x) (hd' : (x == ("__debug__" : Str)) = false) (hcd : (x == ("__classdict__" : Str)) = false) : PF X C (.Call (.Name "sorted" p) [.Name x p2] [] pos) (fSortN i) :=
  PE_imp (pe_callB (CallR.or (CallR.or (cf_srt hc hu) (cr_sortedO hc hu)) (cr_sortedM hu)) hg hm (by decide +kernel) (pa_cons (pe_var hN hvis hd' hcd) pa_nil rfl) (by decide) (by decide) rfl rfl) fun σ H Q ⟨r, Q', R, q, k⟩ => by
    unfold fSortN at q
    split at q
    · rename_i x e
      obtain ⟨v, e2, h⟩ := R.slot i _ (er_d e)
      exact ⟨v, e2, .inl (.inl ⟨C.O ++ oA r, [x], Q', R.domA, .cons h .nil, q, fun a H' ws xs sm na ea l rp qz => k a H' ws xs (Gr.of_same R sm) na ea l rp qz⟩)⟩
    · rename_i kvs e
      obtain ⟨a, ea⟩ := er_m e
      obtain ⟨va, e2, rfl, o, xs, m1, m2, m3, m4, m5⟩ := R.slot i _ ea
      exact ⟨_, e2, .inl (.inr ⟨C.O ++ oA r, a, o, xs, kvs, Q', rfl, m1, m2, m3, m4, m5, q.1, q.2, fun b H' ws ys sm na eb l rp qz => k b H' ws ys (Gr.of_same R sm) na eb l rp qz⟩)⟩
    · rename_i xs e
      obtain ⟨a, ea⟩ := er_m e
      obtain ⟨va, e2, rfl, vs, m1, m2, m3⟩ := R.slot i _ ea
      exact ⟨_, e2, .inr ⟨C.O ++ oA r, a, vs, xs, Q', rfl, .inl m1, m2, m3, q.1, q.2, fun b H' ws ys sm na eb l rp qz => k b H' ws ys (Gr.of_same R sm) na eb l rp qz⟩⟩
    · exact q.elim
/-! a slice of a name: data, or a list of one's own, that stays so -/
def dSlN (i : Nat) (tl th : TOD) : TD := fun r Q => match r[i]? with
  | some (some (.d x)) => tl r fun l => th r fun u => rSlD x l u Q
  | some (some (.m (.lst xs))) => tl r fun l => th r fun u => Q (.list (cutD xs l u))
  | _ => False
theorem pd_slN (i : Nat) {x : Str} {p p2 : Pos} {lo hi : Option Expr} {tl th : TOD} (hl : PDO X C lo tl) (hu : PDO X C hi th) (hN : X.N[i]? = some x) (hvis : Vis X.env.scope x) (hd' : (x == ("__debug__" : Str)) = false) (hcd : (x == ("__classdict__" : Str)) = false) : PD X C (.Subscript (.Name x p) (.Slice lo hi none p2) pos) (dSlN i tl th) :=
  PE_imp (pe_slice (SlR.or sld sl_list) (pe_var hN hvis hd' hcd) hl hu) fun σ H Q ⟨r, Q', R, q, k⟩ => by
    unfold dSlN at q
    split at q
    · rename_i d e
      obtain ⟨v, e2, h⟩ := R.slot i _ (er_d e)
      exact ⟨v, e2, r, _, R, q, fun l H2 g2 q2 => ⟨r, _, R.grow g2, q2, fun u H3 g3 q3 => .inl
        ⟨C.O ++ oA r, d, Q', ((R.grow g2).grow g3).domA, (h.up (g2.hd R)).up (g3.hd (R.grow g2)), q3, fun z H' dz sm rpz qz => k z H' dz ((g2.trans g3).then_same sm) rpz qz⟩⟩⟩
    · rename_i xs e
      obtain ⟨a, ea⟩ := er_m e
      obtain ⟨va, e2, rfl, vs, m1, m2, m3⟩ := R.slot i _ ea
      have ns : MO.lst xs ≠ .st := fun z => by cases z
      refine ⟨_, e2, r, _, R, q, fun l H2 g2 q2 => ⟨r, _, R.grow g2, q2, fun u H3 g3 q3 => .inr ⟨a, vs, rfl, .inl (.inl ?_), fun p np => ?_⟩⟩⟩
      · exact g3.1 a _ ((R.grow g2).ownN ea ns) (g2.1 a _ (R.ownN ea ns) m1)
      · have R3 := (R.grow g2).grow g3
        have rp := (m3.up (g2.hd R)).up (g3.hd (R.grow g2))
        exact k _ _ _ ((g2.trans g3).then_same (same_new np)) (rp_newL R3.domA np (Nat.le_trans cut_len m2) (cut_rp rp)) q3
    · exact q.elim
end
end DP

end
section
set_option Elab.async false
set_option linter.all false
set_option maxRecDepth 100000
set_option autoImplicit false
set_option maxHeartbeats 4000000
namespace DP
open PySem PySem.Spec PyProof.Rows L2
/-! ### the pairs of a dict that stays as it is -/
def Itdi (a : Addr) (o : Obj) (xs : List (NestedKey × Addr × Value)) : It :=
  ⟨fun i H => H a = some (OB a o) ∧ ∃ e y, xs[i]? = some e ∧ RelV y e.2.2, fun i H x H' => ∃ T e y, xs[i]? = some e ∧ RelV y e.2.2 ∧ x = .ref T ∧ H T = none ∧ H' = upd H T (.tup [.ref e.2.1, y]), fun i H => H a = some (OB a o) ∧ xs.length ≤ i⟩
theorem turn_di {P : Program} {w : World} {K : PySem.W.Frag} {elts : List Expr} {kk : Nat} {tpos : Pos} {a : Addr} {o : Obj} {es : Array DictEntry} {ep : Nat} {xs : List (NestedKey × Addr × Value)} (it : Addr) (hc0 : o.ExactDict) (hod : o.data = .dict es ep) (he : es.toList = xs.map fun x => (⟨x.1.hash w, .ref x.2.1, x.2.2⟩ : DictEntry)) :
    Turn P w K (.Tuple elts kk tpos) (Itdi a o xs) [it] it (fun i h => ∃ ok ov, IsItemIter h it a i xs.length ep ok ov) where
  mem := by simp
  obj := fun i h st b hb => by
    have e : b = it := by simpa using hb
    subst e
    obtain ⟨ok, ov, e⟩ := st
    exact ⟨_, e, fun v z => nomatch z⟩
  keep := fun i h h' st k => let ⟨ok, ov, e⟩ := st; ⟨ok, ov, k it (by simp) _ e⟩
  item := by
    intro X hP hw hK hc i pins s σ H E I hf st hg
    subst hP hw hK
    obtain ⟨hd, x, y, hx, ry⟩ := hg
    have hgd : s.heap.get? a = some o := (I.hok _ _ hd).1
    have hsz : es.size = xs.length := by rw [← Array.length_toList, he, List.length_map]
    have hen : es[i]? = some ⟨x.1.hash X.w, .ref x.2.1, x.2.2⟩ := by rw [← Array.getElem?_toList, he, List.getElem?_map, hx]; rfl
    obtain ⟨hi, hen⟩ := Array.getElem?_eq_some_iff.mp hen
    obtain ⟨ok, ov, st⟩ := st
    rw [← hsz] at st
    have hlt : it < s.heap.objs.size := Heap.lt_size st
    have hr : s.heap.DictRaw a es ep := ⟨o, hgd, hc0, hod⟩
    refine wpAny_pyNext_items_item_raw st hr hi fun h' ho hT hz hk => ?_
    rw [hen] at ho hT
    refine ⟨_, rfl, wpAny_letOwnedTupleGo_items (s := { s with heap := h' }) ho fun h'' he' sb => ?_⟩
    have hT2 : h''.get? s.heap.objs.size = some { cls := .type "tuple", data := .seq #[.ref x.2.1, x.2.2] } := (sb.2 _ (Nat.ne_of_gt hlt)).trans hT
    have new : ObjOk X.prog X.w (upd H s.heap.objs.size (.tup [.ref x.2.1, y])) h'' s.heap.objs.size (.tup [.ref x.2.1, y]) :=
      ⟨by show 2 ≤ sizeLine; decide, [.ref x.2.1, x.2.2], .cons rfl (.cons ry .nil), ⟨_, hT2, rfl, _, rfl⟩⟩
    have I1 : Inv X pins σ (upd H s.heap.objs.size (.tup [.ref x.2.1, y])) { s with heap := h'' } :=
      I.turnedNew (t' := s.toks) (ch := [it]) (fun b ob hb e => (sb.2 b (by simpa using hb)).trans (hk b ob (by simpa using hb) e)) hf (Nat.le_refl _) new
    refine ⟨.ref s.heap.objs.size, _, I1, rfl, ⟨_, x, y, hx, ry, rfl, I.hok.fresh (Nat.le_refl _), rfl⟩, ⟨.ref x.2.1, x.2.2, ?_⟩, fun b hb => ?_⟩
    · rw [← hsz]; exact he'
    · have e : b = it := by simpa using hb
      rw [e, upd_ne (Nat.ne_of_lt hlt)]
      exact (hf it (by simp)).1
  done := by
    intro X hP hw hK hc i pins s σ H E I hf st hg
    subst hP hw hK
    obtain ⟨hd, hi⟩ := hg
    obtain ⟨f0, f1, f2, f3, f4, f5⟩ := hf it (by simp)
    have hgd : s.heap.get? a = some o := (I.hok _ _ hd).1
    have hsz : es.size = xs.length := by rw [← Array.length_toList, he, List.length_map]
    obtain ⟨ok, ov, st⟩ := st
    rw [← hsz] at st hi
    have hr : s.heap.DictRaw a es ep := ⟨o, hgd, hc0, hod⟩
    exact wpAny_pyNext_items_end_raw (I.ok.hd hc) st hr hi fun h' eb => ⟨rfl, I.turned (t' := s.toks) (fun b ob hb e => eb b ob hb e) f0 f1 f3 f4 f5⟩
  self := fun A i s Q E st h => let ⟨_, _, e⟩ := st; PySem.W.kcp_self e h
def itmD (kvs : List (PyData × PyData)) : List PyData := kvs.map fun q => .tuple [q.1, q.2]
theorem goes_items {Hd : Hp} {a : Addr} {o : Obj} {xs : List (NestedKey × Addr × Value)} {kvs : List (PyData × PyData)} (h : Hd a = some (OB a o)) (ha : RpD Hd xs kvs) : Goes (Itdi a o xs) Hd (itmD kvs) where
  go := fun i x H O s dm e => by
    have q : H a = some (OB a o) := (hd_some (s _ _ h)).2
    unfold itmD at e
    rw [List.getElem?_map] at e
    obtain ⟨p, ep, rfl⟩ := Option.map_eq_some_iff.mp e
    obtain ⟨v, e1, e2, e3, e4, y, ry, e5⟩ := ha.get ep
    refine ⟨⟨q, v, y, e1, ry⟩, fun w H' z => ?_⟩
    obtain ⟨T, v', y', z1, z2, rfl, hT, rfl⟩ := z
    rw [e1] at z1
    cases z1
    cases RelV.inj z2 ry
    exact ⟨same_new hT, rp_pair dm hT (e4.up s) (e5.up s)⟩
  stop := fun H O s => ⟨(hd_some (s _ _ h)).2, by unfold itmD; rw [List.length_map]; exact Nat.le_of_eq ha.length⟩
section
variable {X : Cx} {C : Cfg} {e : Expr}
theorem pi_itemsD {te : TE} {elts : List Expr} {kk : Nat} {tpos apos cpos : Pos} (he : PE X e te) (hbase : attributeBase e "items" X.env (eval e X.env) = eval e X.env) (hline : (apos.endLine == cpos.line) = true) :
    PI X (.Tuple elts kk tpos) (.Call (.Attribute e "items" apos) [] [] cpos) (fun σ H R => te σ H fun x H1 => ∃ a o xs, x = .ref a ∧ H1 a = some (OB a o) ∧ DictObj o xs ∧ (a == sysModules) = false ∧ R (Itdi a o xs) H1) := by
  refine ⟨fun pins s σ H R I h => ?_⟩
  refine wpAny_Call_method (T := "dict") (id := "dict.items") hbase rfl hline F.plainAttrs_dict F.slot_dict_items F.type_dict_items (thn (he.run pins s σ H _ I h) fun u s1 ⟨x, H1, I1, rx, d, o, xs, ex, hd, od, hs, q⟩ => ?_)
  subst ex
  obtain rfl : u = Value.ref d := rx
  have hgd : s1.heap.get? d = some o := (I1.hok _ _ hd).1
  obtain ⟨es, ep, hr, hod, he⟩ := od.raw X.w hgd
  have hsz : es.size = xs.length := by rw [← Array.length_toList, he, List.length_map]
  refine ⟨hr.typeIs, fun b q => by cases q; exact ⟨o, hgd, od.1.2.1⟩, ?_⟩
  have I2 : Inv X pins σ H1 { s1 with heap := s1.heap.push { cls := .type "dict_items", data := .fields #[.ref d] } } := I1.kept (t' := s1.toks) fun b ob q => Heap.get?_push_of_some _ q
  have fin : wpAny (model X.prog X.w) X.A (pyIter (.ref s1.heap.objs.size)) (PIE X pins σ (.Tuple elts kk tpos) R) X.xe { s1 with heap := s1.heap.push { cls := .type "dict_items", data := .fields #[.ref d] } } := by
    refine wpAny_pyIter_items_raw (d := d) ⟨_, Heap.get?_push_size _ rfl, rfl, rfl⟩ (hr.at fun o e => Heap.get?_push_of_some _ e) (pi_one (tk := s1.toks) I2 _ (turn_di _ od.1 hod he) ⟨.none, .none, ?_⟩ q)
    rw [← hsz]
    exact Heap.get?_push_size _ rfl
  show wpAny _ _ (callWith cpos (.builtin "dict.items") [.ref d] [] []) _ X.xe s1
  exact method_meetsIn F.slot_dict_items F.entry_dict_items rfl (PySem.evalArgs_none ⟨rfl, hr.typeIs, F.args_dict_items_1 _, _, meets_dict_items_raw d hs, ⟨⟨es, ep, hr⟩, fin⟩⟩)
def itm1 (Q : List PyData → Prop) : PyData → Prop
  | .dict (p :: kvs) => keyB p.1 = true ∧ Q (itmD (p :: kvs))
  | _ => False
def iItm (t : TD) : TID := fun r Q => t r fun x => itm1 Q x
theorem pdi_items {t : TD} {elts : List Expr} {kk : Nat} {tpos apos cpos : Pos} (h : PD X C e t) (hbase : attributeBase e "items" X.env (eval e X.env) = eval e X.env) (hline : (apos.endLine == cpos.line) = true) :
    PDI X C (.Tuple elts kk tpos) (.Call (.Attribute e "items" apos) [] [] cpos) (iItm t) :=
  PI_imp (pi_itemsD h hbase hline) fun σ H R ⟨r, Q', R0, q, k⟩ => ⟨r, _, R0, q, fun v H1 x g rp qx => by
    unfold itm1 at qx
    split at qx
    · obtain ⟨hk, qx⟩ := qx
      obtain ⟨a, o, xs, rfl, h1, h2, h3, h4, h5⟩ := rp_dctN rp hk
      exact ⟨a, o, xs, rfl, (hd_some h1).2, h2, h3, k _ H1 _ g (by unfold itmD; rw [List.length_map, ← h5.length]; exact h4) (goes_items h1 h5) qx⟩
    · exact qx.elim⟩
/-! ### sum(d.values()) -/
def valIs (ns : List Int) (xs : List (NestedKey × Addr × Value)) : Prop := ns.length = xs.length ∧ ∀ (i : Nat) (x : NestedKey × Addr × Value), xs[i]? = some x → ∃ t, x.2.2 = .int (ns.getD i 0) t
theorem pre_getD : ∀ (ns : List Int) (n : Nat), n ≤ ns.length → preSum (fun i => ns.getD i 0) n = (ns.take n).sum
  | _, 0, _ => rfl
  | ns, n + 1, h => by
    have e : ns.take (n + 1) = ns.take n ++ [ns[n]'h] := by
      rw [List.take_succ, List.getElem?_eq_getElem (show n < ns.length from h)]
      rfl
    show preSum _ n + ns.getD n 0 = _
    rw [pre_getD ns n (Nat.le_of_succ_le h), e, List.sum_append, List.getD_eq_getElem?_getD, List.getElem?_eq_getElem (show n < ns.length from h)]
    simp
theorem pe_sumV {te : TE} {p0 apos cpos pos : Pos} (hc : X.calm = true) (hgs : Gl X "sum") (hms : X.mg "sum" = none) (he : PE X e te) (hbase : attributeBase e "values" X.env (eval e X.env) = eval e X.env) (hline : (apos.endLine == cpos.line) = true)
    (hs1 : starEach [.Call (.Attribute e "values" apos) [] [] cpos] X.env = (false, eval (.Call (.Attribute e "values" apos) [] [] cpos) X.env) :: starEach [] X.env := by rfl) (hp1 : (backTo pos (starEach [] X.env)).any (·.1) = false := by rfl) :
    PE X (.Call (.Name "sum" p0) [.Call (.Attribute e "values" apos) [] [] cpos] [] pos) (fun σ H Q => te σ H fun x H1 => ∃ a o xs ns, x = .ref a ∧ H1 a = some (OB a o) ∧ DictObj o xs ∧ (a == sysModules) = false ∧ valIs ns xs ∧ Q (.int ns.sum) H1) := by
  refine ⟨fun pins s σ H Q I h => ?_⟩
  refine wpAny_Call_Name_kw (ld_blt I hgs hms boot_sum ?_)
  refine PyProof.Rows.callWith_builtin1 ?_ hs1 hp1
  rw [hs1]
  show wpAny _ _ (spliced ((false, eval (.Call (.Attribute e "values" apos) [] [] cpos) X.env) :: backTo pos (starEach [] X.env))) _ _ s
  refine Calls.spliced_cons ?_
  refine wpAny_Call_method (T := "dict") (id := "dict.values") hbase rfl hline F.plainAttrs_dict F.slot_dict_values F.type_dict_values (thn (he.run pins s σ H _ I h) fun u s1 ⟨x, H1, I1, rx, d, o, xs, ns, ex, hd, od, hs, hv, q⟩ => ?_)
  subst ex
  obtain rfl : u = Value.ref d := rx
  have hgd : s1.heap.get? d = some o := (I1.hok _ _ hd).1
  obtain ⟨es, ep, hr, hod, hes⟩ := od.raw X.w hgd
  have hsz : es.size = xs.length := by rw [← Array.length_toList, hes, List.length_map]
  refine ⟨hr.typeIs, fun b q => by cases q; exact ⟨o, hgd, od.1.2.1⟩, ?_⟩
  have hh : X.A.in1.handled = none := I1.ok.hd hc
  have hdl : d < s1.heap.objs.size := Heap.lt_size hgd
  have fin : wpAny (model X.prog X.w) X.A (call (.builtin "sum") [.ref s1.heap.objs.size]) (EP X pins σ Q) X.xe { s1 with heap := s1.heap.push { cls := .type "dict_values", data := .fields #[.ref d] } } := by
    refine call_sum_walkAnyS (wpAny_pyIter_values_raw (d := d) ⟨_, Heap.get?_push_size _ rfl, rfl, rfl⟩ (hr.at fun o e => Heap.get?_push_of_some _ e) ?_)
    have hr2 : ((s1.heap.push { cls := .type "dict_values", data := .fields #[.ref d] }).push { cls := .type "dict_valueiterator", data := .fields #[.ref d, .int 0 0, .int es.size 0, .int ep 0] }).DictRaw d es ep := hr.at fun o e => Heap.get?_push_of_some _ (Heap.get?_push_of_some _ e)
    have hz : (s1.heap.push { cls := .type "dict_values", data := .fields #[.ref d] }).objs.size = s1.heap.objs.size + 1 := Heap.size_push ..
    have hne : d ≠ (s1.heap.push { cls := .type "dict_values", data := .fields #[.ref d] }).objs.size := by rw [hz]; exact Nat.ne_of_lt (Nat.lt_succ_of_lt hdl)
    refine ⟨_, _, _, _, _, _, _, fun i => ns.getD i 0, rfl, (Walks.rawValues (A := X.A.in1) hh _ d hne es ep).toS, ⟨⟨_, Heap.get?_push_size _ rfl, rfl, rfl⟩, hr2⟩, fun b hb => ?_, fun i v hv2 => ?_, fun s' t' hm => ?_⟩
    · have e2 : ((s1.heap.push { cls := .type "dict_values", data := .fields #[.ref d] }).push { cls := .type "dict_valueiterator", data := .fields #[.ref d, .int 0 0, .int es.size 0, .int ep 0] }).objs.size = s1.heap.objs.size + 1 + 1 := by rw [Heap.size_push, hz]
      show b < _
      rw [e2]
      rw [hz] at hb
      rcases List.mem_cons.mp hb with rfl | hb
      · exact Nat.lt_succ_self _
      · rw [List.mem_singleton.mp hb]; exact Nat.lt_succ_of_lt (Nat.lt_succ_of_lt hdl)
    · obtain ⟨hi, rfl⟩ := hv2
      have hx : xs[i]? = some xs[i] := List.getElem?_eq_getElem (by omega)
      have hen : es[i]? = some ⟨xs[i].1.hash X.w, .ref xs[i].2.1, xs[i].2.2⟩ := by rw [← Array.getElem?_toList, hes, List.getElem?_map, hx]; rfl
      obtain ⟨_, hen⟩ := Array.getElem?_eq_some_iff.mp hen
      rw [hen]
      exact hv.2 i _ hx
    · rw [Moved.eq_with hm, hsz, ← hv.1, pre_getD ns _ (Nat.le_refl _), List.take_length]
      refine ⟨.int _, H1, I1.kept (t' := s'.toks) (fun b o e => hm.heap b o (fun hmem => absurd (List.mem_singleton.mp hmem) (Nat.ne_of_lt (by rw [hz]; exact Nat.lt_succ_of_lt (Heap.lt_size e)))) (Heap.get?_push_of_some _ (Heap.get?_push_of_some _ e))), ⟨t', rfl⟩, q⟩
  show wpAny _ _ (callWith cpos (.builtin "dict.values") [.ref d] [] []) _ X.xe s1
  exact method_meetsIn F.slot_dict_values F.entry_dict_values rfl (PySem.evalArgs_none ⟨rfl, hr.typeIs, F.args_dict_values_1 _, _, meets_dict_values_raw d hs, ⟨⟨es, ep, hr⟩, Calls.spliced_nil fin⟩⟩)
end
end DP

end
section
set_option Elab.async false
set_option linter.all false
set_option maxRecDepth 100000
set_option autoImplicit false
set_option maxHeartbeats 4000000
namespace DP
open PySem PySem.Spec PyProof.Rows L2
/-! ### sum(d.values()) -/
def sumV1 (Q : PyData → Prop) : PyData → Prop
  | .dict (p :: kvs) => keyB p.1 = true ∧ ∃ ns : List Int, (p :: kvs).map (·.2) = ns.map PyData.int ∧ Q (.int ns.sum)
  | _ => False
def dSumV (t : TD) : TD := fun r Q => t r fun x => sumV1 Q x
theorem vals_int {H : Hp} : ∀ {xs : List (NestedKey × Addr × Value)} {kvs : List (PyData × PyData)} {ns : List Int}, RpD H xs kvs → kvs.map (·.2) = ns.map PyData.int → valIs ns xs
  | _, _, ns, .nil, e => by
    cases ns with
    | nil => exact ⟨rfl, fun i x h => by simp at h⟩
    | cons _ _ => cases e
  | _, _, ns, .cons a b c d t, e => by
    cases ns with
    | nil => cases e
    | cons n ns =>
      rw [List.map_cons, List.map_cons] at e
      obtain ⟨e1, e2⟩ := List.cons.inj e
      obtain ⟨h1, h2⟩ := vals_int t e2
      refine ⟨by rw [List.length_cons, List.length_cons, h1], fun i x h => ?_⟩
      cases i with
      | zero =>
        simp at h
        subst h
        have e1 : _ = PyData.int n := e1
        subst e1
        rw [rp_int d] at c
        exact c
      | succ i => exact h2 i x (by simpa using h)
section
variable {X : Cx} {C : Cfg} {e : Expr}
theorem pd_sumV {t : TD} {p0 apos cpos pos : Pos} (hc : X.calm = true) (hgs : Gl X "sum") (hms : X.mg "sum" = none) (he : PD X C e t) (hbase : attributeBase e "values" X.env (eval e X.env) = eval e X.env) (hline : (apos.endLine == cpos.line) = true) :
    PD X C (.Call (.Name "sum" p0) [.Call (.Attribute e "values" apos) [] [] cpos] [] pos) (dSumV t) :=
  PE_imp (pe_sumV hc hgs hms he hbase hline) fun σ H Q ⟨r, Q', R, q, k⟩ => ⟨r, _, R, q, fun v H1 x g rp qx => by
    unfold sumV1 at qx
    split at qx
    · obtain ⟨hk, ns, e1, qx⟩ := qx
      obtain ⟨a, o, xs, rfl, h1, h2, h3, h4, h5⟩ := rp_dctN rp hk
      exact ⟨a, o, xs, ns, rfl, (hd_some h1).2, h2, h3, vals_int h5 e1, k _ _ _ g (.int _) qx⟩
    · exact qx.elim⟩
end
end DP

end
section
set_option Elab.async false
set_option linter.all false
set_option maxRecDepth 100000
set_option autoImplicit false
set_option maxHeartbeats 4000000
namespace DP
open PySem PySem.Spec PyProof.Rows L2
/-! ### d[k] -/
def rIxDct : R2D := fun dx dy Q => ∃ kvs d, dx = .dict kvs ∧ (kvs.all fun p => keyB p.1) = true ∧ keyB dy = true ∧ getD kvs dy = some d ∧ Q d
theorem ixdct {X : Cx} (hu : X.A.units + 64 < cLine) : IxR X (upR rIxDct) := by
  intro value slice pins s σ H x y v u Q I rx ry w hs
  obtain ⟨O, dx, dy, Q', dm, hx, hy, ⟨kvs, d, rfl, hk, hky, hg, q⟩, k⟩ := w
  obtain ⟨a, o, xs, rfl, f, od, sy, hl, hr⟩ := dict_at I (hd_same _ _) hx hk
  obtain ⟨b, rfl⟩ := keyB_ref hky hy
  cases rx
  cases ry
  obtain ⟨b', u', v', e1, e2, e3⟩ := hr.get1 hky hg
  have dH := dict_toH I f od (hr.up (hd_same _ _))
  exact tail_any ⟨o, f, od.1.1⟩ PySem.F.slot_dict_getitem.lookup (wpAny_getItem_heap (knd := nestedKind X.prog X.w) (room8 hu) (key_is I hky (hy.up (hd_same _ _))) dH e1 ⟨v', H, I.tok _, e2, k _ H _ (Same.refl H) e3 q⟩) hs
/-! ### what is read with a dict of one's own that stays so: a list of numbers -/
theorem rpaI {H : Hp} : ∀ ns : List Int, RpA H (ns.map V.int) (ns.map PyData.int)
  | [] => .nil
  | n :: ns => .cons (.int n) (rpaI ns)
theorem rp_intsO {H H' : Hp} {O O' : List Addr} {v : V} {ns : List Int} (h : Rp (hd H O) v (.list (ns.map PyData.int))) (hO : ∀ b, b ∈ O' → b ∈ O ∨ ∀ vs, ¬ Rd H b (.lst vs)) : Rp (hd H O') v (.list (ns.map PyData.int)) := by
  obtain ⟨b, ys, rfl, h1, h2, h3⟩ := rp_lst h
  have e := rpa_ints h3
  subst e
  have hb : b ∉ O' := fun q => by
    rcases hO b q with z | z
    · rcases h1 with h1 | ⟨u, h1⟩
      · exact (hd_some h1).1 z
      · exact (hd_some h1).1 z
    · exact z _ (Rd.full h1)
  refine .lst ?_ h2 ?_
  · rcases h1 with h1 | ⟨u, h1⟩
    · exact .inl (by rw [hd_out hb]; exact (hd_some h1).2)
    · exact .inr ⟨u, by rw [hd_out hb]; exact (hd_some h1).2⟩
  · exact rpaI ns
end DP

end
section
set_option Elab.async false
set_option linter.all false
set_option maxRecDepth 100000
set_option autoImplicit false
set_option maxHeartbeats 4000000
namespace DP
open PySem PySem.Spec PyProof.Rows L2
/-! ### repr of data -/
mutual
/-- no list within -/
def noL : PyData → Bool
  | .list _ => false
  | .tuple ds => noLs ds
  | .dict kvs => noLk kvs
  | _ => true
def noLs : List PyData → Bool
  | [] => true
  | d :: ds => noL d && noLs ds
def noLk : List (PyData × PyData) → Bool
  | [] => true
  | (k, v) :: r => (noL k && noL v) && noLk r
end
section
variable {X : Cx} {pins : List (Addr × Obj)} {σ : L2.St} {H : Hp} {s : Shared}
mutual
/-- without lists no address but a dict's own is told -/
theorem Rp.readsN (I : Inv X pins σ H s) : ∀ (d : PyData) (v : V) (u : Value), noL d = true → Rp H v d → RelV v u → ∃ as, Reads s.heap u d as ∧ sysModules ∉ as
  | .none, _, _, _, h, r => by
    cases h
    cases r
    exact ⟨_, Reads.none, by simp⟩
  | .bool b, _, _, _, h, r => by
    cases h
    cases r
    exact ⟨_, Reads.bool b, by simp⟩
  | .int i, _, _, _, h, r => by
    cases h
    obtain ⟨t, rfl⟩ := r
    exact ⟨_, Reads.int i t, by simp⟩
  | .str x, _, _, _, h, r => by
    cases h
    obtain ⟨t, rfl⟩ := r
    exact ⟨_, Reads.str x t, by simp⟩
  | .list ds, _, _, hn, _, _ => by
    unfold noL at hn
    cases hn
  | .tuple ds, _, _, hn, h, r => by
    unfold noL at hn
    cases h with
    | tup hs hl ha =>
      cases r
      obtain ⟨its, _, rv, ⟨o, ho, hc, n, hd⟩⟩ := tupR I hs
      obtain ⟨as, hr, ns⟩ := Rp.readsNA I ds _ its hn ha rv
      exact ⟨_, Reads.tuple ho hc hd hr, ns⟩
  | .dict kvs, _, _, hn, h, r => by
    unfold noL at hn
    cases h with
    | dct ha =>
      cases r
      obtain ⟨_, sy, vs, kv, o, es, ep, h1, h2, h3, h4, h5, h6⟩ := (show ObjOk X.prog X.w H s.heap _ (.dK []) from I.hok _ _ ha)
      have e0 : vs = [] := by
        cases kv
        rfl
      subst e0
      have e1 : es.toList = [] := by
        generalize es.toList = l at h5
        cases h5
        rfl
      refine ⟨_, Reads.dict (kvs := []) (as := []) (bs := []) h1 h2.1 h3 (by rw [e1]; exact ReadsAll.nil) (by rw [e1]; exact ReadsAll.nil), ?_⟩
      intro z
      simp at z
      rw [← z] at sy
      exact absurd sy (by decide)
    | dct1 i j ha =>
      cases r
      obtain ⟨_, sy, vs, kv, o, es, ep, h1, h2, h3, h4, h5, h6⟩ := (show ObjOk X.prog X.w H s.heap _ (.dK [(.inl i, .int j)]) from I.hok _ _ ha)
      obtain ⟨v, e0, rv⟩ : ∃ v : Value, vs = [((.inl i : Key), v)] ∧ RelV (.int j) v := by
        cases kv with
        | cons h t =>
          cases t
          rename_i q
          obtain ⟨q1, q2⟩ := q
          obtain ⟨a1, a2⟩ := h
          have a1 : (.inl i : Key) = q1 := a1
          subst a1
          exact ⟨q2, rfl, a2⟩
      subst e0
      obtain ⟨t, rfl⟩ := rv
      obtain ⟨en, e1, e2, e3⟩ : ∃ en : DictEntry, es.toList = [en] ∧ keyIs (.inl i) en.key = true ∧ en.val = .int j t := by
        generalize es.toList = l at h5
        cases h5 with
        | cons k1 k2 k3 =>
          cases k3
          exact ⟨_, rfl, k1, k2⟩
      obtain ⟨t2, e4⟩ : ∃ t2, en.key = .int i t2 := by
        rcases keyIs_shape e2 with ⟨i2, t2, a1, a2⟩ | ⟨x, t2, a1, a2⟩
        · cases a1
          exact ⟨t2, a2⟩
        · cases a1
      have rk : ReadsAll s.heap (es.toList.map (·.key)) [.int i] [] := by
        rw [e1]
        show ReadsAll _ [en.key] [.int i] []
        rw [e4]
        exact ReadsAll.cons (Reads.int i t2) ReadsAll.nil
      have rvv : ReadsAll s.heap (es.toList.map (·.val)) [.int j] [] := by
        rw [e1]
        show ReadsAll _ [en.val] [.int j] []
        rw [e3]
        exact ReadsAll.cons (Reads.int j t) ReadsAll.nil
      refine ⟨_, Reads.dict (kvs := [(.int i, .int j)]) (as := []) (bs := []) h1 h2.1 h3 rk rvv, ?_⟩
      intro z
      simp at z
      rw [← z] at sy
      exact absurd sy (by decide)
    | dctN ha od sy hl hr =>
      rename_i a o xs
      cases r
      obtain ⟨es, ep, ⟨o', e1, e2, e3⟩, e4, e5⟩ := od.raw X.w (show s.heap.get? a = some o from (I.hok _ _ ha).1)
      obtain ⟨as, bs, r1, r2, n1, n2⟩ := RpD.readsNA I kvs xs hn hr
      refine ⟨_, Reads.dict (kvs := kvs) (as := as) (bs := bs) e1 e2.1 e3 ?_ ?_, ?_⟩
      · rw [e5, List.map_map]; exact r1
      · rw [e5, List.map_map]; exact r2
      · intro z
        simp only [List.cons_append, List.mem_cons, List.mem_append] at z
        rcases z with z | z | z
        · rw [← z] at sy
          exact absurd sy (by decide)
        · exact n1 z
        · exact n2 z
theorem RpD.readsNA (I : Inv X pins σ H s) : ∀ (kvs : List (PyData × PyData)) (xs : List (NestedKey × Addr × Value)), noLk kvs = true → RpD H xs kvs → ∃ as bs, ReadsAll s.heap (xs.map fun x => Value.ref x.2.1) (kvs.map (·.1)) as ∧ ReadsAll s.heap (xs.map fun x => x.2.2) (kvs.map (·.2)) bs ∧ sysModules ∉ as ∧ sysModules ∉ bs
  | [], _, _, h => by
    cases h
    exact ⟨_, _, ReadsAll.nil, ReadsAll.nil, by simp, by simp⟩
  | (dk, dv) :: kvs, _, hn, h => by
    unfold noLk at hn
    simp only [Bool.and_eq_true] at hn
    cases h with
    | cons h1 h2 h3 h4 h5 =>
      obtain ⟨as, q1, m1⟩ := Rp.readsN I dk _ _ hn.1.1 h2 rfl
      obtain ⟨bs, q2, m2⟩ := Rp.readsN I dv _ _ hn.1.2 h4 h3
      obtain ⟨as', bs', q3, q4, m3, m4⟩ := RpD.readsNA I kvs _ hn.2 h5
      exact ⟨_, _, ReadsAll.cons q1 q3, ReadsAll.cons q2 q4, by simp [m1, m3], by simp [m2, m4]⟩
theorem Rp.readsNA (I : Inv X pins σ H s) : ∀ (ds : List PyData) (vs : List V) (us : List Value), noLs ds = true → RpA H vs ds → Vals vs us → ∃ as, ReadsAll s.heap us ds as ∧ sysModules ∉ as
  | [], _, _, _, h, r => by
    cases h
    cases r
    exact ⟨_, ReadsAll.nil, by simp⟩
  | d :: ds, _, _, hn, h, r => by
    unfold noLs at hn
    rw [Bool.and_eq_true] at hn
    cases h with
    | cons h1 h2 =>
      cases r with
      | cons r1 r2 =>
        obtain ⟨as, q1, m1⟩ := Rp.readsN I d _ _ hn.1 h1 r1
        obtain ⟨bs, q2, m2⟩ := Rp.readsNA I ds _ _ hn.2 h2 r2
        exact ⟨_, ReadsAll.cons q1 q2, by simp [m1, m2]⟩
end
end
/-- what repr can write here -/
structure ReprOk (d : PyData) : Prop where
  sh : d.showable = true
  len : d.shown.length ≤ sizeLine
  dep : d.depth ≤ 8
  mix : noL d = true ∨ d.hasDict = false
section
variable {X : Cx} {C : Cfg} {e : Expr} {t : TD}
theorem reads_ok {pins : List (Addr × Obj)} {σ : L2.St} {H : Hp} {s : Shared} (I : Inv X pins σ H s) {d : PyData} {v : V} {u : Value} (ok : ReprOk d) (h : Rp H v d) (r : RelV v u) : ∃ as, Reads s.heap u d as ∧ (d.hasDict = true → sysModules ∉ as) := by
  rcases ok.mix with m | m
  · obtain ⟨as, q, n⟩ := Rp.readsN I d v u m h r
    exact ⟨as, q, fun _ => n⟩
  · obtain ⟨as, q⟩ := Rp.reads I d v u h r
    exact ⟨as, q, PyData.noDict_hsm m⟩
theorem cr_repr (hg : X.A.guards = some []) (hu : X.A.units + 64 < cLine) : CallR X (.builtin "repr") (fun vs H Q => ∃ (O : List Addr) (v : V) (d : PyData), vs = [v] ∧ Rp (hd H O) v d ∧ ReprOk d ∧ Q (.str d.shown) H) := by
  intro pins s σ H vs us Q I rv w
  obtain ⟨O, v, d, rfl, rp0, ok, q⟩ := w
  obtain ⟨u, rfl, ru⟩ := vals1 rv
  have rp := rp0.up (hd_same H O)
  have big : ∀ (a : Addr), u = .ref a → wpAny (model X.prog X.w) X.A (call (.builtin "repr") [u]) (EP X pins σ Q) X.xe s := fun a e => by
    obtain ⟨as, r, hs⟩ := reads_ok I ok rp ru
    subst e
    have dp := ok.dep
    exact repr_of_reads' (h₀ := s.heap) r ok.sh hs hg (by omega) (fun _ _ e => e) (fun h' u tk kk => ⟨.str d.shown, H, I.kept kk, ⟨_, rfl⟩, q⟩) ok.len
  cases d with
  | none =>
    cases rp
    cases ru
    exact PySem.P.repr_of_none ⟨.str _, H, I.tok _, ⟨_, rfl⟩, q⟩
  | bool b =>
    cases rp
    cases ru
    exact PySem.P.repr_of_bool ⟨.str _, H, I.tok _, ⟨_, rfl⟩, q⟩
  | int i =>
    cases rp
    obtain ⟨t, rfl⟩ := ru
    exact PySem.P.repr_of_int (of_decide_eq_true ok.sh) ⟨.str _, H, I.tok _, ⟨_, rfl⟩, q⟩
  | str x =>
    cases rp
    obtain ⟨t, rfl⟩ := ru
    exact PySem.P.repr_of_str ⟨.str _, H, I.tok _, ⟨_, rfl⟩, q⟩ ok.len
  | list ds =>
    obtain ⟨a, xs, rfl, _⟩ := rp_lst rp
    exact big a ru
  | tuple ds =>
    obtain ⟨a, xs, rfl, _⟩ := rp_tup rp
    exact big a ru
  | dict kvs =>
    obtain ⟨a, rfl⟩ : ∃ a, v = .ref a := by cases rp <;> exact ⟨_, rfl⟩
    exact big a ru
def dRepr (t : TD) : TD := fun r Q => t r fun x => ReprOk x ∧ Q (.str x.shown)
theorem pd_repr {p pos : Pos} (hg : X.A.guards = some []) (hu : X.A.units + 64 < cLine) (hgl : Gl X "repr") (hm : X.mg "repr" = none) (he : PD X C e t) (st : starEach [e] X.env = (false, eval e X.env) :: starEach [] X.env) : PD X C (.Call (.Name "repr" p) [e] [] pos) (dRepr t) :=
  PE_imp (pe_callB (cr_repr hg hu) hgl hm (by decide +kernel) (pa_cons he pa_nil st) (by decide) (by decide) st rfl) fun σ H Q ⟨r, Q', R, q, k⟩ =>
    ⟨r, _, R, q, fun v H1 x g rp qx => ⟨C.O ++ oA r, v, x, rfl, rp, qx.1, k _ H1 _ g (.str _) qx.2⟩⟩
end
end DP

end
section
set_option Elab.async false
set_option linter.all false
set_option maxRecDepth 100000
set_option autoImplicit false
set_option maxHeartbeats 4000000
namespace DP
open PySem PySem.Spec PyProof.Rows L2
/-! ### a dict of numbers that the module's head has written -/
def ents : List (Int × Int) → List DictEntry → Bool
  | [], [] => true
  | (k, v) :: r, ⟨h, .int i _, .int j _⟩ :: es => (decide (h = hashInt k) && decide (i = k)) && (decide (j = v) && ents r es)
  | _, _ => false
def cdB (kvs : List (Int × Int)) (o : Obj) : Bool := match o with
  | ⟨c, d, .dict es _, sl⟩ => (c == .type "dict" && (match d with | none => true | some _ => false)) && (sl.isEmpty && ents kvs es.toList)
  | _ => false
def getC (kvs : List (Int × Int)) (k : Int) : Option Int := (kvs.find? fun p => decide (p.1 = k)).map (·.2)
theorem ents_ok {P : Program} {w : World} : ∀ {kvs : List (Int × Int)} {es : List DictEntry}, ents kvs es = true → (∀ e ∈ es, ∃ k, (intKind P w).is k e.key = true ∧ e.hash = (intKind P w).hash k) ∧ ∀ k, match getC kvs k with
    | some v => ∃ t, (es.find? fun e => (intKind P w).is k e.key).map (·.val) = some (.int v t)
    | none => (es.find? fun e => (intKind P w).is k e.key).map (·.val) = none
  | [], [], _ => ⟨(fun e he => by cases he), fun k => rfl⟩
  | [], _ :: _, h => by simp [ents] at h
  | _ :: _, [], h => by simp [ents] at h
  | (k, v) :: r, ⟨h, key, val⟩ :: es, he => by
    cases key with
    | int i ti =>
      cases val with
      | int j tj =>
        simp only [ents, Bool.and_eq_true, decide_eq_true_eq] at he
        obtain ⟨⟨rfl, rfl⟩, rfl, he⟩ := he
        obtain ⟨h1, h2⟩ := ents_ok (P := P) (w := w) he
        refine ⟨fun e hm => ?_, fun k' => ?_⟩
        · rcases List.mem_cons.mp hm with rfl | hm
          · exact ⟨i, intKind_is P w i ti, rfl⟩
          · exact h1 e hm
        · by_cases c : i = k'
          · subst c
            have e1 : getC ((i, j) :: r) i = some j := by unfold getC; rw [List.find?_cons_of_pos (by simp)]; rfl
            rw [e1]
            exact ⟨tj, by rw [List.find?_cons_of_pos (by exact intKind_is P w i ti)]; rfl⟩
          · have e1 : getC ((i, j) :: r) k' = getC r k' := by unfold getC; rw [List.find?_cons_of_neg (by simpa using c)]
            have e2 : (intKind P w).is k' (.int i ti) = false := by
              show Value.isInt k' (.int i ti) = false
              simp [Value.isInt]
              exact fun z => c (by first | exact z.symm | exact z)
            rw [e1, List.find?_cons_of_neg (by rw [e2]; decide)]
            exact h2 k'
      | _ => simp [ents] at he
    | _ => simp [ents] at he
structure CDict (K : PySem.W.Frag) (a : Addr) (kvs : List (Int × Int)) : Prop where
  sys : (a == sysModules) = false
  ob : ∃ o, K.lookup a = some o ∧ cdB kvs o = true
section
variable {X : Cx} {a : Addr} {kvs : List (Int × Int)} {pins : List (Addr × Obj)} {σ : L2.St} {H : Hp} {s : Shared}
theorem CDict.map (c : CDict X.K a kvs) (I : Inv X pins σ H s) : ∃ f, s.heap.MapOf (intKind X.prog X.w) a f ∧ ∀ k, match getC kvs k with
    | some v => ∃ t, f k = some (.int v t)
    | none => f k = none := by
  obtain ⟨o, lk, hb⟩ := c.ob
  have ho := I.kIn a o lk
  obtain ⟨oc, od, dt, sl⟩ := o
  cases dt with
  | dict es ep =>
    simp only [cdB, Bool.and_eq_true, beq_iff_eq] at hb
    obtain ⟨⟨rfl, h2⟩, h3, h4⟩ := hb
    have e2 : od = none := by cases od with
      | none => rfl
      | some _ => cases h2
    subst e2
    obtain ⟨g1, g2⟩ := ents_ok (P := X.prog) (w := X.w) h4
    refine ⟨fun k => findBy (intKind X.prog X.w).is es k, ⟨_, es, ep, ho, ⟨rfl, rfl, by simpa using h3⟩, rfl, fun e he => g1 e (by simpa using he), fun k => rfl⟩, fun k => ?_⟩
    have z := g2 k
    have e : findBy (intKind X.prog X.w).is es k = (es.toList.find? fun e => (intKind X.prog X.w).is k e.key).map (·.val) := by unfold findBy; rw [Array.find?_toList]
    dsimp only
    rw [e]
    exact z
  | _ => simp [cdB] at hb
def rCin (kvs : List (Int × Int)) (a : Addr) : R2 := fun x y H Q => y = .ref a ∧ ∃ i, x = .int i ∧ Q (.bl (!(getC kvs i).isSome)) H
theorem op_cin (c : CDict X.K a kvs) : OpR X (compareOp .NotIn) (rCin kvs a) := by
  intro pins s σ H x y v u Q I rx ry w
  obtain ⟨rfl, i, rfl, q⟩ := w
  cases ry
  obtain ⟨t, rfl⟩ := rx
  obtain ⟨f, hm, hf⟩ := c.map I
  have e : (f i).isSome = (getC kvs i).isSome := by
    have z := hf i
    cases g : getC kvs i with
    | some v =>
      rw [g] at z
      obtain ⟨t, z⟩ := z
      rw [z]
      rfl
    | none =>
      rw [g] at z
      have z : f i = none := z
      rw [z]
      rfl
  refine wpAny_notIn_of (knd := intKind X.prog X.w) (intKind_is _ _ i t) c.sys hm ⟨.bl _, H, I.tok _, rfl, ?_⟩
  rw [e]
  exact q
def rCix (kvs : List (Int × Int)) (a : Addr) : R2 := fun x y H Q => x = .ref a ∧ ∃ i v, y = .int i ∧ getC kvs i = some v ∧ Q (.int v) H
theorem ix_cix (c : CDict X.K a kvs) : IxR X (rCix kvs a) := by
  intro value slice pins s σ H x y v u Q I rx ry w hs
  obtain ⟨rfl, i, n, rfl, hg, q⟩ := w
  cases rx
  obtain ⟨t, rfl⟩ := ry
  obtain ⟨f, hm, hf⟩ := c.map I
  have z := hf i
  rw [hg] at z
  obtain ⟨t2, z⟩ := z
  obtain ⟨o, es, ep, ho, hx, _⟩ := id hm
  exact tail_any ⟨o, ho, hx.1⟩ PySem.F.slot_dict_getitem.lookup (wpAny_getItem_of (knd := intKind X.prog X.w) (intKind_is _ _ i t) hm z ⟨.int n, H, I.tok _, ⟨t2, rfl⟩, q⟩) hs
variable {C : Cfg} {e : Expr} {x : Str} {p pos : Pos} {t : TD}
def dCin (kvs : List (Int × Int)) (t : TD) : TD := fun r Q => t r fun d => ∃ i, d = .int i ∧ Q (.bool (!(getC kvs i).isSome))
def dCix (kvs : List (Int × Int)) (t : TD) : TD := fun r Q => t r fun d => ∃ i v, d = .int i ∧ getC kvs i = some v ∧ Q (.int v)
theorem cin_go {Q : VK} (h : up C (dCin kvs t) σ H Q) : tOp (rCin kvs a) (up C t) (tC (.ref a)) σ H Q := by
  obtain ⟨r, Q', R, q, k⟩ := h
  refine ⟨r, _, R, q, fun v H1 d g rp w => ?_⟩
  obtain ⟨i, ed, qi⟩ := w
  subst ed
  cases rp
  exact ⟨rfl, i, rfl, k _ H1 _ g (.bl _) qi⟩
theorem pd_cin (c : CDict X.K a kvs) (hg : Gl X x) (hm : X.mg x = some (.ref a)) (hd : (x == ("__debug__" : Str)) = false) (hn : behindInMarks .NotIn (.Name x p) = false) (ha : PD X C e t) : PD X C (.Compare e [.NotIn] [.Name x p] pos) (dCin kvs t) :=
  PE_imp (pe_cmpR (op_cin c) ha (pe_glob (v := .ref a) hg hm rfl hd) hn) fun _ _ _ => cin_go
theorem pd_cix (c : CDict X.K a kvs) (hg : Gl X x) (hm : X.mg x = some (.ref a)) (hd : (x == ("__debug__" : Str)) = false) (ha : PD X C e t) (hs : PlainIx e) : PD X C (.Subscript (.Name x p) e pos) (dCix kvs t) :=
  PE_imp (pe_ix (ix_cix c) (pe_glob (v := .ref a) hg hm rfl hd) ha hs) fun σ H Q ⟨r, Q', R, q, k⟩ => ⟨r, _, R, q, fun v H1 d g rp ⟨i, n, ed, hgt, qi⟩ => by
    subst ed
    cases rp
    exact ⟨rfl, i, n, rfl, hgt, k _ H1 _ g (.int _) qi⟩⟩
end
end DP

end
section
set_option Elab.async false
set_option linter.all false
set_option maxRecDepth 100000
set_option autoImplicit false
set_option maxHeartbeats 4000000
namespace DP
open PySem PySem.Spec PyProof.Rows L2
/-! ### truths -/
def boolD (Q : Bool → Prop) : PyData → Prop
  | .bool k => Q k
  | _ => False
theorem boolD_get {Q : Bool → Prop} {x : PyData} (h : boolD Q x) : ∃ k, x = .bool k ∧ Q k := by
  cases x with
  | bool k => exact ⟨k, rfl, h⟩
  | _ => exact h.elim
def eB (t : TD) : TTD := fun r Q => t r (boolD Q)
section
variable {X : Cx} {C : Cfg} {e a b c : Expr} {es rest : List Expr} {pos : Pos} {ta tb tc : TD} {r r' : R2D} {tA tB' : TTD}
theorem test_goB {t : TD} {u : TE} (h : ∀ σ H Q, up C t σ H Q → u σ H Q) {σ : L2.St} {H : Hp} {Q : Bool → Hp → Prop} (w : upT C (eB t) σ H Q) : tTest u σ H Q := by
  obtain ⟨ρ, Q', R, q, k⟩ := w
  refine h _ _ _ ⟨ρ, _, R, q, fun v H' x g rp qx => ?_⟩
  obtain ⟨b, rfl, qb⟩ := boolD_get qx
  exact ⟨b, rp_bl rp, k b H' g qb⟩
theorem ptB_of {t : TD} (h : PD X C e t) (he : ∀ whole, isTrue e X.env whole = (do let v ← whole; standAt e.pos; holding [v] (truthy v))) : PDT X C e (eB t) :=
  PT_imp (pt_val h he) fun _ _ _ w => test_goB (fun _ _ _ z => z) w
theorem ptB_cmp {op : CmpOp} (ho : OpD X (compareOp op) r) (ha : PD X C a ta) (hb : PD X C b tb) (hm : behindInMarks op b = false) : PDT X C (.Compare a [op] [b] pos) (eB (dOp r ta tb)) :=
  PT_imp (pt_cmpR ho ha hb hm) fun _ _ _ w => test_goB (fun _ _ _ => op_go) w
theorem ptB_cin {a : Addr} {kvs : List (Int × Int)} {x : Str} {p : Pos} {t : TD} (c : CDict X.K a kvs) (hg : Gl X x) (hm : X.mg x = some (.ref a)) (hd : (x == ("__debug__" : Str)) = false) (hn : behindInMarks .NotIn (.Name x p) = false) (ha : PD X C e t) : PDT X C (.Compare e [.NotIn] [.Name x p] pos) (eB (dCin kvs t)) :=
  PT_imp (pt_cmpR (op_cin c) ha (pe_glob (v := .ref a) hg hm rfl hd) hn) fun _ _ _ w => test_goB (fun _ _ _ => cin_go) w
def eChain (r r' : R2D) (ta tb tc : TD) : TD := fun e Q => ta e fun x => tb e fun y => r x y fun z => boolD (fun k => if k = true then tc e fun w => r' y w Q else Q (.bool false)) z
theorem chain_goB {σ : L2.St} {H : Hp} {Q : VK} (h : up C (eChain r r' ta tb tc) σ H Q) : tChain (upR r) (upR r') (up C ta) (up C tb) (up C tc) σ H Q := by
  obtain ⟨ρ, Q', R, q, k⟩ := h
  refine ⟨ρ, _, R, q, fun v H1 x g1 rp1 q1 => ⟨ρ, _, R.grow g1, q1, fun w H2 y g2 rp2 q2 => ?_⟩⟩
  have R2 := (R.grow g1).grow g2
  refine ⟨C.O ++ oA ρ, x, y, _, R2.domA, rp1.up (g2.hd (R.grow g1)), rp2, q2, fun z H3 dz sm rpz qz => ?_⟩
  obtain ⟨b, rfl, qb⟩ := boolD_get qz
  refine ⟨b, rp_bl rpz, ?_⟩
  have g3 : Gr C ρ H2 H3 := Gr.of_same R2 sm
  have R3 := R2.grow g3
  cases b with
  | false =>
    rw [if_neg Bool.false_ne_true] at qb ⊢
    exact k _ H3 _ ((g1.trans g2).trans g3) (.bl false) qb
  | true =>
    rw [if_pos rfl] at qb ⊢
    refine ⟨ρ, _, R3, qb, fun w' H4 y' g4 rp4 q4 => ⟨C.O ++ oA ρ, y, y', Q', (R3.grow g4).domA, (rp2.up (g3.hd R2)).up (g4.hd R3), rp4, q4, fun z' H5 dz' sm5 rp5 q5 => k z' H5 dz' ((((g1.trans g2).trans g3).trans g4).then_same sm5) rp5 q5⟩⟩
theorem pdB_chain {op op' : CmpOp} (ho : OpD X (compareOp op) r) (ho' : OpD X (compareOp op') r') (ha : PD X C a ta) (hb : PD X C b tb) (hc : PD X C c tc) (hm : lastMarks [op, op'] [b, c] = false) : PD X C (.Compare a [op, op'] [b, c] pos) (eChain r r' ta tb tc) :=
  PE_imp (pe_chain ho ho' ha hb hc (hm := hm)) fun _ _ _ => chain_goB
theorem ptB_chain {op op' : CmpOp} (ho : OpD X (compareOp op) r) (ho' : OpD X (compareOp op') r') (ha : PD X C a ta) (hb : PD X C b tb) (hc : PD X C c tc) (hm : lastMarks [op, op'] [b, c] = false) : PDT X C (.Compare a [op, op'] [b, c] pos) (eB (eChain r r' ta tb tc)) :=
  PT_imp (pt_chain ho ho' ha hb hc (hm := hm)) fun _ _ _ w => test_goB (fun _ _ _ => chain_goB) w
def eAnd (ta tb : TD) : TD := fun r Q => ta r (boolD fun k => if k = true then tb r Q else Q (.bool false))
def eOr (ta tb : TD) : TD := fun r Q => ta r (boolD fun k => if k = true then Q (.bool true) else tb r Q)
def eNot (ta : TD) : TD := fun r Q => ta r (boolD fun k => Q (.bool (!k)))
theorem pdB_and (ha : PD X C a ta) (hb : PD X C (.BoolOp .And (b :: rest) pos) tb) : PD X C (.BoolOp .And (a :: b :: rest) pos) (eAnd ta tb) :=
  PE_imp (pe_and ha hb) fun σ H Q ⟨ρ, Q', R, q, k⟩ => ⟨ρ, _, R, q, fun v H1 x g1 rp q1 => by
    obtain ⟨c, rfl, qc⟩ := boolD_get q1
    refine ⟨c, rp_bl rp, ?_⟩
    cases c with
    | true => rw [if_pos rfl] at qc ⊢; exact ⟨ρ, Q', R.grow g1, qc, fun w H2 y g2 rp2 q2 => k w H2 y (g1.trans g2) rp2 q2⟩
    | false => rw [if_neg Bool.false_ne_true] at qc ⊢; exact k _ H1 _ g1 (.bl false) qc⟩
theorem pdB_or (ha : PD X C a ta) (hb : PD X C (.BoolOp .Or (b :: rest) pos) tb) : PD X C (.BoolOp .Or (a :: b :: rest) pos) (eOr ta tb) :=
  PE_imp (pe_or ha hb) fun σ H Q ⟨ρ, Q', R, q, k⟩ => ⟨ρ, _, R, q, fun v H1 x g1 rp q1 => by
    obtain ⟨c, rfl, qc⟩ := boolD_get q1
    refine ⟨c, rp_bl rp, ?_⟩
    cases c with
    | true => rw [if_pos rfl] at qc ⊢; exact k _ H1 _ g1 (.bl true) qc
    | false => rw [if_neg Bool.false_ne_true] at qc ⊢; exact ⟨ρ, Q', R.grow g1, qc, fun w H2 y g2 rp2 q2 => k w H2 y (g1.trans g2) rp2 q2⟩⟩
theorem pdB_not (ha : PD X C a ta) : PD X C (.UnaryOp .Not a pos) (eNot ta) :=
  PE_imp (pe_not ha) fun σ H Q ⟨ρ, Q', R, q, k⟩ => ⟨ρ, _, R, q, fun v H1 x g1 rp q1 => by
    obtain ⟨c, rfl, q1⟩ := boolD_get q1
    exact ⟨c, rp_bl rp, k _ H1 _ g1 (.bl _) q1⟩⟩
/-- -x -/
def intD (Q : Int → Prop) : PyData → Prop
  | .int i => Q i
  | _ => False
def eNeg (t : TD) : TD := fun r Q => t r (intD fun i => Q (.int (-i)))
theorem pdB_neg (ha : PD X C a ta) : PD X C (.UnaryOp .USub a pos) (eNeg ta) :=
  PE_imp (pe_un un_neg ha) fun σ H Q ⟨ρ, Q', R, q, k⟩ => ⟨ρ, _, R, q, fun v H1 x g1 rp q1 => by
    cases x with
    | int i => exact ⟨i, rp_int rp, k _ H1 _ g1 (.int _) q1⟩
    | _ => exact (show False from q1).elim⟩
/-- x[i] -/
def ixW : R2D
  | .list xs, .int i, Q => (match atD xs i with
    | some d => Q d
    | none => False)
  | .tuple xs, .int i, Q => (match atD xs i with
    | some d => Q d
    | none => False)
  | .dict kvs, k, Q => (kvs.all fun p => keyB p.1) = true ∧ keyB k = true ∧ (match getD kvs k with
    | some d => Q d
    | none => False)
  | _, _, _ => False
theorem ixdW (hu : X.A.units + 64 < cLine) : IxR X (upR ixW) := by
  intro value slice pins s σ H x y v u Q I rx ry w hs
  obtain ⟨O, dx, dy, Q', dm, hx, hy, q, k⟩ := w
  unfold ixW at q
  split at q
  · split at q
    · exact ixd value slice pins s σ H x y v u Q I rx ry ⟨O, _, _, Q', dm, hx, hy, ⟨_, _, _, rfl, .inl rfl, by assumption, q⟩, k⟩ hs
    · exact q.elim
  · split at q
    · exact ixd value slice pins s σ H x y v u Q I rx ry ⟨O, _, _, Q', dm, hx, hy, ⟨_, _, _, rfl, .inr rfl, by assumption, q⟩, k⟩ hs
    · exact q.elim
  · obtain ⟨hk, hky, q⟩ := q
    split at q
    · exact ixdct hu value slice pins s σ H x y v u Q I rx ry ⟨O, _, _, Q', dm, hx, hy, ⟨_, _, rfl, hk, hky, by assumption, q⟩, k⟩ hs
    · exact q.elim
  · exact q.elim
theorem pdB_ix (hu : X.A.units + 64 < cLine) (ha : PD X C a ta) (hb : PD X C b tb) (hs : PlainIx b) : PD X C (.Subscript a b pos) (dOp ixW ta tb) := PE_imp (pe_ix (ixdW hu) ha hb hs) fun _ _ _ => op_go
/-- parts of slices -/
def oInt (t : TD) : TOD := fun r Q => t r (intD fun i => Q (some i))
theorem pdoB_some (h : PD X C e ta) : PDO X C (some e) (oInt ta) := PO_imp (po_some h) fun σ H Q ⟨r, Q', R, q, k⟩ => ⟨r, _, R, q, fun v H1 x g rp qx => by
  cases x with
  | int i => exact ⟨i, rp_int rp, k _ H1 g qx⟩
  | _ => exact (show False from qx).elim⟩
end
/-! ### the script -/
def atZ (ns : List Int) (i : Int) : Option Int := (ixN ns.length i).bind fun j => ns[j]?
def sLen (i : Nat) : TD := fun r Q => match r[i]? with
  | some (some (.scr ns)) => Q (.int ns.length)
  | _ => False
def sIx (i : Nat) (t : TD) : TD := fun r Q => match r[i]? with
  | some (some (.scr ns)) => t r (intD fun k => match atZ ns k with
    | some x => Q (.int x)
    | none => False)
  | _ => False
section
variable {X : Cx} {C : Cfg} {b : Expr} {es : List Expr} {pos p : Pos} {tb : TD}
theorem pd_slen (i : Nat) {x : Str} {p2 : Pos} (hK : C.K = X.K) (hm : X.mg "len" = none) (hg : Gl X "len") (hN : X.N[i]? = some x) (hv : Vis X.env.scope x) (hd' : (x == ("__debug__" : Str)) = false) (hcd : (x == ("__classdict__" : Str)) = false) : PD X C (.Call (.Name "len" p) [.Name x p2] [] pos) (sLen i) :=
  PE_imp (pe_callB call_len_seq hg hm (by decide +kernel) (pa_cons (pe_var hN hv hd' hcd) pa_nil rfl) (by decide) (by decide) rfl rfl) fun σ H Q ⟨r, Q', R, w, k⟩ => by
    unfold sLen at w
    split at w
    · rename_i ns e
      obtain ⟨a, q⟩ := er_scr e
      obtain ⟨v, e2, rfl, h⟩ := R.slot i _ q
      refine ⟨_, e2, a, _, rfl, .inl (by rw [← hK]; exact h.sq), ?_⟩
      rw [List.length_map]
      exact k _ H _ (Gr.refl R) (.int _) w
    · exact w.elim
theorem pd_six (i : Nat) {x : Str} {p2 : Pos} (hK : C.K = X.K) (hN : X.N[i]? = some x) (hv : Vis X.env.scope x) (hd' : (x == ("__debug__" : Str)) = false) (hcd : (x == ("__classdict__" : Str)) = false) (hb : PD X C b tb) (hs : PlainIx b) : PD X C (.Subscript (.Name x p2) b pos) (sIx i tb) :=
  PE_imp (pe_ix ix_list (pe_var hN hv hd' hcd) hb hs) fun σ H Q ⟨r, Q', R, w, k⟩ => by
    unfold sIx at w
    split at w
    · rename_i ns e
      obtain ⟨a, q⟩ := er_scr e
      obtain ⟨v, e2, rfl, h⟩ := R.slot i _ q
      refine ⟨_, e2, r, _, R, w, fun u H1 y g1 rp q1 => ?_⟩
      cases y with
      | int j =>
        have q1 : (match atZ ns j with
          | some x => Q' (.int x)
          | none => False) := q1
        cases e3 : atZ ns j with
        | none => rw [e3] at q1; exact q1.elim
        | some z =>
          rw [e3] at q1
          have h1 : ScrOk C.K H1 a ns := ((R.grow g1).slot i _ q).elim fun v' hv' => hv'.2.2
          refine ⟨a, ns.map V.int, j, .int z, rfl, rp_int rp, by rw [← hK]; exact h1.sq, ?_, k _ H1 _ g1 (.int _) q1⟩
          unfold atZ at e3
          unfold atI
          rw [List.length_map]
          cases e4 : ixN ns.length j with
          | none => rw [e4] at e3; cases e3
          | some m =>
            rw [e4] at e3
            have e3 : ns[m]? = some z := e3
            show (ns.map V.int)[m]? = _
            rw [List.getElem?_map, e3]
            rfl
      | _ => exact (show False from q1).elim
    · exact w.elim
end
/-! ### the syntax -/
mutual
inductive DE where
  | var (i : Nat)
  | cdin (kvs : List (Int × Int)) (a : DE)
  | cdix (kvs : List (Int × Int)) (a : DE)
  | c (x : PyData)
  | tup (a : DA)
  | lst (a : DA)
  | dict0
  | bin (o : Operator) (a b : DE)
  | neg (a : DE)
  | cmp (o : CmpOp) (a b : DE)
  | chain (o o' : CmpOp) (a b c : DE)
  | and (a b : DE)
  | or (a b : DE)
  | not (a : DE)
  | ite (c : DT) (a b : DE)
  | bi (f : BI) (a : DA)
  | list (a : DA)
  | sorted (a : DA)
  | isi (T : String) (a : DE)
  | ix (a b : DE)
  | sl (a : DE) (lo hi : DO)
  | rev (a : DE)
  | call (f : Nat) (n : Nat) (a : DX)
  | lc (elt : DE) (tg : Tg) (it : DI) (cd : DT) (ws : List Nat)
  | slen (i : Nat)
  | six (i : Nat) (b : DE)
  | lrg1 (a : DE)
  | lrg2 (a b : DE)
  | trg1 (a : DE)
  | trg2 (a b : DE)
  | idx (a b : DE)
  | refu (k : Nat) (b : DE)
  | isi2 (a : DE)
  | dict1 (i j : Int)
  | dct1 (k v : DE)
  | dictP (a : DA)
  | listN (i : Nat)
  | sortN (i : Nat)
  | sset (a : DE)
  | slN (i : Nat) (lo hi : DO)
  | sumV (e : DE)
  | repr (e : DE)
inductive DA where
  | nil
  | cons (e : DE) (r : DA)
inductive DX where
  | nil
  | e (e : DE) (r : DX)
  | s (i : Nat) (r : DX)
inductive DO where
  | none
  | some (e : DE)
inductive DT where
  | tt
  | e (e : DE)
  | and (a b : DT)
  | or (a b : DT)
  | not (a : DT)
inductive DI where
  | seq (e : DE)
  | rng1 (a : DE)
  | rng2 (a b : DE)
  | enum (a : DE)
  | items (a : DE)
  | zip (a b : DE)
end
def tTT : TTD := fun _ Q => Q true
section
variable (F : Nat → FW)
mutual
def wpE : DE → (Str → Prop) → TD
  | .var i, _ => dVar i
  | .c x, _ => dC x
  | .tup a, E => dTup (wpA a E)
  | .lst a, E => dLst (fLst (wpA a E))
  | .dict0, _ => dC (.dict [])
  | .bin o a b, E => dOp (binW o) (wpE a E) (wpE b E)
  | .neg a, E => eNeg (wpE a E)
  | .cmp o a b, E => dOp (cmpW o) (wpE a E) (wpE b E)
  | .chain o o' a b c, E => eChain (cmpW o) (cmpW o') (wpE a E) (wpE b E) (wpE c E)
  | .and a b, E => eAnd (wpE a E) (wpE b E)
  | .or a b, E => eOr (wpE a E) (wpE b E)
  | .not a, E => eNot (wpE a E)
  | .ite c a b, E => dIf (wpT c E) (wpE a E) (wpE b E)
  | .bi f a, E => dCall (biW f) (wpA a E)
  | .list a, E => dLst (fCall lstW (wpA a E))
  | .sorted a, E => dLst (fCall srtW (wpA a E))
  | .isi T a, E => dIsi T (wpE a E)
  | .ix a b, E => dOp ixW (wpE a E) (wpE b E)
  | .sl a lo hi, E => dSl (wpE a E) (wpO lo E) (wpO hi E)
  | .rev a, E => dRev (wpE a E)
  | .call f n a, E => dCallF n (F f) E (wpX a E)
  | .lc elt tg it cd ws, E => dLst (fLc tg (wpI it E) (wpT cd fun _ => False) (wpE elt fun _ => False) ws)
  | .slen i, _ => sLen i
  | .six i b, E => sIx i (wpE b E)
  | .lrg1 a, E => dLst (fRg1 (wpE a E))
  | .lrg2 a b, E => dLst (fRg2 (wpE a E) (wpE b E))
  | .trg1 a, E => dTupL (fRg1 (wpE a E))
  | .trg2 a b, E => dTupL (fRg2 (wpE a E) (wpE b E))
  | .idx a b, E => eIdx (wpE a E) (wpE b E)
  | .refu k b, _ => eRef k fun E => wpE b E
  | .isi2 a, E => dIsi2 (wpE a E)
  | .dict1 i j, _ => dC (.dict [(.int i, .int j)])
  | .dct1 k v, E => dDct (fD1 (wpE k E) (wpE v E))
  | .dictP a, E => dDct (fCallD dpW (wpA a E))
  | .listN i, _ => dLst (fListN i)
  | .sortN i, _ => dLst (fSortN i)
  | .sset a, E => dLst (fSset (wpE a E))
  | .slN i lo hi, E => dSlN i (wpO lo E) (wpO hi E)
  | .sumV a, E => dSumV (wpE a E)
  | .repr a, E => dRepr (wpE a E)
  | .cdin kvs a, E => dCin kvs (wpE a E)
  | .cdix kvs a, E => dCix kvs (wpE a E)
def wpA : DA → (Str → Prop) → TAD
  | .nil, _ => dNil
  | .cons e r, E => dCons (wpE e E) (wpA r E)
def wpX : DX → (Str → Prop) → TXD
  | .nil, _ => xNil
  | .e e r, E => xE (wpE e E) (wpX r E)
  | .s i r, E => xS i (wpX r E)
def wpO : DO → (Str → Prop) → TOD
  | .none, _ => oNone
  | .some e, E => oInt (wpE e E)
def wpT : DT → (Str → Prop) → TTD
  | .tt, _ => tTT
  | .e e, E => eB (wpE e E)
  | .and a b, E => dAnd (wpT a E) (wpT b E)
  | .or a b, E => dOr (wpT a E) (wpT b E)
  | .not a, E => dNot (wpT a E)
def wpI : DI → (Str → Prop) → TID
  | .seq e, E => iSeq (wpE e E)
  | .rng1 a, E => iRange1 (dCons (wpE a E) dNil)
  | .rng2 a b, E => iRange2 (dCons (wpE a E) (dCons (wpE b E) dNil))
  | .enum a, E => iEnu (dCons (wpE a E) dNil)
  | .items a, E => iItm (wpE a E)
  | .zip a b, E => iZip2 (dCons (wpE a E) (dCons (wpE b E) dNil))
end
/-- a new list that is to be changed -/
def wpF : DE → (Str → Prop) → TAD
  | .lst a, E => fLst (wpA F a E)
  | .list a, E => fCall lstW (wpA F a E)
  | .sorted a, E => fCall srtW (wpA F a E)
  | .listN i, _ => fListN i
  | .sortN i, _ => fSortN i
  | .sset a, E => fSset (wpE F a E)
  | .lrg1 a, E => fRg1 (wpE F a E)
  | .lrg2 a b, E => fRg2 (wpE F a E) (wpE F b E)
  | .bin .Add a b, E => fAdd (wpE F a E) (wpE F b E)
  | .bin .Mult (.lst a) b, E => fMul (fLst (wpA F a E)) (wpE F b E)
  | .call f n a, E => fCallF n (F f) E (wpX F a E)
  | .lc elt tg it cd ws, E => fLc tg (wpI F it E) (wpT F cd fun _ => False) (wpE F elt fun _ => False) ws
  | _, _ => fun _ _ => False
/-- a new dict that is to be changed -/
def wpFd : DE → (Str → Prop) → TDD
  | .dict0, _ => fD0
  | .dct1 k v, E => fD1 (wpE F k E) (wpE F v E)
  | .dictP a, E => fCallD dpW (wpA F a E)
  | _, _ => fun _ _ => False
end
end DP

end
section
set_option Elab.async false
set_option linter.all false
set_option maxRecDepth 100000
set_option autoImplicit false
set_option maxHeartbeats 4000000
namespace DP
open PySem PySem.Spec PyProof.Rows L2
/-! ### from the model's syntax -/
structure Sig where
  bis : List Str
  consts : List (Str × PyData)
  funs : List (Str × (Nat × Nat))
  excs : List Str
  scr : List Str
  lam : Bool := false
  ref : Option (Str × Nat) := none
  slo : List Str := []
  rep : Bool := false
  dcs : List (Str × List (Int × Int)) := []
/-- the ids of defs as a lambda calls them -/
def off : Nat := 100000
def Sig.low (G : Sig) : Sig := { G with funs := G.funs.map fun p => (p.1, (p.2.1 + off, p.2.2)), lam := false, rep := false }
def Sig.nolam (G : Sig) : Sig := { G with lam := false }
def okN (x : Str) : Bool := !(x == ("__debug__" : Str)) && !(x == ("__classdict__" : Str)) && !(x == ("__name__" : Str))
def findIx : List Str → Str → Option Nat
  | [], _ => none
  | y :: ys, x => if y = x then some 0 else (findIx ys x).map (· + 1)
theorem findIx_get : ∀ {N : List Str} {x : Str} {i : Nat}, findIx N x = some i → N[i]? = some x
  | [], _, _, h => by cases h
  | y :: ys, x, i, h => by
    unfold findIx at h
    split at h
    · rename_i e
      cases h
      subst e
      rfl
    · cases q : findIx ys x with
      | none => rw [q] at h; cases h
      | some j =>
        rw [q] at h
        cases h
        simpa using findIx_get q
def visB (sc : Scope) (x : Str) : Bool := match sc.names.lookup x with
  | some .local => true
  | some .cell => true
  | some .free => true
  | _ => false
def locB (sc : Scope) (x : Str) : Bool := match sc.names.lookup x with
  | some .local => true
  | some .cell => true
  | _ => false
def glB (sc : Scope) (x : Str) : Bool := match sc.names.lookup x with
  | some .globalImplicit => true
  | _ => false
theorem visB_ok {sc : Scope} {x : Str} (h : visB sc x = true) : Vis sc x := by
  unfold visB at h
  split at h
  · exact .inl (by assumption)
  · exact .inr (.inl (by assumption))
  · exact .inr (.inr (by assumption))
  · cases h
theorem locB_ok {sc : Scope} {x : Str} (h : locB sc x = true) : Loc sc x := by
  unfold locB at h
  split at h
  · exact .inl (by assumption)
  · exact .inr (by assumption)
  · cases h
theorem glB_ok {X : Cx} {sc : Scope} {x : Str} (e : X.env.scope = sc) (h : glB sc x = true) : Gl X x := by
  unfold glB at h
  split at h
  · show X.env.scope.names.lookup x = _
    rw [e]
    assumption
  · cases h
def slotOf (N : List Str) (sc : Scope) (x : Str) : Option Nat := if visB sc x && okN x then findIx N x else none
def opOk : Operator → Bool
  | .Add => true
  | .Sub => true
  | .Mult => true
  | .Mod => true
  | .FloorDiv => true
  | .Pow => true
  | _ => false
theorem opOk_ok {o : Operator} (h : opOk o = true) : o = .Add ∨ o = .Sub ∨ o = .Mult ∨ o = .Mod ∨ o = .FloorDiv ∨ o = .Pow := by
  cases o <;> first | (cases h; done) | simp
def setB : Expr → Bool
  | .Set .. => true
  | _ => false
theorem set_marks {op : CmpOp} {e : Expr} (h : setB e = false) : behindInMarks op e = false := by
  cases e <;> first | rfl | (cases h)
def sliceB : Expr → Bool
  | .Slice .. => true
  | _ => false
theorem slice_plain {e : Expr} (h : sliceB e = false) : PlainIx e := fun o i => by
  cases e <;> first | rfl | (cases h)
def starB : Expr → Bool
  | .Starred .. => true
  | _ => false
theorem star_one {e : Expr} {es : List Expr} {env : Env} (h : starB e = false) : starEach (e :: es) env = (false, eval e env) :: starEach es env := by
  cases e <;> first | rfl | (cases h)
theorem star_all {env : Env} {pos : Pos} : ∀ {es : List Expr}, es.any starB = false → (backTo pos (starEach es env)).any (·.1) = false
  | [], _ => rfl
  | e :: es, h => by
    rw [List.any_cons, Bool.or_eq_false_iff] at h
    rw [star_one h.1]
    show (false || (backTo pos (starEach es env)).any (·.1)) = false
    rw [star_all h.2]
    rfl
def biAll : List BI := [.len, .tuple, .all, .any, .sum, .int, .max, .min]
def biOf (x : Str) : Option BI := biAll.find? fun f => decide (f.name = x)
theorem biOf_ok {x : Str} {f : BI} (h : biOf x = some f) : f.name = x := by
  have q := List.find?_some (p := fun f : BI => decide (f.name = x)) h
  exact of_decide_eq_true q
def tyOf (x : Str) : Option String := if x = "int" then some "int" else if x = "bool" then some "bool" else if x = "str" then some "str" else if x = "list" then some "list" else if x = "tuple" then some "tuple" else none
theorem tyOf_ok {x : Str} {T : String} (h : tyOf x = some T) : bootBuiltins x = some (.type T) ∧ T ∈ ["int", "bool", "str", "list", "tuple"] := by
  unfold tyOf at h
  split at h
  · rename_i e; cases h; subst e; exact ⟨by decide +kernel, by decide⟩
  · split at h
    · rename_i e; cases h; subst e; exact ⟨by decide +kernel, by decide⟩
    · split at h
      · rename_i e; cases h; subst e; exact ⟨by decide +kernel, by decide⟩
      · split at h
        · rename_i e; cases h; subst e; exact ⟨by decide +kernel, by decide⟩
        · split at h
          · rename_i e; cases h; subst e; exact ⟨by decide +kernel, by decide⟩
          · cases h
def isM1 : Expr → Bool
  | .UnaryOp .USub (.Constant (.int i) _ _) _ => decide (i = 1)
  | _ => false
theorem isM1_ok {e : Expr} (h : isM1 e = true) : ∃ k p1 p2, e = .UnaryOp .USub (.Constant (.int 1) k p1) p2 := by
  unfold isM1 at h
  split at h
  · rename_i i k p1 p2
    have e : i = 1 := of_decide_eq_true h
    subst e
    exact ⟨k, p1, p2, rfl⟩
  · cases h
/-- a target -/
def compTg (N : List Str) (st : Str → Bool) : Expr → Option Tg
  | .Name x _ => if st x then (findIx N x).map .one else none
  | .Tuple [.Name x _, .Name y _] _ _ => if st x && st y then (match findIx N x, findIx N y with
    | some i, some j => some (.two i j)
    | _, _ => none) else none
  | .Tuple [.Name x _, .Name y _, .Name z _] _ _ => if st x && st y && st z then (match findIx N x, findIx N y, findIx N z with
    | some i, some j, some k => some (.three i j k)
    | _, _, _ => none) else none
  | _ => none
/-- the names of a comprehension's own -/
def ownOf (N : List Str) (scope : Scope) : List (Str × Nat) := scope.names.filterMap fun p => match p.2 with
  | .local => (findIx N p.1).map fun i => (p.1, i)
  | .cell => (findIx N p.1).map fun i => (p.1, i)
  | _ => none
/-- range(..) as the only argument -/
def rgArg (G : Sig) (sc : Scope) : List Expr → Option (List Expr)
  | [.Call (.Name g _) as [] _] => if g = "range" && glB sc g && G.bis.contains g && !as.any starB then some as else none
  | _ => none
def callB0 : Expr → Bool
  | .Call (.Name _ _) [] [] _ => true
  | _ => false
/-- the script's name -/
def scrArg (G : Sig) (N : List Str) (sc : Scope) : List Expr → Option Nat
  | [.Name x _] => if G.scr.contains x then slotOf N sc x else none
  | _ => none
/-- d.values() as the only argument -/
def valArg : List Expr → Option Expr
  | [.Call (.Attribute a m ap) [] [] p] => if m = "values" && !callB0 a && (ap.endLine == p.line) then some a else none
  | _ => none
/-- a name as the only argument -/
def nameArg (N : List Str) (sc : Scope) : List Expr → Option Nat
  | [.Name x _] => slotOf N sc x
  | _ => none
/-- a name whose slices are read with the list staying one's own -/
def sloArg (G : Sig) (N : List Str) (sc : Scope) : Expr → Option Nat
  | .Name x _ => if G.slo.contains x then slotOf N sc x else none
  | _ => none
/-- set(..) as the only argument -/
def setArg (G : Sig) (sc : Scope) : List Expr → Option Expr
  | [.Call (.Name g _) [e] [] _] => if g = "set" && glB sc g && G.bis.contains g && !starB e then some e else none
  | _ => none
/-- the only argument -/
def oneArg : List Expr → Option Expr
  | [e] => some e
  | _ => none
def noArgs (a : Arguments) : Bool := a.posonlyargs.isEmpty && a.args.isEmpty && a.vararg.isNone && a.kwonlyargs.isEmpty && a.kw_defaults.isEmpty && a.kwarg.isNone && a.defaults.isEmpty
def lamB : List Expr → Bool
  | [.Lambda ..] => true
  | _ => false
/-- a name of the module's dicts of numbers -/
def cdArg (G : Sig) (N : List Str) (sc : Scope) : Expr → Option (Str × List (Int × Int))
  | .Name x _ => if (slotOf N sc x).isNone && glB sc x && okN x then (G.dcs.lookup x).map (x, ·) else none
  | _ => none
def isNI : CmpOp → Bool
  | .NotIn => true
  | _ => false
mutual
def compE : Nat → Sig → List Str → Scope → Expr → Option DE
  | 0, _, _, _, _ => none
  | _ + 1, G, N, sc, .Name x _ => (match slotOf N sc x with
    | some i => some (.var i)
    | none => if glB sc x && okN x then (G.consts.lookup x).map .c else none)
  | _ + 1, _, _, _, .Constant (.int i) _ _ => some (.c (.int i))
  | _ + 1, _, _, _, .Constant (.bool i) _ _ => some (.c (.bool i))
  | _ + 1, _, _, _, .Constant (.str i) _ _ => some (.c (.str i))
  | _ + 1, _, _, _, .Constant .none _ _ => some (.c .none)
  | n + 1, G, N, sc, .Tuple es _ _ => (compA n G N sc es).map .tup
  | n + 1, G, N, sc, .List es _ => (compA n G N sc es).map .lst
  | _ + 1, _, _, _, .Dict [] [] _ => some .dict0
  | _ + 1, _, _, _, .Dict [some (.Constant (.int i) _ _)] [.Constant (.int j) _ _] _ => some (.dict1 i j)
  | n + 1, G, N, sc, .Dict [some k] [v] _ => (match compE n G N sc k, compE n G N sc v with
    | some x, some y => some (.dct1 x y)
    | _, _ => none)
  | n + 1, G, N, sc, .BinOp a o b _ => if opOk o then (match compE n G N sc a, compE n G N sc b with
    | some x, some y => some (.bin o x y)
    | _, _ => none) else none
  | n + 1, G, N, sc, .UnaryOp .USub a _ => (compE n G N sc a).map .neg
  | n + 1, G, N, sc, .UnaryOp .Not a _ => (compE n G N sc a).map .not
  | n + 1, G, N, sc, .Compare a [o] [b] _ => if setB b then none else (match (if isNI o then cdArg G N sc b else none) with
    | some q => (compE n G N sc a).map (.cdin q.2)
    | none => (match compE n G N sc a, compE n G N sc b with
      | some x, some y => some (.cmp o x y)
      | _, _ => none))
  | n + 1, G, N, sc, .Compare a [o, o'] [b, c] _ => if setB c then none else (match compE n G N sc a, compE n G N sc b, compE n G N sc c with
    | some x, some y, some z => some (.chain o o' x y z)
    | _, _, _ => none)
  | n + 1, G, N, sc, .BoolOp op es _ => compB n G N sc op es
  | n + 1, G, N, sc, .IfExp c a b _ => (match compT n G N sc c, compE n G N sc a, compE n G N sc b with
    | some x, some y, some z => some (.ite x y z)
    | _, _, _ => none)
  | n + 1, G, N, sc, .Call (.Name f _) [.Lambda params body scope _] [] _ => (match G.ref with
    | some (x, k) => if G.lam && decide (f = x) && glB sc f && okN f && noArgs params && LamX.lamSB sc scope then (compE n G.low N scope body).map (.refu k) else none
    | none => none)
  | n + 1, G, N, sc, .Call (.Name f _) args [] _ => if glB sc f && okN f && !args.any starB && !args.isEmpty then
      (match G.funs.lookup f with
      | some k => (compX n G N sc args).map (.call k.1 k.2)
      | none => if G.bis.contains f then
          if f = "len" && (scrArg G N sc args).isSome then (scrArg G N sc args).map .slen else
          if f = "sum" && (valArg args).isSome then (match valArg args with
            | some e => (compE n G N sc e).map .sumV
            | none => none) else
          if (rgArg G sc args).isSome then compRg n G N sc f ((rgArg G sc args).getD []) else
          (match biOf f with
          | some g => (compA n G N sc args).map (.bi g)
          | none => if f = "list" then (match nameArg N sc args with
              | some i => some (.listN i)
              | none => (compA n G N sc args).map .list)
            else if f = "sorted" then (match setArg G sc args with
              | some e => (compE n G N sc e).map .sset
              | none => (match nameArg N sc args with
                | some i => some (.sortN i)
                | none => (compA n G N sc args).map .sorted))
            else if f = "dict" then (compA n G N sc args).map .dictP
            else if f = "isinstance" then compIs n G N sc args
            else if f = "repr" && G.rep then (match oneArg args with
              | some e => (compE n G N sc e).map .repr
              | none => none)
            else none) else none) else none
  | n + 1, G, N, sc, .Call (.Attribute a m ap) [b] [] pos => if m = "index" && !starB b && !callB0 a && (ap.endLine == pos.line) then (match compE n G N sc a, compE n G N sc b with
    | some x, some y => some (.idx x y)
    | _, _ => none) else none
  | n + 1, G, N, sc, .Subscript a b _ => (match cdArg G N sc a with
    | some q => if sliceB b then none else (compE n G N sc b).map (.cdix q.2)
    | none => compSub n G N sc a b)
  | n + 1, G, N, sc, .ListComp elt gs scope _ => (match gs with
    | [⟨tg, iter, ifs, as⟩] => if as = 0 then compL n G N sc elt tg iter ifs scope else none
    | _ => none)
  | _ + 1, _, _, _, _ => none
def compSub : Nat → Sig → List Str → Scope → Expr → Expr → Option DE
  | 0, _, _, _, _, _ => none
  | n + 1, G, N, sc, a, .Slice lo hi st _ => (match st with
    | none => (match sloArg G N sc a with
      | some i => (match compO n G N sc lo, compO n G N sc hi with
        | some y, some z => some (.slN i y z)
        | _, _ => none)
      | none => (match compE n G N sc a, compO n G N sc lo, compO n G N sc hi with
        | some x, some y, some z => some (.sl x y z)
        | _, _, _ => none))
    | some e => if isM1 e && lo.isNone && hi.isNone then (compE n G N sc a).map .rev else none)
  | n + 1, G, N, sc, a, b => (match scrArg G N sc [a] with
    | some i => (compE n G N sc b).map (.six i)
    | none => (match compE n G N sc a, compE n G N sc b with
      | some x, some y => some (.ix x y)
      | _, _ => none))
def compL : Nat → Sig → List Str → Scope → Expr → Expr → Expr → List Expr → Scope → Option DE
  | 0, _, _, _, _, _, _, _, _ => none
  | n + 1, G, N, sc, elt, tg, iter, ifs, scope => if blkC N sc scope (ownOf N scope) && !setB iter then
      (match compTg N (locB scope) tg, compI n G N sc tg iter, compC n G.nolam N (relS scope sc) ifs, compE n G.nolam N (relS scope sc) elt with
      | some t, some i, some c, some d => if t.slots.all fun k => ((ownOf N scope).map (·.2)).contains k then some (.lc d t i c ((ownOf N scope).map (·.2))) else none
      | _, _, _, _ => none) else none
def compIs : Nat → Sig → List Str → Scope → List Expr → Option DE
  | n + 1, G, N, sc, [a, .Name T _] => if glB sc T && okN T && G.bis.contains T then (match tyOf T, compE n G N sc a with
    | some t, some x => some (.isi t x)
    | _, _ => none) else none
  | n + 1, G, N, sc, [a, .Tuple [.Name T _, .Name U _] _ _] => if (decide (T = "tuple") && decide (U = "list") || decide (T = "list") && decide (U = "tuple")) && glB sc T && glB sc U && G.bis.contains T && G.bis.contains U then (compE n G N sc a).map .isi2 else none
  | _, _, _, _, _ => none
def compRg : Nat → Sig → List Str → Scope → Str → List Expr → Option DE
  | n + 1, G, N, sc, f, [a] => if f = "list" then (compE n G N sc a).map .lrg1 else if f = "tuple" then (compE n G N sc a).map .trg1 else none
  | n + 1, G, N, sc, f, [a, b] => (match compE n G N sc a, compE n G N sc b with
    | some x, some y => if f = "list" then some (.lrg2 x y) else if f = "tuple" then some (.trg2 x y) else none
    | _, _ => none)
  | _, _, _, _, _, _ => none
def compA : Nat → Sig → List Str → Scope → List Expr → Option DA
  | 0, _, _, _, _ => none
  | _ + 1, _, _, _, [] => some .nil
  | n + 1, G, N, sc, e :: es => if starB e then none else (match compE n G N sc e, compA n G N sc es with
    | some x, some y => some (.cons x y)
    | _, _ => none)
def compX : Nat → Sig → List Str → Scope → List Expr → Option DX
  | 0, _, _, _, _ => none
  | _ + 1, _, _, _, [] => some .nil
  | n + 1, G, N, sc, .Name x p :: es => (match slotOf N sc x, compX n G N sc es with
    | some i, some y => some (.s i y)
    | none, some y => (compE n G N sc (.Name x p)).map fun d => .e d y
    | _, _ => none)
  | n + 1, G, N, sc, e :: es => if starB e then none else (match compE n G N sc e, compX n G N sc es with
    | some x, some y => some (.e x y)
    | _, _ => none)
def compO : Nat → Sig → List Str → Scope → Option Expr → Option DO
  | 0, _, _, _, _ => none
  | _ + 1, _, _, _, none => some .none
  | n + 1, G, N, sc, some e => (compE n G N sc e).map .some
def compB : Nat → Sig → List Str → Scope → BoolOp → List Expr → Option DE
  | 0, _, _, _, _, _ => none
  | _ + 1, _, _, _, _, [] => none
  | n + 1, G, N, sc, _, [a] => compE n G N sc a
  | n + 1, G, N, sc, op, a :: b :: r => (match compE n G N sc a, compB n G N sc op (b :: r) with
    | some x, some y => some (match op with
      | .And => .and x y
      | .Or => .or x y)
    | _, _ => none)
def compT : Nat → Sig → List Str → Scope → Expr → Option DT
  | 0, _, _, _, _ => none
  | n + 1, G, N, sc, .BoolOp op es _ => compW n G N sc op es
  | n + 1, G, N, sc, .UnaryOp .Not a _ => (compT n G N sc a).map .not
  | _ + 1, _, _, _, .IfExp .. => none
  | n + 1, G, N, sc, e => (compE n G N sc e).map .e
def compW : Nat → Sig → List Str → Scope → BoolOp → List Expr → Option DT
  | 0, _, _, _, _, _ => none
  | _ + 1, _, _, _, _, [] => none
  | n + 1, G, N, sc, _, [a] => compT n G N sc a
  | n + 1, G, N, sc, op, a :: b :: r => (match compT n G N sc a, compW n G N sc op (b :: r) with
    | some x, some y => some (match op with
      | .And => .and x y
      | .Or => .or x y)
    | _, _ => none)
def compC : Nat → Sig → List Str → Scope → List Expr → Option DT
  | 0, _, _, _, _ => none
  | _ + 1, _, _, _, [] => some .tt
  | n + 1, G, N, sc, [c] => compT n G N sc c
  | _ + 1, _, _, _, _ => none
def compI : Nat → Sig → List Str → Scope → Expr → Expr → Option DI
  | 0, _, _, _, _, _ => none
  | n + 1, G, N, sc, tg, .Call (.Name f p) args [] pos => if glB sc f && okN f && !args.any starB && G.bis.contains f && (f = "range" || f = "enumerate" || f = "zip") then compR n G N sc tg f args
      else (compE n G N sc (.Call (.Name f p) args [] pos)).map .seq
  | n + 1, G, N, sc, tg, .Call (.Attribute a m ap) [] [] pos => (match tg with
    | .Tuple .. => if m = "items" && !callB0 a && (ap.endLine == pos.line) then (compE n G N sc a).map .items else none
    | _ => none)
  | n + 1, G, N, sc, _, e => (compE n G N sc e).map .seq
def compR : Nat → Sig → List Str → Scope → Expr → Str → List Expr → Option DI
  | n + 1, G, N, sc, tg, f, [a] => if f = "range" then (compE n G N sc a).map .rng1 else (match tg with
    | .Tuple .. => if f = "enumerate" then (compE n G N sc a).map .enum else none
    | _ => none)
  | n + 1, G, N, sc, tg, f, [a, b] => (match compE n G N sc a, compE n G N sc b with
    | some x, some y => if f = "range" then some (.rng2 x y) else (match tg with
      | .Tuple .. => if f = "zip" then some (.zip x y) else none
      | _ => none)
    | _, _ => none)
  | _, _, _, _, _, _, _ => none
end
end DP

end
section
set_option Elab.async false
set_option linter.all false
set_option maxRecDepth 100000
set_option autoImplicit false
set_option maxHeartbeats 4000000
namespace DP
open PySem PySem.Spec PyProof.Rows L2
/-! ### the reading is kept: expressions -/
structure Gd (G : Sig) (F : Nat → FW) (N : List Str) (sc : Scope) (X : Cx) : Prop where
  hN : X.N = N
  nd : N.Nodup
  hsc : X.env.scope = sc
  calm : X.calm = true
  un : X.A.units + 64 < cLine
  bis : ∀ b ∈ G.bis, X.mg b = none
  cst : ∀ x d, G.consts.lookup x = some d → ∃ v u, X.mg x = some u ∧ RelV v u ∧ ∀ H, Rp H v d
  cdc : ∀ x kvs, G.dcs.lookup x = some kvs → ∃ a, X.mg x = some (.ref a) ∧ CDict X.K a kvs
  fns : ∀ f id n, G.funs.lookup f = some (id, n) → ∃ k fa fd ps, ps.length = n ∧ FnOk X.prog X.w X.K X.mg X.base (L2.CX X.prog X.w) k fa fd ps (spOf X.K X.mg n (F id)) ∧ Room k X.A ∧ X.mg f = some (.ref fa) ∧ PySem.W.keepIn X.K (.ref fa) = true ∧ Binds X.K fd ps []
  exc : ∀ c ∈ G.excs, ∃ Ca, X.mg c = some (.ref Ca) ∧ PySem.W.excIn X.K Ca [.type "ValueError", .type "Exception", .type "BaseException", .type "object"] "ValueError.__new__" = true ∧ PySem.W.keepIn X.K (.ref Ca) = true ∧ PySem.W.subIn X.K (.ref Ca) (.type "BaseException") = some true ∧ PySem.W.typeIn X.K (.ref Ca) = some (.type "type")
  lam : G.lam = true → ∃ k, Room (k + 2) X.A ∧ (∀ f id n, G.funs.lookup f = some (id, n) → ∃ fa fd ps, ps.length = n ∧ FnOk X.prog X.w X.K X.mg X.base (L2.CX X.prog X.w) k fa fd ps (spOf X.K X.mg n (F (id + off))) ∧ X.mg f = some (.ref fa) ∧ PySem.W.keepIn X.K (.ref fa) = true ∧ Binds X.K fd ps []) ∧
    ∀ x kind, G.ref = some (x, kind) → RefOk X x (TTref kind X.mg)
  gd : G.rep = true → X.A.guards = some []
section
variable {G : Sig} {F : Nat → FW} {N : List Str} {sc : Scope} {X : Cx}
/-- what the lambdas of a text stand on -/
theorem Gd.blk (g : Gd G F N sc X) (s : Shared) (H : Hp) (scope : Scope) (Ca : Addr) (cl : List (Str × Addr)) (fp : List Addr) : Gd G.nolam F N (relS scope sc) (X.blk s H scope (compEnvC scope cl Ca X.env) fp) where
  hN := g.hN
  nd := g.nd
  hsc := by
    have e : (compEnvC scope cl Ca X.env).scope = relS scope X.env.scope := rfl
    rw [← g.hsc]
    exact e
  calm := g.calm
  un := g.un
  bis := g.bis
  cst := g.cst
  cdc := g.cdc
  fns := g.fns
  exc := g.exc
  lam := fun z => nomatch z
  gd := g.gd
theorem low_lookup {f : Str} {id n : Nat} : ∀ {l : List (Str × (Nat × Nat))}, (l.map fun p => (p.1, (p.2.1 + off, p.2.2))).lookup f = some (id, n) → ∃ i, id = i + off ∧ l.lookup f = some (i, n)
  | [], h => by cases h
  | (y, (a, b)) :: l, h => by
    rw [List.map_cons, List.lookup_cons] at h
    rw [List.lookup_cons]
    cases e : (f == y) with
    | true =>
      rw [show (f == (y, (a + off, b)).1) = true from e] at h
      cases h
      exact ⟨a, rfl, rfl⟩
    | false =>
      rw [show (f == (y, (a + off, b)).1) = false from e] at h
      exact low_lookup h
theorem Gd.low {k : Nat} {A : Around} {outer : List Env} {s : Shared} {H : Hp} {E : XK} {scope : Scope} {f c' : Addr} (g : Gd G F N sc X) (hk : ∀ f id n, G.funs.lookup f = some (id, n) → ∃ fa fd ps, ps.length = n ∧ FnOk X.prog X.w X.K X.mg X.base (L2.CX X.prog X.w) k fa fd ps (spOf X.K X.mg n (F (id + off))) ∧ X.mg f = some (.ref fa) ∧ PySem.W.keepIn X.K (.ref fa) = true ∧ Binds X.K fd ps [])
    (hr : Room k (A.deeper (LamX.lamEnv X scope s.heap.objs.size f c'))) : Gd G.low F N scope (LamX.lamCx X A outer s H E scope f c') where
  hN := g.hN
  nd := g.nd
  hsc := rfl
  calm := rfl
  un := hr.units
  bis := g.bis
  cst := g.cst
  cdc := g.cdc
  fns := fun f id n h => by
    obtain ⟨i, rfl, h2⟩ := low_lookup h
    obtain ⟨fa, fd, ps, q1, q2, q3, q4, q5⟩ := hk f i n h2
    exact ⟨k, fa, fd, ps, q1, q2, hr, q3, q4, q5⟩
  exc := g.exc
  lam := fun z => nomatch z
  gd := fun z => nomatch z
theorem okN_get {x : Str} (h : okN x = true) : (x == ("__debug__" : Str)) = false ∧ (x == ("__classdict__" : Str)) = false ∧ x ≠ "__name__" := by
  unfold okN at h
  simp only [Bool.and_eq_true, Bool.not_eq_true'] at h
  refine ⟨h.1.1, h.1.2, fun e => ?_⟩
  rw [e] at h
  exact absurd h.2 (by decide)
theorem slotOf_get {x : Str} {i : Nat} (g : Gd G F N sc X) (h : slotOf N sc x = some i) : X.N[i]? = some x ∧ Vis X.env.scope x ∧ (x == ("__debug__" : Str)) = false ∧ (x == ("__classdict__" : Str)) = false := by
  unfold slotOf at h
  split at h
  · rename_i q
    rw [Bool.and_eq_true] at q
    obtain ⟨h1, h2, _⟩ := okN_get q.2
    exact ⟨by rw [g.hN]; exact findIx_get h, by rw [g.hsc]; exact visB_ok q.1, h1, h2⟩
  · cases h
theorem Gd.call {C : Cfg} {E : Str → Prop} {f : Str} {k : Nat × Nat} (g : Gd G F N sc X) (hK : C.K = X.K) (tk : Takes X (wOf X.mg C E)) (h : G.funs.lookup f = some k) : CallOk X C f k.2 (F k.1) E := ⟨hK, tk, g.fns f k.1 k.2 h⟩
end
/-- targets -/
theorem tg_ok {C : Cfg} {X : Cx} {N : List Str} {st : Str → Bool} {tgE : Expr} {tg : Tg} (hN : X.N = N) (nd : N.Nodup) (hn : C.n = N.length) (hK : C.K = X.K) (hc : X.calm = true) (hst : ∀ x, st x = true → Loc X.env.scope x ∧ (X.fn x = true ∨ X.env.scope.names.lookup x = some .local)) (h : compTg N st tgE = some tg) : PG X tgE (upG C tg) := by
  have hn' : C.n = X.N.length := by rw [hN]; exact hn
  have nd' : X.N.Nodup := by rw [hN]; exact nd
  unfold compTg at h
  split at h
  · rename_i x p
    split at h
    · rename_i hx
      cases q : findIx N x with
      | none => rw [q] at h; cases h
      | some i =>
        rw [q] at h
        cases h
        exact pdg_one nd' hn' ⟨by rw [hN]; exact findIx_get q, (hst x hx).1, (hst x hx).2⟩
    · cases h
  · rename_i x p1 y p2 k p
    split at h
    · rename_i hx
      rw [Bool.and_eq_true] at hx
      split at h
      · rename_i i j q1 q2
        cases h
        exact pdg_two nd' hn' hK hc ⟨by rw [hN]; exact findIx_get q1, (hst x hx.1).1, (hst x hx.1).2⟩ ⟨by rw [hN]; exact findIx_get q2, (hst y hx.2).1, (hst y hx.2).2⟩
      · cases h
    · cases h
  · rename_i x p1 y p2 z p3 k p
    split at h
    · rename_i hx
      rw [Bool.and_eq_true, Bool.and_eq_true] at hx
      split at h
      · rename_i i j l q1 q2 q3
        cases h
        exact pdg_three nd' hn' hK hc ⟨by rw [hN]; exact findIx_get q1, (hst x hx.1.1).1, (hst x hx.1.1).2⟩ ⟨by rw [hN]; exact findIx_get q2, (hst y hx.1.2).1, (hst y hx.1.2).2⟩ ⟨by rw [hN]; exact findIx_get q3, (hst z hx.2).1, (hst z hx.2).2⟩
      · cases h
    · cases h
  · cases h
theorem folded_plain {e : Expr} {env : Env} (h : setB e = false) : ∀ x, foldedSetIterable e env x = pure x := fun x => by
  cases e <;> first | rfl | (cases h)
structure SoundAt (G : Sig) (F : Nat → FW) (n : Nat) : Prop where
  e : ∀ N sc e d, compE n G N sc e = some d → ∀ (X : Cx) (C : Cfg) (E : Str → Prop), Gd G F N sc X → C.n = N.length → C.K = X.K → Takes X (wOf X.mg C E) → (G.lam = true → TabC X C) → PD X C e (wpE F d E)
  a : ∀ N sc es d, compA n G N sc es = some d → ∀ (X : Cx) (C : Cfg) (E : Str → Prop), Gd G F N sc X → C.n = N.length → C.K = X.K → Takes X (wOf X.mg C E) → (G.lam = true → TabC X C) → PDA X C es (wpA F d E)
  x : ∀ N sc es d, compX n G N sc es = some d → ∀ (X : Cx) (C : Cfg) (E : Str → Prop), Gd G F N sc X → C.n = N.length → C.K = X.K → Takes X (wOf X.mg C E) → (G.lam = true → TabC X C) → PDX X C es (wpX F d E)
  o : ∀ N sc e d, compO n G N sc e = some d → ∀ (X : Cx) (C : Cfg) (E : Str → Prop), Gd G F N sc X → C.n = N.length → C.K = X.K → Takes X (wOf X.mg C E) → (G.lam = true → TabC X C) → PDO X C e (wpO F d E)
  t : ∀ N sc e d, compT n G N sc e = some d → ∀ (X : Cx) (C : Cfg) (E : Str → Prop), Gd G F N sc X → C.n = N.length → C.K = X.K → Takes X (wOf X.mg C E) → (G.lam = true → TabC X C) → PDT X C e (wpT F d E)
  b : ∀ N sc op es d, compB n G N sc op es = some d → ∀ (X : Cx) (C : Cfg) (E : Str → Prop) (pos : Pos), Gd G F N sc X → C.n = N.length → C.K = X.K → Takes X (wOf X.mg C E) → (G.lam = true → TabC X C) → PD X C (.BoolOp op es pos) (wpE F d E)
  w : ∀ N sc op es d, compW n G N sc op es = some d → ∀ (X : Cx) (C : Cfg) (E : Str → Prop) (pos : Pos), Gd G F N sc X → C.n = N.length → C.K = X.K → Takes X (wOf X.mg C E) → (G.lam = true → TabC X C) → PDW X C (.BoolOp op es pos) (wpT F d E)
  c : ∀ N sc es d, compC n G N sc es = some d → ∀ (X : Cx) (C : Cfg) (E : Str → Prop), Gd G F N sc X → C.n = N.length → C.K = X.K → Takes X (wOf X.mg C E) → (G.lam = true → TabC X C) → PTs X es (upT C (wpT F d E))
  i : ∀ N sc tg e d, compI n G N sc tg e = some d → ∀ (X : Cx) (C : Cfg) (E : Str → Prop), Gd G F N sc X → C.n = N.length → C.K = X.K → Takes X (wOf X.mg C E) → (G.lam = true → TabC X C) → PDI X C tg e (wpI F d E)
  l : ∀ N sc elt tg iter ifs scope d, compL n G N sc elt tg iter ifs scope = some d → ∀ (X : Cx) (C : Cfg) (E : Str → Prop), Gd G F N sc X → C.n = N.length → C.K = X.K → Takes X (wOf X.mg C E) → (G.lam = true → TabC X C) →
    ∃ elt' tg' it' cd' own, d = .lc elt' tg' it' cd' (own.map (·.2)) ∧ LcOk X C elt tg iter ifs scope own tg' (wpI F it' E) (wpT F cd' fun _ => False) (wpE F elt' fun _ => False)
  r : ∀ N sc tg f es d, compR n G N sc tg f es = some d → ∀ (X : Cx) (C : Cfg) (E : Str → Prop) (p pos : Pos), Gd G F N sc X → C.n = N.length → C.K = X.K → Takes X (wOf X.mg C E) → (G.lam = true → TabC X C) → (f = "range" ∨ f = "enumerate" ∨ f = "zip") → es.any starB = false → X.mg f = none → Gl X f → PDI X C tg (.Call (.Name f p) es [] pos) (wpI F d E)
  u : ∀ N sc a b d, compSub n G N sc a b = some d → ∀ (X : Cx) (C : Cfg) (E : Str → Prop) (pos : Pos), Gd G F N sc X → C.n = N.length → C.K = X.K → Takes X (wOf X.mg C E) → (G.lam = true → TabC X C) → PD X C (.Subscript a b pos) (wpE F d E)
  k : ∀ N sc a os bs p d, compE n G N sc (.Compare a os bs p) = some d → ∀ (X : Cx) (C : Cfg) (E : Str → Prop), Gd G F N sc X → C.n = N.length → C.K = X.K → Takes X (wOf X.mg C E) → (G.lam = true → TabC X C) → PDT X C (.Compare a os bs p) (eB (wpE F d E))
  is : ∀ N sc es d, compIs n G N sc es = some d → ∀ (X : Cx) (C : Cfg) (E : Str → Prop) (p pos : Pos), Gd G F N sc X → C.n = N.length → C.K = X.K → Takes X (wOf X.mg C E) → (G.lam = true → TabC X C) → X.mg "isinstance" = none → Gl X "isinstance" → PD X C (.Call (.Name "isinstance" p) es [] pos) (wpE F d E)
  rg : ∀ N sc f es d, compRg n G N sc f es = some d → ∀ (X : Cx) (C : Cfg) (E : Str → Prop) (p p2 pos pos2 : Pos), Gd G F N sc X → C.n = N.length → C.K = X.K → Takes X (wOf X.mg C E) → (G.lam = true → TabC X C) → es.any starB = false → X.mg f = none → Gl X f → X.mg "range" = none → Gl X "range" → PD X C (.Call (.Name f p) [.Call (.Name "range" p2) es [] pos2] [] pos) (wpE F d E)
theorem takesF {X : Cx} {mg : Str → Option Value} {C : Cfg} : Takes X (wOf mg C fun _ => False) := takes0.imp fun _ _ _ _ h => by
  obtain ⟨_, _, _, _, _, _, z⟩ := h
  exact z
theorem pair2 {α β : Type} {x : Option α} {y : Option β} {γ : Type} {f : α → β → Option γ} {z : γ} (h : (match x, y with
    | some a, some b => f a b
    | _, _ => none) = some z) : ∃ a b, x = some a ∧ y = some b ∧ f a b = some z := by
  cases x with
  | none => cases h
  | some a =>
    cases y with
    | none => cases h
    | some b => exact ⟨a, b, rfl, rfl, h⟩
theorem map1 {α γ : Type} {x : Option α} {f : α → γ} {z : γ} (h : x.map f = some z) : ∃ a, x = some a ∧ z = f a := by
  cases x with
  | none => cases h
  | some a => exact ⟨a, rfl, (Option.some.inj h).symm⟩
theorem PD_imp {X : Cx} {C : Cfg} {e : Expr} {t u : TD} (h : PD X C e t) (q : ∀ r Q, u r Q → t r Q) : PD X C e u := PE_imp h fun σ H Q ⟨r, Q', R, w, k⟩ => ⟨r, Q', R, q _ _ w, k⟩
theorem PDI_imp {X : Cx} {C : Cfg} {tg e : Expr} {t u : TID} (h : PDI X C tg e t) (q : ∀ r Q, u r Q → t r Q) : PDI X C tg e u := PI_imp h fun σ H Q ⟨r, Q', R, w, k⟩ => ⟨r, Q', R, q _ _ w, k⟩
theorem cd_get {G : Sig} {F : Nat → FW} {N : List Str} {sc : Scope} {X : Cx} (g : Gd G F N sc X) {e : Expr} {q : Str × List (Int × Int)} (h : cdArg G N sc e = some q) : ∃ p a, e = .Name q.1 p ∧ Gl X q.1 ∧ X.mg q.1 = some (.ref a) ∧ (q.1 == ("__debug__" : Str)) = false ∧ CDict X.K a q.2 := by
  unfold cdArg at h
  split at h
  · rename_i x p
    split at h
    · rename_i hc
      rw [Bool.and_eq_true, Bool.and_eq_true] at hc
      obtain ⟨kvs, q1, rfl⟩ := map1 h
      obtain ⟨a, m1, m2⟩ := g.cdc x kvs q1
      obtain ⟨n1, _, _⟩ := okN_get hc.2
      exact ⟨p, a, rfl, glB_ok g.hsc hc.1.2, m1, n1, m2⟩
    · cases h
  · cases h
theorem ni_get {o : CmpOp} {α : Type} {x : Option α} {q : α} (h : (if isNI o then x else none) = some q) : o = .NotIn ∧ x = some q := by
  cases o <;> first | exact ⟨rfl, h⟩ | cases h
end DP

end
section
set_option Elab.async false
set_option linter.all false
set_option maxRecDepth 100000
set_option autoImplicit false
set_option maxHeartbeats 8000000
namespace DP
open PySem PySem.Spec PyProof.Rows L2
section
variable {G : Sig} {F : Nat → FW} {n : Nat}
theorem contains_mem {l : List Str} {x : Str} (h : l.contains x = true) : x ∈ l := List.contains_iff_mem.mp h
theorem step_a (S : SoundAt G F n) : ∀ N sc es d, compA (n + 1) G N sc es = some d → ∀ (X : Cx) (C : Cfg) (E : Str → Prop), Gd G F N sc X → C.n = N.length → C.K = X.K → Takes X (wOf X.mg C E) → (G.lam = true → TabC X C) → PDA X C es (wpA F d E) := by
  intro N sc es d h X C E g hn hK tk lm
  cases es with
  | nil =>
    simp only [compA] at h
    cases h
    exact pda_nil
  | cons e es =>
    simp only [compA] at h
    split at h
    · cases h
    · rename_i hs
      split at h
      · rename_i x y h1 h2
        cases h
        exact pda_cons (S.e _ _ _ _ h1 X C E g hn hK tk lm) (S.a _ _ _ _ h2 X C E g hn hK tk lm) (star_one (by simpa using hs))
      · cases h
theorem step_x (S : SoundAt G F n) : ∀ N sc es d, compX (n + 1) G N sc es = some d → ∀ (X : Cx) (C : Cfg) (E : Str → Prop), Gd G F N sc X → C.n = N.length → C.K = X.K → Takes X (wOf X.mg C E) → (G.lam = true → TabC X C) → PDX X C es (wpX F d E) := by
  intro N sc es d h X C E g hn hK tk lm
  unfold compX at h
  split at h
  · cases h
  · cases h
    exact pdx_nil
  · rename_i hm
    cases hm
    split at h
    · rename_i i y h1 h2
      cases h
      obtain ⟨q1, q2, q3, q4⟩ := slotOf_get g h1
      exact pdx_s i q1 q2 q3 q4 (S.x _ _ _ _ h2 X C E g hn hK tk lm) (star_one rfl)
    · rename_i y h1 h2
      obtain ⟨d', q1, rfl⟩ := map1 h
      exact pdx_e (S.e _ _ _ _ q1 X C E g hn hK tk lm) (S.x _ _ _ _ h2 X C E g hn hK tk lm) (star_one rfl)
    · cases h
  · rename_i hm
    cases hm
    split at h
    · cases h
    · rename_i hs
      split at h
      · rename_i x y h1 h2
        cases h
        exact pdx_e (S.e _ _ _ _ h1 X C E g hn hK tk lm) (S.x _ _ _ _ h2 X C E g hn hK tk lm) (star_one (by simpa using hs))
      · cases h
theorem step_o (S : SoundAt G F n) : ∀ N sc e d, compO (n + 1) G N sc e = some d → ∀ (X : Cx) (C : Cfg) (E : Str → Prop), Gd G F N sc X → C.n = N.length → C.K = X.K → Takes X (wOf X.mg C E) → (G.lam = true → TabC X C) → PDO X C e (wpO F d E) := by
  intro N sc e d h X C E g hn hK tk lm
  cases e with
  | none =>
    simp only [compO] at h
    cases h
    exact pdo_none
  | some e =>
    simp only [compO] at h
    obtain ⟨x, h1, rfl⟩ := map1 h
    exact pdoB_some (S.e _ _ _ _ h1 X C E g hn hK tk lm)
theorem step_b (S : SoundAt G F n) : ∀ N sc op es d, compB (n + 1) G N sc op es = some d → ∀ (X : Cx) (C : Cfg) (E : Str → Prop) (pos : Pos), Gd G F N sc X → C.n = N.length → C.K = X.K → Takes X (wOf X.mg C E) → (G.lam = true → TabC X C) → PD X C (.BoolOp op es pos) (wpE F d E) := by
  intro N sc op es d h X C E pos g hn hK tk lm
  cases es with
  | nil => simp only [compB] at h; cases h
  | cons a es =>
    cases es with
    | nil =>
      simp only [compB] at h
      exact pd_one (S.e _ _ _ _ h X C E g hn hK tk lm)
    | cons b r =>
      simp only [compB] at h
      split at h
      · rename_i x y h1 h2
        cases op with
        | And =>
          cases h
          exact pdB_and (S.e _ _ _ _ h1 X C E g hn hK tk lm) (S.b _ _ _ _ _ h2 X C E pos g hn hK tk lm)
        | Or =>
          cases h
          exact pdB_or (S.e _ _ _ _ h1 X C E g hn hK tk lm) (S.b _ _ _ _ _ h2 X C E pos g hn hK tk lm)
      · cases h
theorem step_w (S : SoundAt G F n) : ∀ N sc op es d, compW (n + 1) G N sc op es = some d → ∀ (X : Cx) (C : Cfg) (E : Str → Prop) (pos : Pos), Gd G F N sc X → C.n = N.length → C.K = X.K → Takes X (wOf X.mg C E) → (G.lam = true → TabC X C) → PDW X C (.BoolOp op es pos) (wpT F d E) := by
  intro N sc op es d h X C E pos g hn hK tk lm
  cases es with
  | nil => simp only [compW] at h; cases h
  | cons a es =>
    cases es with
    | nil =>
      simp only [compW] at h
      cases op with
      | And => exact pdw_and1 (S.t _ _ _ _ h X C E g hn hK tk lm)
      | Or => exact pdw_or1 (S.t _ _ _ _ h X C E g hn hK tk lm)
    | cons b r =>
      simp only [compW] at h
      split at h
      · rename_i x y h1 h2
        cases op with
        | And =>
          cases h
          exact pdw_and (S.t _ _ _ _ h1 X C E g hn hK tk lm) (S.w _ _ _ _ _ h2 X C E pos g hn hK tk lm)
        | Or =>
          cases h
          exact pdw_or (S.t _ _ _ _ h1 X C E g hn hK tk lm) (S.w _ _ _ _ _ h2 X C E pos g hn hK tk lm)
      · cases h
theorem step_c (S : SoundAt G F n) : ∀ N sc es d, compC (n + 1) G N sc es = some d → ∀ (X : Cx) (C : Cfg) (E : Str → Prop), Gd G F N sc X → C.n = N.length → C.K = X.K → Takes X (wOf X.mg C E) → (G.lam = true → TabC X C) → PTs X es (upT C (wpT F d E)) := by
  intro N sc es d h X C E g hn hK tk lm
  cases es with
  | nil =>
    simp only [compC] at h
    cases h
    exact ⟨fun pins s σ H Q I ⟨r, Q', R, q, k⟩ => pts_nil.run pins s σ H Q I (k true H (Gr.refl R) q)⟩
  | cons c es =>
    cases es with
    | nil =>
      simp only [compC] at h
      exact pts_one (S.t _ _ _ _ h X C E g hn hK tk lm)
    | cons _ _ => simp only [compC] at h; cases h
/-- a comparison as a test -/
theorem cmp_test (S : SoundAt G F n) {N : List Str} {sc : Scope} {a : Expr} {os : List CmpOp} {bs : List Expr} {p : Pos} {x : DE} (h : compE (n + 1) G N sc (.Compare a os bs p) = some x) (X : Cx) (C : Cfg) (E : Str → Prop) (g : Gd G F N sc X) (hn : C.n = N.length) (hK : C.K = X.K) (tk : Takes X (wOf X.mg C E)) (lm : G.lam = true → TabC X C) : PDT X C (.Compare a os bs p) (eB (wpE F x E)) := by
  match os, bs, h with
  | [o], [b], h =>
    simp only [compE] at h
    split at h
    · cases h
    · rename_i hs
      split at h
      · rename_i q hq
        obtain ⟨rfl, hq⟩ := ni_get hq
        obtain ⟨y, q1, rfl⟩ := map1 h
        obtain ⟨p', a', rfl, g1, g2, g3, g4⟩ := cd_get g hq
        exact ptB_cin g4 g1 g2 g3 (set_marks (by simpa using hs)) (S.e _ _ _ _ q1 X C E g hn hK tk lm)
      · split at h
        · rename_i x y h1 h2
          cases h
          exact ptB_cmp (cmp_ok g.un _) (S.e _ _ _ _ h1 X C E g hn hK tk lm) (S.e _ _ _ _ h2 X C E g hn hK tk lm) (set_marks (by simpa using hs))
        · cases h
  | [o, o'], [b, c], h =>
    simp only [compE] at h
    split at h
    · cases h
    · rename_i hs
      split at h
      · rename_i x y z h1 h2 h3
        cases h
        exact ptB_chain (cmp_ok g.un _) (cmp_ok g.un _) (S.e _ _ _ _ h1 X C E g hn hK tk lm) (S.e _ _ _ _ h2 X C E g hn hK tk lm) (S.e _ _ _ _ h3 X C E g hn hK tk lm) (set_marks (by simpa using hs))
      · cases h
  | [], _, h => simp [compE] at h
  | [_], [], h => simp [compE] at h
  | [_], _ :: _ :: _, h => simp [compE] at h
  | [_, _], [], h => simp [compE] at h
  | [_, _], [_], h => simp [compE] at h
  | [_, _], _ :: _ :: _ :: _, h => simp [compE] at h
  | _ :: _ :: _ :: _, _, h => simp [compE] at h
end
end DP

end
section
set_option Elab.async false
set_option linter.all false
set_option maxRecDepth 100000
set_option autoImplicit false
set_option maxHeartbeats 8000000
namespace DP
open PySem PySem.Spec PyProof.Rows L2
section
variable {G : Sig} {F : Nat → FW} {n : Nat}
def plainT : Expr → Bool
  | .BoolOp .. => false
  | .UnaryOp .Not _ _ => false
  | .IfExp .. => false
  | .Compare .. => false
  | _ => true
theorem plainT_is {e : Expr} {env : Env} (h : plainT e = true) : ∀ whole, isTrue e env whole = (do let v ← whole; standAt e.pos; holding [v] (truthy v)) := fun whole => by
  cases e with
  | UnaryOp op a p => cases op <;> first | rfl | (cases h)
  | _ => first | rfl | (cases h)
theorem step_t (S : SoundAt G F n) : ∀ N sc e d, compT (n + 1) G N sc e = some d → ∀ (X : Cx) (C : Cfg) (E : Str → Prop), Gd G F N sc X → C.n = N.length → C.K = X.K → Takes X (wOf X.mg C E) → (G.lam = true → TabC X C) → PDT X C e (wpT F d E) := by
  intro N sc e d h X C E g hn hK tk lm
  by_cases hp : plainT e = true
  · have h' : (compE n G N sc e).map DT.e = some d := by
      rw [← h]
      cases e with
      | UnaryOp op a p => cases op <;> first | (simp only [compT]; done) | (cases hp; done)
      | _ => first | (simp only [compT]; done) | (cases hp; done)
    obtain ⟨x, h1, rfl⟩ := map1 h'
    exact ptB_of (S.e _ _ _ _ h1 X C E g hn hK tk lm) (plainT_is hp)
  · cases e with
    | BoolOp op es p =>
      simp only [compT] at h
      exact (S.w _ _ _ _ _ h X C E p g hn hK tk lm).t
    | UnaryOp op a p =>
      cases op with
      | Not =>
        simp only [compT] at h
        obtain ⟨x, h1, rfl⟩ := map1 h
        exact pdt_not (S.t _ _ _ _ h1 X C E g hn hK tk lm)
      | _ => exact absurd rfl hp
    | IfExp => simp only [compT] at h; cases h
    | Compare a os bs p =>
      simp only [compT] at h
      obtain ⟨x, h1, rfl⟩ := map1 h
      exact S.k _ _ _ _ _ _ _ h1 X C E g hn hK tk lm
    | _ => exact absurd rfl hp
theorem step_r (S : SoundAt G F n) : ∀ N sc tg f es d, compR (n + 1) G N sc tg f es = some d → ∀ (X : Cx) (C : Cfg) (E : Str → Prop) (p pos : Pos), Gd G F N sc X → C.n = N.length → C.K = X.K → Takes X (wOf X.mg C E) → (G.lam = true → TabC X C) → (f = "range" ∨ f = "enumerate" ∨ f = "zip") → es.any starB = false → X.mg f = none → Gl X f → PDI X C tg (.Call (.Name f p) es [] pos) (wpI F d E) := by
  intro N sc tg f es d h X C E p pos g hn hK tk lm hf hs hm hg
  cases es with
  | nil => simp only [compR] at h; cases h
  | cons a es =>
    cases es with
    | nil =>
      have s1 : starB a = false := by simpa using hs
      simp only [compR] at h
      split at h
      · rename_i e
        subst e
        obtain ⟨x, h1, rfl⟩ := map1 h
        exact pdi_range1 hm hg (pda_cons (S.e _ _ _ _ h1 X C E g hn hK tk lm) pda_nil (star_one s1)) (star_one s1)
      · split at h
        · split at h
          · rename_i e
            subst e
            obtain ⟨x, h1, rfl⟩ := map1 h
            exact pdi_enum hm hg (pda_cons (S.e _ _ _ _ h1 X C E g hn hK tk lm) pda_nil (star_one s1)) (star_one s1)
          · cases h
        · cases h
    | cons b es =>
      cases es with
      | nil =>
        have s1 : starB a = false ∧ starB b = false := by simpa using hs
        simp only [compR] at h
        split at h
        · rename_i x y h1 h2
          have pa := pda_cons (S.e _ _ _ _ h1 X C E g hn hK tk lm) (pda_cons (S.e _ _ _ _ h2 X C E g hn hK tk lm) pda_nil (star_one s1.2)) (star_one s1.1)
          split at h
          · rename_i e
            subst e
            cases h
            refine pdi_range2 hm hg pa ?_ (star_one s1.2)
            rw [star_one s1.1, star_one s1.2] <;> rfl
          · split at h
            · split at h
              · rename_i e
                subst e
                cases h
                refine pdi_zip hm hg pa (star_one s1.1) ?_
                rw [star_one s1.2]
                rfl
              · cases h
            · cases h
        · cases h
      | cons _ _ => simp only [compR] at h; cases h
theorem base_plain {a : Expr} {m : Str} {env : Env} {w : Sem Value} (h : callB0 a = false) : attributeBase a m env w = w := by
  cases a with
  | Call f args kws p =>
    cases f with
    | Name x q =>
      cases args with
      | nil =>
        cases kws with
        | nil => cases h
        | cons _ _ => rfl
      | cons _ _ => rfl
    | _ => rfl
  | _ => rfl
theorem step_i (S : SoundAt G F n) : ∀ N sc tg e d, compI (n + 1) G N sc tg e = some d → ∀ (X : Cx) (C : Cfg) (E : Str → Prop), Gd G F N sc X → C.n = N.length → C.K = X.K → Takes X (wOf X.mg C E) → (G.lam = true → TabC X C) → PDI X C tg e (wpI F d E) := by
  intro N sc tg e d h X C E g hn hK tk lm
  unfold compI at h
  split at h
  · cases h
  · rename_i hm
    cases hm
    split at h
    · rename_i hc
      simp only [Bool.and_eq_true, Bool.or_eq_true, Bool.not_eq_true', decide_eq_true_eq] at hc
      obtain ⟨⟨⟨⟨h1, h2⟩, h3⟩, h4⟩, h5⟩ := hc
      refine S.r _ _ _ _ _ _ h X C E _ _ g hn hK tk lm ?_ h3 (g.bis _ (contains_mem h4)) (glB_ok g.hsc h1)
      rcases h5 with (h5 | h5) | h5
      · exact .inl h5
      · exact .inr (.inl h5)
      · exact .inr (.inr h5)
    · obtain ⟨x, h1, rfl⟩ := map1 h
      exact pdi_seq (S.e _ _ _ _ h1 X C E g hn hK tk lm)
  · rename_i hq
    cases hq
    split at h
    · split at h
      · rename_i hc
        simp only [Bool.and_eq_true, Bool.not_eq_true', decide_eq_true_eq] at hc
        obtain ⟨⟨e1, e2⟩, e3⟩ := hc
        subst e1
        obtain ⟨x, h1, rfl⟩ := map1 h
        exact pdi_items (S.e _ _ _ _ h1 X C E g hn hK tk lm) (base_plain e2) e3
      · cases h
    · cases h
  · rename_i hq _ _
    cases hq
    obtain ⟨x, h1, rfl⟩ := map1 h
    exact pdi_seq (S.e _ _ _ _ h1 X C E g hn hK tk lm)
theorem comp_star {m : Nat} {G : Sig} {N : List Str} {sc : Scope} {e : Expr} {d : DE} (he : compE m G N sc e = some d) : starB e = false := by
  cases e with
  | Starred => cases m <;> simp [compE] at he
  | _ => rfl
theorem step_is (S : SoundAt G F n) : ∀ N sc es d, compIs (n + 1) G N sc es = some d → ∀ (X : Cx) (C : Cfg) (E : Str → Prop) (p pos : Pos), Gd G F N sc X → C.n = N.length → C.K = X.K → Takes X (wOf X.mg C E) → (G.lam = true → TabC X C) → X.mg "isinstance" = none → Gl X "isinstance" → PD X C (.Call (.Name "isinstance" p) es [] pos) (wpE F d E) := by
  intro N sc es d h X C E p pos g hn hK tk lm hm hg
  unfold compIs at h
  split at h
  · rename_i hq
    cases hq
    split at h
    · rename_i hc
      simp only [Bool.and_eq_true] at hc
      obtain ⟨⟨h1, h2⟩, h3⟩ := hc
      split at h
      · rename_i t x q1 q2
        cases h
        obtain ⟨hb, hT⟩ := tyOf_ok q1
        obtain ⟨n1, n2, n3⟩ := okN_get h2
        exact pd_isi hm (g.bis _ (contains_mem h3)) hb (S.e _ _ _ _ q2 X C E g hn hK tk lm) hT hg (glB_ok g.hsc h1) n3 n1 (star_one (comp_star q2)) (by rfl) (by rfl)
      · cases h
    · cases h
  · rename_i hq
    cases hq
    split at h
    · rename_i hc
      simp only [Bool.and_eq_true, Bool.or_eq_true, decide_eq_true_eq] at hc
      obtain ⟨⟨⟨⟨ee, h1⟩, h2⟩, h3⟩, h4⟩ := hc
      obtain ⟨x, q2, rfl⟩ := map1 h
      rcases ee with ⟨rfl, rfl⟩ | ⟨rfl, rfl⟩
      rotate_left
      · exact pd_isi3 hm hg (g.bis _ (contains_mem h4)) (glB_ok g.hsc h2) (g.bis _ (contains_mem h3)) (glB_ok g.hsc h1) (S.e _ _ _ _ q2 X C E g hn hK tk lm) (star_one (comp_star q2))
      exact pd_isi2 hm hg (g.bis _ (contains_mem h3)) (glB_ok g.hsc h1) (g.bis _ (contains_mem h4)) (glB_ok g.hsc h2) (S.e _ _ _ _ q2 X C E g hn hK tk lm) (star_one (comp_star q2))
    · cases h
  · cases h
theorem step_rg (S : SoundAt G F n) : ∀ N sc f es d, compRg (n + 1) G N sc f es = some d → ∀ (X : Cx) (C : Cfg) (E : Str → Prop) (p p2 pos pos2 : Pos), Gd G F N sc X → C.n = N.length → C.K = X.K → Takes X (wOf X.mg C E) → (G.lam = true → TabC X C) → es.any starB = false → X.mg f = none → Gl X f → X.mg "range" = none → Gl X "range" → PD X C (.Call (.Name f p) [.Call (.Name "range" p2) es [] pos2] [] pos) (wpE F d E) := by
  intro N sc f es d h X C E p p2 pos pos2 g hn hK tk lm hs hm hg hm2 hg2
  cases es with
  | nil => simp only [compRg] at h; cases h
  | cons a es =>
    cases es with
    | nil =>
      have s1 : starB a = false := by simpa using hs
      simp only [compRg] at h
      split at h
      · rename_i e
        subst e
        obtain ⟨x, h1, rfl⟩ := map1 h
        exact (pf_lrg1 g.calm hg hm hg2 hm2 (S.e _ _ _ _ h1 X C E g hn hK tk lm) (star_one s1)).d
      · split at h
        · rename_i e
          subst e
          obtain ⟨x, h1, rfl⟩ := map1 h
          exact pd_trg1 g.calm hg hm hg2 hm2 (S.e _ _ _ _ h1 X C E g hn hK tk lm) (star_one s1)
        · cases h
    | cons b es =>
      cases es with
      | nil =>
        have s1 : starB a = false ∧ starB b = false := by simpa using hs
        simp only [compRg] at h
        split at h
        · rename_i x y h1 h2
          have sp : (backTo pos2 (starEach [b] X.env)).any (·.1) = false := star_all (by simpa using s1.2)
          split at h
          · rename_i e
            subst e
            cases h
            exact (pf_lrg2 g.calm hg hm hg2 hm2 (S.e _ _ _ _ h1 X C E g hn hK tk lm) (S.e _ _ _ _ h2 X C E g hn hK tk lm) (star_one s1.1) (star_one s1.2) sp).d
          · split at h
            · rename_i e
              subst e
              cases h
              exact pd_trg2 g.calm hg hm hg2 hm2 (S.e _ _ _ _ h1 X C E g hn hK tk lm) (S.e _ _ _ _ h2 X C E g hn hK tk lm) (star_one s1.1) (star_one s1.2) sp
            · cases h
        · cases h
      | cons _ _ => simp only [compRg] at h; cases h
theorem step_l (S : SoundAt G F n) (Sn : SoundAt G.nolam F n) : ∀ N sc elt tg iter ifs scope d, compL (n + 1) G N sc elt tg iter ifs scope = some d → ∀ (X : Cx) (C : Cfg) (E : Str → Prop), Gd G F N sc X → C.n = N.length → C.K = X.K → Takes X (wOf X.mg C E) → (G.lam = true → TabC X C) →
    ∃ elt' tg' it' cd' own, d = .lc elt' tg' it' cd' (own.map (·.2)) ∧ LcOk X C elt tg iter ifs scope own tg' (wpI F it' E) (wpT F cd' fun _ => False) (wpE F elt' fun _ => False) := by
  intro N sc elt tg iter ifs scope d h X C E g hn hK tk lm
  simp only [compL] at h
  split at h
  · rename_i hc
    rw [Bool.and_eq_true, Bool.not_eq_true'] at hc
    split at h
    · rename_i t i c d' h1 h2 h3 h4
      split at h
      · rename_i hs
        cases h
        refine ⟨d', t, i, c, ownOf N scope, rfl, g.calm, by rw [g.hN]; exact g.nd, fun k hk => ?_, S.i _ _ _ _ _ h2 X C E g hn hK tk lm, by rw [g.hN, g.hsc]; exact blkOk_by hc.1, fun s H Ca cl fp C2 e1 e2 => ?_, fun s H Ca cl fp C2 e1 e2 => ?_, fun s H Ca cl fp C2 e1 e2 => ?_, folded_plain hc.2⟩
        · have q := List.all_eq_true.mp hs k hk
          exact List.contains_iff_mem.mp q
        · refine tg_ok (N := N) (st := locB scope) g.hN g.nd (by rw [e1]; exact hn) (by rw [e2]; exact hK) g.calm (fun x hx => ?_) h1
          have q := locB_ok hx
          have keep : ∀ {k : NameKind}, k ≠ .free → scope.names.lookup x = some k → (compEnvC scope cl Ca X.env).scope.names.lookup x = some k := fun {k} hk e => lookup_relS_keep (sc := X.env.scope) hk e
          rcases q with q | q
          · exact ⟨.inl (keep (by decide) q), .inr (keep (by decide) q)⟩
          · refine ⟨.inr (keep (by decide) q), .inl ?_⟩
            show (scope.names.lookup x == some .cell) = true
            rw [q]
            rfl
        · exact Sn.c _ _ _ _ h3 _ C2 _ (g.blk s H scope Ca cl fp) (by rw [e1]; exact hn) (by rw [e2]; exact hK) takesF (fun z => nomatch z)
        · exact Sn.e _ _ _ _ h4 _ C2 _ (g.blk s H scope Ca cl fp) (by rw [e1]; exact hn) (by rw [e2]; exact hK) takesF (fun z => nomatch z)
      · cases h
    · cases h
  · cases h
end
end DP

end
section
set_option Elab.async false
set_option linter.all false
set_option maxRecDepth 100000
set_option autoImplicit false
set_option maxHeartbeats 8000000
namespace DP
open PySem PySem.Spec PyProof.Rows L2
section
variable {G : Sig} {F : Nat → FW} {n : Nat}
theorem list_ok (S : SoundAt G F n) {N : List Str} {sc : Scope} {e : Expr} {es : List Expr} {p pos : Pos} {d : DE} {X : Cx} {C : Cfg} {E : Str → Prop} (h3 : starB e = false ∧ es.any starB = false) (g : Gd G F N sc X) (hn : C.n = N.length) (hK : C.K = X.K) (tk : Takes X (wOf X.mg C E)) (lm : G.lam = true → TabC X C)
    (hm : X.mg "list" = none) (hg : Gl X "list") (s1 : starEach (e :: es) X.env = (false, eval e X.env) :: starEach es X.env) (s2 : (backTo pos (starEach es X.env)).any (·.1) = false)
    (h : (match nameArg N sc (e :: es) with
      | some i => some (DE.listN i)
      | none => (compA n G N sc (e :: es)).map .list) = some d) : PF X C (.Call (.Name "list" p) (e :: es) [] pos) (wpF F d E) ∧ wpE F d E = dLst (wpF F d E) := by
  split at h
  · rename_i i hi
    cases h
    unfold nameArg at hi
    split at hi
    · rename_i x p2 hq
      cases hq
      obtain ⟨q1, q2, q3, q4⟩ := slotOf_get g hi
      exact ⟨pf_listN i g.calm hm hg q1 q2 q3 q4, by rw [wpE, wpF]⟩
    · cases hi
  · obtain ⟨x, q1, rfl⟩ := map1 h
    exact ⟨pfB_list g.calm hm hg (S.a _ _ _ _ q1 X C E g hn hK tk lm) s1 s2, by rw [wpE, wpF]⟩
theorem sorted_ok (S : SoundAt G F n) {N : List Str} {sc : Scope} {e : Expr} {es : List Expr} {p pos : Pos} {d : DE} {X : Cx} {C : Cfg} {E : Str → Prop} (h3 : starB e = false ∧ es.any starB = false) (g : Gd G F N sc X) (hn : C.n = N.length) (hK : C.K = X.K) (tk : Takes X (wOf X.mg C E)) (lm : G.lam = true → TabC X C)
    (hm : X.mg "sorted" = none) (hg : Gl X "sorted") (s1 : starEach (e :: es) X.env = (false, eval e X.env) :: starEach es X.env) (s2 : (backTo pos (starEach es X.env)).any (·.1) = false)
    (h : (match setArg G sc (e :: es) with
      | some e => (compE n G N sc e).map DE.sset
      | none => (match nameArg N sc (e :: es) with
        | some i => some (DE.sortN i)
        | none => (compA n G N sc (e :: es)).map .sorted)) = some d) : PF X C (.Call (.Name "sorted" p) (e :: es) [] pos) (wpF F d E) ∧ wpE F d E = dLst (wpF F d E) := by
  split at h
  · rename_i e' he
    obtain ⟨x, q1, rfl⟩ := map1 h
    unfold setArg at he
    split at he
    · rename_i g' p2 e2 p3 hq
      cases hq
      split at he
      · rename_i hcs
        cases he
        simp only [Bool.and_eq_true, Bool.not_eq_true', decide_eq_true_eq] at hcs
        obtain ⟨⟨⟨e1, e2⟩, e3⟩, e4⟩ := hcs
        subst e1
        exact ⟨pf_sset g.calm g.un hg hm (glB_ok g.hsc e2) (g.bis _ (contains_mem e3)) (S.e _ _ _ _ q1 X C E g hn hK tk lm) (star_one e4), by rw [wpE, wpF]⟩
      · cases he
    · cases he
  split at h
  · rename_i i hi
    cases h
    unfold nameArg at hi
    split at hi
    · rename_i x p2 hq
      cases hq
      obtain ⟨q1, q2, q3, q4⟩ := slotOf_get g hi
      exact ⟨pf_sortN i g.calm g.un hm hg q1 q2 q3 q4, by rw [wpE, wpF]⟩
    · cases hi
  · obtain ⟨x, q1, rfl⟩ := map1 h
    exact ⟨pfB_sorted g.calm g.un hm hg (S.a _ _ _ _ q1 X C E g hn hK tk lm) s1 s2, by rw [wpE, wpF]⟩
theorem step_call (S : SoundAt G F n) {N : List Str} {sc : Scope} {f : Str} {args : List Expr} {p pos : Pos} {d : DE} (hla : lamB args = false) (h : compE (n + 1) G N sc (.Call (.Name f p) args [] pos) = some d) (X : Cx) (C : Cfg) (E : Str → Prop) (g : Gd G F N sc X) (hn : C.n = N.length) (hK : C.K = X.K) (tk : Takes X (wOf X.mg C E)) (lm : G.lam = true → TabC X C) : PD X C (.Call (.Name f p) args [] pos) (wpE F d E) := by
  rw [compE] at h
  rotate_left
  · rintro a1 a2 a3 a4 rfl
    cases hla
  split at h
  · rename_i hc
    simp only [Bool.and_eq_true, Bool.not_eq_true'] at hc
    obtain ⟨⟨⟨h1, h2⟩, h3⟩, h4⟩ := hc
    have hg : Gl X f := glB_ok g.hsc h1
    obtain ⟨n1, n2, n3⟩ := okN_get h2
    cases args with
    | nil => cases h4
    | cons e es =>
      rw [List.any_cons, Bool.or_eq_false_iff] at h3
      have s1 : starEach (e :: es) X.env = (false, eval e X.env) :: starEach es X.env := star_one h3.1
      have s2 : (backTo pos (starEach es X.env)).any (·.1) = false := star_all h3.2
      split at h
      · rename_i k hk
        obtain ⟨x, q1, rfl⟩ := map1 h
        exact pd_callF (g.call hK tk hk) hg (S.x _ _ _ _ q1 X C E g hn hK tk lm) n1 s1 s2
      · split at h
        · rename_i hb
          have hm := g.bis _ (contains_mem hb)
          split at h
          · rename_i hl
            rw [Bool.and_eq_true, decide_eq_true_eq] at hl
            obtain ⟨ef, _⟩ := hl
            subst ef
            obtain ⟨i, q1, rfl⟩ := map1 h
            unfold scrArg at q1
            split at q1
            · rename_i y p2 hq
              split at q1
              · obtain ⟨q1, q2, q3, q4⟩ := slotOf_get g q1
                cases hq
                exact pd_slen i hK hm hg q1 q2 q3 q4
              · cases q1
            · cases q1
          split at h
          · rename_i hl
            rw [Bool.and_eq_true, decide_eq_true_eq] at hl
            obtain ⟨ef, _⟩ := hl
            subst ef
            split at h
            · rename_i y hv
              obtain ⟨x, q1, rfl⟩ := map1 h
              unfold valArg at hv
              split at hv
              · rename_i a' m' ap' p' hq
                split at hv
                · rename_i hcs
                  cases hv
                  simp only [Bool.and_eq_true, Bool.not_eq_true', decide_eq_true_eq] at hcs
                  obtain ⟨⟨e1, e2⟩, e3⟩ := hcs
                  subst e1
                  cases hq
                  exact pd_sumV g.calm hg hm (S.e _ _ _ _ q1 X C E g hn hK tk lm) (base_plain e2) e3
                · cases hv
              · cases hv
            · cases h
          split at h
          · rename_i hr
            obtain ⟨as, hra⟩ := Option.isSome_iff_exists.mp hr
            rw [hra] at h
            unfold rgArg at hra
            split at hra
            · rename_i g' pg as' pos' hq
              cases hq
              split at hra
              · rename_i hcs
                cases hra
                simp only [Bool.and_eq_true, Bool.not_eq_true', decide_eq_true_eq] at hcs
                obtain ⟨⟨⟨e1, e2⟩, e3⟩, e4⟩ := hcs
                subst e1
                exact S.rg _ _ _ _ _ h X C E p _ pos _ g hn hK tk lm e4 hm hg (g.bis _ (contains_mem e3)) (glB_ok g.hsc e2)
              · cases hra
            · cases hra
          split at h
          · rename_i b hbi
            obtain ⟨x, q1, rfl⟩ := map1 h
            have eb := biOf_ok hbi
            subst eb
            exact bi_ok g.calm b hm hg (S.a _ _ _ _ q1 X C E g hn hK tk lm) s1 s2
          · split at h
            · rename_i ef
              subst ef
              obtain ⟨z1, z2⟩ := list_ok S h3 g hn hK tk lm hm hg s1 s2 h
              rw [z2]
              exact z1.d
            · split at h
              · rename_i ef
                subst ef
                obtain ⟨z1, z2⟩ := sorted_ok S h3 g hn hK tk lm hm hg s1 s2 h
                rw [z2]
                exact z1.d
              · split at h
                · rename_i ef
                  subst ef
                  obtain ⟨x, q1, rfl⟩ := map1 h
                  exact (pfd_callTy (cd_dict g.calm g.un) hm (by decide +kernel) (S.a _ _ _ _ q1 X C E g hn hK tk lm) hg (by decide) (by decide) s1 s2).d
                split at h
                · rename_i ef
                  subst ef
                  exact S.is _ _ _ _ h X C E p pos g hn hK tk lm hm hg
                · split at h
                  · rename_i hrp
                    rw [Bool.and_eq_true, decide_eq_true_eq] at hrp
                    obtain ⟨ef, er⟩ := hrp
                    subst ef
                    split at h
                    · rename_i y hy
                      obtain ⟨x, q1, rfl⟩ := map1 h
                      unfold oneArg at hy
                      split at hy
                      · rename_i hq
                        cases hq
                        cases hy
                        exact pd_repr (g.gd er) g.un hg hm (S.e _ _ _ _ q1 X C E g hn hK tk lm) s1
                      · cases hy
                    · cases h
                  · cases h
        · cases h
  · cases h
theorem step_u (S : SoundAt G F n) : ∀ N sc a b d, compSub (n + 1) G N sc a b = some d → ∀ (X : Cx) (C : Cfg) (E : Str → Prop) (pos : Pos), Gd G F N sc X → C.n = N.length → C.K = X.K → Takes X (wOf X.mg C E) → (G.lam = true → TabC X C) → PD X C (.Subscript a b pos) (wpE F d E) := by
  intro N sc a b d h X C E pos g hn hK tk lm
  cases b with
  | Slice lo hi st p2 =>
    simp only [compSub] at h
    split at h
    · split at h
      · rename_i i hi2
        split at h
        · rename_i y z h1 h2
          cases h
          unfold sloArg at hi2
          split at hi2
          · split at hi2
            · obtain ⟨n1, n2, n3, n4⟩ := slotOf_get g hi2
              exact pd_slN i (S.o _ _ _ _ h1 X C E g hn hK tk lm) (S.o _ _ _ _ h2 X C E g hn hK tk lm) n1 n2 n3 n4
            · cases hi2
          · cases hi2
        · cases h
      split at h
      · rename_i x y z h1 h2 h3
        cases h
        exact pd_slice (S.e _ _ _ _ h1 X C E g hn hK tk lm) (S.o _ _ _ _ h2 X C E g hn hK tk lm) (S.o _ _ _ _ h3 X C E g hn hK tk lm)
      · cases h
    · split at h
      · rename_i hc
        simp only [Bool.and_eq_true, Option.isNone_iff_eq_none] at hc
        obtain ⟨⟨h1, rfl⟩, rfl⟩ := hc
        obtain ⟨k, p1, p3, rfl⟩ := isM1_ok h1
        obtain ⟨x, q1, rfl⟩ := map1 h
        exact pd_rev (S.e _ _ _ _ q1 X C E g hn hK tk lm)
      · cases h
  | _ =>
    simp only [compSub] at h
    split at h
    · rename_i i hi
      obtain ⟨y, q1, rfl⟩ := map1 h
      unfold scrArg at hi
      split at hi
      · rename_i x p2 hq
        cases hq
        split at hi
        · obtain ⟨n1, n2, n3, n4⟩ := slotOf_get g hi
          exact pd_six i hK n1 n2 n3 n4 (S.e _ _ _ _ q1 X C E g hn hK tk lm) (slice_plain rfl)
        · cases hi
      · cases hi
    · split at h
      · rename_i x y h1 h2
        cases h
        exact pdB_ix g.un (S.e _ _ _ _ h1 X C E g hn hK tk lm) (S.e _ _ _ _ h2 X C E g hn hK tk lm) (slice_plain rfl)
      · cases h
theorem noArgs_ok {a : Arguments} (h : noArgs a = true) : a = ⟨[], [], none, [], [], none, []⟩ := by
  obtain ⟨a1, a2, a3, a4, a5, a6, a7⟩ := a
  unfold noArgs at h
  simp only [Bool.and_eq_true, List.isEmpty_iff, Option.isNone_iff_eq_none] at h
  obtain ⟨⟨⟨⟨⟨⟨h1, h2⟩, h3⟩, h4⟩, h5⟩, h6⟩, h7⟩ := h
  subst h1 h2 h3 h4 h5 h6 h7
  rfl
theorem step_ref (Sl : SoundAt G.low F n) {N : List Str} {sc : Scope} {f : Str} {args : List Expr} {p pos : Pos} {d : DE} (hla : lamB args = true) (h : compE (n + 1) G N sc (.Call (.Name f p) args [] pos) = some d) (X : Cx) (C : Cfg) (E : Str → Prop) (g : Gd G F N sc X) (hn : C.n = N.length) (hK : C.K = X.K) (tk : Takes X (wOf X.mg C E)) (lm : G.lam = true → TabC X C) : PD X C (.Call (.Name f p) args [] pos) (wpE F d E) := by
  unfold lamB at hla
  split at hla
  · rename_i params body scope lpos
    simp only [compE] at h
    split at h
    · rename_i x k hr
      split at h
      · rename_i hc
        simp only [Bool.and_eq_true, decide_eq_true_eq] at hc
        obtain ⟨⟨⟨⟨⟨h1, h2⟩, h3⟩, h4⟩, h5⟩, h6⟩ := hc
        subst h2
        obtain ⟨b, q1, rfl⟩ := map1 h
        obtain ⟨kk, rm, fs, rf⟩ := g.lam h1
        have ea := noArgs_ok h5
        subst ea
        exact pd_ref (glB_ok g.hsc h3) (rf f k hr) (lm h1) rm (by rw [g.hsc]; exact LamX.lamS_by h6) rfl (fun _ _ _ _ _ => rfl) (fun A outer s H E2 f2 c2 E' C2 e1 e2 rr tk2 => Sl.e _ _ _ _ q1 (LamX.lamCx X A outer s H E2 scope f2 c2) C2 E' (g.low fs rr) (by rw [e1]; exact hn) (by rw [e2]; exact hK) tk2 (fun z => nomatch z)) (okN_get h4).1
      · cases h
    · cases h
  · cases hla
theorem step_e (S : SoundAt G F n) (Sl : SoundAt G.low F n) : ∀ N sc e d, compE (n + 1) G N sc e = some d → ∀ (X : Cx) (C : Cfg) (E : Str → Prop), Gd G F N sc X → C.n = N.length → C.K = X.K → Takes X (wOf X.mg C E) → (G.lam = true → TabC X C) → PD X C e (wpE F d E) := by
  intro N sc e d h X C E g hn hK tk lm
  cases e with
  | Name x p =>
    simp only [compE] at h
    split at h
    · rename_i i hi
      cases h
      obtain ⟨q1, q2, q3, q4⟩ := slotOf_get g hi
      exact pd_var i q1 q2 q3 q4
    · split at h
      · rename_i hc
        rw [Bool.and_eq_true] at hc
        obtain ⟨y, q1, rfl⟩ := map1 h
        obtain ⟨v, u, m1, m2, m3⟩ := g.cst x y q1
        obtain ⟨n1, _, _⟩ := okN_get hc.2
        exact PE_imp (pe_glob (glB_ok g.hsc hc.1) m1 m2 n1) fun σ H Q ⟨r, Q', R, q, k⟩ => k _ H _ (Gr.refl R) (m3 _) q
      · cases h
  | Constant c j p =>
    cases c with
    | int i => simp only [compE] at h; cases h; exact pd_int
    | bool i => simp only [compE] at h; cases h; exact pd_bl
    | str i => simp only [compE] at h; cases h; exact pd_str
    | none => simp only [compE] at h; cases h; exact pd_non
    | _ => simp only [compE] at h; cases h
  | Tuple es k p =>
    simp only [compE] at h
    obtain ⟨x, q1, rfl⟩ := map1 h
    exact pd_tup (S.a _ _ _ _ q1 X C E g hn hK tk lm)
  | List es p =>
    simp only [compE] at h
    obtain ⟨x, q1, rfl⟩ := map1 h
    exact (pf_lst (S.a _ _ _ _ q1 X C E g hn hK tk lm)).d
  | Dict ks vs p =>
    cases ks with
    | nil =>
      cases vs with
      | nil =>
        simp only [compE] at h
        cases h
        exact pd_dict0
      | cons _ _ => simp [compE] at h
    | cons k ks =>
      cases vs with
      | nil => simp [compE] at h
      | cons v vs =>
        cases ks with
        | cons _ _ => simp [compE] at h
        | nil =>
          cases vs with
          | cons _ _ => simp [compE] at h
          | nil =>
            cases k with
            | none => simp [compE] at h
            | some k =>
              by_cases hi : ∃ i a1 a2 j b1 b2, k = .Constant (.int i) a1 a2 ∧ v = .Constant (.int j) b1 b2
              · obtain ⟨i, a1, a2, j, b1, b2, rfl, rfl⟩ := hi
                simp only [compE] at h
                cases h
                exact pd_dict1
              · rw [compE] at h
                · split at h
                  · rename_i x y h1 h2
                    cases h
                    exact (pfd_one g.un (S.e _ _ _ _ h1 X C E g hn hK tk lm) (S.e _ _ _ _ h2 X C E g hn hK tk lm)).d
                  · cases h
                · intro i a1 a2 j b1 b2 e1 e2
                  exact hi ⟨i, a1, a2, j, b1, b2, e1, e2⟩
  | BinOp a o b p =>
    simp only [compE] at h
    split at h
    · rename_i ho
      split at h
      · rename_i x y h1 h2
        cases h
        exact pd_op (bin_ok o (opOk_ok ho)) (S.e _ _ _ _ h1 X C E g hn hK tk lm) (S.e _ _ _ _ h2 X C E g hn hK tk lm)
      · cases h
    · cases h
  | UnaryOp o a p =>
    cases o with
    | USub =>
      simp only [compE] at h
      obtain ⟨x, q1, rfl⟩ := map1 h
      exact pdB_neg (S.e _ _ _ _ q1 X C E g hn hK tk lm)
    | Not =>
      simp only [compE] at h
      obtain ⟨x, q1, rfl⟩ := map1 h
      exact pdB_not (S.e _ _ _ _ q1 X C E g hn hK tk lm)
    | _ => simp only [compE] at h; cases h
  | Compare a os bs p =>
    cases os with
    | nil => simp [compE] at h
    | cons o os =>
      cases os with
      | nil =>
        cases bs with
        | nil => simp [compE] at h
        | cons b bs =>
          cases bs with
          | nil =>
            simp only [compE] at h
            split at h
            · cases h
            · rename_i hs
              split at h
              · rename_i q hq
                obtain ⟨rfl, hq⟩ := ni_get hq
                obtain ⟨y, q1, rfl⟩ := map1 h
                obtain ⟨p', a', rfl, g1, g2, g3, g4⟩ := cd_get g hq
                exact pd_cin g4 g1 g2 g3 (set_marks (by simpa using hs)) (S.e _ _ _ _ q1 X C E g hn hK tk lm)
              · split at h
                · rename_i x y h1 h2
                  cases h
                  exact pd_cmp (cmp_ok g.un _) (S.e _ _ _ _ h1 X C E g hn hK tk lm) (S.e _ _ _ _ h2 X C E g hn hK tk lm) (set_marks (by simpa using hs))
                · cases h
          | cons _ _ => simp [compE] at h
      | cons o' os =>
        cases os with
        | nil =>
          cases bs with
          | nil => simp [compE] at h
          | cons b bs =>
            cases bs with
            | nil => simp [compE] at h
            | cons c bs =>
              cases bs with
              | nil =>
                simp only [compE] at h
                split at h
                · cases h
                · rename_i hs
                  split at h
                  · rename_i x y z h1 h2 h3
                    cases h
                    exact pdB_chain (cmp_ok g.un _) (cmp_ok g.un _) (S.e _ _ _ _ h1 X C E g hn hK tk lm) (S.e _ _ _ _ h2 X C E g hn hK tk lm) (S.e _ _ _ _ h3 X C E g hn hK tk lm) (set_marks (by simpa using hs))
                  · cases h
              | cons _ _ => simp [compE] at h
        | cons _ _ => simp [compE] at h
  | BoolOp op es p =>
    simp only [compE] at h
    exact S.b _ _ _ _ _ h X C E p g hn hK tk lm
  | IfExp c a b p =>
    simp only [compE] at h
    split at h
    · rename_i x y z h1 h2 h3
      cases h
      exact pd_ifExp (S.t _ _ _ _ h1 X C E g hn hK tk lm) (S.e _ _ _ _ h2 X C E g hn hK tk lm) (S.e _ _ _ _ h3 X C E g hn hK tk lm)
    · cases h
  | Call fn args kws p =>
    cases fn with
    | Name f q =>
      cases kws with
      | nil =>
        by_cases hla : lamB args = true
        · exact step_ref Sl hla h X C E g hn hK tk lm
        · exact step_call S (Bool.eq_false_iff.mpr hla) h X C E g hn hK tk lm
      | cons _ _ => simp only [compE] at h; cases h
    | Attribute a m ap =>
      cases args with
      | nil => simp [compE] at h
      | cons b args =>
        cases args with
        | cons _ _ => simp [compE] at h
        | nil =>
          cases kws with
          | cons _ _ => simp [compE] at h
          | nil =>
            simp only [compE] at h
            split at h
            · rename_i hc
              simp only [Bool.and_eq_true, Bool.not_eq_true', decide_eq_true_eq] at hc
              obtain ⟨⟨⟨e1, e2⟩, e3⟩, e4⟩ := hc
              subst e1
              split at h
              · rename_i x y h1 h2
                cases h
                have st : starEach [b] X.env = (false, eval b X.env) :: starEach [] X.env := star_one e2
                have few : ((((backTo p (starEach [b] X.env)).all fun x => !x.1) && (backToKw p (keywordEach [] X.env)).all fun x => x.1.isSome) && decide (([b].length + ([] : List Keyword).length + if ([] : List Keyword).isEmpty = true then 0 else 1) < 30)) = true := by
                  rw [st]
                  rfl
                exact pd_idx (p := p) g.un (S.e _ _ _ _ h1 X C E g hn hK tk lm) (S.e _ _ _ _ h2 X C E g hn hK tk lm) (base_plain e3) few e4 st
              · cases h
            · cases h
    | _ => simp only [compE] at h; cases h
  | Subscript a b p =>
    simp only [compE] at h
    split at h
    · rename_i q hq
      obtain ⟨p', a', rfl, g1, g2, g3, g4⟩ := cd_get g hq
      split at h
      · cases h
      · rename_i hb
        obtain ⟨y, q1, rfl⟩ := map1 h
        exact pd_cix g4 g1 g2 g3 (S.e _ _ _ _ q1 X C E g hn hK tk lm) (slice_plain (by simpa using hb))
    · exact S.u _ _ _ _ _ h X C E p g hn hK tk lm
  | ListComp elt gens scope p =>
    simp only [compE] at h
    split at h
    · split at h
      · rename_i ha
        subst ha
        obtain ⟨e', t', i', c', own, rfl, ok⟩ := S.l _ _ _ _ _ _ _ _ h X C E g hn hK tk lm
        exact (pf_lc ok).d
      · cases h
    · cases h
  | _ => simp only [compE] at h; cases h
theorem soundN (F : Nat → FW) : ∀ (n : Nat) (G : Sig), SoundAt G F n
  | 0, G => ⟨fun _ _ _ _ h => by simp [compE] at h, fun _ _ _ _ h => by simp [compA] at h, fun _ _ _ _ h => by simp [compX] at h, fun _ _ _ _ h => by simp [compO] at h, fun _ _ _ _ h => by simp [compT] at h, fun _ _ _ _ _ h => by simp [compB] at h, fun _ _ _ _ _ h => by simp [compW] at h, fun _ _ _ _ h => by simp [compC] at h,
    fun _ _ _ _ _ h => by simp [compI] at h, fun _ _ _ _ _ _ _ _ h => by simp [compL] at h, fun _ _ _ _ _ _ h => by simp [compR] at h, fun _ _ _ _ _ h => by simp [compSub] at h, fun _ _ _ _ _ _ _ h => by simp [compE] at h, fun _ _ _ _ h => by simp [compIs] at h, fun _ _ _ _ _ h => by simp [compRg] at h⟩
  | n + 1, G => by
    have S := soundN F n G
    have Sn := soundN F n G.nolam
    have Sl := soundN F n G.low
    exact ⟨step_e S Sl, step_a S, step_x S, step_o S, step_t S, step_b S, step_w S, step_c S, step_i S, step_l S Sn, step_r S, step_u S, fun N sc a os bs p d h X C E g hn hK tk lm => cmp_test S h X C E g hn hK tk lm, step_is S, step_rg S⟩
theorem sound (G : Sig) (F : Nat → FW) (n : Nat) : SoundAt G F n := soundN F n G
end
end DP

end
section
set_option Elab.async false
set_option linter.all false
set_option maxRecDepth 100000
set_option autoImplicit false
set_option maxHeartbeats 4000000
namespace DP
open PySem PySem.Spec PyProof.Rows L2
/-! ### x[i], x[j] = x[j], x[i] of a list of one's own -/
theorem RpA.set {H : Hp} : ∀ {vs : List V} {ds : List PyData} (i : Nat) {v : V} {d : PyData}, RpA H vs ds → Rp H v d → RpA H (vs.set i v) (ds.set i d)
  | _, _, _, _, _, .nil, _ => .nil
  | _, _, 0, _, _, .cons _ t, h => .cons h t
  | _, _, i + 1, _, _, .cons a t, h => .cons a (RpA.set i t h)
def sSwap (i j k : Nat) : TSD := fun D r => oLst i (fun xs => ∃ a b : Nat, r[j]? = some (some (.d (.int (a : Int)))) ∧ r[k]? = some (some (.d (.int (b : Int)))) ∧ a < xs.length ∧ b < xs.length ∧
  D.nx (r.set i (some (.m (.lst ((xs.set a (xs.getD b .none)).set b (xs.getD a .none))))))) r
section
variable {X : Cx} {C : Cfg}
/-- a name that is seen -/
structure VarOk (X : Cx) (i : Nat) (x : Str) : Prop where
  n : X.N[i]? = some x
  v : Vis X.env.scope x
  d : (x == ("__debug__" : Str)) = false
  c : (x == ("__classdict__" : Str)) = false
theorem VarOk.pe {i : Nat} {x : Str} {p : Pos} (h : VarOk X i x) : PE X (.Name x p) (tVar i) := pe_var h.n h.v h.d h.c
theorem swapped_none {a b c d i j e f : Expr} {p1 p2 : Pos} {k k2 : Nat} {p4 p5 p6 p7 : Pos} {env : Env} : swappedStores [.Tuple [.Subscript a i p4, .Subscript b j p5] k p1] (.Tuple [.Subscript c e p6, .Subscript d f p7] k2 p2) env = pure none := by
  unfold swappedStores
  simp only [List.length_cons, List.length_nil, List.filterMap_cons, List.filterMap_nil]
  cases (env.blockKind != .function) with
  | true => rfl
  | false => rfl
theorem atI_nat {xs : List V} {i : Nat} {v : V} (h : xs[i]? = some v) : atI xs (i : Int) = some v := by
  have hl : i < xs.length := (List.getElem?_eq_some_iff.mp h).1
  have e : ixN xs.length (i : Int) = some i := by
    unfold ixN
    rw [if_pos (by omega)]
    rw [if_pos (by omega)]
    simp
  unfold atI
  rw [e]
  exact h
theorem ixN_nat {n i : Nat} (h : i < n) : ixN n (i : Int) = some i := by
  unfold ixN
  rw [if_pos (by omega)]
  rw [if_pos (by omega)]
  simp
theorem psd_swap {i j k : Nat} {x y z : Str} {p1 p2 p3 p4 p5 p6 p7 p8 q1 q2 q3 q4 t1 t2 pos : Pos} {n1 n2 : Nat} (hc : X.calm = true) (hK : C.K = X.K) (vx : VarOk X i x) (vy : VarOk X j y) (vz : VarOk X k z) :
    PSD X C (.Assign [.Tuple [.Subscript (.Name x p1) (.Name y p2) q1, .Subscript (.Name x p3) (.Name z p4) q2] n1 t1] (.Tuple [.Subscript (.Name x p5) (.Name z p6) q3, .Subscript (.Name x p7) (.Name y p8) q4] n2 t2) pos) (sSwap i j k) := by
  have ix : ∀ {m : Nat} {y : Str} {p q pp : Pos}, VarOk X m y → PE X (.Subscript (.Name x p) (.Name y q) pp) (tOp (fun x y H Q => ∃ p xs i v, x = .ref p ∧ y = .int i ∧ SqL X.K H p xs ∧ atI xs i = some v ∧ Q v H) (tVar i) (tVar m)) := fun v => pe_ix ix_list vx.pe v.pe (fun _ _ => rfl)
  refine PS_imp (ps_asg (pe_tup (pa_cons (ix vz) (pa_cons (ix vy) pa_nil))) (pg_tup hc (pgs_cons (pg_sub vx.pe vy.pe set_list) (pgs_cons (pg_sub vx.pe vz.pe set_list) pgs_nil))) rfl swapped_none rfl) fun D σ H ⟨r, D', R, w, kk⟩ => ?_
  obtain ⟨a, xs, e1, A, B, ej, ek, hA, hB, q⟩ := oLst_get w
  obtain ⟨v, e2, rfl, vs, h2, h3, h4⟩ := R.slot i _ e1
  have ej' := er_d ej
  have ek' := er_d ek
  obtain ⟨vj, ej2, rj⟩ := R.slot j _ ej'
  obtain ⟨vk, ek2, rk⟩ := R.slot k _ ek'
  have hj := rp_int rj
  have hk := rp_int rk
  subst hj hk
  have ns : ∀ ys, MO.lst ys ≠ .st := fun ys z => by cases z
  have lv := h4.length
  obtain ⟨dA, eA⟩ : ∃ d, xs[A]? = some d := ⟨_, List.getElem?_eq_getElem hA⟩
  obtain ⟨dB, eB⟩ : ∃ d, xs[B]? = some d := ⟨_, List.getElem?_eq_getElem hB⟩
  obtain ⟨wA, fA, rA⟩ := h4.get eA
  obtain ⟨wB, fB, rB⟩ := h4.get eB
  have gA : xs.getD A .none = dA := by rw [List.getD_eq_getElem?_getD, eA]; rfl
  have gB : xs.getD B .none = dB := by rw [List.getD_eq_getElem?_getD, eB]; rfl
  rw [gA, gB] at q
  have sq : SqL X.K H a vs := .inl (.inl h2)
  refine ⟨_, e2, _, ek2, a, vs, (B : Int), wB, rfl, rfl, sq, atI_nat fB, _, e2, _, ej2, a, vs, (A : Int), wA, rfl, rfl, sq, atI_nat fA, by show 2 ≤ sizeLine; rw [sizeLine_eq]; omega, fun T hT => ?_⟩
  have sm := same_new (o := .tup [wB, wA]) hT
  have g := Gr.of_same R sm
  have R1 := R.grow g
  have h2' := sm _ _ h2
  have neT : a ≠ T := fun z => by rw [z, hT] at h2; cases h2
  refine ⟨T, [wB, wA], rfl, .inl (.inl upd_same), rfl, wB, [wA], rfl, _, e2, _, ej2, a, vs, (A : Int), A, rfl, rfl, h2', ixN_nat (by omega), wA, [], rfl, _, e2, _, ek2, a, vs.set A wB, (B : Int), B, rfl, rfl, upd_same, ixN_nat (by rw [List.length_set]; omega), rfl, ?_⟩
  have e1' := e1
  have keep : ∀ (ys : List V) (H' : Hp), Same (hd H (C.O ++ oA r)) (hd (upd (upd H T (.tup [wB, wA])) a (.lst ys)) (C.O ++ oA r)) := fun ys _ b o z => by
    obtain ⟨z1, z2⟩ := hd_some z
    have na : b ≠ a := fun q => z1 (by rw [q]; exact List.mem_append_right _ (mem_oA.mpr ⟨i, _, e1⟩))
    rw [hd_out z1, upd_ne na]
    exact sm _ _ z2
  have uu : ∀ (u1 u2 : HO), upd (upd (upd H T (.tup [wB, wA])) a u1) a u2 = upd (upd H T (.tup [wB, wA])) a u2 := fun u1 u2 => by
    funext b
    by_cases hb : b = a
    · subst hb; rw [upd_same, upd_same]
    · rw [upd_ne hb, upd_ne hb, upd_ne hb]
  rw [uu]
  refine kk.1 σ _ _ (R1.change e1 (ns _) (ns ((xs.set A dB).set B dA)) ⟨(vs.set A wB).set B wA, upd_same, by rw [List.length_set, List.length_set]; exact h3, ?_⟩) (by rw [er_set]; exact q)
  exact ((h4.set A rB).set B rA).up (keep _ H)
end
end DP

end
section
set_option Elab.async false
set_option linter.all false
set_option maxRecDepth 100000
set_option autoImplicit false
set_option maxHeartbeats 8000000
namespace DP
open PySem PySem.Spec PyProof.Rows L2
/-! ### statements -/
mutual
inductive DS where
  | set (i : Nat) (e : DE)
  | setB (j i : Nat) (e : DE)
  | setF (i : Nat) (e : DE)
  | setS (i : Nat) (f : Nat) (n : Nat) (a : DX)
  | setC (i : Nat) (f : Nat) (n : Nat) (a : DX)
  | unp (tg : Tg) (e : DE)
  | app (i : Nat) (e : DE)
  | appB (i : Nat) (e : DE)
  | ext (i : Nat) (e : DE)
  | upd (i : Nat) (e : DE)
  | ret (e : DE)
  | retF (e : DE)
  | retC (f : Nat) (n : Nat) (a : DX)
  | retO (i : Nat)
  | retN
  | ite (c : DT) (a b : DSs)
  | iteB (is : List Nat) (c : DT) (a b : DSs)
  | for_ (tg : Tg) (it : DI) (body : DSs)
  | while_ (c : DT) (body : DSs)
  | whileB (is : List Nat) (c : DT) (body : DSs)
  | setD (i : Nat) (e : DE)
  | put (i : Nat) (k v : DE)
  | swap (i j k : Nat)
  | exp (e : DE)
  | raise (c : Str)
  | cont
  | pass
  | frz (is : List Nat) (s : DS)
inductive DSs where
  | nil
  | cons (s : DS) (r : DSs)
end
def sFrzs (is : List Nat) (t : TSD) : TSD := is.foldr sFrz t
/-- a test that reads lists of one's own: they stay so -/
def tBor (i : Nat) (t : TTD) : TTD := fun r Q => frz1 i (fun r' => t r' Q) r
def tBors (is : List Nat) (t : TTD) : TTD := is.foldr tBor t
/-- x.append(e) where e reads x and is a number -/
def sAppB (i : Nat) (te : TD) : TSD := fun D r => oLst i (fun xs => te (r.set i (some (.d (.list xs)))) fun y => (∃ j, y = .int j) ∧ xs.length < sizeLine ∧ D.nx (r.set i (some (.m (.lst (xs ++ [y])))))) r
/-- x = e where e reads a dict of one's own and is a list of numbers: the dict stays so -/
def sSetB (j i : Nat) (te : TD) : TSD := fun D r => oDct j (fun kvs => te (r.set j (some (.d (.dict kvs)))) fun y => (∃ ns : List Int, y = .list (ns.map PyData.int)) ∧ D.nx (r.set i (some (.d y)))) r
def sUnp (tg : Tg) (te : TD) : TSD := fun D r => te r fun x => bindT tg x r D.nx
section
variable (F : Nat → FW)
mutual
def wpS : DS → (Str → Prop) → TSD
  | .set i e, E => sSet i (wpE F e E)
  | .setB j i e, E => sSetB j i (wpE F e E)
  | .setF i e, E => sSetF i (wpF F e E)
  | .setS i f n a, E => sSetS i n (F f) E (wpX F a E)
  | .setC i f n a, E => sSetC i n (F f) E (wpX F a E)
  | .unp tg e, E => sUnp tg (wpE F e E)
  | .app i e, E => sApp i (wpE F e E)
  | .appB i e, E => sAppB i (wpE F e E)
  | .ext i e, E => sExt i (wpE F e E)
  | .upd i e, E => sUpd i (wpE F e E)
  | .ret e, E => sRet (wpE F e E)
  | .retF e, E => sRetF (wpF F e E)
  | .retC f n a, E => sRetC n (F f) E (wpX F a E)
  | .retO i, _ => sRetO i
  | .retN, _ => sRetN
  | .ite c a b, E => sIf (wpT F c E) (wpSs a E) (wpSs b E)
  | .iteB is c a b, E => sIf (tBors is (wpT F c E)) (wpSs a E) (wpSs b E)
  | .for_ tg it body, E => sFor tg (wpI F it E) (wpSs body E)
  | .while_ c body, E => sWhile (wpT F c E) (wpSs body E)
  | .whileB is c body, E => sWhile (tBors is (wpT F c E)) (wpSs body E)
  | .setD i e, E => sSetD i (wpFd F e E)
  | .put i k v, E => sPut i (wpE F k E) (wpE F v E)
  | .swap i j k, _ => sSwap i j k
  | .exp e, E => sDrop (wpE F e E)
  | .raise c, E => sRaise E c
  | .cont, _ => sCont
  | .pass, _ => sNext
  | .frz is s, E => sFrzs is (wpS s E)
def wpSs : DSs → (Str → Prop) → TSD
  | .nil, _ => sNext
  | .cons s r, E => sSeq (wpS s E) (wpSs r E)
end
end
/-! ### from the model's syntax -/
structure Hint where
  own : List Str
  sts : List Str
  dct : List Str := []
  slo : List Str := []
  bor : List Str := []
mutual
def namesE (dc sl : List Str) : Nat → Expr → List Str
  | 0, _ => []
  | _ + 1, .Name x _ => [x]
  | n + 1, .Tuple es _ _ => namesEs dc sl n es
  | n + 1, .List es _ => namesEs dc sl n es
  | n + 1, .BinOp a _ b _ => namesE dc sl n a ++ namesE dc sl n b
  | n + 1, .UnaryOp _ a _ => namesE dc sl n a
  | n + 1, .Compare a _ bs _ => namesE dc sl n a ++ namesEs dc sl n bs
  | n + 1, .BoolOp _ es _ => namesEs dc sl n es
  | n + 1, .IfExp c a b _ => namesE dc sl n c ++ (namesE dc sl n a ++ namesE dc sl n b)
  | _ + 1, .Call (.Name f _) [.Name x _] [] _ => if (decide (f = "list") || decide (f = "sorted")) && dc.contains x then [] else [f, x]
  | n + 1, .Call f args _ _ => namesE dc sl n f ++ namesEs dc sl n args
  | n + 1, .Attribute a _ _ => namesE dc sl n a
  | n + 1, .Subscript (.Name x _) (.Slice lo hi none _) _ => (if sl.contains x then [] else [x]) ++ (namesO dc sl n lo ++ namesO dc sl n hi)
  | n + 1, .Subscript a b _ => namesE dc sl n a ++ namesE dc sl n b
  | n + 1, .Slice lo hi st _ => namesO dc sl n lo ++ (namesO dc sl n hi ++ namesO dc sl n st)
  | n + 1, .ListComp elt gs _ _ => namesE dc sl n elt ++ namesG dc sl n gs
  | _ + 1, _ => []
def namesEs (dc sl : List Str) : Nat → List Expr → List Str
  | 0, _ => []
  | _ + 1, [] => []
  | n + 1, e :: es => namesE dc sl n e ++ namesEs dc sl n es
def namesO (dc sl : List Str) : Nat → Option Expr → List Str
  | 0, _ => []
  | _ + 1, none => []
  | n + 1, some e => namesE dc sl n e
def namesG (dc sl : List Str) : Nat → List Comprehension → List Str
  | 0, _ => []
  | _ + 1, [] => []
  | n + 1, ⟨_, i, ifs, _⟩ :: gs => namesE dc sl n i ++ (namesEs dc sl n ifs ++ namesG dc sl n gs)
end
/-- the owned lists that an expression reads -/
def frzOf (h : Hint) (N : List Str) (e : Expr) : List Nat := ((namesE h.dct h.slo 30 e).filter fun x => h.own.contains x).eraseDups.filterMap (findIx N)
def withFrz (is : List Nat) (s : DS) : DS := match is with
  | [] => s
  | _ => .frz is s
def withBor (is : List Nat) (c : DT) (a b : DSs) : DS := match is with
  | [] => .ite c a b
  | _ => .iteB is c a b
def withBorW (is : List Nat) (c : DT) (a : DSs) : DS := match is with
  | [] => .while_ c a
  | _ => .whileB is c a
def setFrz (h : Hint) (N : List Str) (is : List Nat) (i : Nat) (d : DE) : DS := match is with
  | [j] => if (h.bor.filterMap (findIx N)).contains j then .setB j i d else .frz [j] (.set i d)
  | is => withFrz is (.set i d)
def compFd (n : Nat) (G : Sig) (N : List Str) (sc : Scope) : Expr → Option DE
  | .Dict [] [] _ => some .dict0
  | .Dict [some k] [v] _ => (match compE n G N sc k, compE n G N sc v with
    | some x, some y => some (.dct1 x y)
    | _, _ => none)
  | .Call (.Name f _) args [] _ => if f = "dict" && glB sc f && okN f && !args.any starB && !args.isEmpty && G.bis.contains f then (compA n G N sc args).map .dictP else none
  | _ => none
def compF (n : Nat) (G : Sig) (N : List Str) (sc : Scope) : Expr → Option DE
  | .List es _ => (compA n G N sc es).map .lst
  | .ListComp elt gs scope _ => (match gs with
    | [⟨tg, iter, ifs, as⟩] => if as = 0 then compL n G N sc elt tg iter ifs scope else none
    | _ => none)
  | .BinOp a .Add b _ => (match compE n G N sc a, compE n G N sc b with
    | some x, some y => some (.bin .Add x y)
    | _, _ => none)
  | .BinOp (.List es _) .Mult b _ => (match compA n G N sc es, compE n G N sc b with
    | some x, some y => some (.bin .Mult (.lst x) y)
    | _, _ => none)
  | .Call (.Name f _) args [] _ => if glB sc f && okN f && !args.any starB && !args.isEmpty then
      (match G.funs.lookup f with
      | some k => (compX n G N sc args).map (.call k.1 k.2)
      | none => if G.bis.contains f then (if (rgArg G sc args).isSome then none else if f = "list" then (match nameArg N sc args with
          | some i => some (.listN i)
          | none => (compA n G N sc args).map .list)
        else if f = "sorted" then (match setArg G sc args with
          | some e => (compE n G N sc e).map .sset
          | none => (match nameArg N sc args with
            | some i => some (.sortN i)
            | none => (compA n G N sc args).map .sorted))
        else none) else none) else none
  | _ => none
/-- a call of a def -/
def compCall (n : Nat) (G : Sig) (N : List Str) (sc : Scope) : Expr → Option (Nat × Nat × DX)
  | .Call (.Name f _) args [] _ => if glB sc f && okN f && !args.any starB && !args.isEmpty then
      (match G.funs.lookup f, compX n G N sc args with
      | some k, some a => some (k.1, k.2, a)
      | _, _ => none) else none
  | _ => none
def lcB : Expr → Bool
  | .ListComp .. => true
  | .SetComp .. => true
  | .DictComp .. => true
  | _ => false
def tupB' : Expr → Bool
  | .Tuple .. => true
  | _ => false
def compSet (n : Nat) (G : Sig) (N : List Str) (sc : Scope) (h : Hint) (x : Str) (e : Expr) : Option DS := if locB sc x && okN x then (match findIx N x with
  | some i => if h.sts.contains x then (compCall n G N sc e).map fun c => .setS i c.1 c.2.1 c.2.2
    else if h.dct.contains x then (match compFd n G N sc e with
      | some d => some (withFrz (frzOf h N e) (.setD i d))
      | none => none)
    else if h.own.contains x then (match compCall n G N sc e with
      | some c => some (withFrz (frzOf h N e) (.setC i c.1 c.2.1 c.2.2))
      | none => (match compF n G N sc e with
        | some d => some (withFrz (frzOf h N e) (.setF i d))
        | none => if lcB e then none else (compE n G N sc e).map fun d => withFrz (frzOf h N e) (.set i d)))
    else (compE n G N sc e).map fun d => setFrz h N (frzOf h N e) i d
  | none => none) else none
def binB : Expr → Bool
  | .BinOp .. => true
  | _ => false
def compRet (n : Nat) (G : Sig) (N : List Str) (sc : Scope) (h : Hint) (e : Expr) : Option DS := match e with
  | .Name x _ => if h.own.contains x then (slotOf N sc x).map .retO else (compE n G N sc e).map .ret
  | _ => (match compCall n G N sc e with
    | some c => some (withFrz (frzOf h N e) (.retC c.1 c.2.1 c.2.2))
    | none => (match (if binB e then none else compF n G N sc e) with
      | some d => some (withFrz (frzOf h N e) (.retF d))
      | none => (compE n G N sc e).map fun d => withFrz (frzOf h N e) (.ret d)))
def compM (n : Nat) (G : Sig) (N : List Str) (sc : Scope) (h : Hint) (x : Str) (m : Str) (e : Expr) (ap cp : Pos) : Option DS := if starB e || !(ap.endLine == cp.line) then none else (match slotOf N sc x, compE n G N sc e with
  | some i, some d => if m = "append" then some (if (namesE h.dct h.slo 30 e).contains x then .appB i d else .app i d) else if m = "extend" then some (.ext i d) else if m = "update" then (if h.dct.contains x then some (withFrz (frzOf h N e) (.upd i d)) else none) else none
  | _, _ => none)
def compP (n : Nat) (G : Sig) (N : List Str) (sc : Scope) (h : Hint) (x y : Str) (lx ly : Nat) (a b : Expr) : Option DS :=
  if locB sc x && locB sc y && !decide (x = y) && !starB a && !starB b && (!([a, b].all (constantsAlone 8)) || [a, b].all (foldedForSure 8)) then (match findIx N x, findIx N y, compE n G N sc a, compE n G N sc b with
    | some i, some j, some d, some d' => some (withFrz (frzOf h N a ++ frzOf h N b) (.unp (.two i j) (.tup (.cons d (.cons d' .nil)))))
    | _, _, _, _ => none) else none
/-- x[y] -/
def subN : Expr → Option (Str × Str)
  | .Subscript (.Name x _) (.Name y _) _ => some (x, y)
  | _ => none
/-- x[y], x[z] = x[z], x[y] -/
def compSw (N : List Str) (sc : Scope) (h : Hint) (ts : List Expr) (a b : Expr) : Option DS := match ts with
  | [t1, t2] => (match subN t1, subN t2, subN a, subN b with
    | some (x, y), some (x2, z), some (x3, z2), some (x4, y2) => if decide (x2 = x) && decide (x3 = x) && decide (x4 = x) && decide (z2 = z) && decide (y2 = y) && h.own.contains x then (match slotOf N sc x, slotOf N sc y, slotOf N sc z with
      | some i, some j, some k => some (.swap i j k)
      | _, _, _ => none) else none
    | _, _, _, _ => none)
  | _ => none
def compU (n : Nat) (G : Sig) (N : List Str) (sc : Scope) (h : Hint) (ts : List Expr) (k : Nat) (p : Pos) (e : Expr) : Option DS := match e with
  | .Tuple [a, b] _ _ => (match ts with
    | [.Name x px, .Name y py] => compP n G N sc h x y px.line py.line a b
    | _ => compSw N sc h ts a b)
  | e => if tupB' e then none else (match compTg N (locB sc) (.Tuple ts k p), compE n G N sc e with
    | some t, some d => some (withFrz (frzOf h N e) (.unp t d))
    | _, _ => none)
mutual
def compS : Nat → Sig → List Str → Scope → Hint → Stmt → Option DS
  | 0, _, _, _, _, _ => none
  | n + 1, G, N, sc, h, .Assign [.Name x _] e _ => compSet n G N sc h x e
  | n + 1, G, N, sc, h, .Assign [.Tuple ts k p] e _ => compU n G N sc h ts k p e
  | n + 1, G, N, sc, h, .Assign [.Subscript (.Name x _) k _] v _ => if h.dct.contains x && !lcB v then (match slotOf N sc x, compE n G N sc k, compE n G N sc v with
    | some i, some a, some b => some (withFrz (frzOf h N k ++ frzOf h N v) (.put i a b))
    | _, _, _ => none) else none
  | n + 1, G, N, sc, h, .Expr (.Call (.Attribute (.Name x _) m ap) [e] [] cp) _ => compM n G N sc h x m e ap cp
  | _ + 1, _, _, _, _, .Expr (.Constant (.str _) _ _) _ => some .pass
  | n + 1, G, N, sc, h, .Expr e _ => if lcB e then none else (compE n G N sc e).map fun d => withFrz (frzOf h N e) (.exp d)
  | _ + 1, _, _, _, _, .Return none _ => some .retN
  | n + 1, G, N, sc, h, .Return (some e) _ => compRet n G N sc h e
  | n + 1, G, N, sc, h, .If c a b _ => (match compT n G N sc c, compSs n G N sc h a, compSs n G N sc h b with
    | some x, some y, some z => some (withBor (frzOf h N c) x y z)
    | _, _, _ => none)
  | n + 1, G, N, sc, h, .For tg it body [] _ => if setB it then none else (match compTg N (locB sc) tg, compI n G N sc tg it, compSs n G N sc h body with
    | some x, some y, some z => some (withFrz (frzOf h N it) (.for_ x y z))
    | _, _, _ => none)
  | n + 1, G, N, sc, h, .While c body [] _ => (match compT n G N sc c, compSs n G N sc h body with
    | some x, some y => some (withBorW (frzOf h N c) x y)
    | _, _ => none)
  | _ + 1, G, _, sc, _, .Raise (some (.Call (.Name c _) [.Constant (.str _) _ _] [] _)) none _ => if glB sc c && okN c && G.excs.contains c then some (.raise c) else none
  | _ + 1, _, _, _, _, .Pass _ => some .pass
  | _ + 1, _, _, _, _, .Continue _ => some .cont
  | _ + 1, _, _, _, _, _ => none
def compSs : Nat → Sig → List Str → Scope → Hint → List Stmt → Option DSs
  | 0, _, _, _, _, _ => none
  | _ + 1, _, _, _, _, [] => some .nil
  | n + 1, G, N, sc, h, s :: r => (match compS n G N sc h s, compSs n G N sc h r with
    | some x, some y => some (.cons x y)
    | _, _ => none)
end
/-! ### the reading is kept -/
section
variable {G : Sig} {F : Nat → FW} {n : Nat} {N : List Str} {sc : Scope} {X : Cx} {C : Cfg} {E : Str → Prop}
theorem frzs_ok {st : Stmt} {t : TSD} (h : PSD X C st t) : ∀ is : List Nat, PSD X C st (sFrzs is t)
  | [] => h
  | i :: is => psd_frz i (frzs_ok h is)
theorem withFrz_ok {st : Stmt} {s : DS} (is : List Nat) (h : PSD X C st (wpS F s E)) : PSD X C st (wpS F (withFrz is s) E) := by
  unfold withFrz
  split
  · exact h
  · exact frzs_ok h _
theorem setFrz_ok {st : Stmt} {h : Hint} {is : List Nat} {i : Nat} {d : DE} (q : PSD X C st (sSet i (wpE F d E)) ∧ ∀ j, PSD X C st (sSetB j i (wpE F d E))) : PSD X C st (wpS F (setFrz h N is i d) E) := by
  unfold setFrz
  split
  · split
    · exact q.2 _
    · exact frzs_ok (st := st) (t := sSet i (wpE F d E)) q.1 [_]
  · exact withFrz_ok _ q.1
theorem gr_frz {H H' : Hp} {r : DEnv} {i : Nat} {a : Addr} {mo : MO} {x : PyData} (e : r[i]? = some (some (.m a mo))) (hx : moD mo = some x) (g : Gr C (r.set i (some (.d x))) H H') : Gr C r H H' := by
  have em : ∀ s, s ∈ sh C (r.set i (some (.d x))) ↔ s ∈ sh C r := fun s => by
    unfold sh
    rw [List.mem_append, List.mem_append, mem_sA, mem_sA]
    refine or_congr Iff.rfl (and_congr Iff.rfl ⟨fun ⟨j, hj⟩ => ?_, fun ⟨j, hj⟩ => ⟨j, ?_⟩⟩)
    · rcases set_get hj with ⟨_, z⟩ | ⟨_, z⟩
      · cases z
      · exact ⟨j, z⟩
    · have ne : i ≠ j := fun q => by rw [q, hj] at e; cases e; cases hx
      rw [List.getElem?_set_ne ne]
      exact hj
  exact ⟨fun b o h hb => g.1 b o (fun k z => h k ((em _).mp z)) hb, fun s hs => g.2 s ((em s).mpr hs)⟩
theorem pdt_bor {e : Expr} {t : TTD} (i : Nat) (h : PDT X C e t) : PDT X C e (tBor i t) := PT_imp h fun σ H Q ⟨r, Q', R, w, k⟩ => by
  unfold tBor frz1 at w
  split at w
  · rename_i xs e1
    obtain ⟨a, q⟩ := er_m e1
    refine ⟨_, Q', R.freeze q rfl, by rw [er_set]; exact w, fun b H' g hb => k b H' (gr_frz q rfl g) hb⟩
  · rename_i xs e1
    obtain ⟨a, q⟩ := er_m e1
    refine ⟨_, Q', R.freeze q rfl, by rw [er_set]; exact w, fun b H' g hb => k b H' (gr_frz q rfl g) hb⟩
  · exact ⟨r, Q', R, w, k⟩
theorem psd_appB (i : Nat) {e : Expr} {te : TD} {pos : Pos} {x : Str} {p apos cpos : Pos} (he : PD X C e te) (hN : X.N[i]? = some x) (hv : Vis X.env.scope x) (hd' : (x == ("__debug__" : Str)) = false) (hcd : (x == ("__classdict__" : Str)) = false)
    (pe : ∀ {to : TE} {t : TA}, PE X (.Name x p) to → PA X [e] t → PE X (.Call (.Attribute (.Name x p) "append" apos) [e] [] cpos) (tBM X.K "list" rAppend to t))
    (hs : swapsWith (.Call (.Attribute (.Name x p) "append" apos) [e] [] cpos) none pos.line X.env = pure false := by rfl) (hst : starEach [e] X.env = (false, eval e X.env) :: starEach [] X.env) : PSD X C (.Expr (.Call (.Attribute (.Name x p) "append" apos) [e] [] cpos) pos) (sAppB i te) :=
  PS_imp (ps_expr (pe (pe_var hN hv hd' hcd) (pa_cons he pa_nil hst)) hs) fun D σ H ⟨r, D', R, w, k⟩ => by
  obtain ⟨a, xs, e1, q⟩ := oLst_get w
  obtain ⟨v, e2, rfl, vs, h2, h3, h4⟩ := R.slot i _ e1
  have ns : ∀ ys, MO.lst ys ≠ .st := fun ys z => by cases z
  refine ⟨_, e2, .inl ⟨rfl, _, .inl (.inl h2)⟩, _, _, R.freeze e1 rfl, by rw [er_set]; exact q, fun w H' y g' rp qy => ?_⟩
  obtain ⟨⟨j, rfl⟩, q1, q2⟩ := qy
  have g := gr_frz e1 rfl g'
  have rp : Rp (hd H' (C.O ++ oA r)) w (.int j) := by rw [rp_int rp]; exact .int _
  have R' := R.grow g
  have h2' := g.1 a _ (R.ownN e1 (ns _)) h2
  have ln := h4.length
  refine ⟨a, vs, w, rfl, rfl, h2', by omega, k.1 σ _ _ (R'.change e1 (ns _) (ns (xs ++ [.int j])) ⟨vs ++ [w], upd_same, by rw [List.length_append]; simp; omega, ?_⟩) (by rw [er_set]; exact q2)⟩
  refine RpA.up ((h4.up (g.hd R)).append (.cons rp .nil)) fun b o z => ?_
  obtain ⟨z1, z2⟩ := hd_some z
  have na : b ≠ a := fun q => z1 (by rw [q]; exact List.mem_append_right _ (mem_oA.mpr ⟨i, _, e1⟩))
  rw [hd_out z1, upd_ne na]
  exact z2
theorem psd_setB (j i : Nat) {e : Expr} {te : TD} {pos : Pos} {x : Str} {pos' : Pos} (hN : X.N.Nodup) (hn : C.n = X.N.length) (he : PD X C e te) (hi : X.N[i]? = some x) (hx : Loc X.env.scope x) (hs : swapsWith e (some (.Name x pos')) pos.line X.env = pure false) (hf : X.fn x = true ∨ X.env.scope.names.lookup x = some .local) :
    PSD X C (.Assign [.Name x pos'] e pos) (sSetB j i te) := PS_imp (ps_set hN hi hx he hs hf) fun D σ H ⟨r, D', R, w, k⟩ => by
  obtain ⟨a, kvs, e1, q⟩ := oDct_get w
  refine ⟨_, _, R.freeze e1 rfl, by rw [er_set]; exact q, fun v H' y g' rp qy => ?_⟩
  obtain ⟨⟨ns, rfl⟩, q2⟩ := qy
  have g := gr_frz e1 rfl g'
  obtain ⟨v1, e2, rfl, o, xs, m1, _⟩ := R.slot j _ e1
  have nn : ∀ ys, MO.dct ys ≠ .st := fun ys z => by cases z
  have m2 := g.1 a _ (R.ownN e1 (nn _)) m1
  refine set_d_nx R g (by rw [hn]; exact (List.getElem?_eq_some_iff.mp hi).1) (rp_intsO (H' := H') rp fun b hb => ?_) k.1 q2
  rcases List.mem_append.mp hb with z | z
  · exact .inl (List.mem_append_left _ z)
  · obtain ⟨l, mo, hl⟩ := mem_oA.mp z
    by_cases c : j = l
    · subst c
      rw [e1] at hl
      cases hl
      refine .inr fun vs h => ?_
      rcases h with h | ⟨u, h⟩
      · rw [m2] at h; cases h
      · rw [m2] at h; cases h
    · exact .inl (List.mem_append_right _ (mem_oA.mpr ⟨l, mo, by rw [List.getElem?_set_ne c]; exact hl⟩))
theorem psd_setLcB (j i : Nat) {elt tgE iter : Expr} {ifs : List Expr} {scope : Scope} {own : List (Str × Nat)} {tg : Tg} {it : TID} {tt : TTD} {te : TD} {pos : Pos} {y : Str} {py spos : Pos} (hn : C.n = X.N.length) (h : LcOk X C elt tgE iter ifs scope own tg it tt te) (hy : X.N[i]? = some y) (hyl : X.env.scope.names.lookup y = some .local)
    (hsw : swapsWith (.ListComp elt [⟨tgE, iter, ifs, 0⟩] scope pos) (some (.Name y py)) spos.line X.env = pure true) : PSD X C (.Assign [.Name y py] (.ListComp elt [⟨tgE, iter, ifs, 0⟩] scope pos) spos) (sSetB j i (dLst (fLc tg it tt te (own.map (·.2))))) :=
  PS_imp (ps_setLc h.hc h.hN hy hyl hsw h.hi h.ok h.g h.t h.e h.hs) fun D σ H ⟨r, D', R, w, k⟩ => by
  obtain ⟨a, kvs, e1, q⟩ := oDct_get w
  refine lc_read h.sub ⟨_, _, R.freeze e1 rfl, by rw [er_set]; exact q, fun b H' vs xs g' nb eb l rp qx => ?_⟩
  obtain ⟨⟨ns, e⟩, q2⟩ := qx
  have e : xs = ns.map PyData.int := PyData.list.inj e
  subst e
  have ev := rpa_ints rp
  subst ev
  exact set_d_nx R (gr_frz e1 rfl g') (by rw [hn]; exact (List.getElem?_eq_some_iff.mp hy).1) (RpA.put eb (R.fresh nb) l (rpaI ns)) k.1 q2
theorem bors_ok {e : Expr} {t : TTD} (h : PDT X C e t) : ∀ is : List Nat, PDT X C e (tBors is t)
  | [] => h
  | i :: is => pdt_bor i (bors_ok h is)
theorem withBor_ok {c : Expr} {a b : List Stmt} {pos : Pos} {x : DT} {y z : DSs} (is : List Nat) (h1 : PDT X C c (wpT F x E)) (h2 : PSDs X C a (wpSs F y E)) (h3 : PSDs X C b (wpSs F z E)) : PSD X C (.If c a b pos) (wpS F (withBor is x y z) E) := by
  unfold withBor
  split
  · exact psd_if h1 h2 h3
  · exact psd_if (bors_ok h1 _) h2 h3
/-- what stands at a def's body besides -/
structure Top (X : Cx) : Prop where
  fn : ∀ x, X.fn x = true
  hp : PassesOwn (model X.prog X.w) X.A X.env X.xe
theorem soundF {e : Expr} {d : DE} (h : compF n G N sc e = some d) (g : Gd G F N sc X) (hn : C.n = N.length) (hK : C.K = X.K) (tk : Takes X (wOf X.mg C E)) (lm : G.lam = true → TabC X C) : PF X C e (wpF F d E) := by
  have S := sound G F n
  cases e with
  | List es p =>
    simp only [compF] at h
    obtain ⟨x, q1, rfl⟩ := map1 h
    exact pf_lst (S.a _ _ _ _ q1 X C E g hn hK tk lm)
  | ListComp elt gs scope p =>
    simp only [compF] at h
    split at h
    · split at h
      · rename_i ha
        subst ha
        obtain ⟨e', t', i', c', own, rfl, ok⟩ := S.l _ _ _ _ _ _ _ _ h X C E g hn hK tk lm
        exact pf_lc ok
      · cases h
    · cases h
  | BinOp a o b p =>
    cases o with
    | Add =>
      simp only [compF] at h
      split at h
      · rename_i x y h1 h2
        cases h
        exact pf_add (S.e _ _ _ _ h1 X C E g hn hK tk lm) (S.e _ _ _ _ h2 X C E g hn hK tk lm)
      · cases h
    | Mult =>
      cases a with
      | List es p2 =>
        simp only [compF] at h
        split at h
        · rename_i x y h1 h2
          cases h
          exact pf_mul (pf_lst (S.a _ _ _ _ h1 X C E g hn hK tk lm)) (S.e _ _ _ _ h2 X C E g hn hK tk lm)
        · cases h
      | _ => simp only [compF] at h; cases h
    | _ => simp only [compF] at h; cases h
  | Call fn args kws p =>
    cases fn with
    | Name f q =>
      cases kws with
      | cons _ _ => simp only [compF] at h; cases h
      | nil =>
        simp only [compF] at h
        split at h
        · rename_i hc
          simp only [Bool.and_eq_true, Bool.not_eq_true'] at hc
          obtain ⟨⟨⟨h1, h2⟩, h3⟩, h4⟩ := hc
          have hg : Gl X f := glB_ok g.hsc h1
          obtain ⟨n1, n2, n3⟩ := okN_get h2
          cases args with
          | nil => cases h4
          | cons e es =>
            rw [List.any_cons, Bool.or_eq_false_iff] at h3
            have s1 : starEach (e :: es) X.env = (false, eval e X.env) :: starEach es X.env := star_one h3.1
            have s2 : (backTo p (starEach es X.env)).any (·.1) = false := star_all h3.2
            split at h
            · rename_i k hk
              obtain ⟨x, q1, rfl⟩ := map1 h
              exact pf_callF (g.call hK tk hk) hg (S.x _ _ _ _ q1 X C E g hn hK tk lm) n1 s1 s2
            · split at h
              · rename_i hb
                have hm := g.bis _ (contains_mem hb)
                split at h
                · cases h
                split at h
                · rename_i ef
                  subst ef
                  exact (list_ok S h3 g hn hK tk lm hm hg s1 s2 h).1
                · split at h
                  · rename_i ef
                    subst ef
                    exact (sorted_ok S h3 g hn hK tk lm hm hg s1 s2 h).1
                  · cases h
              · cases h
        · cases h
    | _ => simp only [compF] at h; cases h
  | _ => simp only [compF] at h; cases h
theorem soundFd {e : Expr} {d : DE} (h : compFd n G N sc e = some d) (g : Gd G F N sc X) (hn : C.n = N.length) (hK : C.K = X.K) (tk : Takes X (wOf X.mg C E)) (lm : G.lam = true → TabC X C) : PFd X C e (wpFd F d E) := by
  have S := sound G F n
  unfold compFd at h
  split at h
  · cases h
    exact pfd_nil
  · split at h
    · rename_i x y h1 h2
      cases h
      exact pfd_one g.un (S.e _ _ _ _ h1 X C E g hn hK tk lm) (S.e _ _ _ _ h2 X C E g hn hK tk lm)
    · cases h
  · split at h
    · rename_i f q args p hc
      simp only [Bool.and_eq_true, Bool.not_eq_true', decide_eq_true_eq] at hc
      obtain ⟨⟨⟨⟨⟨e1, e2⟩, e3⟩, e4⟩, e5⟩, e6⟩ := hc
      subst e1
      obtain ⟨x, q1, rfl⟩ := map1 h
      cases args with
      | nil => cases e5
      | cons a as =>
        rw [List.any_cons, Bool.or_eq_false_iff] at e4
        exact pfd_callTy (cd_dict g.calm g.un) (g.bis _ (contains_mem e6)) (by decide +kernel) (S.a _ _ _ _ q1 X C E g hn hK tk lm) (glB_ok g.hsc e2) (by decide) (by decide) (star_one e4.1) (star_all e4.2)
    · cases h
  · cases h
theorem fd_lc {e : Expr} {d : DE} (h : compFd n G N sc e = some d) : lcB e = false := by
  unfold compFd at h
  split at h <;> first | rfl | (cases h)
theorem withBorW_ok {c : Expr} {a : List Stmt} {pos : Pos} {x : DT} {y : DSs} (is : List Nat) (hp : PassesOwn (model X.prog X.w) X.A X.env X.xe) (h1 : PDT X C c (wpT F x E)) (h2 : PSDs X C a (wpSs F y E)) : PSD X C (.While c a [] pos) (wpS F (withBorW is x y) E) := by
  unfold withBorW
  split
  · exact psd_while hp h1 h2
  · exact psd_while hp (bors_ok h1 _) h2
theorem swaps_plain {e : Expr} {t : Option Expr} {l : Nat} {env : Env} (h : lcB e = false) : swapsWith e t l env = pure false := by
  cases e <;> first | rfl | (cases h)
theorem swaps_lc {elt : Expr} {gs : List Comprehension} {scope : Scope} {pos py : Pos} {y : Str} {l : Nat} {env : Env} : swapsWith (.ListComp elt gs scope pos) (some (.Name y py)) l env = pure (env.blockKind == .function && env.kindOf y == some .local && py.line == pos.line && !(scope.names.any fun (n, k) => n == y && (k == .local || k == .cell))) := rfl
theorem sound_call {e : Expr} {c : Nat × Nat × DX} (h : compCall n G N sc e = some c) (g : Gd G F N sc X) (hn : C.n = N.length) (hK : C.K = X.K) (tk : Takes X (wOf X.mg C E)) (lm : G.lam = true → TabC X C) :
    ∃ (f : Str) (p pos : Pos) (a : Expr) (as : List Expr), e = .Call (.Name f p) (a :: as) [] pos ∧ CallOk X C f c.2.1 (F c.1) E ∧ Gl X f ∧ PDX X C (a :: as) (wpX F c.2.2 E) ∧ (f == ("__debug__" : Str)) = false ∧ starEach (a :: as) X.env = (false, eval a X.env) :: starEach as X.env ∧ (backTo pos (starEach as X.env)).any (·.1) = false := by
  have S := sound G F n
  unfold compCall at h
  split at h
  · rename_i f p args pos
    split at h
    · rename_i hc
      simp only [Bool.and_eq_true, Bool.not_eq_true'] at hc
      obtain ⟨⟨⟨h1, h2⟩, h3⟩, h4⟩ := hc
      split at h
      · rename_i k a q1 q2
        cases h
        cases args with
        | nil => cases h4
        | cons e es =>
          rw [List.any_cons, Bool.or_eq_false_iff] at h3
          exact ⟨f, p, pos, e, es, rfl, g.call hK tk q1, glB_ok g.hsc h1, S.x _ _ _ _ q2 X C E g hn hK tk lm, (okN_get h2).1, star_one h3.1, star_all h3.2⟩
      · cases h
    · cases h
  · cases h
theorem sound_set {h : Hint} {x : Str} {e : Expr} {d : DS} {px pos : Pos} (hd : compSet n G N sc h x e = some d) (g : Gd G F N sc X) (tp : Top X) (hn : C.n = N.length) (hK : C.K = X.K) (tk : Takes X (wOf X.mg C E)) (lm : G.lam = true → TabC X C) : PSD X C (.Assign [.Name x px] e pos) (wpS F d E) := by
  have S := sound G F n
  have nd : X.N.Nodup := by rw [g.hN]; exact g.nd
  have hn' : C.n = X.N.length := by rw [g.hN]; exact hn
  unfold compSet at hd
  split at hd
  · rename_i hl
    rw [Bool.and_eq_true] at hl
    have hx : Loc X.env.scope x := by rw [g.hsc]; exact locB_ok hl.1
    split at hd
    · rename_i i hi
      have hi' : X.N[i]? = some x := by rw [g.hN]; exact findIx_get hi
      split at hd
      · obtain ⟨c, q1, rfl⟩ := map1 hd
        obtain ⟨f, p, pos', a, as, rfl, co, hg, ha, n1, s1, s2⟩ := sound_call q1 g hn hK tk lm
        exact psd_setS i nd hn' hi' hx (.inl (tp.fn x)) co hg ha n1 s1 s2
      · split at hd
        · split at hd
          · rename_i d' q1
            cases hd
            exact withFrz_ok _ (psd_setD i nd hn' (soundFd q1 g hn hK tk lm) hi' hx (swaps_plain (fd_lc q1)) (.inl (tp.fn x)))
          · cases hd
        split at hd
        · split at hd
          · rename_i c q0
            cases hd
            obtain ⟨f, p, pos', a, as, rfl, co, hg, ha, n1, s1, s2⟩ := sound_call q0 g hn hK tk lm
            exact withFrz_ok _ (psd_setC i nd hn' hi' hx (.inl (tp.fn x)) co hg ha n1 s1 s2)
          · split at hd
            · rename_i d' q1
              cases hd
              refine withFrz_ok _ ?_
              have pf := soundF (F := F) (C := C) (E := E) q1 g hn hK tk lm
              by_cases hb : lcB e = false
              · exact psd_setF i nd hn' pf hi' hx (swaps_plain hb) (.inl (tp.fn x))
              · cases e with
                | ListComp elt gs scope p =>
                  simp only [compF] at q1
                  split at q1
                  · split at q1
                    · rename_i ha
                      subst ha
                      obtain ⟨e', t', i', c', own, rfl, ok⟩ := S.l _ _ _ _ _ _ _ _ q1 X C E g hn hK tk lm
                      rename_i tg iter ifs _
                      cases hsw : (X.env.blockKind == .function && X.env.kindOf x == some .local && px.line == p.line && !(scope.names.any fun (n, k) => n == x && (k == .local || k == .cell))) with
                      | false => exact psd_setF i nd hn' pf hi' hx (by rw [swaps_lc, hsw]) (.inl (tp.fn x))
                      | true =>
                        have hs : swapsWith (.ListComp elt [⟨tg, iter, ifs, 0⟩] scope p) (some (.Name x px)) pos.line X.env = pure true := by rw [swaps_lc, hsw]
                        simp only [Bool.and_eq_true, beq_iff_eq] at hsw
                        exact psd_setLcF i hn' ok hi' hsw.1.1.2 hs
                    · cases q1
                  · cases q1
                | _ => first | exact absurd rfl hb | (simp only [compF] at q1; cases q1; done)

            · split at hd
              · cases hd
              · rename_i hb
                obtain ⟨d', q1, rfl⟩ := map1 hd
                exact withFrz_ok _ (psd_set i nd hn' (S.e _ _ _ _ q1 X C E g hn hK tk lm) hi' hx (swaps_plain (by simpa using hb)) (.inl (tp.fn x)))
        · obtain ⟨d', q1, rfl⟩ := map1 hd
          have pe := S.e _ _ _ _ q1 X C E g hn hK tk lm
          refine setFrz_ok ?_
          by_cases hb : lcB e = false
          · exact ⟨psd_set i nd hn' pe hi' hx (swaps_plain hb) (.inl (tp.fn x)), fun j => psd_setB j i nd hn' pe hi' hx (swaps_plain hb) (.inl (tp.fn x))⟩
          · cases e with
            | ListComp elt gs scope p =>
              cases n with
              | zero => simp only [compE] at q1; cases q1
              | succ m =>
              have S' := sound G F m
              simp only [compE] at q1
              split at q1
              · split at q1
                · rename_i ha
                  subst ha
                  obtain ⟨e', t', i', c', own, rfl, ok⟩ := S'.l _ _ _ _ _ _ _ _ q1 X C E g hn hK tk lm
                  rename_i tg iter ifs
                  cases hsw : (X.env.blockKind == .function && X.env.kindOf x == some .local && px.line == p.line && !(scope.names.any fun (n, k) => n == x && (k == .local || k == .cell))) with
                  | false => exact ⟨psd_set i nd hn' pe hi' hx (by rw [swaps_lc, hsw]) (.inl (tp.fn x)), fun j => psd_setB j i nd hn' pe hi' hx (by rw [swaps_lc, hsw]) (.inl (tp.fn x))⟩
                  | true =>
                    have hs : swapsWith (.ListComp elt [⟨tg, iter, ifs, 0⟩] scope p) (some (.Name x px)) pos.line X.env = pure true := by rw [swaps_lc, hsw]
                    simp only [Bool.and_eq_true, beq_iff_eq] at hsw
                    exact ⟨psd_setLc i hn' ok hi' hsw.1.1.2 hs, fun j => psd_setLcB j i hn' ok hi' hsw.1.1.2 hs⟩
                · cases q1
              · cases q1
            | SetComp => cases n <;> (simp only [compE] at q1; cases q1)
            | DictComp => cases n <;> (simp only [compE] at q1; cases q1)
            | _ => exact absurd rfl hb
    · cases hd
  · cases hd
theorem sound_ret {h : Hint} {e : Expr} {d : DS} {pos : Pos} (hd : compRet n G N sc h e = some d) (g : Gd G F N sc X) (hn : C.n = N.length) (hK : C.K = X.K) (tk : Takes X (wOf X.mg C E)) (lm : G.lam = true → TabC X C) : PSD X C (.Return (some e) pos) (wpS F d E) := by
  have S := sound G F n
  unfold compRet at hd
  split at hd
  · split at hd
    · obtain ⟨i, q1, rfl⟩ := map1 hd
      obtain ⟨q1, q2, q3, q4⟩ := slotOf_get g q1
      exact psd_retO i q1 q2 q3 q4
    · obtain ⟨d', q1, rfl⟩ := map1 hd
      exact psd_ret (S.e _ _ _ _ q1 X C E g hn hK tk lm)
  · split at hd
    · rename_i c q1
      cases hd
      obtain ⟨f, p, pos', a, as, rfl, co, hg, ha, n1, s1, s2⟩ := sound_call q1 g hn hK tk lm
      exact withFrz_ok _ (psd_retC co hg ha n1 s1 s2)
    · split at hd
      · rename_i d' q1
        cases hd
        split at q1
        · cases q1
        · exact withFrz_ok _ (psd_retF (soundF q1 g hn hK tk lm))
      · obtain ⟨d', q1, rfl⟩ := map1 hd
        exact withFrz_ok _ (psd_ret (S.e _ _ _ _ q1 X C E g hn hK tk lm))
theorem sound_m {h : Hint} {x m : Str} {e : Expr} {d : DS} {p apos cpos pos : Pos} (hd : compM n G N sc h x m e apos cpos = some d) (g : Gd G F N sc X) (hn : C.n = N.length) (hK : C.K = X.K) (tk : Takes X (wOf X.mg C E)) (lm : G.lam = true → TabC X C) : PSD X C (.Expr (.Call (.Attribute (.Name x p) m apos) [e] [] cpos) pos) (wpS F d E) := by
  have S := sound G F n
  unfold compM at hd
  split at hd
  · cases hd
  · rename_i hs0
    rw [Bool.not_eq_true, Bool.or_eq_false_iff, Bool.not_eq_false'] at hs0
    obtain ⟨hs, hline⟩ := hs0
    split at hd
    · rename_i i d' q1 q2
      obtain ⟨n1, n2, n3, n4⟩ := slotOf_get g q1
      have st : starEach [e] X.env = (false, eval e X.env) :: starEach [] X.env := star_one hs
      have few : ((((backTo cpos (starEach [e] X.env)).all fun x => !x.1) && (backToKw cpos (keywordEach [] X.env)).all fun x => x.1.isSome) && decide (([e].length + ([] : List Keyword).length + if ([] : List Keyword).isEmpty = true then 0 else 1) < 30)) = true := by
        rw [st]
        rfl
      split at hd
      · rename_i em
        subst em
        have hd := Option.some.inj hd
        subst hd
        split
        · exact psd_appB i (S.e _ _ _ _ q2 X C E g hn hK tk lm) n1 n2 n3 n4 (fun a b => pe_bm PySem.F.plainAttrs_list PySem.F.slot_list_append PySem.F.type_list_append mt_append a b (hfew := few) (hline := hline) (hs := st)) rfl st
        exact psd_app i (S.e _ _ _ _ q2 X C E g hn hK tk lm) n1 n2 n3 n4 (fun a b => pe_bm PySem.F.plainAttrs_list PySem.F.slot_list_append PySem.F.type_list_append mt_append a b (hfew := few) (hline := hline) (hs := st)) rfl st
      · split at hd
        · rename_i em
          subst em
          cases hd
          exact psd_ext i (S.e _ _ _ _ q2 X C E g hn hK tk lm) n1 n2 n3 n4 (fun a b => pe_bm PySem.F.plainAttrs_list PySem.F.slot_list_extend PySem.F.type_list_extend mt_extR a b (hfew := few) (hline := hline) (hs := st)) rfl st
        · split at hd
          · rename_i em
            subst em
            split at hd
            · cases hd
              exact withFrz_ok _ (psd_upd i g.un (S.e _ _ _ _ q2 X C E g hn hK tk lm) n1 n2 n3 n4 ⟨rfl, few, hline, by rw [st]; rfl⟩ rfl)
            · cases hd
          · cases hd
    · cases hd
theorem psd_unp {tg : Tg} {te : TD} {ts : List Expr} {k : Nat} {e : Expr} {p pos : Pos} (he : PD X C e te) (hg : PG X (.Tuple ts k p) (upG C tg)) (h1 : tupB' e = false) : PSD X C (.Assign [.Tuple ts k p] e pos) (sUnp tg te) := by
  have hs : swapsWithSole [.Tuple ts k p] e pos.line X.env = pure false := by
    show swapsWith e (some (.Tuple ts k p)) pos.line X.env = pure false
    cases e <;> rfl
  have hw : swappedStores [.Tuple ts k p] e X.env = pure none := by
    cases e <;> first | rfl | (cases h1)
  refine PS_imp (ps_asg he hg hs hw (by rfl)) fun D σ H ⟨r, D', R, q, k⟩ => ⟨r, _, R, q, fun v H' x g rp qx => ⟨r, x, D'.nx, R.grow g, rp, qx, fun σ' r' R' _ _ _ q' => k.1 σ' H' r' R' q'⟩⟩
/-- x, y = a, b -/
theorem swaps_two {x y : Str} {a b : Expr} {px py p p2 : Pos} {k k2 : Nat} {env : Env} (hne : x ≠ y) (s1 : starB a = false) (s2 : starB b = false) (hcon : (!([a, b].all (constantsAlone 8)) || [a, b].all (foldedForSure 8)) = true) :
    swappedStores [.Tuple [.Name x px, .Name y py] k p] (.Tuple [a, b] k2 p2) env = pure none ∨ (env.kindOf x = some .local ∧ env.kindOf y = some .local ∧ swappedStores [.Tuple [.Name x px, .Name y py] k p] (.Tuple [a, b] k2 p2) env = pure (some [x, y])) := by
  have e : ∀ c : Expr, starB c = false → (match c with | .Starred .. => true | _ => false) = false := fun c h => by cases c <;> first | rfl | (cases h)
  have stars : ([a, b].any fun | .Starred .. => true | _ => false) = false := by
    simp only [List.any_cons, List.any_nil, Bool.or_false]
    rw [e a s1, e b s2]
    rfl
  have hl : ∀ q : Pos, (Expr.Name x q).pos.line = q.line := fun _ => rfl
  unfold swappedStores
  simp only [stars, List.length_cons, List.length_nil, List.head?_cons, Option.map_some, Option.getD_some, List.filterMap_cons, List.filterMap_nil]
  cases hb : (env.blockKind != .function) with
  | true => exact .inl rfl
  | false =>
    cases hf : [a, b].all (foldedForSure 8) with
    | true =>
      left
      by_cases c1 : (env.kindOf x == some .local && px.line == (Expr.Name x px).pos.line) = true <;> by_cases c2 : (env.kindOf y == some .local && py.line == (Expr.Name x px).pos.line) = true <;> simp [c1, c2, hne, List.eraseDups_cons] <;> rfl
    | false =>
      have hc : [a, b].all (constantsAlone 8) = false := by
        rw [hf, Bool.or_false, Bool.not_eq_true'] at hcon
        exact hcon
      by_cases c1 : (env.kindOf x == some .local && px.line == (Expr.Name x px).pos.line) = true
      · by_cases c2 : (env.kindOf y == some .local && py.line == (Expr.Name x px).pos.line) = true
        · right
          refine ⟨?_, ?_, ?_⟩
          · rw [Bool.and_eq_true] at c1; simpa using c1.1
          · rw [Bool.and_eq_true] at c2; simpa using c2.1
          · have h1 : ¬ (constantsAlone 8 a = true ∧ constantsAlone 8 b = true) := fun ⟨k1, k2⟩ => by simp [k1, k2] at hc
            have h2 : ¬ (foldedForSure 8 a = true ∧ foldedForSure 8 b = true) := fun ⟨k1, k2⟩ => by simp [k1, k2] at hf
            simp [c1, c2, hne, Ne.symm hne, List.eraseDups_cons, e a s1, e b s2, h1, h2]
            rintro (h | h)
            · cases a <;> first | (cases h; done) | (cases s1; done)
            · cases b <;> first | (cases h; done) | (cases s2; done)
        · left
          simp [c1, c2]
      · left
        by_cases c2 : (env.kindOf y == some .local && py.line == (Expr.Name x px).pos.line) = true <;> simp [c1, c2] <;> rfl
theorem psd_par {x y : Str} {i j : Nat} {a b : Expr} {tA : TAD} {px py p p2 pos : Pos} {k k2 : Nat} (hc : X.calm = true) (hK : C.K = X.K) (hN : X.N.Nodup) (hn : C.n = X.N.length) (sx : StoreOk X i x) (sy : StoreOk X j y) (hne : x ≠ y) (pa : PDA X C [a, b] tA) (s1 : starB a = false) (s2 : starB b = false)
    (hcon : (!([a, b].all (constantsAlone 8)) || [a, b].all (foldedForSure 8)) = true) : PSD X C (.Assign [.Tuple [.Name x px, .Name y py] k p] (.Tuple [a, b] k2 p2) pos) (sUnp (.two i j) (dTup tA)) := by
  have hs : swapsWithSole [.Tuple [.Name x px, .Name y py] k p] (.Tuple [a, b] k2 p2) pos.line X.env = pure false := rfl
  have hi' : i < C.n := by rw [hn]; exact (List.getElem?_eq_some_iff.mp sx.hi).1
  have hj' : j < C.n := by rw [hn]; exact (List.getElem?_eq_some_iff.mp sy.hi).1
  have hij : i ≠ j := fun e => by
    have h1 := sx.hi
    rw [e, sy.hi] at h1
    exact hne (Option.some.inj h1).symm
  rcases swaps_two (p := p) (p2 := p2) (k := k) (k2 := k2) (px := px) (py := py) (env := X.env) hne s1 s2 hcon with hw | ⟨lx, ly, hw⟩
  · exact PS_imp (ps_asg (pd_tup pa) (pdg_two hN hn hK hc sx sy) hs hw (by rfl)) fun D σ H ⟨r, D', R, q, k⟩ => ⟨r, _, R, q, fun v H' x g rp qx => ⟨r, x, D'.nx, R.grow g, rp, qx, fun σ' r' R' _ _ _ q' => k.1 σ' H' r' R' q'⟩⟩
  · exact PS_imp (ps_par hc hN sx.hi sy.hi hij lx ly pa hw hs) fun D σ H ⟨r, D', R, q, k⟩ => ⟨r, _, R, q, fun vs H' xs g rp qx => by
      obtain ⟨dx, dy, ex, q⟩ := bind2_get qx.2
      rcases ex with ex | ex
      · cases ex
        obtain ⟨v1, v2, rfl, r1, r2⟩ := rpa2 rp
        obtain ⟨R2, g1, g2, g3⟩ := set2_all (R.grow g) hi' hj' r1 r2
        exact ⟨v1, v2, rfl, k.1 _ H' _ R2 (by rw [er_set, er_set]; exact q)⟩
      · cases ex⟩
theorem subN_get {e : Expr} {x y : Str} (h : subN e = some (x, y)) : ∃ p q r, e = .Subscript (.Name x p) (.Name y q) r := by
  unfold subN at h
  split at h
  · cases h
    exact ⟨_, _, _, rfl⟩
  · cases h
theorem sound_sw {h : Hint} {ts : List Expr} {a b : Expr} {d : DS} {k k2 : Nat} {p p2 pos : Pos} (hd : compSw N sc h ts a b = some d) (g : Gd G F N sc X) (hK : C.K = X.K) : PSD X C (.Assign [.Tuple ts k p] (.Tuple [a, b] k2 p2) pos) (wpS F d E) := by
  unfold compSw at hd
  split at hd
  · split at hd
    · rename_i e1 e2 e3 e4
      split at hd
      · rename_i hc
        simp only [Bool.and_eq_true, decide_eq_true_eq] at hc
        obtain ⟨⟨⟨⟨⟨rfl, rfl⟩, rfl⟩, rfl⟩, rfl⟩, _⟩ := hc
        split at hd
        · rename_i i j l q1 q2 q3
          cases hd
          obtain ⟨_, _, _, rfl⟩ := subN_get e1
          obtain ⟨_, _, _, rfl⟩ := subN_get e2
          obtain ⟨_, _, _, rfl⟩ := subN_get e3
          obtain ⟨_, _, _, rfl⟩ := subN_get e4
          have v : ∀ {x : Str} {i : Nat}, slotOf N sc x = some i → VarOk X i x := fun q => by
            obtain ⟨h1, h2, h3, h4⟩ := slotOf_get g q
            exact ⟨h1, h2, h3, h4⟩
          exact psd_swap g.calm hK (v q1) (v q2) (v q3)
        · cases hd
      · cases hd
    · cases hd
  · cases hd
theorem sound_u {h : Hint} {ts : List Expr} {e : Expr} {d : DS} {k : Nat} {p pos : Pos} (hd : compU n G N sc h ts k p e = some d) (g : Gd G F N sc X) (tp : Top X) (hn : C.n = N.length) (hK : C.K = X.K) (tk : Takes X (wOf X.mg C E)) (lm : G.lam = true → TabC X C) : PSD X C (.Assign [.Tuple ts k p] e pos) (wpS F d E) := by
  have S := sound G F n
  have nd : X.N.Nodup := by rw [g.hN]; exact g.nd
  have hn' : C.n = X.N.length := by rw [g.hN]; exact hn
  have st : ∀ x, locB sc x = true → Loc X.env.scope x ∧ (X.fn x = true ∨ X.env.scope.names.lookup x = some .local) := fun x hx => ⟨by rw [g.hsc]; exact locB_ok hx, .inl (tp.fn x)⟩
  unfold compU at hd
  split at hd
  · rename_i a b k2 p2
    split at hd
    · rename_i x px y py
      unfold compP at hd
      split at hd
      · rename_i hcs
        simp only [Bool.and_eq_true, Bool.not_eq_true'] at hcs
        obtain ⟨⟨⟨⟨⟨lx, ly⟩, ne⟩, s1⟩, s2⟩, hcon⟩ := hcs
        split at hd
        · rename_i i j d1 d2 q1 q2 q3 q4
          cases hd
          refine withFrz_ok _ (psd_par g.calm hK nd hn' ⟨by rw [g.hN]; exact findIx_get q1, (st _ lx).1, (st _ lx).2⟩ ⟨by rw [g.hN]; exact findIx_get q2, (st _ ly).1, (st _ ly).2⟩ (by simpa using ne) (pda_cons (S.e _ _ _ _ q3 X C E g hn hK tk lm) (pda_cons (S.e _ _ _ _ q4 X C E g hn hK tk lm) pda_nil (star_one s2)) (star_one s1)) s1 s2 hcon)
        · cases hd
      · cases hd
    · exact sound_sw hd g hK
  · split at hd
    · cases hd
    · rename_i ht
      split at hd
      · rename_i t d' q1 q2
        cases hd
        exact withFrz_ok _ (psd_unp (S.e _ _ _ _ q2 X C E g hn hK tk lm) (tg_ok g.hN g.nd hn hK g.calm st q1) (by simpa using ht))
      · cases hd
end
structure SoundS (G : Sig) (F : Nat → FW) (h : Hint) (n : Nat) : Prop where
  s : ∀ N sc st d, compS n G N sc h st = some d → ∀ (X : Cx) (C : Cfg) (E : Str → Prop), Gd G F N sc X → Top X → C.n = N.length → C.K = X.K → Takes X (wOf X.mg C E) → (G.lam = true → TabC X C) → PSD X C st (wpS F d E)
  ss : ∀ N sc st d, compSs n G N sc h st = some d → ∀ (X : Cx) (C : Cfg) (E : Str → Prop), Gd G F N sc X → Top X → C.n = N.length → C.K = X.K → Takes X (wOf X.mg C E) → (G.lam = true → TabC X C) → PSDs X C st (wpSs F d E)
theorem soundS (G : Sig) (F : Nat → FW) (h : Hint) : ∀ n, SoundS G F h n
  | 0 => ⟨fun _ _ _ _ q => by simp [compS] at q, fun _ _ _ _ q => by simp [compSs] at q⟩
  | n + 1 => by
    have T := soundS G F h n
    have S := sound G F n
    refine ⟨?_, ?_⟩
    · intro N sc st d hd X C E g tp hn hK tk lm
      unfold compS at hd
      split at hd <;> first | (cases hd; done) | skip
      · rename_i hq; cases hq
        exact sound_set hd g tp hn hK tk lm
      · rename_i hq; cases hq
        exact sound_u hd g tp hn hK tk lm
      · rename_i hq; cases hq
        split at hd
        · rename_i hc
          rw [Bool.and_eq_true, Bool.not_eq_true'] at hc
          split at hd
          · rename_i i a b q1 q2 q3
            cases hd
            obtain ⟨n1, n2, n3, n4⟩ := slotOf_get g q1
            exact withFrz_ok _ (psd_put i g.un (S.e _ _ _ _ q2 X C E g hn hK tk lm) (S.e _ _ _ _ q3 X C E g hn hK tk lm) n1 n2 n3 n4 (swaps_plain hc.2))
          · cases hd
        · cases hd
      · rename_i hq; cases hq
        exact sound_m hd g hn hK tk lm
      · rename_i hq; cases hq; cases hd
        exact psd_doc
      · rename_i hq; cases hq
        split at hd
        · cases hd
        · rename_i hb
          obtain ⟨d', q1, rfl⟩ := map1 hd
          exact withFrz_ok _ (psd_expr (S.e _ _ _ _ q1 X C E g hn hK tk lm) (swaps_plain (by simpa using hb)))
      · rename_i hq; cases hq; cases hd
        exact psd_retN
      · rename_i hq; cases hq
        exact sound_ret hd g hn hK tk lm
      · rename_i hq; cases hq
        split at hd
        · rename_i x y z q1 q2 q3
          cases hd
          exact withBor_ok _ (S.t _ _ _ _ q1 X C E g hn hK tk lm) (T.ss _ _ _ _ q2 X C E g tp hn hK tk lm) (T.ss _ _ _ _ q3 X C E g tp hn hK tk lm)
        · cases hd
      · rename_i hq; cases hq
        split at hd
        · cases hd
        · rename_i hb
          split at hd
          · rename_i x y z q1 q2 q3
            cases hd
            refine withFrz_ok _ (psd_for tk tp.hp g.calm (S.i _ _ _ _ _ q2 X C E g hn hK tk lm) (fun C2 e1 e2 => tg_ok g.hN g.nd (by rw [e1]; exact hn) (by rw [e2]; exact hK) g.calm (fun x hx => ⟨by rw [g.hsc]; exact locB_ok hx, .inl (tp.fn x)⟩) q1)
              (fun C2 e1 e2 e3 tk2 => T.ss _ _ _ _ q3 X C2 E g tp (by rw [e1]; exact hn) (by rw [e2]; exact hK) tk2 (fun z => by unfold TabC; rw [e3]; exact lm z)) (folded_plain (by simpa using hb)))
          · cases hd
      · rename_i hq; cases hq
        split at hd
        · rename_i x y q1 q2
          cases hd
          exact withBorW_ok _ tp.hp (S.t _ _ _ _ q1 X C E g hn hK tk lm) (T.ss _ _ _ _ q2 X C E g tp hn hK tk lm)
        · cases hd
      · rename_i hq; cases hq
        split at hd
        · rename_i hc
          simp only [Bool.and_eq_true] at hc
          cases hd
          obtain ⟨Ca, m1, m2, m3, m4, m5⟩ := g.exc _ (contains_mem hc.2)
          exact psd_raise tk g.calm m2 m1 m3 m4 m5 (glB_ok g.hsc hc.1.1) (okN_get hc.1.2).1
        · cases hd
      · rename_i hq; cases hq; cases hd
        exact psd_pass
      · rename_i hq; cases hq; cases hd
        exact psd_cont
    · intro N sc st d hd X C E g tp hn hK tk lm
      cases st with
      | nil =>
        simp only [compSs] at hd
        cases hd
        exact psds_nil
      | cons s r =>
        simp only [compSs] at hd
        split at hd
        · rename_i x y q1 q2
          cases hd
          exact psds_cons (T.s _ _ _ _ q1 X C E g tp hn hK tk lm) (T.ss _ _ _ _ q2 X C E g tp hn hK tk lm)
        · cases hd
end DP

end
section
set_option Elab.async false
set_option linter.all false
set_option maxRecDepth 100000
set_option autoImplicit false
set_option maxHeartbeats 8000000
namespace DP
open PySem PySem.Spec PyProof.Rows L2
/-! ### the table of defs -/
inductive FDef where
  | def_ (N : Nat) (body : DSs)
  | prim (lvl : Nat) (φ : FW)
abbrev Tab := Nat → Option FDef
def fdW (F : Nat → FW) (k : Nat) : Option FDef → FW
  | some (.def_ N body) => fun args Q E => wpSs F body E { nx := fun _ => Q (.d .none), rt := Q } (s0 N args)
  | some (.prim l φ) => fun args Q E => l ≤ k ∧ φ args Q E
  | none => fun _ _ _ => False
def wpFn (T : Tab) : Nat → Nat → FW
  | 0, _ => fun _ _ _ => False
  | k + 1, f => fdW (wpFn T k) (k + 1) (T f)
section
variable (P : Program) (w : World) (K : PySem.W.Frag) (mg : Str → Option Value) (base : Heap) (G : Sig) (T : Tab)
/-- a def as the text has it -/
structure DefOk (f : Str) (n Nn : Nat) (body : DSs) : Prop where
  ex : ∃ (fa : Addr) (fd : FuncData) (params : Arguments) (st : List Stmt) (scope : Scope) (N ps : List Str) (h : Hint) (fuel : Nat),
    mg f = some (.ref fa) ∧ FunD K f f params st scope [] [] fa fd ∧ FnScope N ps scope ∧ ps.length = n ∧ N.length = Nn ∧ compSs fuel G N scope h st = some body ∧ Binds K fd ps []
structure PrimOk (f : Str) (n lvl : Nat) (φ : FW) : Prop where
  ex : ∃ (fa : Addr) (fd : FuncData) (ps : List Str), mg f = some (.ref fa) ∧ PySem.W.keepIn K (.ref fa) = true ∧ ps.length = n ∧ Binds K fd ps [] ∧ ∀ k, lvl ≤ k → FnOk P w K mg base (L2.CX P w) k fa fd ps (spOf K mg n φ)
structure TabOk : Prop where
  nol : G.lam = false
  nor : G.rep = false
  fn : ∀ f id n, G.funs.lookup f = some (id, n) → (∃ N body, T id = some (.def_ N body) ∧ DefOk K mg G f n N body) ∨ ∃ l φ, T id = some (.prim l φ) ∧ PrimOk P w K mg base f n l φ
  bis : ∀ b ∈ G.bis, mg b = none
  cst : ∀ x d, G.consts.lookup x = some d → ∃ v u, mg x = some u ∧ RelV v u ∧ ∀ H, Rp H v d
  cdc : ∀ x kvs, G.dcs.lookup x = some kvs → ∃ a, mg x = some (.ref a) ∧ CDict K a kvs
  exc : ∀ c ∈ G.excs, ∃ Ca, mg c = some (.ref Ca) ∧ PySem.W.excIn K Ca [.type "ValueError", .type "Exception", .type "BaseException", .type "object"] "ValueError.__new__" = true ∧ PySem.W.keepIn K (.ref Ca) = true ∧ PySem.W.subIn K (.ref Ca) (.type "BaseException") = some true ∧ PySem.W.typeIn K (.ref Ca) = some (.type "type")
end
section
variable {P : Program} {w : World} {K : PySem.W.Frag} {mg : Str → Option Value} {base : Heap} {G : Sig} {T : Tab}
theorem fn_false {fa : Addr} {fd : FuncData} {ps : List Str} {k n : Nat} {φ : FW} (hl : ps.length = n) (h : ∀ a Q E, ¬ φ a Q E) : FnOk P w K mg base (L2.CX P w) k fa fd ps (spOf K mg n φ) :=
  ⟨fun vs H Q E q => by rw [hl]; exact q.1, fun A outer s H args us vs Q E hr e0 hb r hsp => by
    obtain ⟨_, O, S, ds, Q', E', _, _, _, z, _⟩ := hsp
    exact (h _ _ _ z).elim⟩
/-- every def keeps its reading -/
theorem fns_ok (t : TabOk P w K mg base G T) : ∀ (k : Nat) (f : Str) (id n : Nat), G.funs.lookup f = some (id, n) →
    ∃ fa fd ps, ps.length = n ∧ FnOk P w K mg base (L2.CX P w) k fa fd ps (spOf K mg n (wpFn T k id)) ∧ mg f = some (.ref fa) ∧ PySem.W.keepIn K (.ref fa) = true ∧ Binds K fd ps []
  | 0, f, id, n, h => by
    rcases t.fn f id n h with ⟨N, body, _, ⟨fa, fd, params, st, scope, N', ps, hi, fuel, m, F, S, l1, l2, hc, hb⟩⟩ | ⟨l, φ, _, ⟨fa, fd, ps, m, kp, l1, hb, _⟩⟩
    · exact ⟨fa, fd, ps, l1, fn_false l1 (fun _ _ _ z => z), m, F.kp, hb⟩
    · exact ⟨fa, fd, ps, l1, fn_false l1 (fun _ _ _ z => z), m, kp, hb⟩
  | k + 1, f, id, n, h => by
    have ih := fns_ok t k
    rcases t.fn f id n h with ⟨N, body, e, ⟨fa, fd, params, st, scope, N', ps, hi, fuel, m, F, S, l1, l2, hc, hb⟩⟩ | ⟨l, φ, e, ⟨fa, fd, ps, m, kp, l1, hb, hF⟩⟩
    · refine ⟨fa, fd, ps, l1, ?_, m, F.kp, hb⟩
      have q := fn_deep (P := P) (w := w) (mg := mg) (base := base) (k := k) (tb := fun E => wpSs (wpFn T k) body E) F S fun cdv A outer s H E C E' hr hn hK tk => by
        refine (soundS G (wpFn T k) hi fuel).ss N' scope st body hc _ C E' ⟨rfl, S.nd, rfl, rfl, hr.units, t.bis, t.cst, t.cdc, fun f id n hf => ?_, t.exc, (fun z => by rw [t.nol] at z; cases z), fun z => by rw [t.nor] at z; cases z⟩ ⟨fun _ => rfl, passes_of rfl⟩ hn hK tk (fun z => by rw [t.nol] at z; cases z)
        obtain ⟨fa, fd, ps, q1, q2, q3, q4, q5⟩ := ih f id n hf
        exact ⟨k, fa, fd, ps, q1, q2, hr, q3, q4, q5⟩
      rw [l1] at q
      refine q.imp fun vs H Q E hsp => ?_
      have ew : wpFn T (k + 1) id = fun args Q E => wpSs (wpFn T k) body E { nx := fun _ => Q (.d .none), rt := Q } (s0 N args) := by
        show fdW (wpFn T k) (k + 1) (T id) = _
        rw [e]
        rfl
      rw [ew] at hsp
      subst l2
      exact hsp
    · by_cases hk : l ≤ k + 1
      · refine ⟨fa, fd, ps, l1, ?_, m, kp, hb⟩
        refine (hF (k + 1) hk).imp fun vs H Q E hsp => ?_
        have ew : wpFn T (k + 1) id = fun args Q E => l ≤ k + 1 ∧ φ args Q E := by
          show fdW (wpFn T k) (k + 1) (T id) = _
          rw [e]
          rfl
        rw [ew] at hsp
        obtain ⟨h1, O, S, ds, Q', E', a1, a2, a3, a4, a5⟩ := hsp
        exact ⟨h1, O, S, ds, Q', E', a1, a2, a3, a4.2, a5⟩
      · refine ⟨fa, fd, ps, l1, fn_false l1 (fun a Q E z => ?_), m, kp, hb⟩
        have ew : wpFn T (k + 1) id = fun args Q E => l ≤ k + 1 ∧ φ args Q E := by
          show fdW (wpFn T k) (k + 1) (T id) = _
          rw [e]
          rfl
        rw [ew] at z
        exact hk z.1
/-- nothing is let out -/
theorem FnOk.to0 {fa : Addr} {fd : FuncData} {ps : List Str} {k : Nat} {sp : Sp} (F : FnOk P w K mg base (L2.CX P w) k fa fd ps sp) : FnOk P w K mg base CX0 k fa fd ps (fun vs H Q _ => sp vs H Q fun _ _ _ => False) :=
  ⟨fun vs H Q E q => F.len vs H Q _ q, fun A outer s H args us vs Q E hr e0 hb r hsp => codeAny_mono (F.run A outer s H args us vs Q _ hr e0 hb r hsp) fun re s' q => by
    cases re with
    | ok fl =>
      cases fl with
      | ret u => exact q
      | next => exact (show False from q)
      | brk => exact (show False from q)
      | cont => exact (show False from q)
    | error e =>
      obtain ⟨_, _, _, _, _, _, _, _, _, _, _, _, z⟩ := (show L2.CX P w outer H s (fun _ _ _ => False) e s' from q)
      exact z.elim⟩
/-- the law's promise -/
def spLaw (K : PySem.W.Frag) (mg : Str → Option Value) (φ : FW) : Sp := fun vs H Q _ => spOf K mg 1 φ vs H Q fun _ _ _ => False
theorem law_sp {φ : FW} {n : Nat} (hφ : ∀ ns : List Int, ns.length ≤ n → φ [.scr ns] (fun rv => rv = .d (.bool true)) fun _ => False) (H : Hp) (a : Addr) (ns : List Int) (hl : ns.length ≤ n) (hO : Only H) (hS : SqL K H a (ns.map V.int)) : spLaw K mg φ [.ref a] H (fun v _ => v = .bl true) fun _ _ _ => False := by
  have sc : ScrOk K H a ns := by
    rcases hS with (h | ⟨o, h⟩) | h
    · rcases hO a with z | ⟨o, xs, z⟩
      · rw [z] at h; cases h
      · rw [z] at h; cases h
    · exact .inl ⟨o, h⟩
    · exact .inr h
  refine ⟨rfl, [], [], [.scr a ns], fun rv => rv = .d (.bool true), fun _ => False, .cons ⟨rfl, sc⟩ .nil, fun _ z => absurd z (by simp), fun _ z => absurd z (by simp), hφ ns hl, fun v H' rv o rt e => ?_, fun c Ca H' _ _ z => z.elim⟩
  subst e
  exact rp_bl rt
end
/-! ### facts by checks -/
def fnScB (N ps : List Str) (sc : Scope) : Bool :=
  decide (sc.kind = .function) && !sc.isCoroutine && !sc.isGenerator && decide N.Nodup && decide (N.take ps.length = ps) && (ps.all fun x => locB sc x) && sc.names.all fun y => !decide (y.2 = .free)
theorem fnSc_by {N ps : List Str} {sc : Scope} (h : fnScB N ps sc = true) : FnScope N ps sc := by
  unfold fnScB at h
  simp only [Bool.and_eq_true, Bool.not_eq_true', decide_eq_true_eq, List.all_eq_true, decide_eq_false_iff_not] at h
  obtain ⟨⟨⟨⟨⟨⟨h1, h2⟩, h3⟩, h4⟩, h5⟩, h6⟩, h7⟩ := h
  exact ⟨h1, h2, h3, h4, h5, fun x hx => locB_ok (h6 x hx), h7⟩
end DP

end
section
set_option Elab.async false
set_option linter.all false
set_option maxRecDepth 100000
set_option autoImplicit false
set_option maxHeartbeats 8000000
namespace DP
open PySem PySem.Spec PyProof.Rows L2
/-! ### a draw -/
/-- some number below m -/
def takeW : FW
  | [.m .st, .d (.int m)], Q, _ => (0 < m ∧ m < 1073741824) ∧ ∀ j : Int, 0 ≤ j → j < m → Q (.d (.int j))
  | _, _, _ => False
theorem takeW_get {ds : List DV} {Q : RV → Prop} {E : Str → Prop} (h : takeW (ds.map DV.er) Q E) : ∃ a m, ds = [.m a .st, .d (.int m)] ∧ (0 < m ∧ m < 1073741824) ∧ ∀ j : Int, 0 ≤ j → j < m → Q (.d (.int j)) := by
  match ds, h with
  | [.m a .st, .d (.int m)], h => exact ⟨a, m, rfl, h.1, h.2⟩
def takeAt (s m f x : Str) (p0 p1 p2 p3 p4 p5 p6 p7 p8 p9 p10 p11 p12 p13 p14 p15 p16 p17 p18 p19 p20 p21 p22 p23 p24 p25 p26 p27 p28 p29 p30 p31 p32 p33 p34 p35 p36 p37 p38 p39 p40 p41 p42 p43 p44 p45 p46 p47 p48 p49 p50 p51 p52 p53 p54 p55 p56 p57 p58 p59 p60 p61 p62 p63 p64 p65 p66 p67 p68 p69 p70 : Pos) : List Stmt := [.If (.Subscript (.Name s p0) (.Constant (.int 1) 0 p1) p2) [.Assign [(.Name f p3)] (.BinOp (.Subscript (.Name s p4) (.Constant (.int 0) 0 p5) p6) .Mod (.Name m p7) p8) p9, .Assign [(.Subscript (.Name s p10) (.Constant (.int 0) 0 p11) p12)] (.BinOp (.Subscript (.Name s p13) (.Constant (.int 0) 0 p14) p15) .FloorDiv (.Name m p16) p17) p18, .Return (some (.Name f p19)) p20] [] p21,
  .Assign [(.Subscript (.Name s p22) (.Constant (.int 0) 0 p23) p24)] (.BinOp (.BinOp (.BinOp (.Subscript (.Name s p25) (.Constant (.int 0) 0 p26) p27) .Mult (.Constant (.int 48271) 0 p28) p29) .Add (.Constant (.int 29) 0 p30) p31) .Mod (.Constant (.int 2147483647) 0 p32) p33) p34,
  .Assign [(.Name x p35)] (.BinOp (.BinOp (.BinOp (.BinOp (.Subscript (.Name s p36) (.Constant (.int 0) 0 p37) p38) .Mult (.Subscript (.Name s p39) (.Constant (.int 0) 0 p40) p41) p42) .Add (.BinOp (.Constant (.int 39373) 0 p43) .Mult (.Subscript (.Name s p44) (.Constant (.int 0) 0 p45) p46) p47) p48) .Add (.Constant (.int 7) 0 p49) p50) .Mod (.Constant (.int 2147483629) 0 p51) p52) p53,
  .Assign [(.Name x p54)] (.BinOp (.BinOp (.BinOp (.Name x p55) .Mult (.Name x p56) p57) .Add (.BinOp (.Constant (.int 16807) 0 p58) .Mult (.Name x p59) p60) p61) .Mod (.Constant (.int 2147483587) 0 p62) p63) p64,
  .Return (some (.BinOp (.BinOp (.Name x p65) .FloorDiv (.Constant (.int 8) 0 p66) p67) .Mod (.Name m p68) p69)) p70]
theorem args_take {K : PySem.W.Frag} {H : Hp} {O : List Addr} {S : List (Addr × SK)} {vs : List V} {a : Addr} {n : Int} (h : ArgsD K H O S vs [.m a .st, .d (.int n)]) : vs = [.ref a, .int n] ∧ (a, SK.dr) ∈ S := by
  cases h with
  | cons h1 h2 =>
    cases h2 with
    | cons h3 h4 =>
      cases h4
      have e1 := h1.1
      have e3 := rp_int (show Rp (hd H O) _ (.int n) from h3)
      exact ⟨by rw [e1, e3], h1.2⟩
theorem take_ok {P : Program} {w : World} {K : PySem.W.Frag} {mg : Str → Option Value} {base : Heap} {y qual : Str} {params : Arguments} {scope : Scope} {fa : Addr} {fd : FuncData} {s m f x : Str} {p0 p1 p2 p3 p4 p5 p6 p7 p8 p9 p10 p11 p12 p13 p14 p15 p16 p17 p18 p19 p20 p21 p22 p23 p24 p25 p26 p27 p28 p29 p30 p31 p32 p33 p34 p35 p36 p37 p38 p39 p40 p41 p42 p43 p44 p45 p46 p47 p48 p49 p50 p51 p52 p53 p54 p55 p56 p57 p58 p59 p60 p61 p62 p63 p64 p65 p66 p67 p68 p69 p70 : Pos} {k : Nat}
    (F : FunD K y qual params (takeAt s m f x p0 p1 p2 p3 p4 p5 p6 p7 p8 p9 p10 p11 p12 p13 p14 p15 p16 p17 p18 p19 p20 p21 p22 p23 p24 p25 p26 p27 p28 p29 p30 p31 p32 p33 p34 p35 p36 p37 p38 p39 p40 p41 p42 p43 p44 p45 p46 p47 p48 p49 p50 p51 p52 p53 p54 p55 p56 p57 p58 p59 p60 p61 p62 p63 p64 p65 p66 p67 p68 p69 p70) scope [] [] fa fd) (S : FnScope [s, m, f, x] [s, m] scope) (lf : Loc scope f) (lx : Loc scope x) (os : okN s = true) (om : okN m = true) (of : okN f = true) (ox : okN x = true) :
    FnOk P w K mg base (L2.CX P w) (k + 1) fa fd [s, m] (spOf K mg 2 takeW) := by
  refine F.ok S (fun vs H Q E h => h.1) fun cdv A outer sh H vs Q E hr hsp => ?_
  obtain ⟨hl, O, Sh, ds, Q', E', ha, dm, hs, hφ, hQ, hE⟩ := hsp
  obtain ⟨a, n, rfl, ⟨hm0, hm1⟩, hφ⟩ := takeW_get hφ
  obtain ⟨rfl, hv1⟩ := args_take ha
  obtain ⟨z, b, e0, z0, z1⟩ := (show StOk H a from (hs _ hv1).1)
  have nd := S.nd
  have vs0 : Vis scope s := (S.par s (by simp)).elim .inl fun h => .inr (.inl h)
  have vm0 : Vis scope m := (S.par m (by simp)).elim .inl fun h => .inr (.inl h)
  have vf0 : Vis scope f := lf.elim .inl fun h => .inr (.inl h)
  have vx0 : Vis scope x := lx.elim .inl fun h => .inr (.inl h)
  obtain ⟨s1, s2, _⟩ := okN_get os
  obtain ⟨m1, m2, _⟩ := okN_get om
  obtain ⟨f1, f2, _⟩ := okN_get of
  obtain ⟨x1, x2, _⟩ := okN_get ox
  have out : ∀ (y : Int) (b' : Bool), 0 ≤ y → (b' = false → y < 2147483647) → Out ⟨K, 0, O, H, Sh⟩ (upd H a (.lst [.int y, .bl b'])) := fun y b' h0 h1 => by
    refine ⟨fun c o hn e => ?_, fun s' h' => ?_, fun c hc => ?_⟩
    · have e' : H c = some o := e
      rw [upd_ne (fun q => hn SK.dr (by rw [q]; exact hv1))]
      exact e'
    · obtain ⟨c, t⟩ := s'
      by_cases hc : c = a
      · subst hc
        cases t with
        | dr => exact ⟨y, b', upd_same, h0, h1⟩
        | tab q =>
          obtain ⟨ps, h2, _⟩ := (show LamX.TabS H c q from (hs _ h').1)
          rw [e0] at h2
          cases h2
      · exact (hs _ h').1.upd e0 (fun c q z => by unfold LamX.CodeO at z; cases z) hc
    · by_cases h : c = a
      · rw [h, upd_same]; simp
      · rw [upd_ne h]; exact dm c hc
  have fin : ∀ (j y : Int) (b' : Bool), 0 ≤ y → (b' = false → y < 2147483647) → 0 ≤ j → j < n → Q (.int j) (upd H a (.lst [.int y, .bl b'])) := fun j y b' h0 h1 h2 h3 => hQ _ _ (.d (.int j)) (out y b' h0 h1) (.int j) (hφ j h2 h3)
  generalize hX : cxOf (L2.CX P w) P w K mg base [s, m, f, x] qual scope fa cdv A outer sh H E = X
  have hN0 : X.N[0]? = some s := by rw [← hX]; rfl
  have hN1 : X.N[1]? = some m := by rw [← hX]; rfl
  have hN2 : X.N[2]? = some f := by rw [← hX]; rfl
  have hN3 : X.N[3]? = some x := by rw [← hX]; rfl
  have hNN : X.N.Nodup := by rw [← hX]; exact nd
  have hsc : X.env.scope = scope := by rw [← hX]; rfl
  have hfn : ∀ y, X.fn y = true := fun y => by rw [← hX]; rfl
  rw [← hsc] at vs0 vm0 vf0 vx0 lf lx
  have ixs : ∀ (c : Int) (q1 q2 q3 : Pos), PE X (.Subscript (.Name s q1) (.Constant (.int c) 0 q2) q3) (tOp (fun x y H Q => ∃ p xs i v, x = .ref p ∧ y = .int i ∧ SqL X.K H p xs ∧ atI xs i = some v ∧ Q v H) (tVar 0) (tC (.int c))) := fun c q1 q2 q3 => pe_ix ix_list (pe_var hN0 vs0 s1 s2) pe_int (fun _ _ => rfl)
  have vm : ∀ q, PE X (.Name m q) (tVar 1) := fun q => pe_var hN1 vm0 m1 m2
  have vf : ∀ q, PE X (.Name f q) (tVar 2) := fun q => pe_var hN2 vf0 f1 f2
  have vx : ∀ q, PE X (.Name x q) (tVar 3) := fun q => pe_var hN3 vx0 x1 x2
  have vs : ∀ q, PE X (.Name s q) (tVar 0) := fun q => pe_var hN0 vs0 s1 s2
  refine ⟨_, pss_cons (ps_if (pt_val (ixs 1 _ _ _)) (pss_cons (ps_set hNN hN2 lf (pe_op op_mod (ixs 0 _ _ _) (vm _)) rfl (.inl (hfn _))) (pss_cons (ps_asg (pe_op op_fdiv (ixs 0 _ _ _) (vm _)) (pg_sub (vs _) pe_int set_list) rfl rfl rfl) (pss_one (ps_ret (vf _))))) pss_nil)
    (pss_cons (ps_asg (pe_op op_mod (pe_op op_add (pe_op op_mul (ixs 0 _ _ _) pe_int) pe_int) pe_int) (pg_sub (vs _) pe_int set_list) rfl rfl rfl)
    (pss_cons (ps_set hNN hN3 lx (pe_op op_mod (pe_op op_add (pe_op op_add (pe_op op_mul (ixs 0 _ _ _) (ixs 0 _ _ _)) (pe_op op_mul pe_int (ixs 0 _ _ _))) pe_int) pe_int) rfl (.inl (hfn _)))
    (pss_cons (ps_set hNN hN3 lx (pe_op op_mod (pe_op op_add (pe_op op_mul (vx _) (vx _)) (pe_op op_mul pe_int (vx _))) pe_int) rfl (.inl (hfn _)))
    (pss_one (ps_ret (pe_op op_mod (pe_op op_fdiv (vx _) pe_int) (vm _))))))), ?_⟩
  have st : ∀ (y : Int) (b' : Bool) (H' : Hp), H' a = some (.lst [.int y, .bl b']) → SqL X.K H' a [.int y, .bl b'] := fun y b' H' h => .inl (.inl h)
  refine ⟨.ref a, rfl, a, [.int z, .bl b], 1, .bl b, rfl, rfl, st _ _ _ e0, rfl, b, rfl, ?_⟩
  cases b with
  | true =>
    refine iteT ?_
    refine ⟨.ref a, rfl, a, [.int z, .bl true], 0, .int z, rfl, rfl, st _ _ _ e0, rfl, .int n, rfl, z, n, rfl, rfl, hm0, ?_⟩
    refine ⟨.ref a, rfl, a, [.int z, .bl true], 0, .int z, rfl, rfl, st _ _ _ e0, rfl, .int n, rfl, z, n, rfl, rfl, ⟨hm0, hm1⟩, ?_⟩
    refine ⟨.ref a, rfl, a, [.int z, .bl true], 0, 0, rfl, rfl, e0, rfl, ?_⟩
    refine ⟨.int (z % n), rfl, ?_⟩
    exact fin (z % n) (z / n) true (Int.ediv_nonneg z0 (by omega)) (fun h => nomatch h) (Int.emod_nonneg _ (by omega)) (Int.emod_lt_of_pos _ hm0)
  | false =>
    refine iteF ?_
    have z1 := z1 rfl
    have b1 : CMul z 48271 := .inr ⟨by omega, by omega⟩
    refine ⟨.ref a, rfl, a, [.int z, .bl false], 0, .int z, rfl, rfl, st _ _ _ e0, rfl, z, 48271, rfl, rfl, b1, z * 48271, 29, rfl, rfl, z * 48271 + 29, 2147483647, rfl, rfl, (by decide : (0 : Int) < 2147483647), ?_⟩
    refine ⟨.ref a, rfl, a, [.int z, .bl false], 0, 0, rfl, rfl, e0, rfl, ?_⟩
    have u0 : 0 ≤ ((z * 48271 + 29) % 2147483647) := Int.emod_nonneg _ (by decide)
    have u1 : ((z * 48271 + 29) % 2147483647) < 2147483647 := Int.emod_lt_of_pos _ (by decide)
    have e1 : upd H a (.lst [.int ((z * 48271 + 29) % 2147483647), .bl false]) a = some (.lst [.int ((z * 48271 + 29) % 2147483647), .bl false]) := upd_same
    have b2 : CMul ((z * 48271 + 29) % 2147483647) ((z * 48271 + 29) % 2147483647) := .inl ⟨by omega, by omega⟩
    have b3 : CMul 39373 ((z * 48271 + 29) % 2147483647) := .inl ⟨by omega, by omega⟩
    refine ⟨.ref a, rfl, a, [.int ((z * 48271 + 29) % 2147483647), .bl false], 0, .int ((z * 48271 + 29) % 2147483647), rfl, rfl, st _ _ _ e1, rfl, .ref a, rfl, a, [.int ((z * 48271 + 29) % 2147483647), .bl false], 0, .int ((z * 48271 + 29) % 2147483647), rfl, rfl, st _ _ _ e1, rfl, ((z * 48271 + 29) % 2147483647), ((z * 48271 + 29) % 2147483647), rfl, rfl, b2, ?_⟩
    refine ⟨.ref a, rfl, a, [.int ((z * 48271 + 29) % 2147483647), .bl false], 0, .int ((z * 48271 + 29) % 2147483647), rfl, rfl, st _ _ _ e1, rfl, 39373, ((z * 48271 + 29) % 2147483647), rfl, rfl, b3, ((z * 48271 + 29) % 2147483647) * ((z * 48271 + 29) % 2147483647), 39373 * ((z * 48271 + 29) % 2147483647), rfl, rfl, ((z * 48271 + 29) % 2147483647) * ((z * 48271 + 29) % 2147483647) + 39373 * ((z * 48271 + 29) % 2147483647), 7, rfl, rfl, ((z * 48271 + 29) % 2147483647) * ((z * 48271 + 29) % 2147483647) + 39373 * ((z * 48271 + 29) % 2147483647) + 7, 2147483629, rfl, rfl, (by decide : (0 : Int) < 2147483629), ?_⟩
    have q0 : 0 ≤ ((((z * 48271 + 29) % 2147483647) * ((z * 48271 + 29) % 2147483647) + 39373 * ((z * 48271 + 29) % 2147483647) + 7) % 2147483629) := Int.emod_nonneg _ (by decide)
    have q1 : ((((z * 48271 + 29) % 2147483647) * ((z * 48271 + 29) % 2147483647) + 39373 * ((z * 48271 + 29) % 2147483647) + 7) % 2147483629) < 2147483629 := Int.emod_lt_of_pos _ (by decide)
    have b4 : CMul ((((z * 48271 + 29) % 2147483647) * ((z * 48271 + 29) % 2147483647) + 39373 * ((z * 48271 + 29) % 2147483647) + 7) % 2147483629) ((((z * 48271 + 29) % 2147483647) * ((z * 48271 + 29) % 2147483647) + 39373 * ((z * 48271 + 29) % 2147483647) + 7) % 2147483629) := .inl ⟨by omega, by omega⟩
    have b5 : CMul 16807 ((((z * 48271 + 29) % 2147483647) * ((z * 48271 + 29) % 2147483647) + 39373 * ((z * 48271 + 29) % 2147483647) + 7) % 2147483629) := .inl ⟨by omega, by omega⟩
    refine ⟨.int ((((z * 48271 + 29) % 2147483647) * ((z * 48271 + 29) % 2147483647) + 39373 * ((z * 48271 + 29) % 2147483647) + 7) % 2147483629), rfl, .int ((((z * 48271 + 29) % 2147483647) * ((z * 48271 + 29) % 2147483647) + 39373 * ((z * 48271 + 29) % 2147483647) + 7) % 2147483629), rfl, ((((z * 48271 + 29) % 2147483647) * ((z * 48271 + 29) % 2147483647) + 39373 * ((z * 48271 + 29) % 2147483647) + 7) % 2147483629), ((((z * 48271 + 29) % 2147483647) * ((z * 48271 + 29) % 2147483647) + 39373 * ((z * 48271 + 29) % 2147483647) + 7) % 2147483629), rfl, rfl, b4, .int ((((z * 48271 + 29) % 2147483647) * ((z * 48271 + 29) % 2147483647) + 39373 * ((z * 48271 + 29) % 2147483647) + 7) % 2147483629), rfl, 16807, ((((z * 48271 + 29) % 2147483647) * ((z * 48271 + 29) % 2147483647) + 39373 * ((z * 48271 + 29) % 2147483647) + 7) % 2147483629), rfl, rfl, b5, ((((z * 48271 + 29) % 2147483647) * ((z * 48271 + 29) % 2147483647) + 39373 * ((z * 48271 + 29) % 2147483647) + 7) % 2147483629) * ((((z * 48271 + 29) % 2147483647) * ((z * 48271 + 29) % 2147483647) + 39373 * ((z * 48271 + 29) % 2147483647) + 7) % 2147483629), 16807 * ((((z * 48271 + 29) % 2147483647) * ((z * 48271 + 29) % 2147483647) + 39373 * ((z * 48271 + 29) % 2147483647) + 7) % 2147483629), rfl, rfl, ((((z * 48271 + 29) % 2147483647) * ((z * 48271 + 29) % 2147483647) + 39373 * ((z * 48271 + 29) % 2147483647) + 7) % 2147483629) * ((((z * 48271 + 29) % 2147483647) * ((z * 48271 + 29) % 2147483647) + 39373 * ((z * 48271 + 29) % 2147483647) + 7) % 2147483629) + 16807 * ((((z * 48271 + 29) % 2147483647) * ((z * 48271 + 29) % 2147483647) + 39373 * ((z * 48271 + 29) % 2147483647) + 7) % 2147483629), 2147483587, rfl, rfl, (by decide : (0 : Int) < 2147483587), ?_⟩
    refine ⟨.int ((((((z * 48271 + 29) % 2147483647) * ((z * 48271 + 29) % 2147483647) + 39373 * ((z * 48271 + 29) % 2147483647) + 7) % 2147483629) * ((((z * 48271 + 29) % 2147483647) * ((z * 48271 + 29) % 2147483647) + 39373 * ((z * 48271 + 29) % 2147483647) + 7) % 2147483629) + 16807 * ((((z * 48271 + 29) % 2147483647) * ((z * 48271 + 29) % 2147483647) + 39373 * ((z * 48271 + 29) % 2147483647) + 7) % 2147483629)) % 2147483587), rfl, ((((((z * 48271 + 29) % 2147483647) * ((z * 48271 + 29) % 2147483647) + 39373 * ((z * 48271 + 29) % 2147483647) + 7) % 2147483629) * ((((z * 48271 + 29) % 2147483647) * ((z * 48271 + 29) % 2147483647) + 39373 * ((z * 48271 + 29) % 2147483647) + 7) % 2147483629) + 16807 * ((((z * 48271 + 29) % 2147483647) * ((z * 48271 + 29) % 2147483647) + 39373 * ((z * 48271 + 29) % 2147483647) + 7) % 2147483629)) % 2147483587), 8, rfl, rfl, ⟨by decide, by decide⟩, .int n, rfl, ((((((z * 48271 + 29) % 2147483647) * ((z * 48271 + 29) % 2147483647) + 39373 * ((z * 48271 + 29) % 2147483647) + 7) % 2147483629) * ((((z * 48271 + 29) % 2147483647) * ((z * 48271 + 29) % 2147483647) + 39373 * ((z * 48271 + 29) % 2147483647) + 7) % 2147483629) + 16807 * ((((z * 48271 + 29) % 2147483647) * ((z * 48271 + 29) % 2147483647) + 39373 * ((z * 48271 + 29) % 2147483647) + 7) % 2147483629)) % 2147483587) / 8, n, rfl, rfl, hm0, ?_⟩
    exact fin (((((((z * 48271 + 29) % 2147483647) * ((z * 48271 + 29) % 2147483647) + 39373 * ((z * 48271 + 29) % 2147483647) + 7) % 2147483629) * ((((z * 48271 + 29) % 2147483647) * ((z * 48271 + 29) % 2147483647) + 39373 * ((z * 48271 + 29) % 2147483647) + 7) % 2147483629) + 16807 * ((((z * 48271 + 29) % 2147483647) * ((z * 48271 + 29) % 2147483647) + 39373 * ((z * 48271 + 29) % 2147483647) + 7) % 2147483629)) % 2147483587) / 8 % n) ((z * 48271 + 29) % 2147483647) false u0 (fun _ => u1) (Int.emod_nonneg _ (by omega)) (Int.emod_lt_of_pos _ hm0)
end DP

end
section
set_option Elab.async false
set_option linter.all false
set_option maxRecDepth 100000
set_option autoImplicit false
set_option maxHeartbeats 8000000
namespace DP
open PySem PySem.Spec PyProof.Rows L2
section
variable {P : Program} {w : World} {K : PySem.W.Frag} {mg : Str → Option Value} {base : Heap} {G : Sig} {T : Tab}
/-- the law's own def -/
theorem fn_law (t : TabOk P w K mg base G T) {k id n : Nat} {f : Str} {fa : Addr} {fd : FuncData} {params : Arguments} {st : List Stmt} {scope : Scope} {N ps : List Str} {hi : Hint} {fuel : Nat} {body : DSs} (e : T id = some (.def_ N.length body)) (F : FunD K f f params st scope [] [] fa fd) (S : FnScope N ps scope) (l1 : ps.length = n) (hc : compSs fuel G N scope hi st = some body) :
    FnOk P w K mg base (L2.CX P w) (k + 1) fa fd ps (spOf K mg n (wpFn T (k + 1) id)) := by
  have ih := fns_ok t k
  have q := fn_deep (P := P) (w := w) (mg := mg) (base := base) (k := k) (tb := fun E => wpSs (wpFn T k) body E) F S fun cdv A outer s H E C E' hr hn hK tk => by
    refine (soundS G (wpFn T k) hi fuel).ss N scope st body hc _ C E' ⟨rfl, S.nd, rfl, rfl, hr.units, t.bis, t.cst, t.cdc, fun f id n hf => ?_, t.exc, (fun z => by rw [t.nol] at z; cases z), fun z => by rw [t.nor] at z; cases z⟩ ⟨fun _ => rfl, passes_of rfl⟩ hn hK tk (fun z => by rw [t.nol] at z; cases z)
    obtain ⟨fa, fd, ps, q1, q2, q3, q4, q5⟩ := ih f id n hf
    exact ⟨k, fa, fd, ps, q1, q2, hr, q3, q4, q5⟩
  rw [l1] at q
  refine q.imp fun vs H Q E hsp => ?_
  have ew : wpFn T (k + 1) id = fun args Q E => wpSs (wpFn T k) body E { nx := fun _ => Q (.d .none), rt := Q } (s0 N.length args) := by
    show fdW (wpFn T k) (k + 1) (T id) = _
    rw [e]
    rfl
  rw [ew] at hsp
  exact hsp
end
/-- all of a list -/
inductive Al {α : Type} (P : α → Prop) : List α → Prop
  | nil : Al P []
  | cons {a : α} {l : List α} : P a → Al P l → Al P (a :: l)
theorem Al.get {α : Type} {P : α → Prop} {l : List α} (h : Al P l) {a : α} (m : a ∈ l) : P a := by
  induction h with
  | nil => cases m
  | cons p _ ih =>
    cases m with
    | head => exact p
    | tail _ m => exact ih m
theorem lk_mem {β : Type} {x : Str} {y : β} : ∀ {l : List (Str × β)}, l.lookup x = some y → (x, y) ∈ l
  | [], h => by cases h
  | (a, b) :: l, h => by
    rw [List.lookup_cons] at h
    cases e : (x == a) with
    | true =>
      rw [e] at h
      cases h
      rw [eq_of_beq e]
      exact .head _
    | false =>
      rw [e] at h
      exact .tail _ (lk_mem h)
end DP

end
section
set_option Elab.async false
set_option linter.all false
set_option maxRecDepth 100000
set_option autoImplicit false
set_option maxHeartbeats 400000
namespace DP
open PySem PySem.Spec PyProof.Rows L2 LamX
/-! ### a law with lambdas -/
def levF (T : Tab) (k : Nat) : Nat → FW := fun id => if id < off then wpFn T k id else wpFn T (k - 2) (id - off)
theorem levF_lo {T : Tab} {k id : Nat} (h : id < off) : levF T k id = wpFn T k id := if_pos h
theorem levF_hi {T : Tab} {k id o : Nat} (ho : o = off) : levF T k (id + o) = wpFn T (k - 2) id := by
  subst ho
  have h : ¬ (id + off < off) := Nat.not_lt.mpr (Nat.le_add_left _ _)
  have e : levF T k (id + off) = wpFn T (k - 2) (id + off - off) := if_neg h
  rw [e, Nat.add_sub_cancel]
def wpLaw (T : Tab) (k N : Nat) (body : DSs) : FW := fun args Q E => wpSs (levF T k) body E { nx := fun _ => Q (.d .none), rt := Q } (s0 N args)
def spT (K : PySem.W.Frag) (mg : Str → Option Value) (n : Nat) (φ : FW) (Pt : Addr) (q : Str) : Sp := fun vs H Q E => vs.length = n ∧ ∃ (O : List Addr) (S : List (Addr × SK)) (ds : List DV) (Q' : RV → Prop) (E' : Str → Prop),
  ArgsD K H O S vs ds ∧ (∀ a ∈ O, H a ≠ none) ∧ (∀ s ∈ S, SInv H s ∧ s.1 ∈ O) ∧ ((Pt, SK.tab q) ∈ S ∧ ∀ q', (Pt, SK.tab q') ∈ S → q' = q) ∧ φ (ds.map DV.er) Q' E' ∧
    (∀ v H' rv, Out ⟨K, 0, O, H, S⟩ H' → RetV ⟨K, 0, O, H, S⟩ v H' rv → Q' rv → Q v H') ∧ ∀ c Ca H', mg c = some (.ref Ca) → Out ⟨K, 0, O, H, S⟩ H' → E' c → E (.ref Ca) none H'
section
variable {P : Program} {w : World} {K : PySem.W.Frag} {mg : Str → Option Value} {base : Heap} {G : Sig} {T : Tab}
theorem fn_lamD (t : TabOk P w K mg base G T) (hid : ∀ f id n, G.funs.lookup f = some (id, n) → id < off) {k n kind : Nat} {f x : Str} {fa c Pt : Addr} {fd : FuncData} {params : Arguments} {st : List Stmt} {scope : Scope} {N ps : List Str} {hi : Hint} {fuel : Nat} {body : DSs}
    (F : FunD K f f params st scope [] [] fa fd) (hc0 : fd.code = .ref c) (TB : TabB base mg c Pt) (hk : 2 ≤ k) (S : FnScope N ps scope) (l1 : ps.length = n) (hc : compSs fuel { G with lam := true, ref := some (x, kind) } N scope hi st = some body)
    (hR : ∀ X : Cx, X.prog = P → X.w = w → X.K = K → X.mg = mg → X.base = base → Room k X.A → RefOk X x (TTref kind X.mg)) :
    FnOk P w K mg base (L2.CX P w) (k + 1) fa fd ps (spT K mg n (wpLaw T k N.length body) Pt ((envOfC f scope 0 fa (.ref c)).qual ++ "<lambda>")) := by
  have hpl : ps.length ≤ N.length := by have := congrArg List.length S.pre; rw [List.length_take] at this; omega
  obtain ⟨oc, od, dV, kV, doc, pm, an, cdv, ct, osl, rfl, lk, hcd, _, _⟩ := F.ex
  have hcv : cdv = .ref c := hc0
  subst hcv
  refine fn_of lk hcd S (fun vs H Q E h => by rw [l1]; exact h.1) fun A outer s H vs Q E hr hsp => ?_
  obtain ⟨hl, O, Sh, ds, Q', E', ha, dm, hs, hT, hφ, hQ, hE⟩ := hsp
  obtain ⟨r, R, er_⟩ := rep_start (N := N) (by omega) ha dm hs
  have tk : Takes (cxOf (L2.CX P w) P w K mg base N f scope fa (.ref c) A outer s H E) (wOf mg ⟨K, N.length, O, H, Sh⟩ E') := by
    refine Takes.imp (takes_of (X := cxOf (L2.CX P w) P w K mg base N f scope fa (.ref c) A outer s H E) (E := E) rfl rfl rfl rfl) fun cls d σ H' h => ?_
    obtain ⟨c, Ca, h1, rfl, rfl, h4, h5⟩ := h
    exact hE c Ca H' h1 ⟨h4.ext, h4.sto, h4.dom⟩ h5
  have out : ∀ H', Out ⟨K, N.length, O, H, Sh⟩ H' → Out ⟨K, 0, O, H, Sh⟩ H' := fun H' h => ⟨h.ext, h.sto, h.dom⟩
  have gd : Gd { G with lam := true, ref := some (x, kind) } (levF T k) N scope (cxOf (L2.CX P w) P w K mg base N f scope fa (.ref c) A outer s H E) := by
    refine ⟨rfl, S.nd, rfl, rfl, hr.units, t.bis, t.cst, t.cdc, fun f id n hf => ?_, t.exc, fun _ => ⟨k - 2, by rw [Nat.sub_add_cancel hk]; exact hr, fun f id n hf => ?_, fun y kd e => ?_⟩, fun z => by rw [show G.rep = false from t.nor] at z; cases z⟩
    · obtain ⟨fa, fd, ps, q1, q2, q3, q4, q5⟩ := fns_ok t k f id n hf
      refine ⟨k, fa, fd, ps, q1, ?_, hr, q3, q4, q5⟩
      rw [levF_lo (hid f id n hf)]
      exact q2
    · obtain ⟨fa, fd, ps, q1, q2, q3, q4, q5⟩ := fns_ok t (k - 2) f id n hf
      refine ⟨fa, fd, ps, q1, ?_, q3, q4, q5⟩
      rw [levF_hi rfl]
      exact q2
    · cases e
      exact hR _ rfl rfl rfl rfl rfl hr
  unfold wpLaw at hφ
  rw [← er_] at hφ
  have tc : TabC (cxOf (L2.CX P w) P w K mg base N f scope fa (.ref c) A outer s H E) ⟨K, N.length, O, H, Sh⟩ := by
    have eq : (cxOf (L2.CX P w) P w K mg base N f scope fa (.ref c) A outer s H E).env.qual = (envOfC f scope 0 fa (.ref c)).qual := rfl
    unfold TabC
    rw [eq]
    exact ⟨c, Pt, rfl, TB, hT.1, hT.2⟩
  have ps := (soundS { G with lam := true, ref := some (x, kind) } (levF T k) hi fuel).ss N scope st body hc _ ⟨K, N.length, O, H, Sh⟩ E' gd ⟨fun _ => rfl, passes_of rfl⟩ rfl rfl tk (fun _ => tc)
  refine ⟨_, ps, r, { nx := fun _ => Q' (.d .none), rt := Q' }, R, hφ, fun σ' H' r' R' q => ?_, fun v H' rv h1 h2 q => ?_, fun _ _ _ _ q => q, fun _ _ _ _ q => q⟩
  · exact hQ .non H' (.d .none) (out _ R'.out) .non q
  · refine hQ v H' rv (out _ h1) ?_ q
    cases rv with
    | d x => exact h2
    | l xs => exact h2
/-- the law's promise -/
def spLawT (K : PySem.W.Frag) (φ : FW) (Pt : Addr) : Sp := fun vs H Q _ => ∃ a ns, vs = [V.ref a] ∧ H Pt = some (.tbl #[]) ∧ SqL K H a (ns.map V.int) ∧ φ [.scr ns] (fun rv => rv = .d (.bool true)) (fun _ => False) ∧ ∀ H', Q (.bl true) H'
theorem spT_of {φ : FW} {Pt a : Addr} {q : Str} {ns : List Int} {H : Hp} {Q : VK} (hP : H Pt = some (.tbl #[])) (sc : ScrOk K H a ns) (hφ : φ [.scr ns] (fun rv => rv = .d (.bool true)) fun _ => False) (hQ : ∀ H', Q (.bl true) H') : spT K mg 1 φ Pt q [.ref a] H Q fun _ _ _ => False := by
  refine ⟨rfl, [Pt], [(Pt, .tab q)], [.scr a ns], fun rv => rv = .d (.bool true), fun _ => False, .cons ⟨rfl, sc⟩ .nil, fun b hb => ?_, fun s hs => ?_, ⟨.head _, fun q' h => ?_⟩, hφ, fun v H' rv o rt e => ?_, fun c Ca H' _ _ z => z.elim⟩
  · rw [List.mem_singleton.mp hb, hP]
    simp
  · rw [List.mem_singleton.mp hs]
    exact ⟨TabS.nil hP, .head _⟩
  · have h := List.mem_singleton.mp h
    cases h
    rfl
  · subst e
    rw [rp_bl rt]
    exact hQ H'
theorem fn_lawT {k : Nat} {fa : Addr} {fd : FuncData} {x q : Str} {φ : FW} {Pt : Addr} (F : FnOk P w K mg base (L2.CX P w) k fa fd [x] (spT K mg 1 φ Pt q)) : FnOk P w K mg base CX0 k fa fd [x] (spLawT K φ Pt) := by
  refine ⟨fun vs H Q E ⟨a, ns, e, _⟩ => by rw [e]; rfl, fun A outer s H args us vs Q E hr e0 hb rv hsp => ?_⟩
  obtain ⟨a, ns, rfl, hP, hS, hφ, hQ⟩ := hsp
  have fin : ∀ {H' : Hp}, Env0 P w K mg base A outer s H' → spT K mg 1 φ Pt q [.ref a] H' Q (fun _ _ _ => False) → (∀ H2 h2, Un (frs outer) [] H' H2 s.heap h2 → Un (frs outer) [] H H2 s.heap h2) → codeAny (model P w) A (.call (.ref fa) args) (CR CX0 outer P w H s Q E) s := fun {H'} e1 sp un =>
    codeAny_mono (F.run A outer s H' args us [.ref a] Q _ hr e1 hb rv sp) fun re s' hq => by
      cases re with
      | ok fl =>
        cases fl with
        | ret u =>
          obtain ⟨v, H2, h1, h2, h3, h4, h5, h6⟩ := (show CE outer P w H' s Q u s' from hq)
          exact ⟨v, H2, h1, h2, un _ _ h3, h4, h5, h6⟩
        | next => exact (show False from hq)
        | brk => exact (show False from hq)
        | cont => exact (show False from hq)
      | error e =>
        obtain ⟨_, _, _, _, _, _, _, _, _, _, _, _, z⟩ := (show L2.CX P w outer H' s (fun _ _ _ => False) e s' from hq)
        exact z.elim
  rcases hS with (h | ⟨o, h⟩) | h
  · obtain ⟨o, ho⟩ : ∃ o, s.heap.get? a = some o := by
      obtain ⟨_, its, n, _, e⟩ := e0.hok a _ h
      exact ⟨_, e⟩
    have nP : Pt ≠ a := fun z => by rw [z, h] at hP; cases hP
    have at_ : ∀ b, b ≠ a → upd H a (.frz o (.lst (ns.map V.int))) b = H b := fun b hb => upd_ne hb
    have nn : ∀ b, H b = none → b ≠ a := fun b e z => by rw [z, h] at e; cases e
    refine fin (H' := upd H a (.frz o (.lst (ns.map V.int)))) ⟨e0.frames, e0.mod, fun b u e => ?_, e0.bsz, e0.funs, fun b hb => ?_, fun b u e => ?_, e0.bare⟩ (spT_of (by rw [at_ _ nP]; exact hP) (.inl ⟨o, upd_same⟩) hφ hQ) fun H2 h2 un => ?_
    · obtain ⟨e1, e2⟩ := e0.bs b u e
      exact ⟨e1, by rw [at_ b (nn b e2)]; exact e2⟩
    · have e2 := e0.frf b hb
      rw [at_ b (nn b e2)]
      exact e2
    · by_cases hb : b = a
      · subst hb
        rw [upd_same] at e
        cases e
        exact ⟨ho, e0.hok b _ h⟩
      · rw [at_ b hb] at e
        exact (e0.hok b u e).stay (fun c v _ q => q) (fun c q => by rw [at_ c (fun z => by rw [z, h] at q; cases q)]; exact q) fun c xs q => by rw [at_ c (fun z => by rw [z, h] at q; cases q)]; exact q
    · refine ⟨fun b u e n => un.keep b u e (by rw [at_ b (nn b n)]; exact n), fun b u e n => un.slot b u e (by rw [at_ b (nn b n)]; exact n), fun b u e n => un.free b u e (by rw [at_ b (nn b n)]; exact n), un.there, fun b xs e => un.tups b xs ?_, fun b o' u e => un.frzs b o' u ?_, fun b ps e => un.tbls b ps ?_⟩
      · rw [at_ b (fun z => by rw [z, h] at e; cases e)]; exact e
      · rw [at_ b (fun z => by rw [z, h] at e; cases e)]; exact e
      · rw [at_ b (fun z => by rw [z, h] at e; cases e)]; exact e
  · exact fin e0 (spT_of hP (.inl ⟨o, h⟩) hφ hQ) fun _ _ u => u
  · exact fin e0 (spT_of hP (.inr h) hφ hQ) fun _ _ u => u
end
end DP

end
section
set_option Elab.async false
set_option linter.all false
set_option maxRecDepth 100000
set_option autoImplicit false
set_option maxHeartbeats 2000000
namespace DP
open PySem PySem.Spec PyProof.Rows L2 LamX
/-! ### try .. except X as e, where e's object is kept behind the suite -/
def ExK (cls : Value) (d : Option Addr) (a : Addr) : HO := .ext fun h => ∃ (oe : Obj) (vs : Array Value), h.get? a = some oe ∧ Zc cls d oe ∧ oe.data = .fields vs
section
variable {X : Cx} {pins : List (Addr × Obj)} {σ : L2.St} {H : Hp} {s : Shared}
theorem Inv.track {a : Addr} {oe : Obj} {cls : Value} {d : Option Addr} (I : Inv X ((a, oe) :: pins) σ H s) (h0 : X.s_0.heap.get? a = none) (np : ∀ p ∈ X.pn ++ pins, p.1 ≠ a) (z : Zc cls d oe) (hd : ∃ vs, oe.data = .fields vs) : Inv X pins σ (upd H a (ExK cls d a)) s := by
  obtain ⟨e, n, ne, nf, nc⟩ := I.pin (a, oe) (List.mem_append_right _ (.head _))
  obtain ⟨vs, hv⟩ := hd
  have old : ∀ b o, X.s_0.heap.get? b = some o → b ≠ a := fun b o q w => by rw [w, h0] at q; cases q
  have tr : ∀ b u, H b = some u → upd H a (ExK cls d a) b = some u := fun b u q => by rw [upd_ne (ne_of_none q n)]; exact q
  refine ⟨I.ok, I.os, I.bare, ⟨I.base.keep, I.base.slot, fun b o q m x => ?_, I.base.there, fun b xs q => tr _ _ (I.base.tups b xs q), fun b o u q => tr _ _ (I.base.frzs b o u q), fun b ps q => ?_⟩, I.loc, I.cell, ?_, fun x c q => ?_, fun p hp => ?_, fun b u q => ?_, I.len⟩
  · rw [upd_ne (old b o q)]
    exact I.base.free b o q m x
  · obtain ⟨more, w⟩ := I.base.tbls b ps q
    exact ⟨more, tr _ _ w⟩
  · rw [upd_ne (Ne.symm ne)]
    exact I.free
  · obtain ⟨v, o, ho, hdc⟩ := I.cell x c q
    rw [upd_ne]
    · exact I.freeC x c q
    · intro w
      rw [w, e] at ho
      cases ho
      rw [hv] at hdc
      cases hdc
  · obtain ⟨e2, n2, r⟩ := I.pin p (by
      rcases List.mem_append.mp hp with h | h
      · exact List.mem_append_left _ h
      · exact List.mem_append_right _ (.tail _ h))
    exact ⟨e2, by rw [upd_ne (np p hp)]; exact n2, r⟩
  · by_cases hb : b = a
    · subst hb
      rw [upd_same] at q
      cases q
      exact ⟨⟨oe, vs, e, z, hv⟩, ⟨oe, e⟩, fun h1 h2 ⟨o, v, q1, q2⟩ k => ⟨o, v, k o q1, q2⟩⟩
    · rw [upd_ne hb] at q
      exact (I.hok b u q).stay (fun c v _ q => q) (fun c q => tr _ _ q) fun c xs q => tr _ _ q
end
def wKeep (K : PySem.W.Frag) (c : Value) (i : Nat) (ts : Addr → Value → Option Addr → TS) (D : Ends) : WX := fun cls d σ H =>
  PySem.W.exmOne K cls c = some true ∧ ∀ a, H a = none → ts a cls d { nx := fun σ' H' => D.nx (σ'.set i none) (upd H' a (ExK cls d a)), rt := fun _ _ => False, bk := fun _ _ => False, ct := fun _ _ => False } (σ.set i (some (.ref a))) H
section
variable {X : Cx} {x n : Str} {c : Value} {i : Nat} {body suite : List Stmt} {b₀ : Stmt} {np pos pos' : Pos} {tb : WX → TS} {ts : Addr → Value → Option Addr → TS}
theorem ps_try_kept (hs : X.stack = X.env :: X.outer) (hf : X.env.frame = some X.env.locals) (hex : X.ex = []) (hN : X.N.Nodup) (hi : X.N[i]? = some n) (hln : X.env.kindOf n = some .local) (hc : Names X x c)
    (hb : ∀ (W : WX) (pn : List (Addr × Obj)) (xe : Value → Shared → Prop), Takes (X.tr pn xe) W → PassesOwn (model X.prog X.w) X.A X.env xe → PSs (X.tr pn xe) body (tb W))
    (hsu : ∀ (a : Addr) (oe : Obj) (cls : Value) (d : Option Addr) (pn : List (Addr × Obj)), Zc cls d oe → (∃ vs, oe.data = .fields vs) → PSs (X.suite a ((a, oe) :: pn)) (b₀ :: suite) (ts a cls d)) :
    PS X (.Try body [.ExceptHandler (some (.Name x np)) (some n) (b₀ :: suite) pos'] [] [] pos) (fun D σ H => tb (wKeep X.K c i ts D) D σ H) := by
  refine ⟨fun pins s σ H D I h => ?_⟩
  have ok := I.ok
  have hfr : X.A.frames = some (X.env :: X.outer) := by rw [ok.frames, hs]
  refine wpAny_Try_except ?_
  refine wpAny_mono ((hb (wKeep X.K c i ts D) (X.pn ++ pins) (fun e s₁ => wpAny (model X.prog X.w) X.A (noteFrame e X.env) (fun _ s₂ => wpAny (model X.prog X.w) X.A (setFlight e none) (fun _ s₃ =>
    wpAny (model X.prog X.w) X.A (handleBy e X.env [.ExceptHandler (some (.Name x np)) (some n) (b₀ :: suite) pos']) (SP X pins D) X.xe s₃) X.xe s₂) X.xe s₁) (fun u s' xx => ?_) PassesOwn.looking).run [] s σ H D (I.toTry _) h) (fun f s1 hsp => ?_) (fun e s1 he => he)
  · obtain ⟨a, B, sI, pins', σ', H', cls, d, rfl, J', nb, up, sky, na, os, ag, hb1, hyes⟩ := xx
    have J : Inv X pins σ' H' sI := J'.ofTry ok
    have sky' : Sky B (X.env :: X.outer) a (Zc cls d) X.env.locals s'.heap := by rw [← hs]; exact sky
    show wpAny (model X.prog X.w) X.A (noteFrame (.ref a) X.env) _ _ _
    refine Sky.land Zc.steady hfr hf sky' fun h3 fl3 up3 => ?_
    obtain ⟨oe3, vs3, he3, hz3, hd3⟩ := fl3.there
    have nfr : a ∉ frs (X.env :: X.outer) := fun hm => by
      obtain ⟨_, o', e', hnf⟩ := fl3.2.2.1.mem hm
      rw [he3] at e'; cases e'
      exact hnf _ hd3
    have noI : sI.heap.get? a = none := by
      cases q : sI.heap.get? a with
      | none => rfl
      | some o =>
        have z := nb a o q (by rw [hs]; exact nfr)
        rw [fl3.2.1] at z
        cases z
    have no0 : X.s_0.heap.get? a = none := by
      cases q : X.s_0.heap.get? a with
      | none => rfl
      | some o =>
        obtain ⟨o', z⟩ := J.base.there a o q (by rw [hex]; simp)
        rw [noI] at z
        cases z
    have npa : ∀ p ∈ X.pn ++ pins, p.1 ≠ a := fun p hp z => by
      have q := (J.pin p hp).1
      rw [z, noI] at q
      cases q
    have nL : a ≠ X.env.locals := fun z => nfr (List.mem_filterMap.mpr ⟨X.env, List.mem_cons_self, by rw [hf, z]⟩)
    have nF : a ∉ X.fs := fun hm => by
      obtain ⟨e, he, q⟩ := List.mem_filterMap.mp hm
      exact nfr (List.mem_filterMap.mpr ⟨e, List.mem_cons_of_mem _ he, q⟩)
    have J3 : Inv X pins σ' H' { s' with heap := h3 } := J.landed nb fl3.1 (up.trans up3) os ag
    have S3 := J3.suite he3 hd3 na nL nF
    refine wpAny_handleBy_cons (codeAny_handlers_test ?_) (by intro q; cases q)
    have LT : PySem.W.Looks (model X.prog X.w) h3 (typeOf (.ref a)) cls := fun A Q E s k q => wpAny_typeOf_ref (k _ _ he3) (by rw [hz3.1]; exact q)
    have LM := PySem.W.exm_one (M := model X.prog X.w) (J3.kIn) LT hb1
    have test : ∀ {Q : Value → Shared → Prop} {E : Value → Shared → Prop}, Q c { s' with heap := h3 } → wpAny (model X.prog X.w) (X.A.mark (some (.ref a))) (eval (.Name x np) X.env) Q E { s' with heap := h3 } := fun {Q E} q => by
      obtain ⟨hg, hdbg, hm | ⟨hm, hv, hnn⟩⟩ := hc
      · exact ld_glob (X := X.suite a ((a, oe3) :: (X.pn ++ pins))) S3 hg hm q hdbg
      · exact ld_blt (X := X.suite a ((a, oe3) :: (X.pn ++ pins))) S3 hg hm hv q hnn hdbg
    refine test (LM.here ?_)
    refine codeAny_handlers_suite_as ?_
    refine HandSPX.lands_againZ fl3 fun h4 fl4 up4 => ?_
    have J4 : Inv X pins σ' H' { s' with heap := h4 } := J.landed nb fl4.1 ((up.trans up3).trans up4) os ag
    obtain ⟨oe4, vs4, he4, hz4, hd4⟩ := fl4.there
    have S4 := J4.suite he4 hd4 na nL nF
    refine store_ok (X := X.suite a ((a, oe4) :: (X.pn ++ pins))) (v := .ref a) S4 hN hi (.inl hln) rfl (fun s5 S5 => ?_) (.inr hln)
    refine wpAny_mono ((hsu a oe4 cls d (X.pn ++ pins) hz4 ⟨_, hd4⟩).run [] s5 _ H' _ S5 (hyes a na)) (fun f s6 hsp => ?_) (fun _ _ z => False.elim z)
    cases f with
    | next =>
      obtain ⟨σ6, H6, S6, q6⟩ := hsp
      have J6 : Inv X ((a, oe4) :: pins) σ6 H6 s6 := ⟨ok, S6.os, S6.bare, S6.base, S6.loc, S6.cell, S6.free, S6.freeC, fun p hp => S6.pin p (List.mem_append_left _ (by
        rcases List.mem_append.mp hp with h | h
        · exact .tail _ (List.mem_append_left _ h)
        · rcases List.mem_cons.mp h with h | h
          · rw [h]; exact .head _
          · exact .tail _ (List.mem_append_right _ h))), S6.hok, S6.len⟩
      exact gone_ok J6 hN hi hln fun s7 J7 => ⟨_, _, DP.Inv.track J7 no0 npa hz4 ⟨_, hd4⟩, q6⟩
    | brk => obtain ⟨_, _, _, q6⟩ := hsp; exact (show False from q6).elim
    | cont => obtain ⟨_, _, _, q6⟩ := hsp; exact (show False from q6).elim
    | ret u => obtain ⟨_, _, _, _, _, q6⟩ := hsp; exact (show False from q6).elim
  · cases f with
    | next =>
      obtain ⟨σ', H', J', q⟩ := hsp
      exact wpAny_execs_nil ⟨σ', H', J'.ofTry ok, q⟩
    | brk =>
      obtain ⟨σ', H', J', q⟩ := hsp
      exact ⟨σ', H', J'.ofTry ok, q⟩
    | cont =>
      obtain ⟨σ', H', J', q⟩ := hsp
      exact ⟨σ', H', J'.ofTry ok, q⟩
    | ret u =>
      obtain ⟨v, σ', H', J', r, q⟩ := hsp
      exact ⟨v, σ', H', J'.ofTry ok, r, q⟩
end
/-! ### isinstance of such an object -/
def rIsK (K : PySem.W.Frag) : List V → Hp → VK → Prop := fun xs H Q => ∃ (a D : Addr) (c : V) (cv : Value) (b : Bool), ExcC K D ∧ xs = [.ref a, c] ∧ H a = some (ExK (.ref D) none a) ∧ (∀ u, RelV c u → u = cv) ∧ PySem.W.kitOne K (.ref D) cv = some b ∧ Q (.bl b) H
theorem call_isK {X : Cx} : CallR X (.builtin "isinstance") (rIsK X.K) := by
  intro pins s σ H xs us Q I r h
  obtain ⟨a, D, c, cv, b, C, rfl, ha, hcv, e, q⟩ := h
  cases r with
  | cons rx rr =>
    cases rr with
    | cons rt rr =>
      cases rr
      cases rx
      have ec := hcv _ rt
      subst ec
      obtain ⟨⟨oe, vs, hget, hz, hv⟩, _⟩ := I.hok a _ ha
      have J : PySem.W.InstAt s.heap a oe D none := by
        obtain ⟨oc, od, oda, osl⟩ := oe
        obtain ⟨h1, h2⟩ := hz
        dsimp only at h1 h2 hv
        subst h1 h2 hv
        exact ⟨hget, rfl, rfl, trivial⟩
      exact PySem.W.kia_one (PySem.W.handS_kitx_exc C.hg C.hk C.hs C.hd C.ha C.hn C.ht C.hm) I.kIn J e (fun z => nomatch z) fun tk => ⟨.bl b, H, I.kept (t' := tk) fun _ _ z => z, rfl, q⟩
end DP

end
section
set_option Elab.async false
set_option linter.all false
set_option maxRecDepth 100000
set_option autoImplicit false
set_option maxHeartbeats 2000000
namespace DP
open PySem PySem.Spec PyProof.Rows L2 LamX
/-! ### _law_refused -/
def refN : List Str := ["_law_call", "_law_error", "e", "_law_sorts", "_law_one", "_law_words"]
def refA0 (cs : Scope) (p0 p1 p2 p3 p4 p5 p6 p7 p8 p9 p10 p11 p12 p13 p14 p15 p16 p17 p18 p19 p20 p21 p22 p23 p24 p25 p26 p27 p28 p29 p30 p31 p32 p33 p34 p35 p36 p37 p38 p39 p40 p41 p42 p43 p44 p45 p46 p47 p48 p49 p50 p51 p52 p53 p54 p55 p56 p57 p58 p59 p60 p61 p62 p63 p64 p65 p66 p67 p68 p69 p70 p71 p72 p73 p74 p75 p76 p77 p78 p79 p80 p81 p82 p83 p84 p85 p86 p87 p88 p89 p90 p91 p92 p93 p94 p95 p96 p97 p98 p99 p100 p101 p102 p103 p104 p105 p106 p107 p108 p109 p110 p111 p112 p113 : Pos) : List Stmt := [.Assign [(.Name "_law_error" p0)] (.Constant .none 0 p1) p2,
  .Try [.Expr (.Call (.Name "_law_call" p3) [] [] p4) p5] [.ExceptHandler (some (.Name "SpaceError" p6)) (some "e") [.Assign [(.Name "_law_error" p7)] (.Name "e" p8) p9] p10] [] [] p11,
  .If (.Compare (.Name "_law_error" p12) [.Is] [(.Constant .none 0 p13)] p14) [.Return (some (.Constant .none 0 p15)) p16] [] p17,
  .Assign [(.Name "_law_sorts" p18)] (.List [(.Call (.Name "isinstance" p19) [(.Name "_law_error" p20), (.Name "NoRow" p21)] [] p22), (.Call (.Name "isinstance" p23) [(.Name "_law_error" p24), (.Name "NoPart" p25)] [] p26), (.Call (.Name "isinstance" p27) [(.Name "_law_error" p28), (.Name "NoNumber" p29)] [] p30)] p31) p32,
  .Assign [(.Name "_law_sorts" p33)] (.BinOp (.Name "_law_sorts" p34) .Add (.List [(.Call (.Name "isinstance" p35) [(.Name "_law_error" p36), (.Name "NoHeads" p37)] [] p38), (.Call (.Name "isinstance" p39) [(.Name "_law_error" p40), (.Name "NotBeside" p41)] [] p42), (.Call (.Name "isinstance" p43) [(.Name "_law_error" p44), (.Name "NotIn" p45)] [] p46)] p47) p48) p49,
  .Assign [(.Name "_law_sorts" p50)] (.BinOp (.Name "_law_sorts" p51) .Add (.List [(.Call (.Name "isinstance" p52) [(.Name "_law_error" p53), (.Name "NoTurn" p54)] [] p55), (.Call (.Name "isinstance" p56) [(.Name "_law_error" p57), (.Name "NoLot" p58)] [] p59), (.Call (.Name "isinstance" p60) [(.Name "_law_error" p61), (.Name "TooMany" p62)] [] p63)] p64) p65) p66,
  .Expr (.Call (.Attribute (.Name "_law_sorts" p67) "append" p68) [(.Call (.Name "isinstance" p69) [(.Name "_law_error" p70), (.Name "BadNote" p71)] [] p72)] [] p73) p74,
  .If (.BoolOp .Or [(.UnaryOp .Not (.Call (.Name "isinstance" p75) [(.Name "_law_error" p76), (.Name "ValueError" p77)] [] p78) p79), (.Compare (.Call (.Name "sum" p80) [(.ListComp (.Call (.Name "int" p81) [(.Name "_law_one" p82)] [] p83) [⟨(.Name "_law_one" p84), (.Name "_law_sorts" p85), [], 0⟩] cs p86)] [] p87) [.NotEq] [(.Constant (.int 1) 0 p88)] p89)] p90) [.Return (some (.Constant (.str "none of these") 0 p91)) p92] [] p93,
  .Assign [(.Name "_law_words" p94)] (.List [(.Constant (.str "row") 0 p95), (.Constant (.str "part") 0 p96), (.Constant (.str "number") 0 p97), (.Constant (.str "heads") 0 p98), (.Constant (.str "not beside") 0 p99), (.Constant (.str "not in") 0 p100), (.Constant (.str "turn") 0 p101), (.Constant (.str "lot") 0 p102), (.Constant (.str "many") 0 p103), (.Constant (.str "note") 0 p104)] p105) p106,
  .Return (some (.Subscript (.Name "_law_words" p107) (.Call (.Attribute (.Name "_law_sorts" p108) "index" p109) [(.Constant (.bool true) 0 p110)] [] p111) p112)) p113]
def refA1 (cs : Scope) (p0 p1 p2 p3 p4 p5 p6 p7 p8 p9 p10 p11 p12 p13 p14 p15 p16 p17 p18 p19 p20 p21 p22 p23 p24 p25 p26 p27 p28 p29 p30 p31 p32 p33 p34 p35 p36 p37 p38 p39 p40 p41 p42 p43 p44 p45 p46 p47 p48 p49 p50 p51 p52 p53 p54 p55 p56 p57 p58 p59 p60 p61 p62 p63 p64 p65 p66 p67 p68 p69 p70 p71 p72 p73 p74 p75 p76 p77 p78 p79 p80 p81 p82 p83 p84 p85 p86 p87 p88 p89 p90 p91 p92 p93 p94 p95 p96 p97 p98 p99 : Pos) : List Stmt := [.Assign [(.Name "_law_error" p0)] (.Constant .none 0 p1) p2,
  .Try [.Expr (.Call (.Name "_law_call" p3) [] [] p4) p5] [.ExceptHandler (some (.Name "SpaceError" p6)) (some "e") [.Assign [(.Name "_law_error" p7)] (.Name "e" p8) p9] p10] [] [] p11,
  .If (.Compare (.Name "_law_error" p12) [.Is] [(.Constant .none 0 p13)] p14) [.Return (some (.Constant .none 0 p15)) p16] [] p17,
  .Assign [(.Name "_law_sorts" p18)] (.List [(.Call (.Name "isinstance" p19) [(.Name "_law_error" p20), (.Name "NoRow" p21)] [] p22), (.Call (.Name "isinstance" p23) [(.Name "_law_error" p24), (.Name "NoPart" p25)] [] p26), (.Call (.Name "isinstance" p27) [(.Name "_law_error" p28), (.Name "NoNumber" p29)] [] p30)] p31) p32,
  .Assign [(.Name "_law_sorts" p33)] (.BinOp (.Name "_law_sorts" p34) .Add (.List [(.Call (.Name "isinstance" p35) [(.Name "_law_error" p36), (.Name "NoHeads" p37)] [] p38), (.Call (.Name "isinstance" p39) [(.Name "_law_error" p40), (.Name "NotBeside" p41)] [] p42), (.Call (.Name "isinstance" p43) [(.Name "_law_error" p44), (.Name "NotIn" p45)] [] p46)] p47) p48) p49,
  .Assign [(.Name "_law_sorts" p50)] (.BinOp (.Name "_law_sorts" p51) .Add (.List [(.Call (.Name "isinstance" p52) [(.Name "_law_error" p53), (.Name "NoTurn" p54)] [] p55), (.Call (.Name "isinstance" p56) [(.Name "_law_error" p57), (.Name "NoLot" p58)] [] p59), (.Call (.Name "isinstance" p60) [(.Name "_law_error" p61), (.Name "TooMany" p62)] [] p63)] p64) p65) p66,
  .Expr (.Call (.Attribute (.Name "_law_sorts" p67) "append" p68) [(.Call (.Name "isinstance" p69) [(.Name "_law_error" p70), (.Name "BadNote" p71)] [] p72)] [] p73) p74,
  .If (.BoolOp .Or [(.UnaryOp .Not (.Call (.Name "isinstance" p75) [(.Name "_law_error" p76), (.Name "ValueError" p77)] [] p78) p79), (.Compare (.Call (.Name "sum" p80) [(.ListComp (.Call (.Name "int" p81) [(.Name "_law_one" p82)] [] p83) [⟨(.Name "_law_one" p84), (.Name "_law_sorts" p85), [], 0⟩] cs p86)] [] p87) [.NotEq] [(.Constant (.int 1) 0 p88)] p89)] p90) [.Return (some (.UnaryOp .USub (.Constant (.int 1) 0 p91) p92)) p93] [] p94,
  .Return (some (.Call (.Attribute (.Name "_law_sorts" p95) "index" p96) [(.Constant (.bool true) 0 p97)] [] p98)) p99]
def refGs : Sig := { bis := ["sum", "int"], consts := [], funs := [], excs := [], scr := [] }
def refSum : DE := .cmp .NotEq (.bi .sum (.cons (.lc (.bi .int (.cons (.var 4) .nil)) (.one 4) (.seq (.var 3)) .tt [4]) .nil)) (.c (.int 1))
/-- what is known of the text's names -/
def refVs : List Str := ["_law_call", "_law_error", "_law_sorts"]
def refLs : List Str := ["_law_error", "_law_sorts"]
def refBs : List Str := ["SpaceError", "isinstance", "ValueError"]
def nmE : Str := "e"
def refScB (sg : Scope) : Bool := (refVs.all fun x => visB sg x) && (refLs.all fun x => locB sg x) && decide (sg.names.lookup nmE = some NameKind.local) && ((refBs ++ excNames).all fun x => glB sg x)
structure RefCx (Z : Cx) (sg : Scope) (CA : Nat → Addr) (CS : Addr) : Prop where
  hN : Z.N = refN
  hsc : Z.env.scope = sg
  calm : Z.calm = true
  un : Z.A.units + 64 < cLine
  fn : ∀ x, Z.fn x = true
  sc : refScB sg = true
  isi : Z.mg "isinstance" = none
  sum : Z.mg "sum" = none
  int : Z.mg "int" = none
  ve : Z.mg "ValueError" = none
  sp : Z.mg "SpaceError" = some (.ref CS)
  cls : ∀ j, j < 10 → Z.mg (excNames.getD j "") = some (.ref (CA j)) ∧ ExcC Z.K (CA j) ∧ PySem.W.kitOne Z.K (.ref (CA j)) (.type "ValueError") = some true ∧ PySem.W.exmOne Z.K (.ref (CA j)) (.ref CS) = some true
  kit : ∀ i j, i < 10 → j < 10 → PySem.W.kitOne Z.K (.ref (CA i)) (.ref (CA j)) = some (decide (i = j))
def ErrAt (CA : Nat → Addr) (σ : L2.St) (H : Hp) (a : Addr) (i : Nat) : Prop := i < 10 ∧ σ[1]? = some (some (.ref a)) ∧ H a = some (ExK (.ref (CA i)) none a)
theorem ErrAt.set {CA : Nat → Addr} {σ : L2.St} {H : Hp} {a : Addr} {i : Nat} (h : ErrAt CA σ H a i) {j : Nat} (hj : j ≠ 1) (v : Option V) : ErrAt CA (σ.set j v) H a i := ⟨h.1, by rw [List.getElem?_set_ne hj]; exact h.2.1, h.2.2⟩
theorem ErrAt.new {CA : Nat → Addr} {σ : L2.St} {H : Hp} {a : Addr} {i : Nat} (h : ErrAt CA σ H a i) {p : Addr} {o : HO} (hp : H p = none) : ErrAt CA σ (upd H p o) a i := ⟨h.1, h.2.1, by rw [upd_ne (ne_of_none h.2.2 hp)]; exact h.2.2⟩
theorem ErrAt.chg {CA : Nat → Addr} {σ : L2.St} {H : Hp} {a : Addr} {i : Nat} (h : ErrAt CA σ H a i) {p : Addr} {o : HO} {xs : List V} (hp : H p = some (.lst xs)) : ErrAt CA σ (upd H p o) a i := ⟨h.1, h.2.1, by
  rw [upd_ne]
  · exact h.2.2
  · intro z
    have e := h.2.2
    rw [z, hp] at e
    cases e⟩
def tIs (CA : Nat → Addr) (j : Nat) : TE := fun σ H Q => ∃ a i, ErrAt CA σ H a i ∧ Q (.bl (decide (i = j))) H
section
variable {Z : Cx} {sg : Scope} {CA : Nat → Addr} {CS : Addr}
theorem RefCx.vis (c : RefCx Z sg CA CS) {x : Str} (h : x ∈ refVs) : Vis Z.env.scope x := by
  have q := c.sc
  unfold refScB at q
  simp only [Bool.and_eq_true, List.all_eq_true] at q
  rw [c.hsc]
  exact visB_ok (q.1.1.1 x h)
theorem RefCx.loc (c : RefCx Z sg CA CS) {x : Str} (h : x ∈ refLs) : Loc Z.env.scope x := by
  have q := c.sc
  unfold refScB at q
  simp only [Bool.and_eq_true, List.all_eq_true] at q
  rw [c.hsc]
  exact locB_ok (q.1.1.2 x h)
theorem RefCx.le (c : RefCx Z sg CA CS) : Z.env.scope.names.lookup nmE = some NameKind.local := by
  have q := c.sc
  unfold refScB at q
  simp only [Bool.and_eq_true, List.all_eq_true] at q
  rw [c.hsc]
  exact of_decide_eq_true q.1.2
theorem RefCx.gl (c : RefCx Z sg CA CS) {x : Str} (h : x ∈ refBs ++ excNames) : Gl Z x := by
  have q := c.sc
  unfold refScB at q
  simp only [Bool.and_eq_true, List.all_eq_true] at q
  exact glB_ok c.hsc (q.2 x h)
theorem RefCx.at (c : RefCx Z sg CA CS) {i : Nat} {x : Str} (h : refN[i]? = some x) : Z.N[i]? = some x := by rw [c.hN]; exact h
theorem RefCx.nd (c : RefCx Z sg CA CS) : Z.N.Nodup := by rw [c.hN]; decide
theorem pe_is (c : RefCx Z sg CA CS) (j : Nat) {nm : Str} {p p2 p3 pos : Pos} (hj : j < 10) (hn : excNames.getD j "" = nm) (hm : nm ∈ excNames) (hd : (nm == ("__debug__" : Str)) = false) : PE Z (.Call (.Name "isinstance" p) [.Name "_law_error" p2, .Name nm p3] [] pos) (tIs CA j) := by
  obtain ⟨m, C, _, _⟩ := c.cls j hj
  rw [hn] at m
  refine PE_imp (pe_callB (call_isK (X := Z)) (c.gl (List.mem_append_left _ (by decide))) c.isi (by decide +kernel) (pa_cons (pe_var (i := 1) (c.at rfl) (c.vis (by decide))) (pa_cons (pe_glob (v := .ref (CA j)) (c.gl (List.mem_append_right _ hm)) m rfl hd) pa_nil))) ?_
  rintro σ H Q ⟨a, i, ⟨hi, e1, e2⟩, q⟩
  exact ⟨.ref a, e1, a, CA i, .ref (CA j), .ref (CA j), _, (c.cls i hi).2.1, rfl, e2, fun u r => r, c.kit i j hi hj, q⟩
def tIsVE (CA : Nat → Addr) : TE := fun σ H Q => ∃ a i, ErrAt CA σ H a i ∧ Q (.bl true) H
theorem pe_isVE (c : RefCx Z sg CA CS) {p p2 p3 pos : Pos} : PE Z (.Call (.Name "isinstance" p) [.Name "_law_error" p2, .Name "ValueError" p3] [] pos) (tIsVE CA) := by
  refine PE_imp (pe_callB (call_isK (X := Z)) (c.gl (List.mem_append_left _ (by decide))) c.isi (by decide +kernel) (pa_cons (pe_var (i := 1) (c.at rfl) (c.vis (by decide))) (pa_cons (pe_bltn (v := .ty "ValueError") (c.gl (List.mem_append_left _ (by decide))) c.ve (by decide +kernel) rfl) pa_nil))) ?_
  rintro σ H Q ⟨a, i, ⟨hi, e1, e2⟩, q⟩
  exact ⟨.ref a, e1, a, CA i, .ty "ValueError", .type "ValueError", _, (c.cls i hi).2.1, rfl, e2, fun u r => r, (c.cls i hi).2.2.1, q⟩
def cRef (Z : Cx) : Cfg := ⟨Z.K, 6, [], fun _ => none, []⟩
theorem RefCx.gd (c : RefCx Z sg CA CS) : Gd refGs (fun _ _ _ _ => False) refN sg Z := ⟨c.hN, by decide, c.hsc, c.calm, c.un, fun b hb => by
    have e : b = ("sum" : Str) ∨ b = ("int" : Str) := by simpa [refGs] using hb
    rcases e with rfl | rfl
    · exact c.sum
    · exact c.int, fun x d h => (by cases h), fun x d h => (by cases h), fun f id n h => (by cases h), fun x h => absurd h (by simp [refGs]), (fun h => nomatch h), (fun h => nomatch h)⟩
theorem pt_sum (c : RefCx Z sg CA CS) {a : Expr} {bs : List Expr} {os : List CmpOp} {p : Pos} (h : compE 12 refGs refN sg (.Compare a os bs p) = some refSum) : PDT Z (cRef Z) (.Compare a os bs p) (eB (wpE (fun _ _ _ _ => False) refSum fun _ => False)) :=
  (sound refGs _ 12).k refN sg a os bs p refSum h Z (cRef Z) (fun _ => False) c.gd rfl rfl takesF (fun z => nomatch z)
/-- the sorts told -/
def sortsV (i : Nat) : List V := (List.range 10).map fun j => V.bl (decide (i = j))
def sortsD (i : Nat) : List PyData := (List.range 10).map fun j => PyData.bool (decide (i = j))
theorem rp_bls {H : Hp} (f : Nat → Bool) : ∀ l : List Nat, RpA H (l.map fun i => V.bl (f i)) (l.map fun i => PyData.bool (f i))
  | [] => .nil
  | i :: l => .cons (.bl _) (rp_bls f l)
def refE (i : Nat) : DEnv := [none, none, none, some (.d (.list (sortsD i))), none, none]
theorem rep_ref {σ : L2.St} {H : Hp} {p : Addr} {i : Nat} (hl : σ.length = 6) (h3 : σ[3]? = some (some (.ref p))) (hp : H p = some (.lst (sortsV i))) : RepE (cRef Z) σ H (refE i) := by
  refine ⟨hl, rfl, fun k x e => ?_, fun k a o e => ?_, fun a ha => absurd ha (by simp [cRef]), fun a o _ e => (by cases e), fun k a o e => ?_, fun k a e => ?_, fun s hs => absurd hs (by simp [cRef]), fun s hs => absurd hs (by simp [cRef])⟩
  · match k, e with
    | 3, e =>
      cases e
      refine ⟨_, h3, .lst (.inl ?_) (by rw [sizeLine_eq]; simp [sortsV]) (rp_bls _ _)⟩
      rw [hd_out (by simp [cRef, oA, refE, adr])]
      exact hp
    | 0, e => cases e
    | 1, e => cases e
    | 2, e => cases e
    | 4, e => cases e
    | 5, e => cases e
    | _ + 6, e => cases e
  all_goals (match k, e with
    | 3, e => cases e
    | 0, e => cases e
    | 1, e => cases e
    | 2, e => cases e
    | 4, e => cases e
    | 5, e => cases e
    | _ + 6, e => cases e)
theorem gr_same {r : DEnv} {H H' : Hp} (hr : sA r = []) (g : Gr (cRef Z) r H H') : Same H H' := fun a o e => g.1 a o (fun k z => by
  have z' : (a, k) ∈ ([] : List (Addr × SK)) ++ sA r := z
  rw [hr] at z'
  cases z') e
theorem ten {i : Nat} (h : i < 10) : i = 0 ∨ i = 1 ∨ i = 2 ∨ i = 3 ∨ i = 4 ∨ i = 5 ∨ i = 6 ∨ i = 7 ∨ i = 8 ∨ i = 9 := by omega
theorem sum_one {i : Nat} (h : i < 10) {Q : Bool → Prop} (q : Q false) : eB (wpE (fun _ _ _ _ => False) refSum fun _ => False) (er (refE i)) Q := by
  rcases ten h with rfl | rfl | rfl | rfl | rfl | rfl | rfl | rfl | rfl | rfl <;> simpa [eB, refSum, wpE, wpA, wpI, wpT, dOp, dCall, dCons, dNil, biW, dLst, fLc, iSeq, seqD, dVar, refE, er, DV.er, sortsD, lcGo, noM, wipeG, tTT, bindT, intsOf, cmpW, neW, dC, boolD, List.range, List.range.loop] using q
theorem idx_of {i : Nat} (h : i < 10) : idxOf (.bool true) (sortsD i) 0 = some i ∧ PyData.plainAll (sortsD i) = true := by
  rcases ten h with rfl | rfl | rfl | rfl | rfl | rfl | rfl | rfl | rfl | rfl <;> exact ⟨by decide, by decide⟩
theorem pd_sorts (c : RefCx Z sg CA CS) {q p110 p108 p109 p111 : Pos} (hl : (p109.endLine == p111.line) = true) : PD Z (cRef Z) (.Call (.Attribute (.Name "_law_sorts" p108) "index" p109) [(.Constant (.bool true) 0 p110)] [] p111) (eIdx (dVar 3) (dC (.bool true))) :=
  pd_idx (p := q) c.un (pd_var 3 (c.at rfl) (c.vis (by decide)) (by decide) (by decide)) pd_bl rfl rfl hl rfl
theorem idx_go {i : Nat} (h : i < 10) {r : DEnv} (hr : r[3]? = some (some (.d (.list (sortsD i))))) {Q : PyData → Prop} (q : Q (.int (i : Int))) : eIdx (dVar 3) (dC (.bool true)) (er r) Q := by
  obtain ⟨h1, h2⟩ := idx_of h
  have e3 : (er r)[3]? = some (some (.d (.list (sortsD i)))) := by
    rw [er_get, hr]
    rfl
  unfold eIdx dVar
  rw [e3]
  show idxW (.list (sortsD i)) (.bool true) Q
  refine ⟨by decide, h2, ?_⟩
  rw [h1]
  exact q
/-- from the sorts on, up to the test -/
theorem ref_mid (c : RefCx Z sg CA CS) {p18 p19 p20 p21 p22 p23 p24 p25 p26 p27 p28 p29 p30 p31 p32 p33 p34 p35 p36 p37 p38 p39 p40 p41 p42 p43 p44 p45 p46 p47 p48 p49 p50 p51 p52 p53 p54 p55 p56 p57 p58 p59 p60 p61 p62 p63 p64 p65 p66 p67 p68 p69 p70 p71 p72 p73 p74 : Pos} {rest : List Stmt} {tr : TS} (hl : (p68.endLine == p73.line) = true) (hr : PSs Z rest tr) :
    PSs Z (.Assign [(.Name "_law_sorts" p18)] (.List [(.Call (.Name "isinstance" p19) [(.Name "_law_error" p20), (.Name "NoRow" p21)] [] p22), (.Call (.Name "isinstance" p23) [(.Name "_law_error" p24), (.Name "NoPart" p25)] [] p26), (.Call (.Name "isinstance" p27) [(.Name "_law_error" p28), (.Name "NoNumber" p29)] [] p30)] p31) p32 :: .Assign [(.Name "_law_sorts" p33)] (.BinOp (.Name "_law_sorts" p34) .Add (.List [(.Call (.Name "isinstance" p35) [(.Name "_law_error" p36), (.Name "NoHeads" p37)] [] p38), (.Call (.Name "isinstance" p39) [(.Name "_law_error" p40), (.Name "NotBeside" p41)] [] p42), (.Call (.Name "isinstance" p43) [(.Name "_law_error" p44), (.Name "NotIn" p45)] [] p46)] p47) p48) p49 :: .Assign [(.Name "_law_sorts" p50)] (.BinOp (.Name "_law_sorts" p51) .Add (.List [(.Call (.Name "isinstance" p52) [(.Name "_law_error" p53), (.Name "NoTurn" p54)] [] p55), (.Call (.Name "isinstance" p56) [(.Name "_law_error" p57), (.Name "NoLot" p58)] [] p59), (.Call (.Name "isinstance" p60) [(.Name "_law_error" p61), (.Name "TooMany" p62)] [] p63)] p64) p65) p66 :: .Expr (.Call (.Attribute (.Name "_law_sorts" p67) "append" p68) [(.Call (.Name "isinstance" p69) [(.Name "_law_error" p70), (.Name "BadNote" p71)] [] p72)] [] p73) p74 :: rest)
      (fun D σ H => ∃ a i, ErrAt CA σ H a i ∧ σ.length = 6 ∧ ∀ p H', Same H H' → H' p = some (.lst (sortsV i)) → tr D (σ.set 3 (some (.ref p))) H') := by
  have nd := c.nd
  have h3 : Z.N[3]? = some ("_law_sorts" : Str) := c.at rfl
  have l3 : Loc Z.env.scope ("_law_sorts" : Str) := c.loc (by decide)
  have v3 : Vis Z.env.scope ("_law_sorts" : Str) := c.vis (by decide)
  have f3 : Z.fn ("_law_sorts" : Str) = true ∨ Z.env.scope.names.lookup ("_law_sorts" : Str) = some NameKind.local := .inl (c.fn _)
  refine PSs_imp (pss_cons (ps_set (i := 3) nd h3 l3 (pe_lst (pa_cons (pe_is c 0 (by decide) rfl (by decide) (by decide)) (pa_cons (pe_is c 1 (by decide) rfl (by decide) (by decide)) (pa_cons (pe_is c 2 (by decide) rfl (by decide) (by decide)) pa_nil)))) rfl f3)
    (pss_cons (ps_set (i := 3) nd h3 l3 (pe_op op_catR (pe_var (i := 3) h3 v3) (pe_lst (pa_cons (pe_is c 3 (by decide) rfl (by decide) (by decide)) (pa_cons (pe_is c 4 (by decide) rfl (by decide) (by decide)) (pa_cons (pe_is c 5 (by decide) rfl (by decide) (by decide)) pa_nil))))) rfl f3)
    (pss_cons (ps_set (i := 3) nd h3 l3 (pe_op op_catR (pe_var (i := 3) h3 v3) (pe_lst (pa_cons (pe_is c 6 (by decide) rfl (by decide) (by decide)) (pa_cons (pe_is c 7 (by decide) rfl (by decide) (by decide)) (pa_cons (pe_is c 8 (by decide) rfl (by decide) (by decide)) pa_nil))))) rfl f3)
    (pss_cons (ps_expr (pe_bm PySem.F.plainAttrs_list PySem.F.slot_list_append PySem.F.type_list_append mt_append (pe_var (i := 3) h3 v3) (pa_cons (pe_is c 9 (by decide) rfl (by decide) (by decide)) pa_nil) rfl rfl hl rfl rfl) rfl) hr)))) ?_
  rintro D σ H ⟨a, i, e0, hl6, k⟩
  have sz : ∀ n : Nat, n ≤ 100 → n ≤ sizeLine := fun n h => by rw [sizeLine_eq]; omega
  refine ⟨a, i, e0, a, i, e0, a, i, e0, sz 3 (by decide), fun p1 n1 => ?_⟩
  have e1 := (e0.new (o := .lst [.bl (decide (i = 0)), .bl (decide (i = 1)), .bl (decide (i = 2))]) n1).set (j := 3) (by decide) (some (.ref p1))
  have s1 : (σ.set 3 (some (.ref p1)))[3]? = some (some (.ref p1)) := by rw [List.getElem?_set_self (by omega)]
  refine ⟨.ref p1, s1, a, i, e1, a, i, e1, a, i, e1, sz 3 (by decide), fun p2 n2 => ⟨p1, p2, [.bl (decide (i = 0)), .bl (decide (i = 1)), .bl (decide (i = 2))], [.bl (decide (i = 3)), .bl (decide (i = 4)), .bl (decide (i = 5))], rfl, rfl, .inl (by rw [upd_ne (fun z => by rw [← z, upd_same] at n2; cases n2), upd_same]), .inl upd_same, sz 6 (by decide), fun p3 n3 => ?_⟩⟩
  have e2 := ((e1.new (o := .lst [.bl (decide (i = 3)), .bl (decide (i = 4)), .bl (decide (i = 5))]) n2).new (o := .lst ([.bl (decide (i = 0)), .bl (decide (i = 1)), .bl (decide (i = 2))] ++ [.bl (decide (i = 3)), .bl (decide (i = 4)), .bl (decide (i = 5))])) n3).set (j := 3) (by decide) (some (.ref p3))
  have s2 : ((σ.set 3 (some (.ref p1))).set 3 (some (.ref p3)))[3]? = some (some (.ref p3)) := by rw [List.getElem?_set_self (by simp; omega)]
  refine ⟨.ref p3, s2, a, i, e2, a, i, e2, a, i, e2, sz 3 (by decide), fun p4 n4 => ⟨p3, p4, ([V.bl (decide (i = 0)), V.bl (decide (i = 1)), V.bl (decide (i = 2))] : List V) ++ ([V.bl (decide (i = 3)), V.bl (decide (i = 4)), V.bl (decide (i = 5))] : List V), [.bl (decide (i = 6)), .bl (decide (i = 7)), .bl (decide (i = 8))], rfl, rfl, .inl (by rw [upd_ne (fun z => by rw [← z, upd_same] at n4; cases n4), upd_same]), .inl upd_same, sz 9 (by decide), fun p5 n5 => ?_⟩⟩
  have e3 := ((e2.new (o := .lst [.bl (decide (i = 6)), .bl (decide (i = 7)), .bl (decide (i = 8))]) n4).new (o := .lst (([.bl (decide (i = 0)), .bl (decide (i = 1)), .bl (decide (i = 2))] ++ [.bl (decide (i = 3)), .bl (decide (i = 4)), .bl (decide (i = 5))]) ++ [.bl (decide (i = 6)), .bl (decide (i = 7)), .bl (decide (i = 8))])) n5).set (j := 3) (by decide) (some (.ref p5))
  have s3 : (((σ.set 3 (some (.ref p1))).set 3 (some (.ref p3))).set 3 (some (.ref p5)))[3]? = some (some (.ref p5)) := by rw [List.getElem?_set_self (by simp; omega)]
  refine ⟨.ref p5, s3, .inl ⟨rfl, _, .inl (.inl upd_same)⟩, a, i, e3, p5, _, _, rfl, rfl, upd_same, by show 9 < sizeLine; rw [sizeLine_eq]; omega, ?_⟩
  have es : ((σ.set 3 (some (.ref p1))).set 3 (some (.ref p3))).set 3 (some (.ref p5)) = σ.set 3 (some (.ref p5)) := by rw [List.set_set, List.set_set]
  rw [es]
  refine k p5 _ ?_ upd_same
  have m1 := same_new (o := .lst [V.bl (decide (i = 0)), .bl (decide (i = 1)), .bl (decide (i = 2))]) n1
  have m2 := same_new (o := .lst [V.bl (decide (i = 3)), .bl (decide (i = 4)), .bl (decide (i = 5))]) n2
  have m3 := same_new (o := .lst ([V.bl (decide (i = 0)), .bl (decide (i = 1)), .bl (decide (i = 2))] ++ [.bl (decide (i = 3)), .bl (decide (i = 4)), .bl (decide (i = 5))])) n3
  have m4 := same_new (o := .lst [V.bl (decide (i = 6)), .bl (decide (i = 7)), .bl (decide (i = 8))]) n4
  intro b o eb
  have eb4 := m4 _ _ (m3 _ _ (m2 _ _ (m1 _ _ eb)))
  rw [upd_ne (ne_of_none eb4 n5), upd_ne (ne_of_none eb4 n5)]
  exact eb4
end
theorem PE_weak {X : Cx} {e : Expr} {t : TE} (h : PE X e t) : PE X e (fun σ H Q => ∃ Qn : VK, t σ H Qn ∧ ∀ v H', Qn v H' → Q v H') := ⟨fun pins s σ H Q I ⟨Qn, w, k⟩ => thn (h.run pins s σ H Qn I w) fun v s' ⟨x, H', I', r, q⟩ => ⟨x, H', I', r, k _ _ q⟩⟩
theorem takes_len {X : Cx} {W : WX} (tk : Takes X W) : Takes X (fun cls d σ H => σ.length = X.N.length → W cls d σ H) := fun u s' ⟨a, B, sI, pins, σ, H, cls, d, e, I, nb, up, sky, na, os, ag, w⟩ => tk u s' ⟨a, B, sI, pins, σ, H, cls, d, e, I, nb, up, sky, na, os, ag, w I.len⟩
theorem nameIx_get {c : Str} : ∀ {l : List Str} {i j : Nat}, nameIx c l i = some j → i ≤ j ∧ j < i + l.length ∧ l.getD (j - i) "" = c
  | [], _, _, h => by cases h
  | y :: ys, i, j, h => by
    unfold nameIx at h
    split at h
    · rename_i e
      cases h
      refine ⟨Nat.le_refl _, by simp, ?_⟩
      rw [Nat.sub_self]
      exact e
    · obtain ⟨h1, h2, h3⟩ := nameIx_get h
      refine ⟨by omega, by simp; omega, ?_⟩
      have e1 : j - i = (j - (i + 1)) + 1 := by omega
      rw [e1]
      exact h3
/-- up to the test of what was caught -/
theorem ref_all {X : Cx} {sg : Scope} {x q : Str} {g : Addr} {cdg : Value} {CA : Nat → Addr} {CS : Addr} {kind : Nat} {p0 p1 p2 p3 p4 p5 p6 p7 p8 p9 p10 p11 p12 p13 p14 p15 p16 p17 : Pos} {rest : List Stmt}
    (hc : ∀ s H, RefCx (cxOf C8.CX0 X.prog X.w X.K X.mg X.base refN x sg g cdg X.A X.stack s H C8.E0).nox sg CA CS)
    (hr : ∀ Z : Cx, RefCx Z sg CA CS → PSs Z rest (fun D σ H => ∃ a i, ErrAt CA σ H a i ∧ σ.length = 6 ∧ ∀ H', Same H H' → D.rt (refV kind i) H')) :
    GivesTo X refN x sg g cdg (.Assign [(.Name "_law_error" p0)] (.Constant .none 0 p1) p2 :: .Try [.Expr (.Call (.Name "_law_call" p3) [] [] p4) p5] [.ExceptHandler (some (.Name "SpaceError" p6)) (some "e") [.Assign [(.Name "_law_error" p7)] (.Name "e" p8) p9] p10] [] [] p11 :: .If (.Compare (.Name "_law_error" p12) [.Is] [(.Constant .none 0 p13)] p14) [.Return (some (.Constant .none 0 p15)) p16] [] p17 :: rest) "_law_call" q (TTref kind X.mg) := by
  intro f c' s H Q tl act hco h
  have c := hc s H
  have nd := c.nd
  have h1 : refN[1]? = some ("_law_error" : Str) := rfl
  have l1 : Loc sg ("_law_error" : Str) := by have z := c.loc (x := "_law_error") (by decide); rw [c.hsc] at z; exact z
  have v1 : Vis sg ("_law_error" : Str) := by have z := c.vis (x := "_law_error") (by decide); rw [c.hsc] at z; exact z
  have le : sg.names.lookup nmE = some NameKind.local := by have z := c.le; rw [c.hsc] at z; exact z
  have gS : Gl (cxOf C8.CX0 X.prog X.w X.K X.mg X.base refN x sg g cdg X.A X.stack s H C8.E0).nox ("SpaceError" : Str) := c.gl (List.mem_append_left _ (by decide))
  refine ⟨_, pss_cons (ps_set (i := 1) nd h1 l1 pe_non rfl (.inl rfl)) (pss_cons (ps_try_kept (X := (cxOf C8.CX0 X.prog X.w X.K X.mg X.base refN x sg g cdg X.A X.stack s H C8.E0).nox) (c := .ref CS) (i := 2)
      (tb := fun W D σ H => ∃ (Ech : XK) (Qn : VK), (∀ cls d σ' H', Ech cls d H' → σ'.length = 6 → W cls d σ' H') ∧ σ[0]? = some (some (.ref f)) ∧ H c' = some (CodeO c' q) ∧ tl Ech H Qn ∧ ∀ v H', Qn v H' → D.nx σ H')
      rfl rfl rfl nd rfl le ⟨gS, by decide, .inl c.sp⟩ (fun W pn xe tk _ => ?_) (fun a oe cls d pn _ _ => pss_one (ps_set (i := 1) nd h1 l1 (pe_var (i := 2) rfl (.inl le) (by decide) (by decide)) rfl (.inl rfl))))
      (pss_cons (ps_if (pt_cmp (pc_isN (pe_var (i := 1) h1 v1 (by decide) (by decide)))) (pss_one (ps_ret pe_non)) pss_nil) (hr _ c))), ?_⟩
  · refine ⟨fun pins s' σ H' D I h' => ?_⟩
    obtain ⟨Ech, Qn, hW, a1, a2, a3, a4⟩ := h'
    have hp := PE_weak (act (fun cls d σ H => σ.length = 6 → W cls d σ H) pn xe Ech p3 p4 (takes_len tk) hW)
    exact (pss_one (ps_expr (pos := p5) hp rfl)).run pins s' σ H' D I ⟨Qn, ⟨a1, a2, a3⟩, a4⟩
  · refine ⟨_, _, fun cls d σ' H' hE hl => ?_, rfl, hco, h, fun v H' qn => ?_⟩
    · obtain ⟨rfl, cn, i, m, hi, k⟩ := hE
      obtain ⟨_, i2, i3⟩ := nameIx_get hi
      rw [Nat.sub_zero] at i3
      have i10 : i < 10 := by simpa [excNames] using i2
      obtain ⟨m1, _, _, hx⟩ := c.cls i i10
      have m1 : X.mg cn = some (.ref (CA i)) := by rw [← i3]; exact m1
      rw [m1] at m
      cases m
      refine ⟨hx, fun a na => ⟨.ref a, by rw [List.getElem?_set_self (by omega)], ?_⟩⟩
      have s1 : (((σ'.set 2 (some (.ref a))).set 1 (some (.ref a))).set 2 none)[1]? = some (some (.ref a)) := by
        rw [List.getElem?_set_ne (by decide), List.getElem?_set_self (by simp; omega)]
      refine ⟨.ref a, s1, false, rfl, ?_⟩
      exact ⟨a, i, ⟨i10, s1, upd_same⟩, by simp [hl], fun H2 sm => k H2 fun b o e => sm b o (by rw [upd_ne (ne_of_none e na)]; exact e)⟩
    · exact ⟨.non, rfl, true, rfl, qn H' (Same.refl H')⟩
/-- the tail by numbers -/
theorem ref_tail1 {Z : Cx} {sg : Scope} {CA : Nat → Addr} {CS : Addr} (c : RefCx Z sg CA CS) {cs : Scope} {p18 p19 p20 p21 p22 p23 p24 p25 p26 p27 p28 p29 p30 p31 p32 p33 p34 p35 p36 p37 p38 p39 p40 p41 p42 p43 p44 p45 p46 p47 p48 p49 p50 p51 p52 p53 p54 p55 p56 p57 p58 p59 p60 p61 p62 p63 p64 p65 p66 p67 p68 p69 p70 p71 p72 p73 p74 p75 p76 p77 p78 p79 p80 p81 p82 p83 p84 p85 p86 p87 p88 p89 p90 p91 p92 p93 p94 p95 p96 p97 p98 p99 : Pos} (hl : (p68.endLine == p73.line) = true) (hl2 : (p96.endLine == p98.line) = true)
    (hs : compE 12 refGs refN sg (.Compare (.Call (.Name "sum" p80) [(.ListComp (.Call (.Name "int" p81) [(.Name "_law_one" p82)] [] p83) [⟨(.Name "_law_one" p84), (.Name "_law_sorts" p85), [], 0⟩] cs p86)] [] p87) [.NotEq] [(.Constant (.int 1) 0 p88)] p89) = some refSum) :
    PSs Z [.Assign [(.Name "_law_sorts" p18)] (.List [(.Call (.Name "isinstance" p19) [(.Name "_law_error" p20), (.Name "NoRow" p21)] [] p22), (.Call (.Name "isinstance" p23) [(.Name "_law_error" p24), (.Name "NoPart" p25)] [] p26), (.Call (.Name "isinstance" p27) [(.Name "_law_error" p28), (.Name "NoNumber" p29)] [] p30)] p31) p32, .Assign [(.Name "_law_sorts" p33)] (.BinOp (.Name "_law_sorts" p34) .Add (.List [(.Call (.Name "isinstance" p35) [(.Name "_law_error" p36), (.Name "NoHeads" p37)] [] p38), (.Call (.Name "isinstance" p39) [(.Name "_law_error" p40), (.Name "NotBeside" p41)] [] p42), (.Call (.Name "isinstance" p43) [(.Name "_law_error" p44), (.Name "NotIn" p45)] [] p46)] p47) p48) p49, .Assign [(.Name "_law_sorts" p50)] (.BinOp (.Name "_law_sorts" p51) .Add (.List [(.Call (.Name "isinstance" p52) [(.Name "_law_error" p53), (.Name "NoTurn" p54)] [] p55), (.Call (.Name "isinstance" p56) [(.Name "_law_error" p57), (.Name "NoLot" p58)] [] p59), (.Call (.Name "isinstance" p60) [(.Name "_law_error" p61), (.Name "TooMany" p62)] [] p63)] p64) p65) p66, .Expr (.Call (.Attribute (.Name "_law_sorts" p67) "append" p68) [(.Call (.Name "isinstance" p69) [(.Name "_law_error" p70), (.Name "BadNote" p71)] [] p72)] [] p73) p74, .If (.BoolOp .Or [(.UnaryOp .Not (.Call (.Name "isinstance" p75) [(.Name "_law_error" p76), (.Name "ValueError" p77)] [] p78) p79), (.Compare (.Call (.Name "sum" p80) [(.ListComp (.Call (.Name "int" p81) [(.Name "_law_one" p82)] [] p83) [⟨(.Name "_law_one" p84), (.Name "_law_sorts" p85), [], 0⟩] cs p86)] [] p87) [.NotEq] [(.Constant (.int 1) 0 p88)] p89)] p90) [.Return (some (.UnaryOp .USub (.Constant (.int 1) 0 p91) p92)) p93] [] p94, .Return (some (.Call (.Attribute (.Name "_law_sorts" p95) "index" p96) [(.Constant (.bool true) 0 p97)] [] p98)) p99] (fun D σ H => ∃ a i, ErrAt CA σ H a i ∧ σ.length = 6 ∧ ∀ H', Same H H' → D.rt (refV 1 i) H') := by
  refine PSs_imp (ref_mid c hl (pss_cons (ps_if (pw_or (pt_not (pt_val (pe_isVE c))) (pw_or1 (pt_sum c hs))).pt (pss_one (ps_ret (pe_un un_neg pe_int))) pss_nil) (pss_one (ps_ret (pd_sorts (q := p96) c hl2))))) ?_
  rintro D σ H ⟨a, i, e0, l6, k⟩
  refine ⟨a, i, e0, l6, fun p H' sm hp => ?_⟩
  have s3 : (σ.set 3 (some (.ref p)))[3]? = some (some (.ref p)) := by rw [List.getElem?_set_self (by omega)]
  have l6' : (σ.set 3 (some (.ref p))).length = 6 := by simp [l6]
  have e1 : ErrAt CA (σ.set 3 (some (.ref p))) H' a i := ErrAt.set ⟨e0.1, e0.2.1, sm _ _ e0.2.2⟩ (by decide) _
  refine ⟨a, i, e1, true, rfl, refE i, _, rep_ref l6' s3 hp, sum_one e0.1 (Q := fun b => b = false) rfl, fun b H2 g qb => ?_⟩
  subst qb
  have sm2 := gr_same (Z := Z) (r := refE i) rfl g
  refine ⟨refE i, _, rep_ref l6' s3 (sm2 _ _ hp), idx_go e0.1 rfl (Q := fun y => y = .int (i : Int)) rfl, fun v H3 y g2 rp qy => ?_⟩
  subst qy
  rw [rp_int rp]
  exact k H3 fun b o e => gr_same (Z := Z) (r := refE i) rfl g2 _ _ (sm2 _ _ (sm _ _ e))
theorem word_at {i : Nat} (h : i < 10) : atI (excWords.map V.str) (i : Int) = some (refV 0 i) := by
  rcases ten h with rfl | rfl | rfl | rfl | rfl | rfl | rfl | rfl | rfl | rfl <;> rfl
/-- the tail by words -/
theorem ref_tail0 {Z : Cx} {sg : Scope} {CA : Nat → Addr} {CS : Addr} (c : RefCx Z sg CA CS) (lw : Loc sg ("_law_words" : Str)) {cs : Scope} {p18 p19 p20 p21 p22 p23 p24 p25 p26 p27 p28 p29 p30 p31 p32 p33 p34 p35 p36 p37 p38 p39 p40 p41 p42 p43 p44 p45 p46 p47 p48 p49 p50 p51 p52 p53 p54 p55 p56 p57 p58 p59 p60 p61 p62 p63 p64 p65 p66 p67 p68 p69 p70 p71 p72 p73 p74 p75 p76 p77 p78 p79 p80 p81 p82 p83 p84 p85 p86 p87 p88 p89 p90 p91 p92 p93 p94 p95 p96 p97 p98 p99 p100 p101 p102 p103 p104 p105 p106 p107 p108 p109 p110 p111 p112 p113 : Pos} (hl : (p68.endLine == p73.line) = true) (hl2 : (p109.endLine == p111.line) = true)
    (hs : compE 12 refGs refN sg (.Compare (.Call (.Name "sum" p80) [(.ListComp (.Call (.Name "int" p81) [(.Name "_law_one" p82)] [] p83) [⟨(.Name "_law_one" p84), (.Name "_law_sorts" p85), [], 0⟩] cs p86)] [] p87) [.NotEq] [(.Constant (.int 1) 0 p88)] p89) = some refSum) :
    PSs Z [.Assign [(.Name "_law_sorts" p18)] (.List [(.Call (.Name "isinstance" p19) [(.Name "_law_error" p20), (.Name "NoRow" p21)] [] p22), (.Call (.Name "isinstance" p23) [(.Name "_law_error" p24), (.Name "NoPart" p25)] [] p26), (.Call (.Name "isinstance" p27) [(.Name "_law_error" p28), (.Name "NoNumber" p29)] [] p30)] p31) p32, .Assign [(.Name "_law_sorts" p33)] (.BinOp (.Name "_law_sorts" p34) .Add (.List [(.Call (.Name "isinstance" p35) [(.Name "_law_error" p36), (.Name "NoHeads" p37)] [] p38), (.Call (.Name "isinstance" p39) [(.Name "_law_error" p40), (.Name "NotBeside" p41)] [] p42), (.Call (.Name "isinstance" p43) [(.Name "_law_error" p44), (.Name "NotIn" p45)] [] p46)] p47) p48) p49, .Assign [(.Name "_law_sorts" p50)] (.BinOp (.Name "_law_sorts" p51) .Add (.List [(.Call (.Name "isinstance" p52) [(.Name "_law_error" p53), (.Name "NoTurn" p54)] [] p55), (.Call (.Name "isinstance" p56) [(.Name "_law_error" p57), (.Name "NoLot" p58)] [] p59), (.Call (.Name "isinstance" p60) [(.Name "_law_error" p61), (.Name "TooMany" p62)] [] p63)] p64) p65) p66, .Expr (.Call (.Attribute (.Name "_law_sorts" p67) "append" p68) [(.Call (.Name "isinstance" p69) [(.Name "_law_error" p70), (.Name "BadNote" p71)] [] p72)] [] p73) p74, .If (.BoolOp .Or [(.UnaryOp .Not (.Call (.Name "isinstance" p75) [(.Name "_law_error" p76), (.Name "ValueError" p77)] [] p78) p79), (.Compare (.Call (.Name "sum" p80) [(.ListComp (.Call (.Name "int" p81) [(.Name "_law_one" p82)] [] p83) [⟨(.Name "_law_one" p84), (.Name "_law_sorts" p85), [], 0⟩] cs p86)] [] p87) [.NotEq] [(.Constant (.int 1) 0 p88)] p89)] p90) [.Return (some (.Constant (.str "none of these") 0 p91)) p92] [] p93, .Assign [(.Name "_law_words" p94)] (.List [(.Constant (.str "row") 0 p95), (.Constant (.str "part") 0 p96), (.Constant (.str "number") 0 p97), (.Constant (.str "heads") 0 p98), (.Constant (.str "not beside") 0 p99), (.Constant (.str "not in") 0 p100), (.Constant (.str "turn") 0 p101), (.Constant (.str "lot") 0 p102), (.Constant (.str "many") 0 p103), (.Constant (.str "note") 0 p104)] p105) p106, .Return (some (.Subscript (.Name "_law_words" p107) (.Call (.Attribute (.Name "_law_sorts" p108) "index" p109) [(.Constant (.bool true) 0 p110)] [] p111) p112)) p113] (fun D σ H => ∃ a i, ErrAt CA σ H a i ∧ σ.length = 6 ∧ ∀ H', Same H H' → D.rt (refV 0 i) H') := by
  have h5 : Z.N[5]? = some ("_law_words" : Str) := c.at rfl
  have lw' : Loc Z.env.scope ("_law_words" : Str) := by rw [c.hsc]; exact lw
  have vw : Vis Z.env.scope ("_law_words" : Str) := lw'.elim .inl fun h => .inr (.inl h)
  refine PSs_imp (ref_mid c hl (pss_cons (ps_if (pw_or (pt_not (pt_val (pe_isVE c))) (pw_or1 (pt_sum c hs))).pt (pss_one (ps_ret pe_str)) pss_nil) (pss_cons (ps_set (i := 5) c.nd h5 lw' (pe_lst (pa_cons pe_str (pa_cons pe_str (pa_cons pe_str (pa_cons pe_str (pa_cons pe_str (pa_cons pe_str (pa_cons pe_str (pa_cons pe_str (pa_cons pe_str (pa_cons pe_str pa_nil))))))))))) rfl (.inl (c.fn _))) (pss_one (ps_ret (pe_ix ix_list (pe_var (i := 5) h5 vw (by decide) (by decide)) (pd_sorts (q := p96) c hl2) (slice_plain rfl))))))) ?_
  rintro D σ H ⟨a, i, e0, l6, k⟩
  refine ⟨a, i, e0, l6, fun p H' sm hp => ?_⟩
  have s3 : (σ.set 3 (some (.ref p)))[3]? = some (some (.ref p)) := by rw [List.getElem?_set_self (by omega)]
  have l6' : (σ.set 3 (some (.ref p))).length = 6 := by simp [l6]
  have e1 : ErrAt CA (σ.set 3 (some (.ref p))) H' a i := ErrAt.set ⟨e0.1, e0.2.1, sm _ _ e0.2.2⟩ (by decide) _
  refine ⟨a, i, e1, true, rfl, refE i, _, rep_ref l6' s3 hp, sum_one e0.1 (Q := fun b => b = false) rfl, fun b H2 g qb => ?_⟩
  subst qb
  have sm2 := gr_same (Z := Z) (r := refE i) rfl g
  refine ⟨by show 10 ≤ sizeLine; rw [sizeLine_eq]; omega, fun pw nw => ?_⟩
  have s5 : ((σ.set 3 (some (.ref p))).set 5 (some (.ref pw)))[5]? = some (some (.ref pw)) := by rw [List.getElem?_set_self (by omega)]
  have s3' : ((σ.set 3 (some (.ref p))).set 5 (some (.ref pw)))[3]? = some (some (.ref p)) := by rw [List.getElem?_set_ne (by decide)]; exact s3
  have sm3 := same_new (o := .lst (excWords.map V.str)) nw
  refine ⟨.ref pw, s5, refE i, _, rep_ref (by simp [l6]) s3' (sm3 _ _ (sm2 _ _ hp)), idx_go e0.1 rfl (Q := fun y => y = .int (i : Int)) rfl, fun v H3 y g2 rp qy => ?_⟩
  subst qy
  have sm4 := gr_same (Z := Z) (r := refE i) rfl g2
  exact ⟨pw, excWords.map V.str, (i : Int), refV 0 i, rfl, rp_int rp, .inl (.inl (sm4 _ _ upd_same)), word_at e0.1, k H3 fun b o e => sm4 _ _ (sm3 _ _ (sm2 _ _ (sm _ _ e)))⟩
end DP

end
section
set_option Elab.async false
set_option linter.all false
set_option maxRecDepth 100000
set_option autoImplicit false
set_option maxHeartbeats 2000000
namespace DP
open PySem PySem.Spec PyProof.Rows L2 LamX
/-- what the head tells of the classes -/
def excCB (K : PySem.W.Frag) (D : Addr) : Bool :=
  decide (PySem.W.findIn K (.ref D) "__getattribute__" = some (some (.builtin "BaseException.__getattribute__"))) && decide (PySem.W.findIn K (.ref D) "__getattr__" = some none) && decide (PySem.W.subIn K (.ref D) (.type "BaseException") = some true) && PySem.W.hasDictIn K D &&
  decide (PySem.W.findIn K (.ref D) "__class__" = some (some (.builtin "object.__class__"))) && decide (PySem.W.specialIn K (.builtin "object.__class__") "__get__" = some (some (.builtin "getset_descriptor.__get__"))) && decide (PySem.W.takesIn K (.builtin "object.__class__") = some true) && decide (PySem.W.mroIn K D (.type "object") = some true)
theorem excCB_ok {K : PySem.W.Frag} {D : Addr} (h : excCB K D = true) : ExcC K D := by
  unfold excCB at h
  simp only [Bool.and_eq_true, decide_eq_true_eq] at h
  obtain ⟨⟨⟨⟨⟨⟨⟨h1, h2⟩, h3⟩, h4⟩, h5⟩, h6⟩, h7⟩, h8⟩ := h
  exact ⟨h1, h2, h3, h4, h5, h6, h7, h8⟩
def caOf (K : PySem.W.Frag) (i : Nat) : Addr := He.ga K (excNames.getD i "")
def refNone : List Str := ["isinstance", "sum", "int", "ValueError"]
def nmS : Str := "SpaceError"
def refKB (K : PySem.W.Frag) : Bool := (refNone.all fun x => (He.Fa.free x).ok K) && (He.Fa.glo nmS).ok K && (List.range 10).all fun i => (He.Fa.glo (excNames.getD i "")).ok K && excCB K (caOf K i) && decide (PySem.W.kitOne K (.ref (caOf K i)) (.type "ValueError") = some true) &&
  decide (PySem.W.exmOne K (.ref (caOf K i)) (.ref (He.ga K nmS)) = some true) && (List.range 10).all fun j => decide (PySem.W.kitOne K (.ref (caOf K i)) (.ref (caOf K j)) = some (decide (i = j)))
theorem refCx_of {Z : Cx} {sg : Scope} {h : Heap} (KX : Z.K.In h) (Gn : h.Ns mainGlobals Z.mg) (hB : refKB Z.K = true) (hN : Z.N = refN) (hsc : Z.env.scope = sg) (calm : Z.calm = true) (un : Z.A.units + 64 < cLine) (fn : ∀ x, Z.fn x = true) (sc : refScB sg = true) : RefCx Z sg (caOf Z.K) (He.ga Z.K nmS) := by
  unfold refKB at hB
  simp only [Bool.and_eq_true, List.all_eq_true, decide_eq_true_eq, List.mem_range] at hB
  obtain ⟨⟨b1, b2⟩, b3⟩ := hB
  refine ⟨hN, hsc, calm, un, fn, sc, He.free_ok KX Gn (b1 _ (by decide)), He.free_ok KX Gn (b1 _ (by decide)), He.free_ok KX Gn (b1 _ (by decide)), He.free_ok KX Gn (b1 _ (by decide)), He.glo_ok KX Gn b2, fun j hj => ?_, fun i j hi hj => (b3 i hi).2 j hj⟩
  obtain ⟨⟨⟨⟨c1, c2⟩, c3⟩, c4⟩, _⟩ := b3 j hj
  exact ⟨He.glo_ok KX Gn c1, excCB_ok c2, c3, c4⟩
inductive isRef0 (sg : Scope) : List Stmt → Prop
  | mk (cs : Scope) (p0 p1 p2 p3 p4 p5 p6 p7 p8 p9 p10 p11 p12 p13 p14 p15 p16 p17 p18 p19 p20 p21 p22 p23 p24 p25 p26 p27 p28 p29 p30 p31 p32 p33 p34 p35 p36 p37 p38 p39 p40 p41 p42 p43 p44 p45 p46 p47 p48 p49 p50 p51 p52 p53 p54 p55 p56 p57 p58 p59 p60 p61 p62 p63 p64 p65 p66 p67 p68 p69 p70 p71 p72 p73 p74 p75 p76 p77 p78 p79 p80 p81 p82 p83 p84 p85 p86 p87 p88 p89 p90 p91 p92 p93 p94 p95 p96 p97 p98 p99 p100 p101 p102 p103 p104 p105 p106 p107 p108 p109 p110 p111 p112 p113 : Pos) (l1 : (p68.endLine == p73.line) = true) (l2 : (p109.endLine == p111.line) = true) (hs : compE 12 refGs refN sg (.Compare (.Call (.Name "sum" p80) [(.ListComp (.Call (.Name "int" p81) [(.Name "_law_one" p82)] [] p83) [⟨(.Name "_law_one" p84), (.Name "_law_sorts" p85), [], 0⟩] cs p86)] [] p87) [.NotEq] [(.Constant (.int 1) 0 p88)] p89) = some refSum) (lw : locB sg "_law_words" = true) : isRef0 sg (refA0 cs p0 p1 p2 p3 p4 p5 p6 p7 p8 p9 p10 p11 p12 p13 p14 p15 p16 p17 p18 p19 p20 p21 p22 p23 p24 p25 p26 p27 p28 p29 p30 p31 p32 p33 p34 p35 p36 p37 p38 p39 p40 p41 p42 p43 p44 p45 p46 p47 p48 p49 p50 p51 p52 p53 p54 p55 p56 p57 p58 p59 p60 p61 p62 p63 p64 p65 p66 p67 p68 p69 p70 p71 p72 p73 p74 p75 p76 p77 p78 p79 p80 p81 p82 p83 p84 p85 p86 p87 p88 p89 p90 p91 p92 p93 p94 p95 p96 p97 p98 p99 p100 p101 p102 p103 p104 p105 p106 p107 p108 p109 p110 p111 p112 p113)
inductive isRef1 (sg : Scope) : List Stmt → Prop
  | mk (cs : Scope) (p0 p1 p2 p3 p4 p5 p6 p7 p8 p9 p10 p11 p12 p13 p14 p15 p16 p17 p18 p19 p20 p21 p22 p23 p24 p25 p26 p27 p28 p29 p30 p31 p32 p33 p34 p35 p36 p37 p38 p39 p40 p41 p42 p43 p44 p45 p46 p47 p48 p49 p50 p51 p52 p53 p54 p55 p56 p57 p58 p59 p60 p61 p62 p63 p64 p65 p66 p67 p68 p69 p70 p71 p72 p73 p74 p75 p76 p77 p78 p79 p80 p81 p82 p83 p84 p85 p86 p87 p88 p89 p90 p91 p92 p93 p94 p95 p96 p97 p98 p99 : Pos) (l1 : (p68.endLine == p73.line) = true) (l2 : (p96.endLine == p98.line) = true) (hs : compE 12 refGs refN sg (.Compare (.Call (.Name "sum" p80) [(.ListComp (.Call (.Name "int" p81) [(.Name "_law_one" p82)] [] p83) [⟨(.Name "_law_one" p84), (.Name "_law_sorts" p85), [], 0⟩] cs p86)] [] p87) [.NotEq] [(.Constant (.int 1) 0 p88)] p89) = some refSum) : isRef1 sg (refA1 cs p0 p1 p2 p3 p4 p5 p6 p7 p8 p9 p10 p11 p12 p13 p14 p15 p16 p17 p18 p19 p20 p21 p22 p23 p24 p25 p26 p27 p28 p29 p30 p31 p32 p33 p34 p35 p36 p37 p38 p39 p40 p41 p42 p43 p44 p45 p46 p47 p48 p49 p50 p51 p52 p53 p54 p55 p56 p57 p58 p59 p60 p61 p62 p63 p64 p65 p66 p67 p68 p69 p70 p71 p72 p73 p74 p75 p76 p77 p78 p79 p80 p81 p82 p83 p84 p85 p86 p87 p88 p89 p90 p91 p92 p93 p94 p95 p96 p97 p98 p99)
theorem ref_gives0 {X : Cx} {x q : Str} {sg : Scope} {g : Addr} {cdg : Value} {h : Heap} {b : List Stmt} {k : Nat} (KX : X.K.In h) (Gn : h.Ns mainGlobals X.mg) (hB : refKB X.K = true) (hr : Room (k + 1) X.A) (sc : refScB sg = true) (hb : isRef0 sg b) : GivesTo X refN x sg g cdg b "_law_call" q (TTref 0 X.mg) := by
  cases hb with
  | mk cs _ _ _ _ _ _ _ _ _ _ _ _ _ _ _ _ _ _ _ _ _ _ _ _ _ _ _ _ _ _ _ _ _ _ _ _ _ _ _ _ _ _ _ _ _ _ _ _ _ _ _ _ _ _ _ _ _ _ _ _ _ _ _ _ _ _ _ _ _ _ _ _ _ _ _ _ _ _ _ _ _ _ _ _ _ _ _ _ _ _ _ _ _ _ _ _ _ _ _ _ _ _ _ _ _ _ _ _ _ _ _ _ _ _ l1 l2 hs lw =>
  refine ref_all (CA := caOf X.K) (CS := He.ga X.K nmS) (fun s H => ?_) fun Z c => ref_tail0 c (locB_ok lw) l1 l2 hs
  exact refCx_of (Z := (cxOf C8.CX0 X.prog X.w X.K X.mg X.base refN x sg g cdg X.A X.stack s H C8.E0).nox) KX Gn hB rfl rfl rfl (hr.deeper _).units (fun _ => rfl) sc
theorem ref_gives1 {X : Cx} {x q : Str} {sg : Scope} {g : Addr} {cdg : Value} {h : Heap} {b : List Stmt} {k : Nat} (KX : X.K.In h) (Gn : h.Ns mainGlobals X.mg) (hB : refKB X.K = true) (hr : Room (k + 1) X.A) (sc : refScB sg = true) (hb : isRef1 sg b) : GivesTo X refN x sg g cdg b "_law_call" q (TTref 1 X.mg) := by
  cases hb with
  | mk cs _ _ _ _ _ _ _ _ _ _ _ _ _ _ _ _ _ _ _ _ _ _ _ _ _ _ _ _ _ _ _ _ _ _ _ _ _ _ _ _ _ _ _ _ _ _ _ _ _ _ _ _ _ _ _ _ _ _ _ _ _ _ _ _ _ _ _ _ _ _ _ _ _ _ _ _ _ _ _ _ _ _ _ _ _ _ _ _ _ _ _ _ _ _ _ _ _ _ _ _ l1 l2 hs =>
  refine ref_all (CA := caOf X.K) (CS := He.ga X.K nmS) (fun s H => ?_) fun Z c => ref_tail1 c l1 l2 hs
  exact refCx_of (Z := (cxOf C8.CX0 X.prog X.w X.K X.mg X.base refN x sg g cdg X.A X.stack s H C8.E0).nox) KX Gn hB rfl rfl rfl (hr.deeper _).units (fun _ => rfl) sc
theorem ref_okX {X : Cx} {x : Str} {kind : Nat} {pg : Arguments} {b : List Stmt} {sg : Scope} {g : Addr} {fd : FuncData} (F : FunD X.K x x pg b sg [] [] g fd) (hm : X.mg x = some (.ref g)) (hb : L2.Binds X.K fd ["_law_call"] []) (S : FnScope refN ["_law_call"] sg) (sc : refScB sg = true) (hG : ∀ (cdv : Value) (q : Str), GivesTo X refN x sg g cdv b "_law_call" q (TTref kind X.mg)) : RefOk X x (TTref kind X.mg) := by
  obtain ⟨oc, od, dV, kV, doc, pm, an, cdv, ct, osl, rfl, lk, hcd, _, _⟩ := F.ex
  refine ⟨"_law_call", g, pg, b, sg, dV, kV, doc, pm, cdv, ct, oc, an, od, osl, refN, hm, F.kp, lk, hcd, hb, S, rfl, ?_, by decide, by decide, fun q => hG cdv q⟩
  have q := sc
  unfold refScB at q
  simp only [Bool.and_eq_true, List.all_eq_true] at q
  exact visB_ok (q.1.1.1 _ (by decide))
theorem ref_ok0 {K : PySem.W.Frag} {mg : Str → Option Value} {h : Heap} {k : Nat} {x : Str} {pg : Arguments} {b : List Stmt} {sg : Scope} {g : Addr} {fd : FuncData} (KX : K.In h) (Gn : h.Ns mainGlobals mg) (hB : refKB K = true) (F : FunD K x x pg b sg [] [] g fd) (hm : mg x = some (.ref g)) (hb : L2.Binds K fd ["_law_call"] []) (S : FnScope refN ["_law_call"] sg) (sc : refScB sg = true) (hi : isRef0 sg b) (X : Cx) (eK : X.K = K) (eM : X.mg = mg) (hr : Room (k + 1) X.A) : RefOk X x (TTref 0 X.mg) := by
  subst eK eM
  exact ref_okX F hm hb S sc fun cdv q => ref_gives0 KX Gn hB hr sc hi
theorem ref_ok1 {K : PySem.W.Frag} {mg : Str → Option Value} {h : Heap} {k : Nat} {x : Str} {pg : Arguments} {b : List Stmt} {sg : Scope} {g : Addr} {fd : FuncData} (KX : K.In h) (Gn : h.Ns mainGlobals mg) (hB : refKB K = true) (F : FunD K x x pg b sg [] [] g fd) (hm : mg x = some (.ref g)) (hb : L2.Binds K fd ["_law_call"] []) (S : FnScope refN ["_law_call"] sg) (sc : refScB sg = true) (hi : isRef1 sg b) (X : Cx) (eK : X.K = K) (eM : X.mg = mg) (hr : Room (k + 1) X.A) : RefOk X x (TTref 1 X.mg) := by
  subst eK eM
  exact ref_okX F hm hb S sc fun cdv q => ref_gives1 KX Gn hB hr sc hi
theorem law_code {K : PySem.W.Frag} {x q : Str} {params : Arguments} {body : List Stmt} {scope : Scope} {p : He.Defn} {fd : FuncData} (F : FunD K x q params body scope [] [] (He.fAd K p) fd) : fd.code = .ref (He.cT K p).1 := by
  obtain ⟨oc, od, dV, kV, doc, pm, an, cdv, ct, osl, rfl, lk, hcd, _, _⟩ := F.ex
  obtain ⟨c, rfl⟩ := He.codeIn_ref hcd
  have e := He.codeOf_eq (c := c) lk rfl
  show Value.ref c = .ref (He.codeOf K p)
  rw [e]
/-- the table of a law's def -/
theorem law_tab {fa : List He.Fa} {fn : List He.DefD} {ts : List He.Tab} {ex : PySem.W.Frag → Bool} {w : World} {h : Heap} {K : PySem.W.Frag} {p : He.Defn} (KX : K.In h) (c : He.SaysX fa fn ts [p] ex w h K) : (∀ q ∈ [He.cT K p], h.get? q.2 = some { cls := .none, data := .fields #[] }) ∧ (∀ q ∈ [He.cT K p], K.lookup q.2 = none) ∧ ∀ q ∈ [He.cT K p], PySem.W.CodeHd h q.1 q.2 := by
  refine ⟨fun q hq => ?_, fun q hq => ?_, fun q hq => ?_⟩
  · rw [List.mem_singleton.mp hq]; exact c.empty p (.head _)
  · rw [List.mem_singleton.mp hq]; exact c.out p (.head _)
  · rw [List.mem_singleton.mp hq]; exact PySem.W.codeHd_of_K KX (c.hd p (.head _))
end DP

end
section
set_option Elab.async false
set_option linter.all false
set_option maxRecDepth 100000
set_option autoImplicit false
set_option maxHeartbeats 8000000

namespace DB
open PySem DP
def b_law_cell_at_k11 : DSs :=
    (.cons (.ite (.e (.cmp .Lt (.var 1) (.slen 0)))
      (.cons (.ret (.six 0 (.var 1)))
    .nil)
      .nil)
    (.cons (.ret (.c (.int 0)))
    .nil))
def b_law_state_k11 : DSs :=
    (.cons (.set 2 (.call 0 2 (.s 0 (.s 1 .nil))))
    (.cons (.ite (.e (.cmp .GtE (.var 2) (.bin .Pow (.c (.int 10)) (.c (.int 18)))))
      (.cons (.retF (.lst (.cons (.bin .Sub (.var 2) (.bin .Pow (.c (.int 10)) (.c (.int 18)))) (.cons (.c (.bool true)) .nil))))
    .nil)
      .nil)
    (.cons (.retF (.lst (.cons (.bin .Mod (.var 2) (.c (.int 2147483647))) (.cons (.c (.bool false)) .nil))))
    .nil)))
def b_is_whole : DSs :=
    (.cons (.ret (.and (.isi "int" (.var 0)) (.not (.isi "bool" (.var 0)))))
    .nil)
def b_is_between : DSs :=
    (.cons (.ret (.and (.call 5 1 (.s 0 .nil)) (.chain .LtE .LtE (.var 1) (.var 0) (.var 2))))
    .nil)
def b_is_row : DSs :=
    (.cons (.ite (.or (.not (.e (.isi "tuple" (.var 1)))) (.e (.cmp .NotEq (.bi .len (.cons (.var 1) .nil)) (.ix (.var 0) (.c (.int 1))))))
      (.cons (.ret (.c (.bool false)))
    .nil)
      .nil)
    (.cons (.ret (.bi .all (.cons (.lc (.call 6 3 (.s 2 (.e (.c (.int 0)) (.e (.bin .Sub (.ix (.var 0) (.c (.int 0))) (.c (.int 1))) .nil)))) (.one 2) (.seq (.var 1)) .tt [2]) .nil)))
    .nil))
def b_law_space_k11_1 : DSs := (.cons (.ret (.ix (.var 2) (.call 2 2 (.s 0 (.e (.bi .len (.cons (.var 2) .nil)) .nil))))) .nil)
def b_law_space_k11_2 : DSs := (.cons (.ite (.e (.cmp .Gt (.var 1) (.c (.int 27)))) (.cons (.set 2 (.bin .Add (.var 2) (.lst (.cons (.tup (.cons (.c (.int 2)) (.cons (.c (.int 5)) .nil))) (.cons (.tup (.cons (.c (.int 2)) (.cons (.c (.int 6)) .nil))) (.cons (.tup (.cons (.c (.int 3)) (.cons (.c (.int 4)) .nil))) (.cons (.tup (.cons (.c (.int 5)) (.cons (.c (.int 3)) .nil))) .nil))))))) .nil) .nil) DB.b_law_space_k11_1)
def b_law_space_k11 : DSs := (.cons (.set 2 (.lst (.cons (.tup (.cons (.c (.int 2)) (.cons (.c (.int 1)) .nil))) (.cons (.tup (.cons (.c (.int 2)) (.cons (.c (.int 2)) .nil))) (.cons (.tup (.cons (.c (.int 2)) (.cons (.c (.int 3)) .nil))) (.cons (.tup (.cons (.c (.int 2)) (.cons (.c (.int 4)) .nil))) (.cons (.tup (.cons (.c (.int 3)) (.cons (.c (.int 1)) .nil))) (.cons (.tup (.cons (.c (.int 3)) (.cons (.c (.int 2)) .nil))) (.cons (.tup (.cons (.c (.int 3)) (.cons (.c (.int 3)) .nil))) (.cons (.tup (.cons (.c (.int 5)) (.cons (.c (.int 1)) .nil))) (.cons (.tup (.cons (.c (.int 5)) (.cons (.c (.int 2)) .nil))) (.cons (.tup (.cons (.c (.int 2)) (.cons (.c (.int 3)) .nil))) (.cons (.tup (.cons (.c (.int 2)) (.cons (.c (.int 4)) .nil))) (.cons (.tup (.cons (.c (.int 3)) (.cons (.c (.int 3)) .nil))) .nil)))))))))))))) DB.b_law_space_k11_2)
def b_law_row_k11_1 : DSs := (.cons (.ret (.bin .Add (.bin .Mult (.tup (.cons (.c (.int 0)) .nil)) (.var 2)) (.bi .tuple (.cons (.lc (.call 2 2 (.s 0 (.e (.ix (.var 1) (.c (.int 0))) .nil))) (.one 3) (.rng1 (.bin .Sub (.ix (.var 1) (.c (.int 1))) (.var 2))) .tt [3]) .nil)))) .nil)
def b_law_row_k11 : DSs := (.cons (.set 2 (.bin .Mult (.call 2 2 (.s 0 (.e (.bin .Add (.ix (.var 1) (.c (.int 1))) (.c (.int 1))) .nil))) (.bi .int (.cons (.cmp .Eq (.call 2 2 (.s 0 (.e (.c (.int 3)) .nil))) (.c (.int 0))) .nil)))) DB.b_law_row_k11_1)
def b_law_bent_row_k11_1 : DSs := (.cons (.ret (.ix (.bin .Add (.var 5) (.lst (.cons (.rev (.var 2)) (.cons (.c .none) (.cons .dict0 (.cons (.lst (.cons (.var 4) .nil)) (.cons (.tup (.cons (.var 2) .nil)) .nil))))))) (.ix (.lst (.cons (.c (.int 0)) (.cons (.c (.int 0)) (.cons (.c (.int 0)) (.cons (.c (.int 0)) (.cons (.c (.int 1)) (.cons (.c (.int 2)) (.cons (.c (.int 3)) (.cons (.c (.int 4)) (.cons (.c (.int 5)) (.cons (.c (.int 6)) (.cons (.c (.int 7)) (.cons (.c (.int 8)) .nil))))))))))))) (.call 2 2 (.s 0 (.e (.c (.int 12)) .nil)))))) .nil)
def b_law_bent_row_k11_2 : DSs := (.cons (.set 5 (.lst (.cons (.bin .Add (.bin .Add (.sl (.var 2) .none (.some (.var 3))) (.tup (.cons (.var 4) .nil))) (.sl (.var 2) (.some (.bin .Add (.var 3) (.c (.int 1)))) .none)) (.cons (.bin .Add (.bin .Add (.sl (.var 2) .none (.some (.var 3))) (.tup (.cons (.var 4) .nil))) (.sl (.var 2) (.some (.var 3)) .none)) (.cons (.bin .Add (.sl (.var 2) .none (.some (.var 3))) (.sl (.var 2) (.some (.bin .Add (.var 3) (.c (.int 1)))) .none)) (.cons (.listN 2) .nil)))))) DB.b_law_bent_row_k11_1)
def b_law_bent_row_k11_3 : DSs := (.cons (.set 4 (.ix (.lst (.cons (.ix (.var 1) (.c (.int 0))) (.cons (.neg (.c (.int 1))) (.cons (.c (.bool true)) (.cons (.c (.bool false)) (.cons (.c .none) (.cons (.c (.str "0")) (.cons (.tup (.cons (.c (.int 0)) .nil)) (.cons (.bin .Pow (.c (.int 10)) (.c (.int 29))) (.cons (.c (.int 0)) (.cons (.c (.int 1)) (.cons (.bin .Sub (.ix (.var 1) (.c (.int 0))) (.c (.int 1))) .nil)))))))))))) (.call 2 2 (.s 0 (.e (.c (.int 11)) .nil))))) DB.b_law_bent_row_k11_2)
def b_law_bent_row_k11 : DSs := (.cons (.set 3 (.call 2 2 (.s 0 (.e (.bin .Add (.bi .len (.cons (.var 2) .nil)) (.c (.int 1))) .nil)))) DB.b_law_bent_row_k11_3)
def b_law_whole_k11 : DSs := (.cons (.ret (.and (.isi "int" (.var 0)) (.and (.not (.isi "bool" (.var 0))) (.chain .LtE .LtE (.var 1) (.var 0) (.var 2))))) .nil)
def b_law_is_row_k11_1 : DSs := (.cons (.ret (.bi .all (.cons (.lc (.call 40 3 (.s 2 (.e (.c (.int 0)) (.e (.bin .Sub (.ix (.var 0) (.c (.int 0))) (.c (.int 1))) .nil)))) (.one 2) (.seq (.var 1)) .tt [2]) .nil))) .nil)
def b_law_is_row_k11 : DSs := (.cons (.ite (.or (.not (.e (.isi "tuple" (.var 1)))) (.e (.cmp .NotEq (.bi .len (.cons (.var 1) .nil)) (.ix (.var 0) (.c (.int 1)))))) (.cons (.ret (.c (.bool false))) .nil) .nil) DB.b_law_is_row_k11_1)
def b_law_space_like_k11_1 : DSs := (.cons (.ret (.ix (.var 3) (.ix (.lst (.cons (.c (.int 0)) (.cons (.c (.int 0)) (.cons (.c (.int 0)) (.cons (.c (.int 0)) (.cons (.c (.int 0)) (.cons (.c (.int 1)) (.cons (.c (.int 2)) (.cons (.c (.int 3)) (.cons (.c (.int 4)) (.cons (.c (.int 5)) (.cons (.c (.int 6)) (.cons (.c (.int 7)) (.cons (.c (.int 8)) (.cons (.c (.int 9)) .nil))))))))))))))) (.call 2 2 (.s 0 (.e (.c (.int 14)) .nil)))))) .nil)
def b_law_space_like_k11_2 : DSs := (.cons (.set 3 (.lst (.cons (.tup (.cons (.var 1) (.cons (.var 2) .nil))) (.cons (.lst (.cons (.var 1) (.cons (.var 2) .nil))) (.cons (.tup (.cons (.var 1) .nil)) (.cons (.tup (.cons (.var 1) (.cons (.var 2) (.cons (.c (.int 1)) .nil)))) (.cons (.c .none) (.cons .dict0 (.cons (.var 1) (.cons (.tup (.cons (.tup (.cons (.var 1) (.cons (.var 2) .nil))) .nil)) (.cons (.tup (.cons (.var 2) (.cons (.var 1) .nil))) (.cons (.tup .nil) .nil)))))))))))) DB.b_law_space_like_k11_1)
def b_law_space_like_k11_3 : DSs := (.cons (.set 2 (.ix (.lst (.cons (.c (.int 1)) (.cons (.c (.int 2)) (.cons (.c (.int 3)) (.cons (.c (.int 4)) (.cons (.c (.int 5)) (.cons (.c (.int 6)) (.cons (.c (.int 7)) (.cons (.c (.int 0)) (.cons (.neg (.c (.int 1))) (.cons (.c (.bool true)) (.cons (.c .none) (.cons (.c (.str "3")) (.cons (.tup (.cons (.c (.int 3)) .nil)) .nil)))))))))))))) (.call 2 2 (.s 0 (.e (.c (.int 13)) .nil))))) DB.b_law_space_like_k11_2)
def b_law_space_like_k11 : DSs := (.cons (.set 1 (.ix (.lst (.cons (.c (.int 2)) (.cons (.c (.int 3)) (.cons (.c (.int 5)) (.cons (.c (.int 4)) (.cons (.c (.int 1)) (.cons (.c (.int 7)) (.cons (.c (.int 0)) (.cons (.neg (.c (.int 2))) (.cons (.c (.bool true)) (.cons (.c .none) (.cons (.c (.str "2")) (.cons (.tup (.cons (.c (.int 2)) .nil)) (.cons (.bin .Pow (.c (.int 10)) (.c (.int 29))) .nil)))))))))))))) (.ix (.lst (.cons (.c (.int 0)) (.cons (.c (.int 1)) (.cons (.c (.int 2)) (.cons (.call 2 2 (.s 0 (.e (.c (.int 13)) .nil))) .nil))))) (.call 2 2 (.s 0 (.e (.c (.int 4)) .nil)))))) DB.b_law_space_like_k11_3)
def b_law_due_k11_1 : DSs := (.cons (.ite (.or (.not (.e (.isi "tuple" (.var 0)))) (.or (.e (.cmp .NotEq (.bi .len (.cons (.var 0) .nil)) (.c (.int 2)))) (.not (.e (.bi .all (.cons (.lc (.call 40 3 (.s 2 (.e (.c (.int 1)) (.e (.c (.int 6)) .nil)))) (.one 2) (.seq (.var 0)) .tt [2]) .nil)))))) (.cons (.ret (.c (.bool false))) .nil) .nil) (.cons (.ret (.cmp .In (.var 0) (.var 1))) .nil))
def b_law_due_k11 : DSs := (.cons (.set 1 (.lst (.cons (.tup (.cons (.c (.int 2)) (.cons (.c (.int 1)) .nil))) (.cons (.tup (.cons (.c (.int 2)) (.cons (.c (.int 2)) .nil))) (.cons (.tup (.cons (.c (.int 2)) (.cons (.c (.int 3)) .nil))) (.cons (.tup (.cons (.c (.int 2)) (.cons (.c (.int 4)) .nil))) (.cons (.tup (.cons (.c (.int 2)) (.cons (.c (.int 5)) .nil))) (.cons (.tup (.cons (.c (.int 2)) (.cons (.c (.int 6)) .nil))) (.cons (.tup (.cons (.c (.int 3)) (.cons (.c (.int 1)) .nil))) (.cons (.tup (.cons (.c (.int 3)) (.cons (.c (.int 2)) .nil))) (.cons (.tup (.cons (.c (.int 3)) (.cons (.c (.int 3)) .nil))) (.cons (.tup (.cons (.c (.int 3)) (.cons (.c (.int 4)) .nil))) (.cons (.tup (.cons (.c (.int 5)) (.cons (.c (.int 1)) .nil))) (.cons (.tup (.cons (.c (.int 5)) (.cons (.c (.int 2)) .nil))) (.cons (.tup (.cons (.c (.int 5)) (.cons (.c (.int 3)) .nil))) .nil))))))))))))))) DB.b_law_due_k11_1)
def b_is_space_1 : DSs := (.cons (.retC 6 3 (.e (.ix (.var 0) (.c (.int 1))) (.e (.c (.int 1)) (.e (.cdix [(2, 6), (3, 4), (5, 3)] (.ix (.var 0) (.c (.int 0)))) .nil)))) .nil)
def b_is_space : DSs := (.cons (.ite (.or (.not (.e (.isi "tuple" (.var 0)))) (.or (.e (.cmp .NotEq (.bi .len (.cons (.var 0) .nil)) (.c (.int 2)))) (.or (.not (.e (.call 5 1 (.e (.ix (.var 0) (.c (.int 0))) .nil)))) (.e (.cdin [(2, 6), (3, 4), (5, 3)] (.ix (.var 0) (.c (.int 0)))))))) (.cons (.ret (.c (.bool false))) .nil) .nil) DB.b_is_space_1)
def b_law_k11_1 : DSs := (.cons (.ite (.or (.not (.e (.isi "bool" (.var 5)))) (.e (.cmp .NotEq (.var 5) (.call 46 1 (.s 4 .nil))))) (.cons (.ret (.c (.bool false))) .nil) .nil) .nil)
def b_law_k11_2 : DSs := (.cons (.set 5 (.call 275 1 (.s 4 .nil))) DB.b_law_k11_1)
def b_law_k11_3 : DSs := (.cons (.set 4 (.call 44 1 (.s 2 .nil))) DB.b_law_k11_2)
def b_law_k11_4 : DSs := (.cons (.ite (.or (.not (.e (.isi "bool" (.var 5)))) (.e (.cmp .NotEq (.var 5) (.call 41 2 (.s 6 (.s 4 .nil)))))) (.cons (.ret (.c (.bool false))) .nil) .nil) .nil)
def b_law_k11_5 : DSs := (.cons (.set 5 (.call 7 2 (.s 6 (.s 4 .nil)))) DB.b_law_k11_4)
def b_law_k11_6 : DSs := (.cons (.for_ (.one 4) (.seq (.bin .Add (.lst (.cons (.var 7) .nil)) (.lc (.call 38 3 (.s 2 (.s 6 (.s 7 .nil)))) (.one 3) (.rng1 (.c (.int 4))) .tt [3]))) DB.b_law_k11_5) .nil)
def b_law_k11_7 : DSs := (.cons (.set 7 (.call 34 2 (.s 2 (.s 6 .nil)))) DB.b_law_k11_6)
def b_law_k11_8 : DSs := (.cons (.set 6 (.call 31 2 (.s 2 (.e (.c (.int 125)) .nil)))) DB.b_law_k11_7)
def b_law_k11_9 : DSs := (.cons (.for_ (.one 3) (.rng1 (.c (.int 4))) DB.b_law_k11_3) DB.b_law_k11_8)
def b_law_k11_10 : DSs := (.cons (.setS 2 1 2 (.s 0 (.s 1 .nil))) DB.b_law_k11_9)
def b_law_k11_11 : DSs := (.cons (.ret (.and (.cmp .Is (.call 275 1 (.e (.tup (.cons (.c (.int 2)) (.cons (.c (.int 6)) .nil))) .nil)) (.c (.bool true))) (.and (.cmp .Is (.call 275 1 (.e (.tup (.cons (.c (.int 2)) (.cons (.c (.int 7)) .nil))) .nil)) (.c (.bool false))) (.cmp .Is (.call 275 1 (.e (.tup (.cons (.c (.int 5)) (.cons (.c (.int 4)) .nil))) .nil)) (.c (.bool false)))))) .nil)
def b_law_k11 : DSs := (.cons (.for_ (.one 1) (.rng1 (.bi .max (.cons (.c (.int 1)) (.cons (.bi .min (.cons (.slen 0) (.cons (.c (.int 12)) .nil))) .nil)))) DB.b_law_k11_10) DB.b_law_k11_11)
abbrev law_cell_at_k11 : Nat := 0
abbrev law_state_k11 : Nat := 1
abbrev law_take : Nat := 2
abbrev is_whole : Nat := 5
abbrev is_between : Nat := 6
abbrev is_row : Nat := 7
abbrev law_space_k11 : Nat := 31
abbrev law_row_k11 : Nat := 34
abbrev law_bent_row_k11 : Nat := 38
abbrev law_whole_k11 : Nat := 40
abbrev law_is_row_k11 : Nat := 41
abbrev law_space_like_k11 : Nat := 44
abbrev law_due_k11 : Nat := 46
abbrev is_space : Nat := 275
abbrev law_k11 : Nat := 276
def Γ : Tab
  | 0 => some (.def_ 2 b_law_cell_at_k11)
  | 1 => some (.def_ 3 b_law_state_k11)
  | 2 => some (.prim 1 takeW)
  | 5 => some (.def_ 1 b_is_whole)
  | 6 => some (.def_ 3 b_is_between)
  | 7 => some (.def_ 3 b_is_row)
  | 31 => some (.def_ 3 b_law_space_k11)
  | 34 => some (.def_ 4 b_law_row_k11)
  | 38 => some (.def_ 6 b_law_bent_row_k11)
  | 40 => some (.def_ 3 b_law_whole_k11)
  | 41 => some (.def_ 3 b_law_is_row_k11)
  | 44 => some (.def_ 4 b_law_space_like_k11)
  | 46 => some (.def_ 3 b_law_due_k11)
  | 275 => some (.def_ 1 b_is_space)
  | 276 => some (.def_ 8 b_law_k11)
  | _ => none
theorem g_law_cell_at_k11 : Γ law_cell_at_k11 = some (.def_ 2 b_law_cell_at_k11) := rfl
theorem g_law_state_k11 : Γ law_state_k11 = some (.def_ 3 b_law_state_k11) := rfl
theorem g_law_take : Γ law_take = some (.prim 1 takeW) := rfl
theorem g_is_whole : Γ is_whole = some (.def_ 1 b_is_whole) := rfl
theorem g_is_between : Γ is_between = some (.def_ 3 b_is_between) := rfl
theorem g_is_row : Γ is_row = some (.def_ 3 b_is_row) := rfl
theorem g_law_space_k11 : Γ law_space_k11 = some (.def_ 3 b_law_space_k11) := rfl
theorem g_law_row_k11 : Γ law_row_k11 = some (.def_ 4 b_law_row_k11) := rfl
theorem g_law_bent_row_k11 : Γ law_bent_row_k11 = some (.def_ 6 b_law_bent_row_k11) := rfl
theorem g_law_whole_k11 : Γ law_whole_k11 = some (.def_ 3 b_law_whole_k11) := rfl
theorem g_law_is_row_k11 : Γ law_is_row_k11 = some (.def_ 3 b_law_is_row_k11) := rfl
theorem g_law_space_like_k11 : Γ law_space_like_k11 = some (.def_ 4 b_law_space_like_k11) := rfl
theorem g_law_due_k11 : Γ law_due_k11 = some (.def_ 3 b_law_due_k11) := rfl
theorem g_is_space : Γ is_space = some (.def_ 1 b_is_space) := rfl
theorem g_law_k11 : Γ law_k11 = some (.def_ 8 b_law_k11) := rfl
end DB

end
section
set_option Elab.async false
set_option linter.all false
set_option maxRecDepth 100000
set_option autoImplicit false
set_option maxHeartbeats 4000000
namespace ME
open PySem DP MA
theorem lcGo_one {α : Type} {i : Nat} {tt : TTD} {te : TD} {r : SEnv} {Q : List PyData → Prop} (g f : α → PyData) (c : α → Bool) : ∀ (l : List α) (acc : List PyData),
    (∀ x ∈ l, ∀ K : Bool → Prop, K (c x) → tt (r.set i (some (.d (g x)))) K) → (∀ x ∈ l, c x = true → ∀ K : PyData → Prop, K (f x) → te (r.set i (some (.d (g x)))) K) → Q (acc ++ (l.filter c).map f) → lcGo (.one i) tt te r Q (l.map g) acc
  | [], acc, _, _, h => by simpa [lcGo] using h
  | x :: l, acc, h1, h2, h => by
    show tt (r.set i (some (.d (g x)))) _
    refine h1 x (.head _) _ ?_
    have ih := fun acc => lcGo_one g f c l acc (tt := tt) (te := te) (r := r) (Q := Q) (i := i) (fun y hy => h1 y (.tail _ hy)) (fun y hy => h2 y (.tail _ hy))
    cases q : c x with
    | true =>
      rw [if_pos rfl]
      refine h2 x (.head _) q _ (ih _ ?_)
      rw [List.filter_cons, q] at h
      simpa using h
    | false =>
      rw [if_neg (by decide)]
      refine ih _ ?_
      rw [List.filter_cons, q] at h
      simpa using h
theorem lcGo_tt {α : Type} {i : Nat} {te : TD} {r : SEnv} {Q : List PyData → Prop} (g f : α → PyData) (l : List α) (h2 : ∀ x ∈ l, ∀ K : PyData → Prop, K (f x) → te (r.set i (some (.d (g x)))) K) (h : Q (l.map f)) : lcGo (.one i) tTT te r Q (l.map g) [] :=
  lcGo_one g f (fun _ => true) l [] (fun _ _ _ k => k) (fun x hx _ => h2 x hx) (by rw [List.filter_eq_self.mpr (fun _ _ => rfl)]; simpa using h)
theorem forGo_inv {α : Type} {tg : Tg} {body : TSD} {D : EndsD} (g : α → PyData) (I : List α → SEnv → Prop) (h0 : ∀ r, I [] r → D.nx r)
    (h1 : ∀ x l r (K : SEnv → Prop), (∀ r', I l r' → K r') → I (x :: l) r → bindT tg (g x) r fun r1 => body { D with nx := K, ct := K, bk := D.nx } r1) : ∀ l r, I l r → forGo tg body D (l.map g) r
  | [], r, h => h0 r h
  | x :: l, r, h => h1 x l r _ (fun r' h' => forGo_inv g I h0 h1 l r' h') h
theorem fn_go {k f N : Nat} {body : DSs} (e : DB.Γ f = some (.def_ N body)) {args : List SV} {Q : RV → Prop} {E : Str → Prop} (h : wpSs (wpFn DB.Γ k) body E { nx := fun _ => Q (.d .none), rt := Q } (s0 N args)) : wpFn DB.Γ (k + 1) f args Q E := by
  show fdW (wpFn DB.Γ k) (k + 1) (DB.Γ f) args Q E
  rw [e]
  exact h
theorem toD {k f : Nat} {args : List SV} {K : PyData → Prop} {E : Str → Prop} (y : PyData) (h : ∀ Q : RV → Prop, Q (.d y) → wpFn DB.Γ k f args Q E) (hk : K y) : wpFn DB.Γ k f args (rvD K) E := h _ hk
abbrev rowD (v : Rw) : PyData := .tuple (v.map .int)
abbrev spD (p : Int) (n : Nat) : PyData := .tuple [.int p, .int n]
abbrev matT (A : List Rw) : PyData := .tuple (A.map rowD)
abbrev matL (A : List Rw) : PyData := .list (A.map rowD)
structure Sp (p : Int) (n : Nat) : Prop where
  pr : Pr p
  n0 : 1 ≤ n
  n6 : n ≤ 6
theorem Sp.p0 {p : Int} {n : Nat} (h : Sp p n) : 0 < p := h.pr.pos
theorem Sp.p5 {p : Int} {n : Nat} (h : Sp p n) : p ≤ 5 := by have := h.pr; unfold Pr at this; omega
theorem atD_zero {x : PyData} {l : List PyData} : atD (x :: l) 0 = some x := by
  unfold atD L2.ixN
  rw [if_pos (by omega), if_pos (by simp)]
  rfl
theorem atD_one {x y : PyData} {l : List PyData} : atD (x :: y :: l) 1 = some y := by
  unfold atD L2.ixN
  rw [if_pos (by omega), if_pos (by simp; omega)]
  rfl
theorem small {n : Nat} (h : n ≤ 1000000) : n ≤ sizeLine := by rw [sizeLine_eq]; omega
def optD : Option Rw → PyData
  | some r => rowD r
  | none => .none
end ME
end
section
set_option Elab.async false
set_option linter.all false
set_option maxRecDepth 100000
set_option autoImplicit false
set_option maxHeartbeats 4000000
namespace ME
open PySem DP MA
section
variable {k : Nat} {Q : RV → Prop} {E : Str → Prop} {p : Int} {n : Nat} {A B : List Rw} {u v w : Rw}
theorem is_whole_ok (x : PyData) (h : Q (.d (.bool (x.isInt && !x.isBool)))) : wpFn DB.Γ (k + 1) DB.is_whole [.d x] Q E := by
  refine fn_go DB.g_is_whole ?_
  simp only [DB.b_is_whole, wpSs, wpS, wpE, wpA, wpX, wpO, wpT, wpI, wpF, sSeq, sNext, sCont, sRet, sRetN, sRetF, oLst, sRetO, sIf, tBors, tBor, sDrop, sSet, sSetF, frz1, sFrz, sFrzs, sApp, sExt, sUnp, sRetC, sSetS, sSetC, rvX, sRaise, sFor, xNil, xE, slotW, xS, rvD, rvL, rvS, dCallF, fCallF, dVar, dC, dLst, dNil, dCons, dTup, fLst, dOp, dAnd, dOr, dNot, dIf, dCall, fCall, dIsi, dRev, dSl, rSlD, rRevD, eB, boolD, eChain, eAnd, eOr, eNot, intD, eNeg, ixW, oInt, oNone, lstW, srtW, sLen, sIx, binW, cmpW, subW, modW, rAdd, rMul, powW, fdivW, ltW, leW, gtW, geW, eqW, neW, rEqq, rNeq, inW, isW, isV, biW, lenD, truW, iSeq, seqD, iRange1, iRange2, rng1, rng2, iEnu, enu1, iZip2, zip2, fLc, tTT, s0, List.map_cons, List.map_nil, List.length_cons, List.length_nil, List.replicate, List.cons_append, List.nil_append, List.getElem?_cons_zero, List.getElem?_cons_succ, List.set_cons_zero, List.set_cons_succ, List.foldr_cons, List.foldr_nil, Nat.zero_add, Nat.reduceAdd, Nat.reduceSub, List.getElem?_nil, true_and, and_true, eq_self, wipeG, fRg1, fRg2, int1, rgB, fAdd, addL, fMul, dTupL, eIdx, lst1, idxW, dIsi2, dDct, fD0, fD1, fCallD, dpW, fListN, fSortN, fSset, ssW, wpFd, sSetD, oDct, sPut, sUpd, Bool.not_true, Bool.not_false, decide_true, decide_false, optD, dSlN, dSumV, iItm, sSetB, dRepr, dCin, dCix, sSwap, Bool.false_eq_true, if_true, if_false, ↓reduceIte]
  have e1 : isT "int" x = x.isInt := rfl
  have e2 : isT "bool" x = x.isBool := rfl
  rw [e1, e2]
  cases q : x.isInt with
  | true => rw [q] at h; rw [if_pos rfl]; exact h
  | false => rw [q] at h; rw [if_neg (by decide)]; exact h
theorem is_between_ok (i lo hi : Int) (h : Q (.d (.bool (decide (lo ≤ i) && decide (i ≤ hi))))) : wpFn DB.Γ (k + 2) DB.is_between [.d (.int i), .d (.int lo), .d (.int hi)] Q E := by
  refine fn_go DB.g_is_between ?_
  simp only [DB.b_is_between, wpSs, wpS, wpE, wpA, wpX, wpO, wpT, wpI, wpF, sSeq, sNext, sCont, sRet, sRetN, sRetF, oLst, sRetO, sIf, tBors, tBor, sDrop, sSet, sSetF, frz1, sFrz, sFrzs, sApp, sExt, sUnp, sRetC, sSetS, sSetC, rvX, sRaise, sFor, xNil, xE, slotW, xS, rvD, rvL, rvS, dCallF, fCallF, dVar, dC, dLst, dNil, dCons, dTup, fLst, dOp, dAnd, dOr, dNot, dIf, dCall, fCall, dIsi, dRev, dSl, rSlD, rRevD, eB, boolD, eChain, eAnd, eOr, eNot, intD, eNeg, ixW, oInt, oNone, lstW, srtW, sLen, sIx, binW, cmpW, subW, modW, rAdd, rMul, powW, fdivW, ltW, leW, gtW, geW, eqW, neW, rEqq, rNeq, inW, isW, isV, biW, lenD, truW, iSeq, seqD, iRange1, iRange2, rng1, rng2, iEnu, enu1, iZip2, zip2, fLc, tTT, s0, List.map_cons, List.map_nil, List.length_cons, List.length_nil, List.replicate, List.cons_append, List.nil_append, List.getElem?_cons_zero, List.getElem?_cons_succ, List.set_cons_zero, List.set_cons_succ, List.foldr_cons, List.foldr_nil, Nat.zero_add, Nat.reduceAdd, Nat.reduceSub, List.getElem?_nil, true_and, and_true, eq_self, wipeG, fRg1, fRg2, int1, rgB, fAdd, addL, fMul, dTupL, eIdx, lst1, idxW, dIsi2, dDct, fD0, fD1, fCallD, dpW, fListN, fSortN, fSset, ssW, wpFd, sSetD, oDct, sPut, sUpd, Bool.not_true, Bool.not_false, decide_true, decide_false, optD, dSlN, dSumV, iItm, sSetB, dRepr, dCin, dCix, sSwap, Bool.false_eq_true, if_true, if_false, ↓reduceIte]
  refine is_whole_ok _ ?_
  show (if decide (lo ≤ i) = true then Q (RV.d (PyData.bool (decide (i ≤ hi)))) else Q (RV.d (PyData.bool false)))
  by_cases c : lo ≤ i
  · rw [decide_eq_true c] at h ⊢; rw [if_pos rfl]; exact h
  · rw [decide_eq_false c] at h ⊢; rw [if_neg (by decide)]; exact h
theorem cmul_small {i j : Int} (h0 : 0 ≤ j) (h1 : j ≤ 100) : MulD i j := .inl (.inr ⟨by omega, by omega⟩)
end
end ME
end
section
set_option Elab.async false
set_option linter.all false
set_option maxRecDepth 100000
set_option autoImplicit false
set_option maxHeartbeats 4000000
namespace ME
open PySem DP MA
local macro_rules | `(tactic| walk_at "wps") => `(tactic| simp only [wpSs, wpS, wpE, wpA, wpX, wpO, wpT, wpI, wpF, sSeq, sNext, sCont, sRet, sRetN, sRetF, oLst, sRetO, sIf, tBors, tBor, sDrop, sSet, sSetF, frz1, sFrz, sFrzs, sApp, sExt, sUnp, sRetC, sSetS, sSetC, rvX, sRaise, sFor, xNil, xE, slotW, xS, rvD, rvL, rvS, dCallF, fCallF, dVar, dC, dLst, dNil, dCons, dTup, fLst, dOp, dAnd, dOr, dNot, dIf, dCall, fCall, dIsi, dRev, dSl, rSlD, rRevD, eB, boolD, eChain, eAnd, eOr, eNot, intD, eNeg, ixW, oInt, oNone, lstW, srtW, sLen, sIx, binW, cmpW, subW, modW, rAdd, rMul, powW, fdivW, ltW, leW, gtW, geW, eqW, neW, rEqq, rNeq, inW, isW, isV, biW, lenD, truW, iSeq, seqD, iRange1, iRange2, rng1, rng2, iEnu, enu1, iZip2, zip2, fLc, tTT, s0, List.map_cons, List.map_nil, List.length_cons, List.length_nil, List.replicate, List.cons_append, List.nil_append, List.getElem?_cons_zero, List.getElem?_cons_succ, List.set_cons_zero, List.set_cons_succ, List.foldr_cons, List.foldr_nil, Nat.zero_add, Nat.reduceAdd, Nat.reduceSub, List.getElem?_nil, true_and, and_true, eq_self, wipeG, fRg1, fRg2, int1, rgB, fAdd, addL, fMul, dTupL, eIdx, lst1, idxW, dIsi2, dDct, fD0, fD1, fCallD, dpW, fListN, fSortN, fSset, ssW, wpFd, sSetD, oDct, sPut, sUpd, Bool.not_true, Bool.not_false, decide_true, decide_false, optD, dSlN, dSumV, iItm, sSetB, dRepr, dCin, dCix, sSwap, Bool.false_eq_true, if_true, if_false, ↓reduceIte])
abbrev od (o : Option PyData) : Option SV := o.map SV.d
section
variable {k : Nat} {Q : RV → Prop} {E : Str → Prop} {p : Int} {n : Nat} {A B : List Rw} {a u v w : Rw}
end
end ME
end
section
set_option Elab.async false
set_option linter.all false
set_option maxRecDepth 100000
set_option autoImplicit false
set_option maxHeartbeats 4000000
namespace ME
open PySem DP MA
local macro_rules | `(tactic| walk_at "wps") => `(tactic| simp only [wpSs, wpS, wpE, wpA, wpX, wpO, wpT, wpI, wpF, sSeq, sNext, sCont, sRet, sRetN, sRetF, oLst, sRetO, sIf, tBors, tBor, sDrop, sSet, sSetF, frz1, sFrz, sFrzs, sApp, sExt, sUnp, sRetC, sSetS, sSetC, rvX, sRaise, sFor, xNil, xE, slotW, xS, rvD, rvL, rvS, dCallF, fCallF, dVar, dC, dLst, dNil, dCons, dTup, fLst, dOp, dAnd, dOr, dNot, dIf, dCall, fCall, dIsi, dRev, dSl, rSlD, rRevD, eB, boolD, eChain, eAnd, eOr, eNot, intD, eNeg, ixW, oInt, oNone, lstW, srtW, sLen, sIx, binW, cmpW, subW, modW, rAdd, rMul, powW, fdivW, ltW, leW, gtW, geW, eqW, neW, rEqq, rNeq, inW, isW, isV, biW, lenD, truW, iSeq, seqD, iRange1, iRange2, rng1, rng2, iEnu, enu1, iZip2, zip2, fLc, tTT, s0, List.map_cons, List.map_nil, List.length_cons, List.length_nil, List.replicate, List.cons_append, List.nil_append, List.getElem?_cons_zero, List.getElem?_cons_succ, List.set_cons_zero, List.set_cons_succ, List.foldr_cons, List.foldr_nil, Nat.zero_add, Nat.reduceAdd, Nat.reduceSub, List.getElem?_nil, true_and, and_true, eq_self, wipeG, fRg1, fRg2, int1, rgB, fAdd, addL, fMul, dTupL, eIdx, lst1, idxW, dIsi2, dDct, fD0, fD1, fCallD, dpW, fListN, fSortN, fSset, ssW, wpFd, sSetD, oDct, sPut, sUpd, Bool.not_true, Bool.not_false, decide_true, decide_false, optD, dSlN, dSumV, iItm, sSetB, dRepr, dCin, dCix, sSwap, Bool.false_eq_true, if_true, if_false, ↓reduceIte])
section
variable {k : Nat} {Q : RV → Prop} {E : Str → Prop} {p : Int} {n : Nat} {A B : List Rw} {a u v w : Rw}
theorem rng_ints (m : Nat) : rngD 0 m = (rngI m).map .int := by
  unfold rngD rngI
  rw [List.map_map]
  refine List.map_congr_left fun i _ => ?_
  show PyData.int (0 + (i : Int)) = PyData.int (i : Int)
  rw [Int.zero_add]
def SeqOf (x : PyData) (A : List Rw) : Prop := x = matL A ∨ x = matT A
theorem SeqOf.it {x : PyData} (h : SeqOf x A) {K : List PyData → Prop} (q : K (A.map rowD)) : seqD K x := by
  rcases h with rfl | rfl <;> exact q
end
end ME
end
section
set_option Elab.async false
set_option linter.all false
set_option maxRecDepth 100000
set_option autoImplicit false
set_option maxHeartbeats 4000000
namespace ME
open PySem DP MA
local macro_rules | `(tactic| walk_at "wps") => `(tactic| simp only [wpSs, wpS, wpE, wpA, wpX, wpO, wpT, wpI, wpF, sSeq, sNext, sCont, sRet, sRetN, sRetF, oLst, sRetO, sIf, tBors, tBor, sDrop, sSet, sSetF, frz1, sFrz, sFrzs, sApp, sExt, sUnp, sRetC, sSetS, sSetC, rvX, sRaise, sFor, xNil, xE, slotW, xS, rvD, rvL, rvS, dCallF, fCallF, dVar, dC, dLst, dNil, dCons, dTup, fLst, dOp, dAnd, dOr, dNot, dIf, dCall, fCall, dIsi, dRev, dSl, rSlD, rRevD, eB, boolD, eChain, eAnd, eOr, eNot, intD, eNeg, ixW, oInt, oNone, lstW, srtW, sLen, sIx, binW, cmpW, subW, modW, rAdd, rMul, powW, fdivW, ltW, leW, gtW, geW, eqW, neW, rEqq, rNeq, inW, isW, isV, biW, lenD, truW, iSeq, seqD, iRange1, iRange2, rng1, rng2, iEnu, enu1, iZip2, zip2, fLc, tTT, s0, List.map_cons, List.map_nil, List.length_cons, List.length_nil, List.replicate, List.cons_append, List.nil_append, List.getElem?_cons_zero, List.getElem?_cons_succ, List.set_cons_zero, List.set_cons_succ, List.foldr_cons, List.foldr_nil, Nat.zero_add, Nat.reduceAdd, Nat.reduceSub, List.getElem?_nil, true_and, and_true, eq_self, wipeG, fRg1, fRg2, int1, rgB, fAdd, addL, fMul, dTupL, eIdx, lst1, idxW, dIsi2, dDct, fD0, fD1, fCallD, dpW, fListN, fSortN, fSset, ssW, wpFd, sSetD, oDct, sPut, sUpd, Bool.not_true, Bool.not_false, decide_true, decide_false, optD, dSlN, dSumV, iItm, sSetB, dRepr, dCin, dCix, sSwap, Bool.false_eq_true, if_true, if_false, ↓reduceIte])
section
variable {k : Nat} {Q : RV → Prop} {E : Str → Prop} {p : Int} {n : Nat} {A B : List Rw} {a u v w : Rw}
theorem zr_flat : ∀ m : Nat, (List.replicate m [PyData.int 0]).flatten = (zr m).map .int
  | 0 => rfl
  | m + 1 => by
    rw [List.replicate_succ, List.flatten_cons, zr_flat m]
    rfl
theorem plain_bools {α : Type} (f : α → Bool) : ∀ l : List α, PyData.plainAll (l.map fun x => PyData.bool (f x)) = true
  | [] => by simp [PyData.plainAll]
  | a :: l => by rw [List.map_cons, PyData.plainAll, plain_bools f l]; simp [PyData.plain]
theorem tru_all {α : Type} {f : α → Bool} {l : List α} {K : PyData → Prop} (h : K (.bool (l.all f))) : truW (fun ys => ys.all PyData.truthy) (l.map fun x => PyData.bool (f x)) K := by
  refine ⟨plain_bools f l, by simp [fits], ?_⟩
  have e : (l.map fun x => PyData.bool (f x)).all PyData.truthy = l.all f := by
    rw [List.all_map]
    rfl
  show K (.bool ((l.map fun x => PyData.bool (f x)).all PyData.truthy))
  rw [e]
  exact h
end
end ME
end
section
set_option Elab.async false
set_option linter.all false
set_option autoImplicit false
namespace ME
open MA
section
variable {p : Int} {n : Nat} {A B C : List Rw} {a u v w : Rw}
abbrev Sub (p : Int) (n : Nat) (A B : List Rw) : Prop := ∀ v, Span p n A v → Span p n B v
end
end ME
end
section
set_option Elab.async false
set_option linter.all false
set_option maxRecDepth 100000
set_option autoImplicit false
set_option maxHeartbeats 4000000
namespace ME
open PySem DP MA
local macro_rules | `(tactic| walk_at "wps") => `(tactic| simp only [wpSs, wpS, wpE, wpA, wpX, wpO, wpT, wpI, wpF, sSeq, sNext, sCont, sRet, sRetN, sRetF, oLst, sRetO, sIf, tBors, tBor, sDrop, sSet, sSetF, frz1, sFrz, sFrzs, sApp, sExt, sUnp, sRetC, sSetS, sSetC, rvX, sRaise, sFor, xNil, xE, slotW, xS, rvD, rvL, rvS, dCallF, fCallF, dVar, dC, dLst, dNil, dCons, dTup, fLst, dOp, dAnd, dOr, dNot, dIf, dCall, fCall, dIsi, dRev, dSl, rSlD, rRevD, eB, boolD, eChain, eAnd, eOr, eNot, intD, eNeg, ixW, oInt, oNone, lstW, srtW, sLen, sIx, binW, cmpW, subW, modW, rAdd, rMul, powW, fdivW, ltW, leW, gtW, geW, eqW, neW, rEqq, rNeq, inW, isW, isV, biW, lenD, truW, iSeq, seqD, iRange1, iRange2, rng1, rng2, iEnu, enu1, iZip2, zip2, fLc, tTT, s0, List.map_cons, List.map_nil, List.length_cons, List.length_nil, List.replicate, List.cons_append, List.nil_append, List.getElem?_cons_zero, List.getElem?_cons_succ, List.set_cons_zero, List.set_cons_succ, List.foldr_cons, List.foldr_nil, Nat.zero_add, Nat.reduceAdd, Nat.reduceSub, List.getElem?_nil, true_and, and_true, eq_self, wipeG, fRg1, fRg2, int1, rgB, fAdd, addL, fMul, dTupL, eIdx, lst1, idxW, dIsi2, dDct, fD0, fD1, fCallD, dpW, fListN, fSortN, fSset, ssW, wpFd, sSetD, oDct, sPut, sUpd, Bool.not_true, Bool.not_false, decide_true, decide_false, optD, dSlN, dSumV, iItm, sSetB, dRepr, dCin, dCix, sSwap, Bool.false_eq_true, if_true, if_false, ↓reduceIte])
theorem take_go {k : Nat} {m : Int} {Q : RV → Prop} {E : Str → Prop} (h0 : 0 < m) (h1 : m < 1073741824) (h : ∀ j : Int, 0 ≤ j → j < m → Q (.d (.int j))) : wpFn DB.Γ (k + 1) DB.law_take [.m .st, .d (.int m)] Q E := by
  show fdW (wpFn DB.Γ k) (k + 1) (DB.Γ DB.law_take) _ Q E
  rw [DB.g_law_take]
  exact ⟨by omega, ⟨h0, h1⟩, h⟩
theorem take_goD {k : Nat} {m : Int} {K : PyData → Prop} {E : Str → Prop} (h0 : 0 < m) (h1 : m < 1073741824) (h : ∀ j : Int, 0 ≤ j → j < m → K (.int j)) : wpFn DB.Γ (k + 1) DB.law_take [.m .st, .d (.int m)] (rvD K) E := take_go h0 h1 h
theorem lcGo_any {α β : Type} {i : Nat} {te : TD} {r : SEnv} {Q : List PyData → Prop} (g : α → PyData) (f : β → PyData) (P : β → Prop) : ∀ (l : List α) (acc : List PyData),
    (∀ x ∈ l, ∀ K : PyData → Prop, (∀ y, P y → K (f y)) → te (r.set i (some (.d (g x)))) K) → (∀ ys : List β, ys.length = l.length → (∀ y ∈ ys, P y) → Q (acc ++ ys.map f)) → lcGo (.one i) tTT te r Q (l.map g) acc
  | [], acc, _, h => by simpa [lcGo] using h [] rfl (fun _ h => (List.not_mem_nil h).elim)
  | x :: l, acc, h2, h => by
    refine h2 x (.head _) _ fun y hy => ?_
    refine lcGo_any g f P l _ (fun z hz => h2 z (.tail _ hz)) fun ys hl hP => ?_
    have := h (y :: ys) (by simp [hl]) fun z hz => by
      cases hz with
      | head => exact hy
      | tail _ hz => exact hP z hz
    simpa using this
theorem atD_map {α : Type} {f : α → PyData} {l : List α} {j : Int} (h0 : 0 ≤ j) (h1 : j < l.length) : ∃ x ∈ l, atD (l.map f) j = some (f x) := by
  refine ⟨l[j.toNat]'(by omega), List.getElem_mem _, ?_⟩
  unfold atD L2.ixN
  rw [List.length_map, if_pos h0, if_pos h1]
  show (l.map f)[j.toNat]? = _
  rw [List.getElem?_map, List.getElem?_eq_getElem (by omega)]
  rfl
section
variable {k : Nat} {Q : RV → Prop} {E : Str → Prop} {p : Int} {n : Nat} {A B C : List Rw} {a u v w : Rw}
theorem cell_at_ok (ns : List Int) (i : Nat) (h : ∀ x, Q (.d (.int x))) : wpFn DB.Γ (k + 1) DB.law_cell_at_k11 [.scr ns, .d (.int i)] Q E := by
  refine fn_go DB.g_law_cell_at_k11 ?_
  simp only [DB.b_law_cell_at_k11, wpSs, wpS, wpE, wpA, wpX, wpO, wpT, wpI, wpF, sSeq, sNext, sCont, sRet, sRetN, sRetF, oLst, sRetO, sIf, tBors, tBor, sDrop, sSet, sSetF, frz1, sFrz, sFrzs, sApp, sExt, sUnp, sRetC, sSetS, sSetC, rvX, sRaise, sFor, xNil, xE, slotW, xS, rvD, rvL, rvS, dCallF, fCallF, dVar, dC, dLst, dNil, dCons, dTup, fLst, dOp, dAnd, dOr, dNot, dIf, dCall, fCall, dIsi, dRev, dSl, rSlD, rRevD, eB, boolD, eChain, eAnd, eOr, eNot, intD, eNeg, ixW, oInt, oNone, lstW, srtW, sLen, sIx, binW, cmpW, subW, modW, rAdd, rMul, powW, fdivW, ltW, leW, gtW, geW, eqW, neW, rEqq, rNeq, inW, isW, isV, biW, lenD, truW, iSeq, seqD, iRange1, iRange2, rng1, rng2, iEnu, enu1, iZip2, zip2, fLc, tTT, s0, List.map_cons, List.map_nil, List.length_cons, List.length_nil, List.replicate, List.cons_append, List.nil_append, List.getElem?_cons_zero, List.getElem?_cons_succ, List.set_cons_zero, List.set_cons_succ, List.foldr_cons, List.foldr_nil, Nat.zero_add, Nat.reduceAdd, Nat.reduceSub, List.getElem?_nil, true_and, and_true, eq_self, wipeG, fRg1, fRg2, int1, rgB, fAdd, addL, fMul, dTupL, eIdx, lst1, idxW, dIsi2, dDct, fD0, fD1, fCallD, dpW, fListN, fSortN, fSset, ssW, wpFd, sSetD, oDct, sPut, sUpd, Bool.not_true, Bool.not_false, decide_true, decide_false, optD, dSlN, dSumV, iItm, sSetB, dRepr, dCin, dCix, sSwap, Bool.false_eq_true, if_true, if_false, ↓reduceIte]
  by_cases c : (i : Int) < ns.length
  · rw [decide_eq_true c]
    walk_at "wps"
    have e : atZ ns (i : Int) = some (ns[i]'(by omega)) := by
      unfold atZ L2.ixN
      rw [if_pos (by omega), if_pos c]
      show ns[(i : Int).toNat]? = _
      rw [Int.toNat_natCast, List.getElem?_eq_getElem (by omega)]
    rw [e]
    exact h _
  · rw [decide_eq_false c]
    walk_at "wps"
    exact h _
theorem state_ok (ns : List Int) (i : Nat) {P : Prop} (h : P) : wpFn DB.Γ (k + 2) DB.law_state_k11 [.scr ns, .d (.int i)] (rvS P) E := by
  refine fn_go DB.g_law_state_k11 ?_
  simp only [DB.b_law_state_k11, wpSs, wpS, wpE, wpA, wpX, wpO, wpT, wpI, wpF, sSeq, sNext, sCont, sRet, sRetN, sRetF, oLst, sRetO, sIf, tBors, tBor, sDrop, sSet, sSetF, frz1, sFrz, sFrzs, sApp, sExt, sUnp, sRetC, sSetS, sSetC, rvX, sRaise, sFor, xNil, xE, slotW, xS, rvD, rvL, rvS, dCallF, fCallF, dVar, dC, dLst, dNil, dCons, dTup, fLst, dOp, dAnd, dOr, dNot, dIf, dCall, fCall, dIsi, dRev, dSl, rSlD, rRevD, eB, boolD, eChain, eAnd, eOr, eNot, intD, eNeg, ixW, oInt, oNone, lstW, srtW, sLen, sIx, binW, cmpW, subW, modW, rAdd, rMul, powW, fdivW, ltW, leW, gtW, geW, eqW, neW, rEqq, rNeq, inW, isW, isV, biW, lenD, truW, iSeq, seqD, iRange1, iRange2, rng1, rng2, iEnu, enu1, iZip2, zip2, fLc, tTT, s0, List.map_cons, List.map_nil, List.length_cons, List.length_nil, List.replicate, List.cons_append, List.nil_append, List.getElem?_cons_zero, List.getElem?_cons_succ, List.set_cons_zero, List.set_cons_succ, List.foldr_cons, List.foldr_nil, Nat.zero_add, Nat.reduceAdd, Nat.reduceSub, List.getElem?_nil, true_and, and_true, eq_self, wipeG, fRg1, fRg2, int1, rgB, fAdd, addL, fMul, dTupL, eIdx, lst1, idxW, dIsi2, dDct, fD0, fD1, fCallD, dpW, fListN, fSortN, fSset, ssW, wpFd, sSetD, oDct, sPut, sUpd, Bool.not_true, Bool.not_false, decide_true, decide_false, optD, dSlN, dSumV, iItm, sSetB, dRepr, dCin, dCix, sSwap, Bool.false_eq_true, if_true, if_false, ↓reduceIte]
  refine cell_at_ok ns i fun x => ?_
  walk_at "wps"
  have e : (10 : Int) ^ (18 : Int).toNat = 1000000000000000000 := by decide
  refine ⟨⟨by decide, by decide, by decide⟩, ?_⟩
  rw [e]
  by_cases c : (1000000000000000000 : Int) ≤ x
  · rw [decide_eq_true c]
    walk_at "wps"
    refine ⟨⟨by decide, by decide, by decide⟩, small (by omega), ?_⟩
    exact ⟨⟨by omega, by simp⟩, h⟩
  · rw [decide_eq_false c]
    walk_at "wps"
    refine ⟨by decide, small (by omega), ?_⟩
    exact ⟨⟨by omega, fun _ => by omega⟩, h⟩
theorem rng_nats (m : Nat) : rngD 0 m = (List.range' 0 m).map fun (i : Nat) => PyData.int (i : Int) := by
  unfold rngD
  rw [List.range_eq_range']
  refine List.map_congr_left fun i _ => ?_
  show PyData.int (0 + (i : Int)) = PyData.int (i : Int)
  rw [Int.zero_add]
end
end ME
end
section
set_option Elab.async false
set_option linter.all false
set_option maxRecDepth 100000
set_option autoImplicit false
set_option maxHeartbeats 4000000
namespace ME
open PySem DP MA
local macro_rules | `(tactic| walk_at "wps") => `(tactic| simp only [wpSs, wpS, wpE, wpA, wpX, wpO, wpT, wpI, wpF, sSeq, sNext, sCont, sRet, sRetN, sRetF, oLst, sRetO, sIf, tBors, tBor, sDrop, sSet, sSetF, frz1, sFrz, sFrzs, sApp, sExt, sUnp, sRetC, sSetS, sSetC, rvX, sRaise, sFor, xNil, xE, slotW, xS, rvD, rvL, rvS, dCallF, fCallF, dVar, dC, dLst, dNil, dCons, dTup, fLst, dOp, dAnd, dOr, dNot, dIf, dCall, fCall, dIsi, dRev, dSl, rSlD, rRevD, eB, boolD, eChain, eAnd, eOr, eNot, intD, eNeg, ixW, oInt, oNone, lstW, srtW, sLen, sIx, binW, cmpW, subW, modW, rAdd, rMul, powW, fdivW, ltW, leW, gtW, geW, eqW, neW, rEqq, rNeq, inW, isW, isV, biW, lenD, truW, iSeq, seqD, iRange1, iRange2, rng1, rng2, iEnu, enu1, iZip2, zip2, fLc, tTT, s0, List.map_cons, List.map_nil, List.length_cons, List.length_nil, List.replicate, List.cons_append, List.nil_append, List.getElem?_cons_zero, List.getElem?_cons_succ, List.set_cons_zero, List.set_cons_succ, List.foldr_cons, List.foldr_nil, Nat.zero_add, Nat.reduceAdd, Nat.reduceSub, List.getElem?_nil, true_and, and_true, eq_self, wipeG, fRg1, fRg2, int1, rgB, fAdd, addL, fMul, dTupL, eIdx, lst1, idxW, dIsi2, dDct, fD0, fD1, fCallD, dpW, fListN, fSortN, fSset, ssW, wpFd, sSetD, oDct, sPut, sUpd, Bool.not_true, Bool.not_false, decide_true, decide_false, optD, dSlN, dSumV, iItm, sSetB, dRepr, dCin, dCix, sSwap, Bool.false_eq_true, if_true, if_false, ↓reduceIte])
section
variable {k : Nat} {Q : RV → Prop} {E : Str → Prop} {p : Int} {n : Nat} {A B C : List Rw} {a u v w : Rw}
def spaces13 : List (Int × (Int × Nat)) := [(2, (2, 1)), (4, (2, 2)), (8, (2, 3)), (16, (2, 4)), (32, (2, 5)), (64, (2, 6)), (3, (3, 1)), (9, (3, 2)), (27, (3, 3)), (81, (3, 4)), (5, (5, 1)), (25, (5, 2)), (125, (5, 3))]
theorem spaces13_ok : ∀ e ∈ spaces13, Sp e.2.1 e.2.2 := by
  intro e he
  unfold spaces13 at he
  simp only [List.mem_cons, List.not_mem_nil, or_false] at he
  rcases he with rfl | rfl | rfl | rfl | rfl | rfl | rfl | rfl | rfl | rfl | rfl | rfl | rfl <;> exact ⟨by unfold Pr; decide, by decide, by decide⟩
theorem dOk_bool (b : Bool) : dOk (.bool b) = true := by cases b <;> decide
theorem eqv_bool_self (b : Bool) : PyData.eqv (.bool b) (.bool b) = true := by cases b <;> decide
end
end ME
end
section
set_option Elab.async false
set_option linter.all false
set_option maxRecDepth 100000
set_option autoImplicit false
set_option maxHeartbeats 4000000
namespace ME
open PySem DP MA
local macro_rules | `(tactic| walk_at "wps") => `(tactic| simp only [wpSs, wpS, wpE, wpA, wpX, wpO, wpT, wpI, wpF, sSeq, sNext, sCont, sRet, sRetN, sRetF, oLst, sRetO, sIf, tBors, tBor, sDrop, sSet, sSetF, frz1, sFrz, sFrzs, sApp, sExt, sUnp, sRetC, sSetS, sSetC, rvX, sRaise, sFor, xNil, xE, slotW, xS, rvD, rvL, rvS, dCallF, fCallF, dVar, dC, dLst, dNil, dCons, dTup, fLst, dOp, dAnd, dOr, dNot, dIf, dCall, fCall, dIsi, dRev, dSl, rSlD, rRevD, eB, boolD, eChain, eAnd, eOr, eNot, intD, eNeg, ixW, oInt, oNone, lstW, srtW, sLen, sIx, binW, cmpW, subW, modW, rAdd, rMul, powW, fdivW, ltW, leW, gtW, geW, eqW, neW, rEqq, rNeq, inW, isW, isV, biW, lenD, truW, iSeq, seqD, iRange1, iRange2, rng1, rng2, iEnu, enu1, iZip2, zip2, fLc, tTT, s0, List.map_cons, List.map_nil, List.length_cons, List.length_nil, List.replicate, List.cons_append, List.nil_append, List.getElem?_cons_zero, List.getElem?_cons_succ, List.set_cons_zero, List.set_cons_succ, List.foldr_cons, List.foldr_nil, Nat.zero_add, Nat.reduceAdd, Nat.reduceSub, List.getElem?_nil, true_and, and_true, eq_self, wipeG, fRg1, fRg2, int1, rgB, fAdd, addL, fMul, dTupL, eIdx, lst1, idxW, dIsi2, dDct, fD0, fD1, fCallD, dpW, fListN, fSortN, fSset, ssW, wpFd, sSetD, oDct, sPut, sUpd, Bool.not_true, Bool.not_false, decide_true, decide_false, optD, dSlN, dSumV, iItm, sSetB, dRepr, dCin, dCix, sSwap, Bool.false_eq_true, if_true, if_false, ↓reduceIte])
section
variable {k : Nat} {Q : RV → Prop} {E : Str → Prop} {p : Int} {n : Nat} {A B C : List Rw} {a u v w : Rw}
def S13 (p : Int) (n : Nat) : Prop := ∃ q, (q, (p, n)) ∈ spaces13
theorem S13.sp (h : S13 p n) : Sp p n := by obtain ⟨q, h⟩ := h; exact spaces13_ok _ h
theorem S13.all {P : Int → Nat → Prop} (hP : ∀ e ∈ spaces13, P e.2.1 e.2.2) (h : S13 p n) : P p n := by obtain ⟨q, h⟩ := h; exact hP _ h
end
end ME
end
section
set_option Elab.async false
set_option linter.all false
set_option maxRecDepth 100000
set_option autoImplicit false
set_option maxHeartbeats 4000000
namespace ME
open PySem DP MA
local macro_rules | `(tactic| walk_at "wps") => `(tactic| simp only [wpSs, wpS, wpE, wpA, wpX, wpO, wpT, wpI, wpF, sSeq, sNext, sCont, sRet, sRetN, sRetF, oLst, sRetO, sIf, tBors, tBor, sDrop, sSet, sSetF, frz1, sFrz, sFrzs, sApp, sExt, sUnp, sRetC, sSetS, sSetC, rvX, sRaise, sFor, xNil, xE, slotW, xS, rvD, rvL, rvS, dCallF, fCallF, dVar, dC, dLst, dNil, dCons, dTup, fLst, dOp, dAnd, dOr, dNot, dIf, dCall, fCall, dIsi, dRev, dSl, rSlD, rRevD, eB, boolD, eChain, eAnd, eOr, eNot, intD, eNeg, ixW, oInt, oNone, lstW, srtW, sLen, sIx, binW, cmpW, subW, modW, rAdd, rMul, powW, fdivW, ltW, leW, gtW, geW, eqW, neW, rEqq, rNeq, inW, isW, isV, biW, lenD, truW, iSeq, seqD, iRange1, iRange2, rng1, rng2, iEnu, enu1, iZip2, zip2, fLc, tTT, s0, List.map_cons, List.map_nil, List.length_cons, List.length_nil, List.replicate, List.cons_append, List.nil_append, List.getElem?_cons_zero, List.getElem?_cons_succ, List.set_cons_zero, List.set_cons_succ, List.foldr_cons, List.foldr_nil, Nat.zero_add, Nat.reduceAdd, Nat.reduceSub, List.getElem?_nil, true_and, and_true, eq_self, wipeG, fRg1, fRg2, int1, rgB, fAdd, addL, fMul, dTupL, eIdx, lst1, idxW, dIsi2, dDct, fD0, fD1, fCallD, dpW, fListN, fSortN, fSset, ssW, wpFd, sSetD, oDct, sPut, sUpd, Bool.not_true, Bool.not_false, decide_true, decide_false, optD, dSlN, dSumV, iItm, sSetB, dRepr, dCin, dCix, sSwap, Bool.false_eq_true, if_true, if_false, ↓reduceIte])
def betB (lo hi : Int) : PyData → Bool
  | .int i => decide (lo ≤ i) && decide (i ≤ hi)
  | _ => false
def rowB (p : Int) (n : Nat) : PyData → Bool
  | .tuple ds => decide (ds.length = n) && ds.all (betB 0 (p - 1))
  | _ => false
def IsPart (p : Int) (n : Nat) (x : PyData) : Prop := ∃ A, Part p n A ∧ x = matT A
section
variable {k : Nat} {Q : RV → Prop} {E : Str → Prop} {p : Int} {n : Nat} {A B C : List Rw} {a u v w : Rw}
theorem is_between_any (x : PyData) (lo hi : Int) (h : Q (.d (.bool (betB lo hi x)))) : wpFn DB.Γ (k + 2) DB.is_between [.d x, .d (.int lo), .d (.int hi)] Q E := by
  cases x with
  | int i => exact is_between_ok i lo hi h
  | _ =>
    refine fn_go DB.g_is_between ?_
    simp only [DB.b_is_between, wpSs, wpS, wpE, wpA, wpX, wpO, wpT, wpI, wpF, sSeq, sNext, sCont, sRet, sRetN, sRetF, oLst, sRetO, sIf, tBors, tBor, sDrop, sSet, sSetF, frz1, sFrz, sFrzs, sApp, sExt, sUnp, sRetC, sSetS, sSetC, rvX, sRaise, sFor, xNil, xE, slotW, xS, rvD, rvL, rvS, dCallF, fCallF, dVar, dC, dLst, dNil, dCons, dTup, fLst, dOp, dAnd, dOr, dNot, dIf, dCall, fCall, dIsi, dRev, dSl, rSlD, rRevD, eB, boolD, eChain, eAnd, eOr, eNot, intD, eNeg, ixW, oInt, oNone, lstW, srtW, sLen, sIx, binW, cmpW, subW, modW, rAdd, rMul, powW, fdivW, ltW, leW, gtW, geW, eqW, neW, rEqq, rNeq, inW, isW, isV, biW, lenD, truW, iSeq, seqD, iRange1, iRange2, rng1, rng2, iEnu, enu1, iZip2, zip2, fLc, tTT, s0, List.map_cons, List.map_nil, List.length_cons, List.length_nil, List.replicate, List.cons_append, List.nil_append, List.getElem?_cons_zero, List.getElem?_cons_succ, List.set_cons_zero, List.set_cons_succ, List.foldr_cons, List.foldr_nil, Nat.zero_add, Nat.reduceAdd, Nat.reduceSub, List.getElem?_nil, true_and, and_true, eq_self, wipeG, fRg1, fRg2, int1, rgB, fAdd, addL, fMul, dTupL, eIdx, lst1, idxW, dIsi2, dDct, fD0, fD1, fCallD, dpW, fListN, fSortN, fSset, ssW, wpFd, sSetD, oDct, sPut, sUpd, Bool.not_true, Bool.not_false, decide_true, decide_false, optD, dSlN, dSumV, iItm, sSetB, dRepr, dCin, dCix, sSwap, Bool.false_eq_true, if_true, if_false, ↓reduceIte]
    refine is_whole_ok _ ?_
    exact h
theorem is_row_any (x : PyData) (h : Q (.d (.bool (rowB p n x)))) : wpFn DB.Γ (k + 3) DB.is_row [.d (spD p n), .d x] Q E := by
  refine fn_go DB.g_is_row ?_
  simp only [DB.b_is_row, spD, wpSs, wpS, wpE, wpA, wpX, wpO, wpT, wpI, wpF, sSeq, sNext, sCont, sRet, sRetN, sRetF, oLst, sRetO, sIf, tBors, tBor, sDrop, sSet, sSetF, frz1, sFrz, sFrzs, sApp, sExt, sUnp, sRetC, sSetS, sSetC, rvX, sRaise, sFor, xNil, xE, slotW, xS, rvD, rvL, rvS, dCallF, fCallF, dVar, dC, dLst, dNil, dCons, dTup, fLst, dOp, dAnd, dOr, dNot, dIf, dCall, fCall, dIsi, dRev, dSl, rSlD, rRevD, eB, boolD, eChain, eAnd, eOr, eNot, intD, eNeg, ixW, oInt, oNone, lstW, srtW, sLen, sIx, binW, cmpW, subW, modW, rAdd, rMul, powW, fdivW, ltW, leW, gtW, geW, eqW, neW, rEqq, rNeq, inW, isW, isV, biW, lenD, truW, iSeq, seqD, iRange1, iRange2, rng1, rng2, iEnu, enu1, iZip2, zip2, fLc, tTT, s0, List.map_cons, List.map_nil, List.length_cons, List.length_nil, List.replicate, List.cons_append, List.nil_append, List.getElem?_cons_zero, List.getElem?_cons_succ, List.set_cons_zero, List.set_cons_succ, List.foldr_cons, List.foldr_nil, Nat.zero_add, Nat.reduceAdd, Nat.reduceSub, List.getElem?_nil, true_and, and_true, eq_self, wipeG, fRg1, fRg2, int1, rgB, fAdd, addL, fMul, dTupL, eIdx, lst1, idxW, dIsi2, dDct, fD0, fD1, fCallD, dpW, fListN, fSortN, fSset, ssW, wpFd, sSetD, oDct, sPut, sUpd, Bool.not_true, Bool.not_false, decide_true, decide_false, optD, dSlN, dSumV, iItm, sSetB, dRepr, dCin, dCix, sSwap, Bool.false_eq_true, if_true, if_false, ↓reduceIte, atD_one, atD_zero]
  cases x with
  | tuple ds =>
    have e1 : isT "tuple" (PyData.tuple ds) = true := rfl
    rw [e1]
    walk_at "wps"
    have hq : rowB p n (.tuple ds) = (decide (ds.length = n) && ds.all (betB 0 (p - 1))) := rfl
    by_cases c : (ds.length : Int) = (n : Int)
    · rw [decide_eq_true c]
      walk_at "wps"
      rw [hq, decide_eq_true (by omega : ds.length = n), Bool.true_and] at h
      have em : ds = ds.map id := by simp
      refine ⟨rfl, ?_⟩
      rw [em]
      refine lcGo_tt id (fun d => .bool (betB 0 (p - 1) d)) ds (fun d _ K hK => ?_) ?_
      · simp only [wpSs, wpS, wpE, wpA, wpX, wpO, wpT, wpI, wpF, sSeq, sNext, sCont, sRet, sRetN, sRetF, oLst, sRetO, sIf, tBors, tBor, sDrop, sSet, sSetF, frz1, sFrz, sFrzs, sApp, sExt, sUnp, sRetC, sSetS, sSetC, rvX, sRaise, sFor, xNil, xE, slotW, xS, rvD, rvL, rvS, dCallF, fCallF, dVar, dC, dLst, dNil, dCons, dTup, fLst, dOp, dAnd, dOr, dNot, dIf, dCall, fCall, dIsi, dRev, dSl, rSlD, rRevD, eB, boolD, eChain, eAnd, eOr, eNot, intD, eNeg, ixW, oInt, oNone, lstW, srtW, sLen, sIx, binW, cmpW, subW, modW, rAdd, rMul, powW, fdivW, ltW, leW, gtW, geW, eqW, neW, rEqq, rNeq, inW, isW, isV, biW, lenD, truW, iSeq, seqD, iRange1, iRange2, rng1, rng2, iEnu, enu1, iZip2, zip2, fLc, tTT, s0, List.map_cons, List.map_nil, List.length_cons, List.length_nil, List.replicate, List.cons_append, List.nil_append, List.getElem?_cons_zero, List.getElem?_cons_succ, List.set_cons_zero, List.set_cons_succ, List.foldr_cons, List.foldr_nil, Nat.zero_add, Nat.reduceAdd, Nat.reduceSub, List.getElem?_nil, true_and, and_true, eq_self, wipeG, fRg1, fRg2, int1, rgB, fAdd, addL, fMul, dTupL, eIdx, lst1, idxW, dIsi2, dDct, fD0, fD1, fCallD, dpW, fListN, fSortN, fSset, ssW, wpFd, sSetD, oDct, sPut, sUpd, Bool.not_true, Bool.not_false, decide_true, decide_false, optD, dSlN, dSumV, iItm, sSetB, dRepr, dCin, dCix, sSwap, Bool.false_eq_true, if_true, if_false, ↓reduceIte, atD_zero, id]
        exact is_between_any d _ _ hK
      · exact tru_all (K := fun x => Q (.d x)) h
    · rw [decide_eq_false c]
      walk_at "wps"
      rw [hq, decide_eq_false (by omega : ¬ ds.length = n), Bool.false_and] at h
      exact h
  | _ => exact h
end
end ME
end
section
set_option Elab.async false
set_option linter.all false
set_option maxRecDepth 100000
set_option autoImplicit false
set_option maxHeartbeats 4000000
namespace ME
open PySem DP MA
local macro_rules | `(tactic| walk_at "wps") => `(tactic| simp only [wpSs, wpS, wpE, wpA, wpX, wpO, wpT, wpI, wpF, sSeq, sNext, sCont, sRet, sRetN, sRetF, oLst, sRetO, sIf, tBors, tBor, sDrop, sSet, sSetF, frz1, sFrz, sFrzs, sApp, sExt, sUnp, sRetC, sSetS, sSetC, rvX, sRaise, sFor, xNil, xE, slotW, xS, rvD, rvL, rvS, dCallF, fCallF, dVar, dC, dLst, dNil, dCons, dTup, fLst, dOp, dAnd, dOr, dNot, dIf, dCall, fCall, dIsi, dRev, dSl, rSlD, rRevD, eB, boolD, eChain, eAnd, eOr, eNot, intD, eNeg, ixW, oInt, oNone, lstW, srtW, sLen, sIx, binW, cmpW, subW, modW, rAdd, rMul, powW, fdivW, ltW, leW, gtW, geW, eqW, neW, rEqq, rNeq, inW, isW, isV, biW, lenD, truW, iSeq, seqD, iRange1, iRange2, rng1, rng2, iEnu, enu1, iZip2, zip2, fLc, tTT, s0, List.map_cons, List.map_nil, List.length_cons, List.length_nil, List.replicate, List.cons_append, List.nil_append, List.getElem?_cons_zero, List.getElem?_cons_succ, List.set_cons_zero, List.set_cons_succ, List.foldr_cons, List.foldr_nil, Nat.zero_add, Nat.reduceAdd, Nat.reduceSub, List.getElem?_nil, true_and, and_true, eq_self, wipeG, fRg1, fRg2, int1, rgB, fAdd, addL, fMul, dTupL, eIdx, lst1, idxW, dIsi2, dDct, fD0, fD1, fCallD, dpW, fListN, fSortN, fSset, ssW, wpFd, sSetD, oDct, sPut, sUpd, Bool.not_true, Bool.not_false, decide_true, decide_false, optD, dSlN, dSumV, iItm, sSetB, dRepr, dCin, dCix, sSwap, Bool.false_eq_true, if_true, if_false, ↓reduceIte])
section
variable {k : Nat} {Q : RV → Prop} {E : Str → Prop} {p : Int} {n : Nat} {A B C : List Rw} {a u v w : Rw}
theorem atD_in {l : List PyData} {j : Int} (h0 : 0 ≤ j) (h1 : j < l.length) : ∃ x ∈ l, atD l j = some x := by
  have := atD_map (f := id) (l := l) h0 h1
  simpa using this
theorem cut_len (xs : List PyData) (lo hi : Option Int) : (cutD xs lo hi).length ≤ xs.length := by
  unfold cutD
  rw [List.length_take, List.length_drop]
  omega
end
end ME
end
section
set_option Elab.async false
set_option linter.all false
set_option maxRecDepth 100000
set_option autoImplicit false
set_option maxHeartbeats 4000000
namespace ME
open PySem DP MA
local macro_rules | `(tactic| walk_at "wps") => `(tactic| simp only [wpSs, wpS, wpE, wpA, wpX, wpO, wpT, wpI, wpF, sSeq, sNext, sCont, sRet, sRetN, sRetF, oLst, sRetO, sIf, tBors, tBor, sDrop, sSet, sSetF, frz1, sFrz, sFrzs, sApp, sExt, sUnp, sRetC, sSetS, sSetC, rvX, sRaise, sFor, xNil, xE, slotW, xS, rvD, rvL, rvS, dCallF, fCallF, dVar, dC, dLst, dNil, dCons, dTup, fLst, dOp, dAnd, dOr, dNot, dIf, dCall, fCall, dIsi, dRev, dSl, rSlD, rRevD, eB, boolD, eChain, eAnd, eOr, eNot, intD, eNeg, ixW, oInt, oNone, lstW, srtW, sLen, sIx, binW, cmpW, subW, modW, rAdd, rMul, powW, fdivW, ltW, leW, gtW, geW, eqW, neW, rEqq, rNeq, inW, isW, isV, biW, lenD, truW, iSeq, seqD, iRange1, iRange2, rng1, rng2, iEnu, enu1, iZip2, zip2, fLc, tTT, s0, List.map_cons, List.map_nil, List.length_cons, List.length_nil, List.replicate, List.cons_append, List.nil_append, List.getElem?_cons_zero, List.getElem?_cons_succ, List.set_cons_zero, List.set_cons_succ, List.foldr_cons, List.foldr_nil, Nat.zero_add, Nat.reduceAdd, Nat.reduceSub, List.getElem?_nil, true_and, and_true, eq_self, wipeG, fRg1, fRg2, int1, rgB, fAdd, addL, fMul, dTupL, eIdx, lst1, idxW, dIsi2, dDct, fD0, fD1, fCallD, dpW, fListN, fSortN, fSset, ssW, wpFd, sSetD, oDct, sPut, sUpd, Bool.not_true, Bool.not_false, decide_true, decide_false, optD, dSlN, dSumV, iItm, sSetB, dRepr, dCin, dCix, sSwap, Bool.false_eq_true, if_true, if_false, ↓reduceIte])
section
variable {k : Nat} {Q : RV → Prop} {E : Str → Prop} {p : Int} {n : Nat} {A B C : List Rw} {a u v w : Rw}
end
end ME
end
section
set_option Elab.async false
set_option linter.all false
set_option maxRecDepth 100000
set_option autoImplicit false
set_option maxHeartbeats 4000000
namespace ME
open PySem DP MA
local macro_rules | `(tactic| walk_at "wps") => `(tactic| simp only [wpSs, wpS, wpE, wpA, wpX, wpO, wpT, wpI, wpF, sSeq, sNext, sCont, sRet, sRetN, sRetF, oLst, sRetO, sIf, tBors, tBor, sDrop, sSet, sSetF, frz1, sFrz, sFrzs, sApp, sExt, sUnp, sRetC, sSetS, sSetC, rvX, sRaise, sFor, xNil, xE, slotW, xS, rvD, rvL, rvS, dCallF, fCallF, dVar, dC, dLst, dNil, dCons, dTup, fLst, dOp, dAnd, dOr, dNot, dIf, dCall, fCall, dIsi, dRev, dSl, rSlD, rRevD, eB, boolD, eChain, eAnd, eOr, eNot, intD, eNeg, ixW, oInt, oNone, lstW, srtW, sLen, sIx, binW, cmpW, subW, modW, rAdd, rMul, powW, fdivW, ltW, leW, gtW, geW, eqW, neW, rEqq, rNeq, inW, isW, isV, biW, lenD, truW, iSeq, seqD, iRange1, iRange2, rng1, rng2, iEnu, enu1, iZip2, zip2, fLc, tTT, s0, List.map_cons, List.map_nil, List.length_cons, List.length_nil, List.replicate, List.cons_append, List.nil_append, List.getElem?_cons_zero, List.getElem?_cons_succ, List.set_cons_zero, List.set_cons_succ, List.foldr_cons, List.foldr_nil, Nat.zero_add, Nat.reduceAdd, Nat.reduceSub, List.getElem?_nil, true_and, and_true, eq_self, wipeG, fRg1, fRg2, int1, rgB, fAdd, addL, fMul, dTupL, eIdx, lst1, idxW, dIsi2, dDct, fD0, fD1, fCallD, dpW, fListN, fSortN, fSset, ssW, wpFd, sSetD, oDct, sPut, sUpd, Bool.not_true, Bool.not_false, decide_true, decide_false, optD, dSlN, dSumV, iItm, sSetB, dRepr, dCin, dCix, sSwap, Bool.false_eq_true, if_true, if_false, ↓reduceIte])
section
variable {k : Nat} {Q : RV → Prop} {E : Str → Prop} {p : Int} {n : Nat} {A B C : List Rw} {a u v w : Rw}
end
section
variable {k : Nat} {Q : RV → Prop} {E : Str → Prop} {p : Int} {n : Nat} {A B C : List Rw} {a u v w : Rw}
theorem Sp.p2 {p : Int} {n : Nat} (s : Sp p n) : 2 ≤ p := by have := s.pr; unfold Pr at this; omega
end
end ME
end
section
set_option Elab.async false
set_option linter.all false
set_option maxRecDepth 100000
set_option autoImplicit false
set_option maxHeartbeats 4000000
namespace ME
open PySem DP MA
local macro_rules | `(tactic| walk_at "wps") => `(tactic| simp only [wpSs, wpS, wpE, wpA, wpX, wpO, wpT, wpI, wpF, sSeq, sNext, sCont, sRet, sRetN, sRetF, oLst, sRetO, sIf, tBors, tBor, sDrop, sSet, sSetF, frz1, sFrz, sFrzs, sApp, sExt, sUnp, sRetC, sSetS, sSetC, rvX, sRaise, sFor, xNil, xE, slotW, xS, rvD, rvL, rvS, dCallF, fCallF, dVar, dC, dLst, dNil, dCons, dTup, fLst, dOp, dAnd, dOr, dNot, dIf, dCall, fCall, dIsi, dRev, dSl, rSlD, rRevD, eB, boolD, eChain, eAnd, eOr, eNot, intD, eNeg, ixW, oInt, oNone, lstW, srtW, sLen, sIx, binW, cmpW, subW, modW, rAdd, rMul, powW, fdivW, ltW, leW, gtW, geW, eqW, neW, rEqq, rNeq, inW, isW, isV, biW, lenD, truW, iSeq, seqD, iRange1, iRange2, rng1, rng2, iEnu, enu1, iZip2, zip2, fLc, tTT, s0, List.map_cons, List.map_nil, List.length_cons, List.length_nil, List.replicate, List.cons_append, List.nil_append, List.getElem?_cons_zero, List.getElem?_cons_succ, List.set_cons_zero, List.set_cons_succ, List.foldr_cons, List.foldr_nil, Nat.zero_add, Nat.reduceAdd, Nat.reduceSub, List.getElem?_nil, true_and, and_true, eq_self, wipeG, fRg1, fRg2, int1, rgB, fAdd, addL, fMul, dTupL, eIdx, lst1, idxW, dIsi2, dDct, fD0, fD1, fCallD, dpW, fListN, fSortN, fSset, ssW, wpFd, sSetD, oDct, sPut, sUpd, Bool.not_true, Bool.not_false, decide_true, decide_false, optD, dSlN, dSumV, iItm, sSetB, dRepr, dCin, dCix, sSwap, Bool.false_eq_true, if_true, if_false, ↓reduceIte])
section
variable {k : Nat} {Q : RV → Prop} {E : Str → Prop} {p : Int} {n : Nat} {A B C : List Rw} {a u v w : Rw}
end
end ME
end
section
set_option Elab.async false
set_option linter.all false
set_option maxRecDepth 100000
set_option autoImplicit false
set_option maxHeartbeats 1000000
namespace ME
open PySem DP MA
section
variable {k : Nat} {Q : RV → Prop} {E : Str → Prop} {p : Int} {n : Nat} {A B C : List Rw} {a u v w : Rw}
theorem cells (m0 : Nat) (ns : List Int) (hm0 : 1 ≤ m0) : ∃ m : Nat, (if (if (m0 : Int) < ns.length then (m0 : Int) else (ns.length : Int)) > 1 then (if (m0 : Int) < ns.length then (m0 : Int) else (ns.length : Int)) else 1) = (m : Int) ∧ m ≤ m0 := by
  by_cases c : (m0 : Int) < ns.length
  · rw [if_pos c]
    by_cases c1 : (m0 : Int) > 1
    · rw [if_pos c1]; exact ⟨m0, rfl, by omega⟩
    · rw [if_neg c1]; exact ⟨1, rfl, by omega⟩
  · rw [if_neg c]
    by_cases c2 : (ns.length : Int) > 1
    · rw [if_pos c2]; exact ⟨ns.length, rfl, by omega⟩
    · rw [if_neg c2]; exact ⟨1, rfl, by omega⟩
theorem toD' {k f : Nat} {args : List SV} {P : PyData → Prop} {K : PyData → Prop} {E : Str → Prop} (h : ∀ Q : RV → Prop, (∀ y, P y → Q (.d y)) → wpFn DB.Γ k f args Q E) (hk : ∀ y, P y → K y) : wpFn DB.Γ k f args (rvD K) E := h _ hk
end
theorem q_cons (F : Nat → FW) (s : DS) (r : DSs) (E : Str → Prop) : wpSs F (.cons s r) E = sSeq (wpS F s E) (wpSs F r E) := by rw [wpSs]
theorem q_set (F : Nat → FW) (i : Nat) (e : DE) (E : Str → Prop) : wpS F (.set i e) E = sSet i (wpE F e E) := by rw [wpS]
theorem q_ix (F : Nat → FW) (a b : DE) (E : Str → Prop) : wpE F (.ix a b) E = dOp ixW (wpE F a E) (wpE F b E) := by rw [wpE]
theorem set_ix {F : Nat → FW} {E : Str → Prop} {D : EndsD} {r : SEnv} {i : Nat} {a b : DE} {rest : DSs} (h : wpE F a E r fun x => wpE F b E r fun y => ixW x y fun z => wpSs F rest E D (r.set i (some (.d z)))) : wpSs F (.cons (.set i (.ix a b)) rest) E D r := by
  rw [q_cons, q_set, q_ix]
  exact h
end ME
end
section
set_option Elab.async false
set_option linter.all false
set_option maxRecDepth 100000
set_option autoImplicit false
set_option maxHeartbeats 1000000
namespace ME
open PySem DP MA
local macro_rules | `(tactic| walk_at "wps") => `(tactic| simp only [wpSs, wpS, wpE, wpA, wpX, wpO, wpT, wpI, wpF, sSeq, sNext, sCont, sRet, sRetN, sRetF, oLst, sRetO, sIf, tBors, tBor, sDrop, sSet, sSetF, frz1, sFrz, sFrzs, sApp, sExt, sUnp, sRetC, sSetS, sSetC, rvX, sRaise, sFor, xNil, xE, slotW, xS, rvD, rvL, rvS, dCallF, fCallF, dVar, dC, dLst, dNil, dCons, dTup, fLst, dOp, dAnd, dOr, dNot, dIf, dCall, fCall, dIsi, dRev, dSl, rSlD, rRevD, eB, boolD, eChain, eAnd, eOr, eNot, intD, eNeg, ixW, oInt, oNone, lstW, srtW, sLen, sIx, binW, cmpW, subW, modW, rAdd, rMul, powW, fdivW, ltW, leW, gtW, geW, eqW, neW, rEqq, rNeq, inW, isW, isV, biW, lenD, truW, iSeq, seqD, iRange1, iRange2, rng1, rng2, iEnu, enu1, iZip2, zip2, fLc, tTT, s0, List.map_cons, List.map_nil, List.length_cons, List.length_nil, List.replicate, List.cons_append, List.nil_append, List.getElem?_cons_zero, List.getElem?_cons_succ, List.set_cons_zero, List.set_cons_succ, List.foldr_cons, List.foldr_nil, Nat.zero_add, Nat.reduceAdd, Nat.reduceSub, List.getElem?_nil, true_and, and_true, eq_self, wipeG, fRg1, fRg2, int1, rgB, fAdd, addL, fMul, dTupL, eIdx, lst1, idxW, dIsi2, dDct, fD0, fD1, fCallD, dpW, fListN, fSortN, fSset, ssW, wpFd, sSetD, oDct, sPut, sUpd, Bool.not_true, Bool.not_false, decide_true, decide_false, optD, dSlN, dSumV, iItm, sSetB, dRepr, dCin, dCix, sSwap, Bool.false_eq_true, if_true, if_false, ↓reduceIte])
section
variable {F : Nat → FW} {E : Str → Prop} {D : EndsD} {r : SEnv} {K : PyData → Prop} {f i j l : Nat} {x y z : SV} {d1 d2 : PyData} {rest : DSs} {a b c : DE} {P R : Prop}
theorem s_set (h : wpE F a E r fun v => wpSs F rest E D (r.set i (some (.d v)))) : wpSs F (.cons (.set i a) rest) E D r := by
  walk_at "wps"
  exact h
end
section
variable {k f : Nat} {args : List SV} {K : PyData → Prop} {E : Str → Prop}
end
end ME
end
section
set_option linter.all false
set_option autoImplicit false
namespace MA
section
variable {p : Int} {n : Nat} {A B : List Rw} {a b u v w : Rw}
inductive Each (R : Rw → Nat → Prop) : List Rw → List Nat → Prop
  | nil : Each R [] []
  | snoc {A : List Rw} {hs : List Nat} {a : Rw} {h : Nat} : Each R A hs → R a h → Each R (A ++ [a]) (hs ++ [h])
theorem each_map {R : Rw → Nat → Prop} {hs : List Nat} (h : Each R A hs) : (∀ a j, j ∈ hs → R a j → hx a = j) → A.map hx = hs := by
  induction h with
  | nil => exact fun _ => rfl
  | snoc h1 h2 ih =>
    intro q
    rw [List.map_append, ih (fun a j hj r => q a j (List.mem_append_left _ hj) r), List.map_singleton, q _ _ (List.mem_append_right _ (List.mem_singleton.mpr rfl)) h2]
end
end MA
end
section
set_option Elab.async false
set_option linter.all false
set_option maxRecDepth 100000
set_option autoImplicit false
set_option maxHeartbeats 4000000
namespace ME
open PySem DP MA
section
variable {α : Type} (le : α → α → Bool)
variable {le}
end
end ME
end
section
set_option Elab.async false
set_option linter.all false
set_option maxRecDepth 100000
set_option autoImplicit false
set_option maxHeartbeats 4000000
namespace ME
open PySem DP MA
local macro_rules | `(tactic| walk_at "wps") => `(tactic| simp only [wpSs, wpS, wpE, wpA, wpX, wpO, wpT, wpI, wpF, sSeq, sNext, sCont, sRet, sRetN, sRetF, oLst, sRetO, sIf, tBors, tBor, sDrop, sSet, sSetF, frz1, sFrz, sFrzs, sApp, sExt, sUnp, sRetC, sSetS, sSetC, rvX, sRaise, sFor, xNil, xE, slotW, xS, rvD, rvL, rvS, dCallF, fCallF, dVar, dC, dLst, dNil, dCons, dTup, fLst, dOp, dAnd, dOr, dNot, dIf, dCall, fCall, dIsi, dRev, dSl, rSlD, rRevD, eB, boolD, eChain, eAnd, eOr, eNot, intD, eNeg, ixW, oInt, oNone, lstW, srtW, sLen, sIx, binW, cmpW, subW, modW, rAdd, rMul, powW, fdivW, ltW, leW, gtW, geW, eqW, neW, rEqq, rNeq, inW, isW, isV, biW, lenD, truW, iSeq, seqD, iRange1, iRange2, rng1, rng2, iEnu, enu1, iZip2, zip2, fLc, tTT, s0, List.map_cons, List.map_nil, List.length_cons, List.length_nil, List.replicate, List.cons_append, List.nil_append, List.getElem?_cons_zero, List.getElem?_cons_succ, List.set_cons_zero, List.set_cons_succ, List.foldr_cons, List.foldr_nil, Nat.zero_add, Nat.reduceAdd, Nat.reduceSub, List.getElem?_nil, true_and, and_true, eq_self, wipeG, fRg1, fRg2, int1, rgB, fAdd, addL, fMul, dTupL, eIdx, lst1, idxW, dIsi2, dDct, fD0, fD1, fCallD, dpW, fListN, fSortN, fSset, ssW, wpFd, sSetD, oDct, sPut, sUpd, Bool.not_true, Bool.not_false, decide_true, decide_false, optD, dSlN, dSumV, iItm, sSetB, dRepr, dCin, dCix, sSwap, Bool.false_eq_true, if_true, if_false, ↓reduceIte])
abbrev setD (L : List Rw) : List (PyData × PyData) := L.map fun r => (rowD r, PyData.bool true)
section
variable {k : Nat} {Q : RV → Prop} {E : Str → Prop} {p : Int} {n : Nat} {A B C : List Rw} {a u v w : Rw}
end
end ME
end
section
set_option Elab.async false
set_option linter.all false
set_option maxRecDepth 100000
set_option autoImplicit false
set_option maxHeartbeats 2000000
namespace ME
open PySem DP MA
local macro_rules | `(tactic| walk_at "wps") => `(tactic| simp only [wpSs, wpS, wpE, wpA, wpX, wpO, wpT, wpI, wpF, sSeq, sNext, sCont, sRet, sRetN, sRetF, oLst, sRetO, sIf, tBors, tBor, sDrop, sSet, sSetF, frz1, sFrz, sFrzs, sApp, sExt, sUnp, sRetC, sSetS, sSetC, rvX, sRaise, sFor, xNil, xE, slotW, xS, rvD, rvL, rvS, dCallF, fCallF, dVar, dC, dLst, dNil, dCons, dTup, fLst, dOp, dAnd, dOr, dNot, dIf, dCall, fCall, dIsi, dRev, dSl, rSlD, rRevD, eB, boolD, eChain, eAnd, eOr, eNot, intD, eNeg, ixW, oInt, oNone, lstW, srtW, sLen, sIx, binW, cmpW, subW, modW, rAdd, rMul, powW, fdivW, ltW, leW, gtW, geW, eqW, neW, rEqq, rNeq, inW, isW, isV, biW, lenD, truW, iSeq, seqD, iRange1, iRange2, rng1, rng2, iEnu, enu1, iZip2, zip2, fLc, tTT, s0, List.map_cons, List.map_nil, List.length_cons, List.length_nil, List.replicate, List.cons_append, List.nil_append, List.getElem?_cons_zero, List.getElem?_cons_succ, List.set_cons_zero, List.set_cons_succ, List.foldr_cons, List.foldr_nil, Nat.zero_add, Nat.reduceAdd, Nat.reduceSub, List.getElem?_nil, true_and, and_true, eq_self, wipeG, fRg1, fRg2, int1, rgB, fAdd, addL, fMul, dTupL, eIdx, lst1, idxW, dIsi2, dDct, fD0, fD1, fCallD, dpW, fListN, fSortN, fSset, ssW, wpFd, sSetD, oDct, sPut, sUpd, Bool.not_true, Bool.not_false, decide_true, decide_false, optD, dSlN, dSumV, iItm, sSetB, dRepr, dCin, dCix, sSwap, Bool.false_eq_true, if_true, if_false, ↓reduceIte])
section
variable {k : Nat} {Q : RV → Prop} {E : Str → Prop} {p : Int} {n : Nat} {A B C : List Rw} {a u v w : Rw}
theorem clr_get {r : SEnv} {i : Nat} {x : PyData} (h : r[i]? = some (some (.d x))) : (clrS r)[i]? = some (some (.d x)) := by unfold clrS; rw [List.getElem?_map, h]; rfl
end
end ME
end
section
set_option Elab.async false
set_option linter.all false
set_option maxRecDepth 100000
set_option autoImplicit false
set_option maxHeartbeats 2000000
namespace ME
open PySem DP MA
local macro_rules | `(tactic| walk_at "wps") => `(tactic| simp only [wpSs, wpS, wpE, wpA, wpX, wpO, wpT, wpI, wpF, sSeq, sNext, sCont, sRet, sRetN, sRetF, oLst, sRetO, sIf, tBors, tBor, sDrop, sSet, sSetF, frz1, sFrz, sFrzs, sApp, sExt, sUnp, sRetC, sSetS, sSetC, rvX, sRaise, sFor, xNil, xE, slotW, xS, rvD, rvL, rvS, dCallF, fCallF, dVar, dC, dLst, dNil, dCons, dTup, fLst, dOp, dAnd, dOr, dNot, dIf, dCall, fCall, dIsi, dRev, dSl, rSlD, rRevD, eB, boolD, eChain, eAnd, eOr, eNot, intD, eNeg, ixW, oInt, oNone, lstW, srtW, sLen, sIx, binW, cmpW, subW, modW, rAdd, rMul, powW, fdivW, ltW, leW, gtW, geW, eqW, neW, rEqq, rNeq, inW, isW, isV, biW, lenD, truW, iSeq, seqD, iRange1, iRange2, rng1, rng2, iEnu, enu1, iZip2, zip2, fLc, tTT, s0, List.map_cons, List.map_nil, List.length_cons, List.length_nil, List.replicate, List.cons_append, List.nil_append, List.getElem?_cons_zero, List.getElem?_cons_succ, List.set_cons_zero, List.set_cons_succ, List.foldr_cons, List.foldr_nil, Nat.zero_add, Nat.reduceAdd, Nat.reduceSub, List.getElem?_nil, true_and, and_true, eq_self, wipeG, fRg1, fRg2, int1, rgB, fAdd, addL, fMul, dTupL, eIdx, lst1, idxW, dIsi2, dDct, fD0, fD1, fCallD, dpW, fListN, fSortN, fSset, ssW, wpFd, sSetD, oDct, sPut, sUpd, Bool.not_true, Bool.not_false, decide_true, decide_false, optD, dSlN, dSumV, iItm, sSetB, dRepr, dCin, dCix, sSwap, Bool.false_eq_true, if_true, if_false, ↓reduceIte])
section
variable {k : Nat} {Q : RV → Prop} {E : Str → Prop} {p : Int} {n : Nat} {A B C : List Rw} {a u v w : Rw}
end
end ME
end
section
set_option Elab.async false
set_option linter.all false
set_option autoImplicit false
namespace ME
open MA
section
variable {p : Int} {n : Nat} {A B C : List Rw} {a b u v w : Rw}
end
end ME
end
section
set_option Elab.async false
set_option linter.all false
set_option maxRecDepth 100000
set_option autoImplicit false
set_option maxHeartbeats 4000000
namespace ME
open PySem DP MA
local macro_rules | `(tactic| walk_at "wps") => `(tactic| simp only [wpSs, wpS, wpE, wpA, wpX, wpO, wpT, wpI, wpF, sSeq, sNext, sCont, sRet, sRetN, sRetF, oLst, sRetO, sIf, tBors, tBor, sDrop, sSet, sSetF, frz1, sFrz, sFrzs, sApp, sExt, sUnp, sRetC, sSetS, sSetC, rvX, sRaise, sFor, xNil, xE, slotW, xS, rvD, rvL, rvS, dCallF, fCallF, dVar, dC, dLst, dNil, dCons, dTup, fLst, dOp, dAnd, dOr, dNot, dIf, dCall, fCall, dIsi, dRev, dSl, rSlD, rRevD, eB, boolD, eChain, eAnd, eOr, eNot, intD, eNeg, ixW, oInt, oNone, lstW, srtW, sLen, sIx, binW, cmpW, subW, modW, rAdd, rMul, powW, fdivW, ltW, leW, gtW, geW, eqW, neW, rEqq, rNeq, inW, isW, isV, biW, lenD, truW, iSeq, seqD, iRange1, iRange2, rng1, rng2, iEnu, enu1, iZip2, zip2, fLc, tTT, s0, List.map_cons, List.map_nil, List.length_cons, List.length_nil, List.replicate, List.cons_append, List.nil_append, List.getElem?_cons_zero, List.getElem?_cons_succ, List.set_cons_zero, List.set_cons_succ, List.foldr_cons, List.foldr_nil, Nat.zero_add, Nat.reduceAdd, Nat.reduceSub, List.getElem?_nil, true_and, and_true, eq_self, wipeG, fRg1, fRg2, int1, rgB, fAdd, addL, fMul, dTupL, eIdx, lst1, idxW, dIsi2, dDct, fD0, fD1, fCallD, dpW, fListN, fSortN, fSset, ssW, wpFd, sSetD, oDct, sPut, sUpd, Bool.not_true, Bool.not_false, decide_true, decide_false, optD, dSlN, dSumV, iItm, sSetB, dRepr, dCin, dCix, sSwap, Bool.false_eq_true, if_true, if_false, ↓reduceIte])
def spaces16 : List (Int × Nat) := [(2, 1), (2, 2), (2, 3), (2, 4), (3, 1), (3, 2), (3, 3), (5, 1), (5, 2), (2, 3), (2, 4), (3, 3), (2, 5), (2, 6), (3, 4), (5, 3)]
theorem spaces16_ok : ∀ e ∈ spaces16, ∃ q, (q, (e.1, e.2)) ∈ spaces13 := by
  intro e he
  unfold spaces16 at he
  simp only [List.mem_cons, List.not_mem_nil, or_false] at he
  unfold spaces13
  rcases he with rfl | rfl | rfl | rfl | rfl | rfl | rfl | rfl | rfl | rfl | rfl | rfl | rfl | rfl | rfl | rfl <;> exact ⟨_, by simp; rfl⟩
def addL (L : List Rw) (v : Rw) : List Rw := if v ∈ L then L else L ++ [v]
section
variable {k : Nat} {Q : RV → Prop} {E : Str → Prop} {p : Int} {n : Nat} {A B C : List Rw} {a u v w : Rw}
theorem space11_ok {m : Int} (h : ∀ p n, S13 p n → Q (.d (spD p n))) : wpFn DB.Γ (k + 2) DB.law_space_k11 [.m .st, .d (.int m)] Q E := by
  have sm : ∀ j : Nat, j ≤ 100 → j ≤ sizeLine := fun j hj => small (by omega)
  have fin : ∀ (L : List (Int × Nat)), 0 < L.length → L.length ≤ 16 → (∀ e ∈ L, e ∈ spaces16) → wpSs (wpFn DB.Γ (k + 1)) DB.b_law_space_k11_1 E { nx := fun _ => Q (.d .none), rt := Q } [some (.m .st), some (.d (.int m)), some (.d (.list (L.map fun e => spD e.1 e.2)))] := fun L l0 l1 hL => by
    simp only [DB.b_law_space_k11_1, wpSs, wpS, wpE, wpA, wpX, wpO, wpT, wpI, wpF, sSeq, sNext, sCont, sRet, sRetN, sRetF, oLst, sRetO, sIf, tBors, tBor, sDrop, sSet, sSetF, frz1, sFrz, sFrzs, sApp, sExt, sUnp, sRetC, sSetS, sSetC, rvX, sRaise, sFor, xNil, xE, slotW, xS, rvD, rvL, rvS, dCallF, fCallF, dVar, dC, dLst, dNil, dCons, dTup, fLst, dOp, dAnd, dOr, dNot, dIf, dCall, fCall, dIsi, dRev, dSl, rSlD, rRevD, eB, boolD, eChain, eAnd, eOr, eNot, intD, eNeg, ixW, oInt, oNone, lstW, srtW, sLen, sIx, binW, cmpW, subW, modW, rAdd, rMul, powW, fdivW, ltW, leW, gtW, geW, eqW, neW, rEqq, rNeq, inW, isW, isV, biW, lenD, truW, iSeq, seqD, iRange1, iRange2, rng1, rng2, iEnu, enu1, iZip2, zip2, fLc, tTT, s0, List.map_cons, List.map_nil, List.length_cons, List.length_nil, List.replicate, List.cons_append, List.nil_append, List.getElem?_cons_zero, List.getElem?_cons_succ, List.set_cons_zero, List.set_cons_succ, List.foldr_cons, List.foldr_nil, Nat.zero_add, Nat.reduceAdd, Nat.reduceSub, List.getElem?_nil, true_and, and_true, eq_self, wipeG, fRg1, fRg2, int1, rgB, fAdd, addL, fMul, dTupL, eIdx, lst1, idxW, dIsi2, dDct, fD0, fD1, fCallD, dpW, fListN, fSortN, fSset, ssW, wpFd, sSetD, oDct, sPut, sUpd, Bool.not_true, Bool.not_false, decide_true, decide_false, optD, dSlN, dSumV, iItm, sSetB, dRepr, dCin, dCix, sSwap, Bool.false_eq_true, if_true, if_false, ↓reduceIte, List.length_map]
    refine take_goD (k := k) (by omega) (by omega) fun j h0 h1 => ?_
    obtain ⟨e, he, q⟩ := atD_map (f := fun e : Int × Nat => spD e.1 e.2) h0 h1
    try walk_at "wps"
    rw [q]
    exact h _ _ (spaces16_ok e (hL e he))
  refine fn_go DB.g_law_space_k11 ?_
  simp only [DB.b_law_space_k11, wpSs, wpS, wpE, wpA, wpX, wpO, wpT, wpI, wpF, sSeq, sNext, sCont, sRet, sRetN, sRetF, oLst, sRetO, sIf, tBors, tBor, sDrop, sSet, sSetF, frz1, sFrz, sFrzs, sApp, sExt, sUnp, sRetC, sSetS, sSetC, rvX, sRaise, sFor, xNil, xE, slotW, xS, rvD, rvL, rvS, dCallF, fCallF, dVar, dC, dLst, dNil, dCons, dTup, fLst, dOp, dAnd, dOr, dNot, dIf, dCall, fCall, dIsi, dRev, dSl, rSlD, rRevD, eB, boolD, eChain, eAnd, eOr, eNot, intD, eNeg, ixW, oInt, oNone, lstW, srtW, sLen, sIx, binW, cmpW, subW, modW, rAdd, rMul, powW, fdivW, ltW, leW, gtW, geW, eqW, neW, rEqq, rNeq, inW, isW, isV, biW, lenD, truW, iSeq, seqD, iRange1, iRange2, rng1, rng2, iEnu, enu1, iZip2, zip2, fLc, tTT, s0, List.map_cons, List.map_nil, List.length_cons, List.length_nil, List.replicate, List.cons_append, List.nil_append, List.getElem?_cons_zero, List.getElem?_cons_succ, List.set_cons_zero, List.set_cons_succ, List.foldr_cons, List.foldr_nil, Nat.zero_add, Nat.reduceAdd, Nat.reduceSub, List.getElem?_nil, true_and, and_true, eq_self, wipeG, fRg1, fRg2, int1, rgB, fAdd, addL, fMul, dTupL, eIdx, lst1, idxW, dIsi2, dDct, fD0, fD1, fCallD, dpW, fListN, fSortN, fSset, ssW, wpFd, sSetD, oDct, sPut, sUpd, Bool.not_true, Bool.not_false, decide_true, decide_false, optD, dSlN, dSumV, iItm, sSetB, dRepr, dCin, dCix, sSwap, Bool.false_eq_true, if_true, if_false, ↓reduceIte, sm 2 (by omega), sm 12 (by omega)]
  simp only [DB.b_law_space_k11_2, wpSs, wpS, wpE, wpA, wpX, wpO, wpT, wpI, wpF, sSeq, sNext, sCont, sRet, sRetN, sRetF, oLst, sRetO, sIf, tBors, tBor, sDrop, sSet, sSetF, frz1, sFrz, sFrzs, sApp, sExt, sUnp, sRetC, sSetS, sSetC, rvX, sRaise, sFor, xNil, xE, slotW, xS, rvD, rvL, rvS, dCallF, fCallF, dVar, dC, dLst, dNil, dCons, dTup, fLst, dOp, dAnd, dOr, dNot, dIf, dCall, fCall, dIsi, dRev, dSl, rSlD, rRevD, eB, boolD, eChain, eAnd, eOr, eNot, intD, eNeg, ixW, oInt, oNone, lstW, srtW, sLen, sIx, binW, cmpW, subW, modW, rAdd, rMul, powW, fdivW, ltW, leW, gtW, geW, eqW, neW, rEqq, rNeq, inW, isW, isV, biW, lenD, truW, iSeq, seqD, iRange1, iRange2, rng1, rng2, iEnu, enu1, iZip2, zip2, fLc, tTT, s0, List.map_cons, List.map_nil, List.length_cons, List.length_nil, List.replicate, List.cons_append, List.nil_append, List.getElem?_cons_zero, List.getElem?_cons_succ, List.set_cons_zero, List.set_cons_succ, List.foldr_cons, List.foldr_nil, Nat.zero_add, Nat.reduceAdd, Nat.reduceSub, List.getElem?_nil, true_and, and_true, eq_self, wipeG, fRg1, fRg2, int1, rgB, fAdd, addL, fMul, dTupL, eIdx, lst1, idxW, dIsi2, dDct, fD0, fD1, fCallD, dpW, fListN, fSortN, fSset, ssW, wpFd, sSetD, oDct, sPut, sUpd, Bool.not_true, Bool.not_false, decide_true, decide_false, optD, dSlN, dSumV, iItm, sSetB, dRepr, dCin, dCix, sSwap, Bool.false_eq_true, if_true, if_false, ↓reduceIte, sm 2 (by omega), sm 4 (by omega)]
  by_cases c : m > 27
  · rw [decide_eq_true c]
    try walk_at "wps"
    refine ⟨sm _ (by omega), ?_⟩
    exact fin spaces16 (by decide) (by decide) fun e he => he
  · rw [decide_eq_false c]
    try walk_at "wps"
    refine fin (spaces16.take 12) (by decide) (by decide) fun e he => List.mem_of_mem_take he
theorem row11_ok (s : Sp p n) (h : ∀ v, Row p n v → Q (.d (rowD v))) : wpFn DB.Γ (k + 2) DB.law_row_k11 [.m .st, .d (spD p n)] Q E := by
  have p0 := s.p0
  have p5 := s.p5
  have n6 := s.n6
  refine fn_go DB.g_law_row_k11 ?_
  simp only [DB.b_law_row_k11, spD, wpSs, wpS, wpE, wpA, wpX, wpO, wpT, wpI, wpF, sSeq, sNext, sCont, sRet, sRetN, sRetF, oLst, sRetO, sIf, tBors, tBor, sDrop, sSet, sSetF, frz1, sFrz, sFrzs, sApp, sExt, sUnp, sRetC, sSetS, sSetC, rvX, sRaise, sFor, xNil, xE, slotW, xS, rvD, rvL, rvS, dCallF, fCallF, dVar, dC, dLst, dNil, dCons, dTup, fLst, dOp, dAnd, dOr, dNot, dIf, dCall, fCall, dIsi, dRev, dSl, rSlD, rRevD, eB, boolD, eChain, eAnd, eOr, eNot, intD, eNeg, ixW, oInt, oNone, lstW, srtW, sLen, sIx, binW, cmpW, subW, modW, rAdd, rMul, powW, fdivW, ltW, leW, gtW, geW, eqW, neW, rEqq, rNeq, inW, isW, isV, biW, lenD, truW, iSeq, seqD, iRange1, iRange2, rng1, rng2, iEnu, enu1, iZip2, zip2, fLc, tTT, s0, List.map_cons, List.map_nil, List.length_cons, List.length_nil, List.replicate, List.cons_append, List.nil_append, List.getElem?_cons_zero, List.getElem?_cons_succ, List.set_cons_zero, List.set_cons_succ, List.foldr_cons, List.foldr_nil, Nat.zero_add, Nat.reduceAdd, Nat.reduceSub, List.getElem?_nil, true_and, and_true, eq_self, wipeG, fRg1, fRg2, int1, rgB, fAdd, addL, fMul, dTupL, eIdx, lst1, idxW, dIsi2, dDct, fD0, fD1, fCallD, dpW, fListN, fSortN, fSset, ssW, wpFd, sSetD, oDct, sPut, sUpd, Bool.not_true, Bool.not_false, decide_true, decide_false, optD, dSlN, dSumV, iItm, sSetB, dRepr, dCin, dCix, sSwap, Bool.false_eq_true, if_true, if_false, ↓reduceIte, atD_one]
  refine take_goD (k := k) (by omega) (by omega) fun j h0 h1 => ?_
  refine take_goD (k := k) (by omega) (by omega) fun j2 h2 h3 => ?_
  try walk_at "wps"
  obtain ⟨m, em, hm⟩ : ∃ m : Nat, j * (if decide (j2 = 0) = true then 1 else 0) = (m : Int) ∧ m ≤ n := by
    by_cases c : j2 = 0
    · rw [if_pos (decide_eq_true c)]
      exact ⟨j.toNat, by omega, by omega⟩
    · rw [if_neg (by simpa using c)]
      exact ⟨0, by omega, by omega⟩
  refine ⟨?_, ?_⟩
  · split
    · exact cmul_small (by omega) (by omega)
    · exact cmul_small (by omega) (by omega)
  simp only [DB.b_law_row_k11_1, wpSs, wpS, wpE, wpA, wpX, wpO, wpT, wpI, wpF, sSeq, sNext, sCont, sRet, sRetN, sRetF, oLst, sRetO, sIf, tBors, tBor, sDrop, sSet, sSetF, frz1, sFrz, sFrzs, sApp, sExt, sUnp, sRetC, sSetS, sSetC, rvX, sRaise, sFor, xNil, xE, slotW, xS, rvD, rvL, rvS, dCallF, fCallF, dVar, dC, dLst, dNil, dCons, dTup, fLst, dOp, dAnd, dOr, dNot, dIf, dCall, fCall, dIsi, dRev, dSl, rSlD, rRevD, eB, boolD, eChain, eAnd, eOr, eNot, intD, eNeg, ixW, oInt, oNone, lstW, srtW, sLen, sIx, binW, cmpW, subW, modW, rAdd, rMul, powW, fdivW, ltW, leW, gtW, geW, eqW, neW, rEqq, rNeq, inW, isW, isV, biW, lenD, truW, iSeq, seqD, iRange1, iRange2, rng1, rng2, iEnu, enu1, iZip2, zip2, fLc, tTT, s0, List.map_cons, List.map_nil, List.length_cons, List.length_nil, List.replicate, List.cons_append, List.nil_append, List.getElem?_cons_zero, List.getElem?_cons_succ, List.set_cons_zero, List.set_cons_succ, List.foldr_cons, List.foldr_nil, Nat.zero_add, Nat.reduceAdd, Nat.reduceSub, List.getElem?_nil, true_and, and_true, eq_self, wipeG, fRg1, fRg2, int1, rgB, fAdd, addL, fMul, dTupL, eIdx, lst1, idxW, dIsi2, dDct, fD0, fD1, fCallD, dpW, fListN, fSortN, fSset, ssW, wpFd, sSetD, oDct, sPut, sUpd, Bool.not_true, Bool.not_false, decide_true, decide_false, optD, dSlN, dSumV, iItm, sSetB, dRepr, dCin, dCix, sSwap, Bool.false_eq_true, if_true, if_false, ↓reduceIte, atD_one]
  rw [em]
  refine ⟨small (by omega), List.cons_ne_nil _ _, by omega, by omega, by omega, ?_⟩
  rw [Int.toNat_natCast, zr_flat]
  refine ⟨by omega, by omega, rfl, ?_⟩
  rw [rng_ints]
  refine lcGo_any PyData.int PyData.int (fun x : Int => 0 ≤ x ∧ x < p) _ [] (fun y hy K hK => ?_) fun ys hl hP => ?_
  · simp only [wpSs, wpS, wpE, wpA, wpX, wpO, wpT, wpI, wpF, sSeq, sNext, sCont, sRet, sRetN, sRetF, oLst, sRetO, sIf, tBors, tBor, sDrop, sSet, sSetF, frz1, sFrz, sFrzs, sApp, sExt, sUnp, sRetC, sSetS, sSetC, rvX, sRaise, sFor, xNil, xE, slotW, xS, rvD, rvL, rvS, dCallF, fCallF, dVar, dC, dLst, dNil, dCons, dTup, fLst, dOp, dAnd, dOr, dNot, dIf, dCall, fCall, dIsi, dRev, dSl, rSlD, rRevD, eB, boolD, eChain, eAnd, eOr, eNot, intD, eNeg, ixW, oInt, oNone, lstW, srtW, sLen, sIx, binW, cmpW, subW, modW, rAdd, rMul, powW, fdivW, ltW, leW, gtW, geW, eqW, neW, rEqq, rNeq, inW, isW, isV, biW, lenD, truW, iSeq, seqD, iRange1, iRange2, rng1, rng2, iEnu, enu1, iZip2, zip2, fLc, tTT, s0, List.map_cons, List.map_nil, List.length_cons, List.length_nil, List.replicate, List.cons_append, List.nil_append, List.getElem?_cons_zero, List.getElem?_cons_succ, List.set_cons_zero, List.set_cons_succ, List.foldr_cons, List.foldr_nil, Nat.zero_add, Nat.reduceAdd, Nat.reduceSub, List.getElem?_nil, true_and, and_true, eq_self, wipeG, fRg1, fRg2, int1, rgB, fAdd, addL, fMul, dTupL, eIdx, lst1, idxW, dIsi2, dDct, fD0, fD1, fCallD, dpW, fListN, fSortN, fSset, ssW, wpFd, sSetD, oDct, sPut, sUpd, Bool.not_true, Bool.not_false, decide_true, decide_false, optD, dSlN, dSumV, iItm, sSetB, dRepr, dCin, dCix, sSwap, Bool.false_eq_true, if_true, if_false, ↓reduceIte, atD_zero]
    exact take_goD (k := k) p0 (by omega) fun j h0 h1 => hK j ⟨h0, h1⟩
  · rw [rngI_len] at hl
    have el : m + ys.length = n := by omega
    rw [List.nil_append]
    simp only [List.length_map]
    refine ⟨small (by rw [zr_len]; omega), ?_⟩
    rw [← List.map_append]
    refine h _ ⟨by rw [List.length_append, zr_len]; omega, fun x hx => ?_⟩
    rcases List.mem_append.mp hx with hx | hx
    · have := (List.mem_replicate.mp hx).2
      omega
    · exact hP x hx
end
end ME
end
section
set_option Elab.async false
set_option linter.all false
set_option maxRecDepth 100000
set_option autoImplicit false
set_option maxHeartbeats 4000000
namespace ME
open PySem DP MA
local macro_rules | `(tactic| walk_at "wps") => `(tactic| simp only [wpSs, wpS, wpE, wpA, wpX, wpO, wpT, wpI, wpF, sSeq, sNext, sCont, sRet, sRetN, sRetF, oLst, sRetO, sIf, tBors, tBor, sDrop, sSet, sSetF, frz1, sFrz, sFrzs, sApp, sExt, sUnp, sRetC, sSetS, sSetC, rvX, sRaise, sFor, xNil, xE, slotW, xS, rvD, rvL, rvS, dCallF, fCallF, dVar, dC, dLst, dNil, dCons, dTup, fLst, dOp, dAnd, dOr, dNot, dIf, dCall, fCall, dIsi, dRev, dSl, rSlD, rRevD, eB, boolD, eChain, eAnd, eOr, eNot, intD, eNeg, ixW, oInt, oNone, lstW, srtW, sLen, sIx, binW, cmpW, subW, modW, rAdd, rMul, powW, fdivW, ltW, leW, gtW, geW, eqW, neW, rEqq, rNeq, inW, isW, isV, biW, lenD, truW, iSeq, seqD, iRange1, iRange2, rng1, rng2, iEnu, enu1, iZip2, zip2, fLc, tTT, s0, List.map_cons, List.map_nil, List.length_cons, List.length_nil, List.replicate, List.cons_append, List.nil_append, List.getElem?_cons_zero, List.getElem?_cons_succ, List.set_cons_zero, List.set_cons_succ, List.foldr_cons, List.foldr_nil, Nat.zero_add, Nat.reduceAdd, Nat.reduceSub, List.getElem?_nil, true_and, and_true, eq_self, wipeG, fRg1, fRg2, int1, rgB, fAdd, addL, fMul, dTupL, eIdx, lst1, idxW, dIsi2, dDct, fD0, fD1, fCallD, dpW, fListN, fSortN, fSset, ssW, wpFd, sSetD, oDct, sPut, sUpd, Bool.not_true, Bool.not_false, decide_true, decide_false, optD, dSlN, dSumV, iItm, sSetB, dRepr, dCin, dCix, sSwap, Bool.false_eq_true, if_true, if_false, ↓reduceIte])
def mulL (p : Int) : List Int := (List.range' 1 (p - 1).toNat).map fun (i : Nat) => (i : Int)
def growIn (p : Int) (row one : Rw) (L : List Rw) : List Rw := (mulL p).foldl (fun L m => addL L (addm p one m row)) L
def grow (p : Int) (row : Rw) (L : List Rw) : List Rw := L.foldl (fun M one => growIn p row one M) L
section
variable {k : Nat} {Q : RV → Prop} {E : Str → Prop} {p : Int} {n : Nat} {A B C : List Rw} {a u v w : Rw}
end
end ME
end
section
set_option Elab.async false
set_option linter.all false
set_option maxRecDepth 100000
set_option autoImplicit false
set_option maxHeartbeats 4000000
namespace ME
open PySem DP MA
local macro_rules | `(tactic| walk_at "wps") => `(tactic| simp only [wpSs, wpS, wpE, wpA, wpX, wpO, wpT, wpI, wpF, sSeq, sNext, sCont, sRet, sRetN, sRetF, oLst, sRetO, sIf, tBors, tBor, sDrop, sSet, sSetF, frz1, sFrz, sFrzs, sApp, sExt, sUnp, sRetC, sSetS, sSetC, rvX, sRaise, sFor, xNil, xE, slotW, xS, rvD, rvL, rvS, dCallF, fCallF, dVar, dC, dLst, dNil, dCons, dTup, fLst, dOp, dAnd, dOr, dNot, dIf, dCall, fCall, dIsi, dRev, dSl, rSlD, rRevD, eB, boolD, eChain, eAnd, eOr, eNot, intD, eNeg, ixW, oInt, oNone, lstW, srtW, sLen, sIx, binW, cmpW, subW, modW, rAdd, rMul, powW, fdivW, ltW, leW, gtW, geW, eqW, neW, rEqq, rNeq, inW, isW, isV, biW, lenD, truW, iSeq, seqD, iRange1, iRange2, rng1, rng2, iEnu, enu1, iZip2, zip2, fLc, tTT, s0, List.map_cons, List.map_nil, List.length_cons, List.length_nil, List.replicate, List.cons_append, List.nil_append, List.getElem?_cons_zero, List.getElem?_cons_succ, List.set_cons_zero, List.set_cons_succ, List.foldr_cons, List.foldr_nil, Nat.zero_add, Nat.reduceAdd, Nat.reduceSub, List.getElem?_nil, true_and, and_true, eq_self, wipeG, fRg1, fRg2, int1, rgB, fAdd, addL, fMul, dTupL, eIdx, lst1, idxW, dIsi2, dDct, fD0, fD1, fCallD, dpW, fListN, fSortN, fSset, ssW, wpFd, sSetD, oDct, sPut, sUpd, Bool.not_true, Bool.not_false, decide_true, decide_false, optD, dSlN, dSumV, iItm, sSetB, dRepr, dCin, dCix, sSwap, Bool.false_eq_true, if_true, if_false, ↓reduceIte])
section
variable {k : Nat} {Q : RV → Prop} {E : Str → Prop} {p : Int} {n : Nat} {A B C : List Rw} {a u v w : Rw}
end
end ME
end
section
set_option Elab.async false
set_option linter.all false
set_option maxRecDepth 100000
set_option autoImplicit false
set_option maxHeartbeats 4000000
namespace ME
open PySem DP MA
local macro_rules | `(tactic| walk_at "wps") => `(tactic| simp only [wpSs, wpS, wpE, wpA, wpX, wpO, wpT, wpI, wpF, sSeq, sNext, sCont, sRet, sRetN, sRetF, oLst, sRetO, sIf, tBors, tBor, sDrop, sSet, sSetF, frz1, sFrz, sFrzs, sApp, sExt, sUnp, sRetC, sSetS, sSetC, rvX, sRaise, sFor, xNil, xE, slotW, xS, rvD, rvL, rvS, dCallF, fCallF, dVar, dC, dLst, dNil, dCons, dTup, fLst, dOp, dAnd, dOr, dNot, dIf, dCall, fCall, dIsi, dRev, dSl, rSlD, rRevD, eB, boolD, eChain, eAnd, eOr, eNot, intD, eNeg, ixW, oInt, oNone, lstW, srtW, sLen, sIx, binW, cmpW, subW, modW, rAdd, rMul, powW, fdivW, ltW, leW, gtW, geW, eqW, neW, rEqq, rNeq, inW, isW, isV, biW, lenD, truW, iSeq, seqD, iRange1, iRange2, rng1, rng2, iEnu, enu1, iZip2, zip2, fLc, tTT, s0, List.map_cons, List.map_nil, List.length_cons, List.length_nil, List.replicate, List.cons_append, List.nil_append, List.getElem?_cons_zero, List.getElem?_cons_succ, List.set_cons_zero, List.set_cons_succ, List.foldr_cons, List.foldr_nil, Nat.zero_add, Nat.reduceAdd, Nat.reduceSub, List.getElem?_nil, true_and, and_true, eq_self, wipeG, fRg1, fRg2, int1, rgB, fAdd, addL, fMul, dTupL, eIdx, lst1, idxW, dIsi2, dDct, fD0, fD1, fCallD, dpW, fListN, fSortN, fSset, ssW, wpFd, sSetD, oDct, sPut, sUpd, Bool.not_true, Bool.not_false, decide_true, decide_false, optD, dSlN, dSumV, iItm, sSetB, dRepr, dCin, dCix, sSwap, Bool.false_eq_true, if_true, if_false, ↓reduceIte])
section
variable {k : Nat} {Q : RV → Prop} {E : Str → Prop} {p : Int} {n : Nat} {A B C : List Rw} {a u v w : Rw}
theorem whole11_ok (x : PyData) (lo hi : Int) (h : Q (.d (.bool (betB lo hi x)))) : wpFn DB.Γ (k + 1) DB.law_whole_k11 [.d x, .d (.int lo), .d (.int hi)] Q E := by
  refine fn_go DB.g_law_whole_k11 ?_
  simp only [DB.b_law_whole_k11, wpSs, wpS, wpE, wpA, wpX, wpO, wpT, wpI, wpF, sSeq, sNext, sCont, sRet, sRetN, sRetF, oLst, sRetO, sIf, tBors, tBor, sDrop, sSet, sSetF, frz1, sFrz, sFrzs, sApp, sExt, sUnp, sRetC, sSetS, sSetC, rvX, sRaise, sFor, xNil, xE, slotW, xS, rvD, rvL, rvS, dCallF, fCallF, dVar, dC, dLst, dNil, dCons, dTup, fLst, dOp, dAnd, dOr, dNot, dIf, dCall, fCall, dIsi, dRev, dSl, rSlD, rRevD, eB, boolD, eChain, eAnd, eOr, eNot, intD, eNeg, ixW, oInt, oNone, lstW, srtW, sLen, sIx, binW, cmpW, subW, modW, rAdd, rMul, powW, fdivW, ltW, leW, gtW, geW, eqW, neW, rEqq, rNeq, inW, isW, isV, biW, lenD, truW, iSeq, seqD, iRange1, iRange2, rng1, rng2, iEnu, enu1, iZip2, zip2, fLc, tTT, s0, List.map_cons, List.map_nil, List.length_cons, List.length_nil, List.replicate, List.cons_append, List.nil_append, List.getElem?_cons_zero, List.getElem?_cons_succ, List.set_cons_zero, List.set_cons_succ, List.foldr_cons, List.foldr_nil, Nat.zero_add, Nat.reduceAdd, Nat.reduceSub, List.getElem?_nil, true_and, and_true, eq_self, wipeG, fRg1, fRg2, int1, rgB, fAdd, addL, fMul, dTupL, eIdx, lst1, idxW, dIsi2, dDct, fD0, fD1, fCallD, dpW, fListN, fSortN, fSset, ssW, wpFd, sSetD, oDct, sPut, sUpd, Bool.not_true, Bool.not_false, decide_true, decide_false, optD, dSlN, dSumV, iItm, sSetB, dRepr, dCin, dCix, sSwap, Bool.false_eq_true, if_true, if_false, ↓reduceIte]
  cases x with
  | int i =>
    have e1 : isT "int" (PyData.int i) = true := rfl
    have e2 : isT "bool" (PyData.int i) = false := rfl
    rw [e1, e2]
    try walk_at "wps"
    have hq : betB lo hi (.int i) = (decide (lo ≤ i) && decide (i ≤ hi)) := rfl
    rw [hq] at h
    by_cases c : lo ≤ i
    · rw [decide_eq_true c] at h ⊢
      try walk_at "wps"
      exact h
    · rw [decide_eq_false c] at h ⊢
      try walk_at "wps"
      exact h
  | _ => exact h
theorem is_row11_any (x : PyData) (h : Q (.d (.bool (rowB p n x)))) : wpFn DB.Γ (k + 2) DB.law_is_row_k11 [.d (spD p n), .d x] Q E := by
  refine fn_go DB.g_law_is_row_k11 ?_
  simp only [DB.b_law_is_row_k11, spD, wpSs, wpS, wpE, wpA, wpX, wpO, wpT, wpI, wpF, sSeq, sNext, sCont, sRet, sRetN, sRetF, oLst, sRetO, sIf, tBors, tBor, sDrop, sSet, sSetF, frz1, sFrz, sFrzs, sApp, sExt, sUnp, sRetC, sSetS, sSetC, rvX, sRaise, sFor, xNil, xE, slotW, xS, rvD, rvL, rvS, dCallF, fCallF, dVar, dC, dLst, dNil, dCons, dTup, fLst, dOp, dAnd, dOr, dNot, dIf, dCall, fCall, dIsi, dRev, dSl, rSlD, rRevD, eB, boolD, eChain, eAnd, eOr, eNot, intD, eNeg, ixW, oInt, oNone, lstW, srtW, sLen, sIx, binW, cmpW, subW, modW, rAdd, rMul, powW, fdivW, ltW, leW, gtW, geW, eqW, neW, rEqq, rNeq, inW, isW, isV, biW, lenD, truW, iSeq, seqD, iRange1, iRange2, rng1, rng2, iEnu, enu1, iZip2, zip2, fLc, tTT, s0, List.map_cons, List.map_nil, List.length_cons, List.length_nil, List.replicate, List.cons_append, List.nil_append, List.getElem?_cons_zero, List.getElem?_cons_succ, List.set_cons_zero, List.set_cons_succ, List.foldr_cons, List.foldr_nil, Nat.zero_add, Nat.reduceAdd, Nat.reduceSub, List.getElem?_nil, true_and, and_true, eq_self, wipeG, fRg1, fRg2, int1, rgB, fAdd, addL, fMul, dTupL, eIdx, lst1, idxW, dIsi2, dDct, fD0, fD1, fCallD, dpW, fListN, fSortN, fSset, ssW, wpFd, sSetD, oDct, sPut, sUpd, Bool.not_true, Bool.not_false, decide_true, decide_false, optD, dSlN, dSumV, iItm, sSetB, dRepr, dCin, dCix, sSwap, Bool.false_eq_true, if_true, if_false, ↓reduceIte, atD_one, atD_zero]
  cases x with
  | tuple ds =>
    have e1 : isT "tuple" (PyData.tuple ds) = true := rfl
    rw [e1]
    try walk_at "wps"
    have hq : rowB p n (.tuple ds) = (decide (ds.length = n) && ds.all (betB 0 (p - 1))) := rfl
    by_cases c : (ds.length : Int) = (n : Int)
    · rw [decide_eq_true c]
      try walk_at "wps"
      rw [hq, decide_eq_true (by omega : ds.length = n), Bool.true_and] at h
      have em : ds = ds.map id := by simp
      simp only [DB.b_law_is_row_k11_1, wpSs, wpS, wpE, wpA, wpX, wpO, wpT, wpI, wpF, sSeq, sNext, sCont, sRet, sRetN, sRetF, oLst, sRetO, sIf, tBors, tBor, sDrop, sSet, sSetF, frz1, sFrz, sFrzs, sApp, sExt, sUnp, sRetC, sSetS, sSetC, rvX, sRaise, sFor, xNil, xE, slotW, xS, rvD, rvL, rvS, dCallF, fCallF, dVar, dC, dLst, dNil, dCons, dTup, fLst, dOp, dAnd, dOr, dNot, dIf, dCall, fCall, dIsi, dRev, dSl, rSlD, rRevD, eB, boolD, eChain, eAnd, eOr, eNot, intD, eNeg, ixW, oInt, oNone, lstW, srtW, sLen, sIx, binW, cmpW, subW, modW, rAdd, rMul, powW, fdivW, ltW, leW, gtW, geW, eqW, neW, rEqq, rNeq, inW, isW, isV, biW, lenD, truW, iSeq, seqD, iRange1, iRange2, rng1, rng2, iEnu, enu1, iZip2, zip2, fLc, tTT, s0, List.map_cons, List.map_nil, List.length_cons, List.length_nil, List.replicate, List.cons_append, List.nil_append, List.getElem?_cons_zero, List.getElem?_cons_succ, List.set_cons_zero, List.set_cons_succ, List.foldr_cons, List.foldr_nil, Nat.zero_add, Nat.reduceAdd, Nat.reduceSub, List.getElem?_nil, true_and, and_true, eq_self, wipeG, fRg1, fRg2, int1, rgB, fAdd, addL, fMul, dTupL, eIdx, lst1, idxW, dIsi2, dDct, fD0, fD1, fCallD, dpW, fListN, fSortN, fSset, ssW, wpFd, sSetD, oDct, sPut, sUpd, Bool.not_true, Bool.not_false, decide_true, decide_false, optD, dSlN, dSumV, iItm, sSetB, dRepr, dCin, dCix, sSwap, Bool.false_eq_true, if_true, if_false, ↓reduceIte, atD_zero]
      refine ⟨rfl, ?_⟩
      rw [em]
      refine lcGo_tt id (fun d => .bool (betB 0 (p - 1) d)) ds (fun d _ K hK => ?_) ?_
      · simp only [wpSs, wpS, wpE, wpA, wpX, wpO, wpT, wpI, wpF, sSeq, sNext, sCont, sRet, sRetN, sRetF, oLst, sRetO, sIf, tBors, tBor, sDrop, sSet, sSetF, frz1, sFrz, sFrzs, sApp, sExt, sUnp, sRetC, sSetS, sSetC, rvX, sRaise, sFor, xNil, xE, slotW, xS, rvD, rvL, rvS, dCallF, fCallF, dVar, dC, dLst, dNil, dCons, dTup, fLst, dOp, dAnd, dOr, dNot, dIf, dCall, fCall, dIsi, dRev, dSl, rSlD, rRevD, eB, boolD, eChain, eAnd, eOr, eNot, intD, eNeg, ixW, oInt, oNone, lstW, srtW, sLen, sIx, binW, cmpW, subW, modW, rAdd, rMul, powW, fdivW, ltW, leW, gtW, geW, eqW, neW, rEqq, rNeq, inW, isW, isV, biW, lenD, truW, iSeq, seqD, iRange1, iRange2, rng1, rng2, iEnu, enu1, iZip2, zip2, fLc, tTT, s0, List.map_cons, List.map_nil, List.length_cons, List.length_nil, List.replicate, List.cons_append, List.nil_append, List.getElem?_cons_zero, List.getElem?_cons_succ, List.set_cons_zero, List.set_cons_succ, List.foldr_cons, List.foldr_nil, Nat.zero_add, Nat.reduceAdd, Nat.reduceSub, List.getElem?_nil, true_and, and_true, eq_self, wipeG, fRg1, fRg2, int1, rgB, fAdd, addL, fMul, dTupL, eIdx, lst1, idxW, dIsi2, dDct, fD0, fD1, fCallD, dpW, fListN, fSortN, fSset, ssW, wpFd, sSetD, oDct, sPut, sUpd, Bool.not_true, Bool.not_false, decide_true, decide_false, optD, dSlN, dSumV, iItm, sSetB, dRepr, dCin, dCix, sSwap, Bool.false_eq_true, if_true, if_false, ↓reduceIte, atD_zero, id]
        exact whole11_ok d _ _ hK
      · exact tru_all (K := fun x => Q (.d x)) h
    · rw [decide_eq_false c]
      try walk_at "wps"
      rw [hq, decide_eq_false (by omega : ¬ ds.length = n), Bool.false_and] at h
      exact h
  | _ => exact h
end
end ME
end
section
set_option Elab.async false
set_option linter.all false
set_option maxRecDepth 100000
set_option autoImplicit false
set_option maxHeartbeats 4000000
namespace ME
open PySem DP MA
local macro_rules | `(tactic| walk_at "wps") => `(tactic| simp only [wpSs, wpS, wpE, wpA, wpX, wpO, wpT, wpI, wpF, sSeq, sNext, sCont, sRet, sRetN, sRetF, oLst, sRetO, sIf, tBors, tBor, sDrop, sSet, sSetF, frz1, sFrz, sFrzs, sApp, sExt, sUnp, sRetC, sSetS, sSetC, rvX, sRaise, sFor, xNil, xE, slotW, xS, rvD, rvL, rvS, dCallF, fCallF, dVar, dC, dLst, dNil, dCons, dTup, fLst, dOp, dAnd, dOr, dNot, dIf, dCall, fCall, dIsi, dRev, dSl, rSlD, rRevD, eB, boolD, eChain, eAnd, eOr, eNot, intD, eNeg, ixW, oInt, oNone, lstW, srtW, sLen, sIx, binW, cmpW, subW, modW, rAdd, rMul, powW, fdivW, ltW, leW, gtW, geW, eqW, neW, rEqq, rNeq, inW, isW, isV, biW, lenD, truW, iSeq, seqD, iRange1, iRange2, rng1, rng2, iEnu, enu1, iZip2, zip2, fLc, tTT, s0, List.map_cons, List.map_nil, List.length_cons, List.length_nil, List.replicate, List.cons_append, List.nil_append, List.getElem?_cons_zero, List.getElem?_cons_succ, List.set_cons_zero, List.set_cons_succ, List.foldr_cons, List.foldr_nil, Nat.zero_add, Nat.reduceAdd, Nat.reduceSub, List.getElem?_nil, true_and, and_true, eq_self, wipeG, fRg1, fRg2, int1, rgB, fAdd, addL, fMul, dTupL, eIdx, lst1, idxW, dIsi2, dDct, fD0, fD1, fCallD, dpW, fListN, fSortN, fSset, ssW, wpFd, sSetD, oDct, sPut, sUpd, Bool.not_true, Bool.not_false, decide_true, decide_false, optD, dSlN, dSumV, iItm, sSetB, dRepr, dCin, dCix, sSwap, Bool.false_eq_true, if_true, if_false, ↓reduceIte])
theorem sm100 {m : Nat} (hm : m ≤ 100) : m ≤ sizeLine := small (by omega)
theorem atD_ints {l : List PyData} {j b : Int} (hl : l.all (betB 0 b) = true) (h0 : 0 ≤ j) (h1 : j < l.length) : ∃ i : Int, atD l j = some (.int i) ∧ 0 ≤ i ∧ i ≤ b := by
  obtain ⟨x, hx, e⟩ := atD_in h0 h1
  have q := List.all_eq_true.mp hl x hx
  cases x with
  | int i =>
    have q : (decide (0 ≤ i) && decide (i ≤ b)) = true := q
    rw [Bool.and_eq_true, decide_eq_true_eq, decide_eq_true_eq] at q
    exact ⟨i, e, q.1, q.2⟩
  | _ => cases q
section
variable {k : Nat} {Q : RV → Prop} {E : Str → Prop} {p : Int} {n : Nat} {A B C : List Rw} {a u v w : Rw} {D : EndsD}
section
variable {F : Nat → FW} {r : SEnv} {K : PyData → Prop} {i j : Nat} {ds es : List PyData} {m : Int} {a b c d e : DE} {rest : DSs}
theorem ix_at {x : PyData} (e : atD ds m = some x) (h : K x) : ixW (.list ds) (.int m) K := by
  simp only [ixW, e]
  exact h
theorem cut_K {e : DE} (P : PyData → Prop) (h1 : ∀ K' : PyData → Prop, (∀ x, P x → K' x) → wpE F e E r K') (h2 : ∀ x, P x → K x) : wpE F e E r K := h1 K h2
end
section
variable {r : SEnv} {K : PyData → Prop} {xs : List PyData} {m : Int} {i : Nat}
theorem take_c (h0 : r[i]? = some (some (.m .st))) (hm : 0 < m) (hm2 : m < 1073741824) (h : ∀ j, 0 ≤ j → j < m → K (.int j)) : wpE (wpFn DB.Γ (k + 1)) (.call DB.law_take 2 (.s i (.e (.c (.int m)) .nil))) E r K := by
  simp only [wpSs, wpS, wpE, wpA, wpX, wpO, wpT, wpI, wpF, sSeq, sNext, sCont, sRet, sRetN, sRetF, oLst, sRetO, sIf, tBors, tBor, sDrop, sSet, sSetF, frz1, sFrz, sFrzs, sApp, sExt, sUnp, sRetC, sSetS, sSetC, rvX, sRaise, sFor, xNil, xE, slotW, xS, rvD, rvL, rvS, dCallF, fCallF, dVar, dC, dLst, dNil, dCons, dTup, fLst, dOp, dAnd, dOr, dNot, dIf, dCall, fCall, dIsi, dRev, dSl, rSlD, rRevD, eB, boolD, eChain, eAnd, eOr, eNot, intD, eNeg, ixW, oInt, oNone, lstW, srtW, sLen, sIx, binW, cmpW, subW, modW, rAdd, rMul, powW, fdivW, ltW, leW, gtW, geW, eqW, neW, rEqq, rNeq, inW, isW, isV, biW, lenD, truW, iSeq, seqD, iRange1, iRange2, rng1, rng2, iEnu, enu1, iZip2, zip2, fLc, tTT, s0, List.map_cons, List.map_nil, List.length_cons, List.length_nil, List.replicate, List.cons_append, List.nil_append, List.getElem?_cons_zero, List.getElem?_cons_succ, List.set_cons_zero, List.set_cons_succ, List.foldr_cons, List.foldr_nil, Nat.zero_add, Nat.reduceAdd, Nat.reduceSub, List.getElem?_nil, true_and, and_true, eq_self, wipeG, fRg1, fRg2, int1, rgB, fAdd, addL, fMul, dTupL, eIdx, lst1, idxW, dIsi2, dDct, fD0, fD1, fCallD, dpW, fListN, fSortN, fSset, ssW, wpFd, sSetD, oDct, sPut, sUpd, Bool.not_true, Bool.not_false, decide_true, decide_false, optD, dSlN, dSumV, iItm, sSetB, dRepr, dCin, dCix, sSwap, Bool.false_eq_true, if_true, if_false, ↓reduceIte, h0]
  exact take_goD (k := k) hm hm2 h
theorem pick_any (h0 : r[i]? = some (some (.m .st))) (hm : 0 < m) (hm2 : m < 1073741824) (hl : m ≤ xs.length) (h : ∀ x ∈ xs, K x) : wpE (wpFn DB.Γ (k + 1)) (.call DB.law_take 2 (.s i (.e (.c (.int m)) .nil))) E r (fun y => ixW (.list xs) y K) :=
  take_c h0 hm hm2 fun j j0 j1 => by
    obtain ⟨x, hx, ex⟩ := atD_in (l := xs) j0 (by omega)
    exact ix_at ex (h x hx)
end
theorem br_1 {sp y : PyData} {ds L : List PyData} {j : Int} (hd : ds.length ≤ 20) (hL : L.length = 4) (h : ∀ x, D.rt (.d x)) : wpSs (wpFn DB.Γ (k + 1)) DB.b_law_bent_row_k11_1 E D [some (.m .st), some (.d sp), some (.d (.tuple ds)), some (.d (.int j)), some (.d y), some (.d (.list L))] := by
  simp only [DB.b_law_bent_row_k11_1, wpSs, wpS, wpE, wpA, wpX, wpO, wpT, wpI, wpF, sSeq, sNext, sCont, sRet, sRetN, sRetF, oLst, sRetO, sIf, tBors, tBor, sDrop, sSet, sSetF, frz1, sFrz, sFrzs, sApp, sExt, sUnp, sRetC, sSetS, sSetC, rvX, sRaise, sFor, xNil, xE, slotW, xS, rvD, rvL, rvS, dCallF, fCallF, dVar, dC, dLst, dNil, dCons, dTup, fLst, dOp, dAnd, dOr, dNot, dIf, dCall, fCall, dIsi, dRev, dSl, rSlD, rRevD, eB, boolD, eChain, eAnd, eOr, eNot, intD, eNeg, ixW, oInt, oNone, lstW, srtW, sLen, sIx, binW, cmpW, subW, modW, rAdd, rMul, powW, fdivW, ltW, leW, gtW, geW, eqW, neW, rEqq, rNeq, inW, isW, isV, biW, lenD, truW, iSeq, seqD, iRange1, iRange2, rng1, rng2, iEnu, enu1, iZip2, zip2, fLc, tTT, s0, List.map_cons, List.map_nil, List.length_cons, List.length_nil, List.replicate, List.cons_append, List.nil_append, List.getElem?_cons_zero, List.getElem?_cons_succ, List.set_cons_zero, List.set_cons_succ, List.foldr_cons, List.foldr_nil, Nat.zero_add, Nat.reduceAdd, Nat.reduceSub, List.getElem?_nil, true_and, and_true, eq_self, wipeG, fRg1, fRg2, int1, rgB, fAdd, addL, fMul, dTupL, eIdx, lst1, idxW, dIsi2, dDct, fD0, fD1, fCallD, dpW, fListN, fSortN, fSset, ssW, wpFd, sSetD, oDct, sPut, sUpd, Bool.not_true, Bool.not_false, decide_true, decide_false, optD, dSlN, dSumV, iItm, sSetB, dRepr, dCin, dCix, sSwap, Bool.false_eq_true, if_true, if_false, ↓reduceIte]
  refine ⟨sm100 (by omega), sm100 (by omega), sm100 (by omega), sm100 (by omega), sm100 (by omega), ?_⟩
  refine take_goD (k := k) (by omega) (by omega) fun j4 d0 d1 => ?_
  obtain ⟨i, ei, i0, i1⟩ := atD_ints (l := [PyData.int 0, PyData.int 0, PyData.int 0, PyData.int 0, PyData.int 1, PyData.int 2, PyData.int 3, PyData.int 4, PyData.int 5, PyData.int 6, PyData.int 7, PyData.int 8]) (b := 8) (by decide) d0 d1
  simp only [ei]
  obtain ⟨x, _, ex⟩ := atD_in (l := L ++ [PyData.tuple ds.reverse, PyData.none, PyData.dict [], PyData.list [y], PyData.tuple [PyData.tuple ds]]) i0 (by rw [List.length_append, hL]; show i < 4 + 5; omega)
  simp only [ex]
  exact h x
theorem br_2 {sp y : PyData} {ds : List PyData} {j : Int} (hd : ds.length ≤ 20) (h : ∀ x, D.rt (.d x)) {o5 : Option SV} : wpSs (wpFn DB.Γ (k + 1)) DB.b_law_bent_row_k11_2 E D [some (.m .st), some (.d sp), some (.d (.tuple ds)), some (.d (.int j)), some (.d y), o5] := by
  have k1 := cut_len ds none (some j)
  have k2 := cut_len ds (some (j + 1)) none
  have k3 := cut_len ds (some j) none
  unfold DB.b_law_bent_row_k11_2
  refine s_set (cut_K (P := fun x => ∃ L, x = .list L ∧ L.length = 4) (fun K' hK' => ?_) ?_)
  · walk_at "wps"
    exact ⟨sm100 (by omega), sm100 (by simp; omega), sm100 (by simp; omega), sm100 (by omega), sm100 (by simp; omega), sm100 (by simp; omega), sm100 (by omega), sm100 (by omega), hK' _ ⟨_, rfl, rfl⟩⟩
  · rintro x ⟨L, rfl, hL⟩
    exact br_1 hd hL h
theorem br_3 {ds : List PyData} {j : Int} (hd : ds.length ≤ 20) (h : ∀ x, D.rt (.d x)) {o4 o5 : Option SV} : wpSs (wpFn DB.Γ (k + 1)) DB.b_law_bent_row_k11_3 E D [some (.m .st), some (.d (spD p n)), some (.d (.tuple ds)), some (.d (.int j)), o4, o5] := by
  unfold DB.b_law_bent_row_k11_3
  refine set_ix (cut_K (P := fun x => ∃ L, x = .list L ∧ L.length = 11) (fun K' hK' => ?_) ?_)
  · simp only [spD, wpSs, wpS, wpE, wpA, wpX, wpO, wpT, wpI, wpF, sSeq, sNext, sCont, sRet, sRetN, sRetF, oLst, sRetO, sIf, tBors, tBor, sDrop, sSet, sSetF, frz1, sFrz, sFrzs, sApp, sExt, sUnp, sRetC, sSetS, sSetC, rvX, sRaise, sFor, xNil, xE, slotW, xS, rvD, rvL, rvS, dCallF, fCallF, dVar, dC, dLst, dNil, dCons, dTup, fLst, dOp, dAnd, dOr, dNot, dIf, dCall, fCall, dIsi, dRev, dSl, rSlD, rRevD, eB, boolD, eChain, eAnd, eOr, eNot, intD, eNeg, ixW, oInt, oNone, lstW, srtW, sLen, sIx, binW, cmpW, subW, modW, rAdd, rMul, powW, fdivW, ltW, leW, gtW, geW, eqW, neW, rEqq, rNeq, inW, isW, isV, biW, lenD, truW, iSeq, seqD, iRange1, iRange2, rng1, rng2, iEnu, enu1, iZip2, zip2, fLc, tTT, s0, List.map_cons, List.map_nil, List.length_cons, List.length_nil, List.replicate, List.cons_append, List.nil_append, List.getElem?_cons_zero, List.getElem?_cons_succ, List.set_cons_zero, List.set_cons_succ, List.foldr_cons, List.foldr_nil, Nat.zero_add, Nat.reduceAdd, Nat.reduceSub, List.getElem?_nil, true_and, and_true, eq_self, wipeG, fRg1, fRg2, int1, rgB, fAdd, addL, fMul, dTupL, eIdx, lst1, idxW, dIsi2, dDct, fD0, fD1, fCallD, dpW, fListN, fSortN, fSset, ssW, wpFd, sSetD, oDct, sPut, sUpd, Bool.not_true, Bool.not_false, decide_true, decide_false, optD, dSlN, dSumV, iItm, sSetB, dRepr, dCin, dCix, sSwap, Bool.false_eq_true, if_true, if_false, ↓reduceIte, atD_zero]
    exact ⟨sm100 (by omega), ⟨by decide, by decide, by decide⟩, sm100 (by omega), hK' _ ⟨_, rfl, rfl⟩⟩
  · rintro x ⟨L, rfl, hL⟩
    exact pick_any rfl (by omega) (by omega) (by rw [hL]; omega) fun x _ => br_2 hd h
theorem bent_row11_ok (s : Sp p n) (hv : v.length = n) (h : ∀ x, Q (.d x)) : wpFn DB.Γ (k + 2) DB.law_bent_row_k11 [.m .st, .d (spD p n), .d (rowD v)] Q E := by
  have n6 := s.n6
  refine fn_go DB.g_law_bent_row_k11 ?_
  simp only [DB.b_law_bent_row_k11, rowD, wpSs, wpS, wpE, wpA, wpX, wpO, wpT, wpI, wpF, sSeq, sNext, sCont, sRet, sRetN, sRetF, oLst, sRetO, sIf, tBors, tBor, sDrop, sSet, sSetF, frz1, sFrz, sFrzs, sApp, sExt, sUnp, sRetC, sSetS, sSetC, rvX, sRaise, sFor, xNil, xE, slotW, xS, rvD, rvL, rvS, dCallF, fCallF, dVar, dC, dLst, dNil, dCons, dTup, fLst, dOp, dAnd, dOr, dNot, dIf, dCall, fCall, dIsi, dRev, dSl, rSlD, rRevD, eB, boolD, eChain, eAnd, eOr, eNot, intD, eNeg, ixW, oInt, oNone, lstW, srtW, sLen, sIx, binW, cmpW, subW, modW, rAdd, rMul, powW, fdivW, ltW, leW, gtW, geW, eqW, neW, rEqq, rNeq, inW, isW, isV, biW, lenD, truW, iSeq, seqD, iRange1, iRange2, rng1, rng2, iEnu, enu1, iZip2, zip2, fLc, tTT, s0, List.map_cons, List.map_nil, List.length_cons, List.length_nil, List.replicate, List.cons_append, List.nil_append, List.getElem?_cons_zero, List.getElem?_cons_succ, List.set_cons_zero, List.set_cons_succ, List.foldr_cons, List.foldr_nil, Nat.zero_add, Nat.reduceAdd, Nat.reduceSub, List.getElem?_nil, true_and, and_true, eq_self, wipeG, fRg1, fRg2, int1, rgB, fAdd, addL, fMul, dTupL, eIdx, lst1, idxW, dIsi2, dDct, fD0, fD1, fCallD, dpW, fListN, fSortN, fSset, ssW, wpFd, sSetD, oDct, sPut, sUpd, Bool.not_true, Bool.not_false, decide_true, decide_false, optD, dSlN, dSumV, iItm, sSetB, dRepr, dCin, dCix, sSwap, Bool.false_eq_true, if_true, if_false, ↓reduceIte, List.length_map]
  refine take_goD (k := k) (by omega) (by omega) fun j h0 h1 => ?_
  exact br_3 (by rw [List.length_map]; omega) h
end
end ME
end
section
set_option Elab.async false
set_option linter.all false
set_option maxRecDepth 100000
set_option autoImplicit false
set_option maxHeartbeats 4000000
namespace ME
open PySem DP MA
local macro_rules | `(tactic| walk_at "wps") => `(tactic| simp only [wpSs, wpS, wpE, wpA, wpX, wpO, wpT, wpI, wpF, sSeq, sNext, sCont, sRet, sRetN, sRetF, oLst, sRetO, sIf, tBors, tBor, sDrop, sSet, sSetF, frz1, sFrz, sFrzs, sApp, sExt, sUnp, sRetC, sSetS, sSetC, rvX, sRaise, sFor, xNil, xE, slotW, xS, rvD, rvL, rvS, dCallF, fCallF, dVar, dC, dLst, dNil, dCons, dTup, fLst, dOp, dAnd, dOr, dNot, dIf, dCall, fCall, dIsi, dRev, dSl, rSlD, rRevD, eB, boolD, eChain, eAnd, eOr, eNot, intD, eNeg, ixW, oInt, oNone, lstW, srtW, sLen, sIx, binW, cmpW, subW, modW, rAdd, rMul, powW, fdivW, ltW, leW, gtW, geW, eqW, neW, rEqq, rNeq, inW, isW, isV, biW, lenD, truW, iSeq, seqD, iRange1, iRange2, rng1, rng2, iEnu, enu1, iZip2, zip2, fLc, tTT, s0, List.map_cons, List.map_nil, List.length_cons, List.length_nil, List.replicate, List.cons_append, List.nil_append, List.getElem?_cons_zero, List.getElem?_cons_succ, List.set_cons_zero, List.set_cons_succ, List.foldr_cons, List.foldr_nil, Nat.zero_add, Nat.reduceAdd, Nat.reduceSub, List.getElem?_nil, true_and, and_true, eq_self, wipeG, fRg1, fRg2, int1, rgB, fAdd, addL, fMul, dTupL, eIdx, lst1, idxW, dIsi2, dDct, fD0, fD1, fCallD, dpW, fListN, fSortN, fSset, ssW, wpFd, sSetD, oDct, sPut, sUpd, Bool.not_true, Bool.not_false, decide_true, decide_false, optD, dSlN, dSumV, iItm, sSetB, dRepr, dCin, dCix, sSwap, Bool.false_eq_true, if_true, if_false, ↓reduceIte])
section
variable {k : Nat} {Q : RV → Prop} {E : Str → Prop} {p : Int} {n : Nat} {A B C : List Rw} {a u v w : Rw} {D : EndsD}
section
variable {sp x4 x5 x6 : PyData} {ds L : List PyData} {j : Int} {o7 : Option SV}
end
end
end ME
end
section
set_option Elab.async false
set_option linter.all false
set_option maxRecDepth 100000
set_option autoImplicit false
set_option maxHeartbeats 2000000
namespace ME
open PySem DP MA
local macro_rules | `(tactic| walk_at "wps") => `(tactic| simp only [wpSs, wpS, wpE, wpA, wpX, wpO, wpT, wpI, wpF, sSeq, sNext, sCont, sRet, sRetN, sRetF, oLst, sRetO, sIf, tBors, tBor, sDrop, sSet, sSetF, frz1, sFrz, sFrzs, sApp, sExt, sUnp, sRetC, sSetS, sSetC, rvX, sRaise, sFor, xNil, xE, slotW, xS, rvD, rvL, rvS, dCallF, fCallF, dVar, dC, dLst, dNil, dCons, dTup, fLst, dOp, dAnd, dOr, dNot, dIf, dCall, fCall, dIsi, dRev, dSl, rSlD, rRevD, eB, boolD, eChain, eAnd, eOr, eNot, intD, eNeg, ixW, oInt, oNone, lstW, srtW, sLen, sIx, binW, cmpW, subW, modW, rAdd, rMul, powW, fdivW, ltW, leW, gtW, geW, eqW, neW, rEqq, rNeq, inW, isW, isV, biW, lenD, truW, iSeq, seqD, iRange1, iRange2, rng1, rng2, iEnu, enu1, iZip2, zip2, fLc, tTT, s0, List.map_cons, List.map_nil, List.length_cons, List.length_nil, List.replicate, List.cons_append, List.nil_append, List.getElem?_cons_zero, List.getElem?_cons_succ, List.set_cons_zero, List.set_cons_succ, List.foldr_cons, List.foldr_nil, Nat.zero_add, Nat.reduceAdd, Nat.reduceSub, List.getElem?_nil, true_and, and_true, eq_self, wipeG, fRg1, fRg2, int1, rgB, fAdd, addL, fMul, dTupL, eIdx, lst1, idxW, dIsi2, dDct, fD0, fD1, fCallD, dpW, fListN, fSortN, fSset, ssW, wpFd, sSetD, oDct, sPut, sUpd, Bool.not_true, Bool.not_false, decide_true, decide_false, optD, dSlN, dSumV, iItm, sSetB, dRepr, dCin, dCix, sSwap, Bool.false_eq_true, if_true, if_false, ↓reduceIte])
section
variable {k : Nat} {Q : RV → Prop} {E : Str → Prop} {p : Int} {n : Nat}
def mostPl : List (Int × Int) := [(2, 6), (3, 4), (5, 3)]
def spcX : PyData → Bool
  | .tuple [.int p, .int n] => (match getC mostPl p with
    | some m => decide (1 ≤ n) && decide (n ≤ m)
    | none => false)
  | _ => false
theorem is_space_any (x : PyData) (h : Q (.d (.bool (spcX x)))) : wpFn DB.Γ (k + 4) DB.is_space [.d x] Q E := by
  refine fn_go DB.g_is_space ?_
  cases x with
  | tuple ds =>
    match ds with
    | [] =>
      simp only [wpSs, wpS, wpE, wpA, wpX, wpO, wpT, wpI, wpF, sSeq, sNext, sCont, sRet, sRetN, sRetF, oLst, sRetO, sIf, tBors, tBor, sDrop, sSet, sSetF, frz1, sFrz, sFrzs, sApp, sExt, sUnp, sRetC, sSetS, sSetC, rvX, sRaise, sFor, xNil, xE, slotW, xS, rvD, rvL, rvS, dCallF, fCallF, dVar, dC, dLst, dNil, dCons, dTup, fLst, dOp, dAnd, dOr, dNot, dIf, dCall, fCall, dIsi, dRev, dSl, rSlD, rRevD, eB, boolD, eChain, eAnd, eOr, eNot, intD, eNeg, ixW, oInt, oNone, lstW, srtW, sLen, sIx, binW, cmpW, subW, modW, rAdd, rMul, powW, fdivW, ltW, leW, gtW, geW, eqW, neW, rEqq, rNeq, inW, isW, isV, biW, lenD, truW, iSeq, seqD, iRange1, iRange2, rng1, rng2, iEnu, enu1, iZip2, zip2, fLc, tTT, s0, List.map_cons, List.map_nil, List.length_cons, List.length_nil, List.replicate, List.cons_append, List.nil_append, List.getElem?_cons_zero, List.getElem?_cons_succ, List.set_cons_zero, List.set_cons_succ, List.foldr_cons, List.foldr_nil, Nat.zero_add, Nat.reduceAdd, Nat.reduceSub, List.getElem?_nil, true_and, and_true, eq_self, wipeG, fRg1, fRg2, int1, rgB, fAdd, addL, fMul, dTupL, eIdx, lst1, idxW, dIsi2, dDct, fD0, fD1, fCallD, dpW, fListN, fSortN, fSset, ssW, wpFd, sSetD, oDct, sPut, sUpd, Bool.not_true, Bool.not_false, decide_true, decide_false, optD, dSlN, dSumV, iItm, sSetB, dRepr, dCin, dCix, sSwap, Bool.false_eq_true, if_true, if_false, ↓reduceIte, DB.b_is_space]
      rw [if_neg (by rw [show isT "tuple" (PyData.tuple []) = true from rfl]; decide), if_pos (by decide)]
      exact h
    | [a] =>
      simp only [wpSs, wpS, wpE, wpA, wpX, wpO, wpT, wpI, wpF, sSeq, sNext, sCont, sRet, sRetN, sRetF, oLst, sRetO, sIf, tBors, tBor, sDrop, sSet, sSetF, frz1, sFrz, sFrzs, sApp, sExt, sUnp, sRetC, sSetS, sSetC, rvX, sRaise, sFor, xNil, xE, slotW, xS, rvD, rvL, rvS, dCallF, fCallF, dVar, dC, dLst, dNil, dCons, dTup, fLst, dOp, dAnd, dOr, dNot, dIf, dCall, fCall, dIsi, dRev, dSl, rSlD, rRevD, eB, boolD, eChain, eAnd, eOr, eNot, intD, eNeg, ixW, oInt, oNone, lstW, srtW, sLen, sIx, binW, cmpW, subW, modW, rAdd, rMul, powW, fdivW, ltW, leW, gtW, geW, eqW, neW, rEqq, rNeq, inW, isW, isV, biW, lenD, truW, iSeq, seqD, iRange1, iRange2, rng1, rng2, iEnu, enu1, iZip2, zip2, fLc, tTT, s0, List.map_cons, List.map_nil, List.length_cons, List.length_nil, List.replicate, List.cons_append, List.nil_append, List.getElem?_cons_zero, List.getElem?_cons_succ, List.set_cons_zero, List.set_cons_succ, List.foldr_cons, List.foldr_nil, Nat.zero_add, Nat.reduceAdd, Nat.reduceSub, List.getElem?_nil, true_and, and_true, eq_self, wipeG, fRg1, fRg2, int1, rgB, fAdd, addL, fMul, dTupL, eIdx, lst1, idxW, dIsi2, dDct, fD0, fD1, fCallD, dpW, fListN, fSortN, fSset, ssW, wpFd, sSetD, oDct, sPut, sUpd, Bool.not_true, Bool.not_false, decide_true, decide_false, optD, dSlN, dSumV, iItm, sSetB, dRepr, dCin, dCix, sSwap, Bool.false_eq_true, if_true, if_false, ↓reduceIte, DB.b_is_space]
      rw [if_neg (by rw [show isT "tuple" (PyData.tuple [a]) = true from rfl]; decide), if_pos (by decide)]
      have e : spcX (.tuple [a]) = false := by cases a <;> rfl
      rw [e] at h
      exact h
    | [a, b] =>
      simp only [wpSs, wpS, wpE, wpA, wpX, wpO, wpT, wpI, wpF, sSeq, sNext, sCont, sRet, sRetN, sRetF, oLst, sRetO, sIf, tBors, tBor, sDrop, sSet, sSetF, frz1, sFrz, sFrzs, sApp, sExt, sUnp, sRetC, sSetS, sSetC, rvX, sRaise, sFor, xNil, xE, slotW, xS, rvD, rvL, rvS, dCallF, fCallF, dVar, dC, dLst, dNil, dCons, dTup, fLst, dOp, dAnd, dOr, dNot, dIf, dCall, fCall, dIsi, dRev, dSl, rSlD, rRevD, eB, boolD, eChain, eAnd, eOr, eNot, intD, eNeg, ixW, oInt, oNone, lstW, srtW, sLen, sIx, binW, cmpW, subW, modW, rAdd, rMul, powW, fdivW, ltW, leW, gtW, geW, eqW, neW, rEqq, rNeq, inW, isW, isV, biW, lenD, truW, iSeq, seqD, iRange1, iRange2, rng1, rng2, iEnu, enu1, iZip2, zip2, fLc, tTT, s0, List.map_cons, List.map_nil, List.length_cons, List.length_nil, List.replicate, List.cons_append, List.nil_append, List.getElem?_cons_zero, List.getElem?_cons_succ, List.set_cons_zero, List.set_cons_succ, List.foldr_cons, List.foldr_nil, Nat.zero_add, Nat.reduceAdd, Nat.reduceSub, List.getElem?_nil, true_and, and_true, eq_self, wipeG, fRg1, fRg2, int1, rgB, fAdd, addL, fMul, dTupL, eIdx, lst1, idxW, dIsi2, dDct, fD0, fD1, fCallD, dpW, fListN, fSortN, fSset, ssW, wpFd, sSetD, oDct, sPut, sUpd, Bool.not_true, Bool.not_false, decide_true, decide_false, optD, dSlN, dSumV, iItm, sSetB, dRepr, dCin, dCix, sSwap, Bool.false_eq_true, if_true, if_false, ↓reduceIte, DB.b_is_space]
      rw [if_neg (by rw [show isT "tuple" (PyData.tuple [a, b]) = true from rfl]; decide), if_neg (by decide), atD_zero]
      try walk_at "wps"
      refine toD _ (fun Q h => is_whole_ok (k := k + 2) a h) ?_
      cases a with
      | int i =>
        try walk_at "wps"
        refine ⟨i, rfl, ?_⟩
        cases g : getC mostPl i with
        | none =>
          rw [show getC [(2, 6), (3, 4), (5, 3)] i = none from g]
          have e : spcX (.tuple [.int i, b]) = false := by cases b <;> simp [spcX, g]
          rw [e] at h
          exact h
        | some m =>
          have g' : getC [(2, 6), (3, 4), (5, 3)] i = some m := g
          rw [if_neg (by rw [g']; simp)]
          have e : spcX (.tuple [.int i, b]) = betB 1 m b := by cases b <;> simp [spcX, g, betB]
          rw [e] at h
          simp only [wpSs, wpS, wpE, wpA, wpX, wpO, wpT, wpI, wpF, sSeq, sNext, sCont, sRet, sRetN, sRetF, oLst, sRetO, sIf, tBors, tBor, sDrop, sSet, sSetF, frz1, sFrz, sFrzs, sApp, sExt, sUnp, sRetC, sSetS, sSetC, rvX, sRaise, sFor, xNil, xE, slotW, xS, rvD, rvL, rvS, dCallF, fCallF, dVar, dC, dLst, dNil, dCons, dTup, fLst, dOp, dAnd, dOr, dNot, dIf, dCall, fCall, dIsi, dRev, dSl, rSlD, rRevD, eB, boolD, eChain, eAnd, eOr, eNot, intD, eNeg, ixW, oInt, oNone, lstW, srtW, sLen, sIx, binW, cmpW, subW, modW, rAdd, rMul, powW, fdivW, ltW, leW, gtW, geW, eqW, neW, rEqq, rNeq, inW, isW, isV, biW, lenD, truW, iSeq, seqD, iRange1, iRange2, rng1, rng2, iEnu, enu1, iZip2, zip2, fLc, tTT, s0, List.map_cons, List.map_nil, List.length_cons, List.length_nil, List.replicate, List.cons_append, List.nil_append, List.getElem?_cons_zero, List.getElem?_cons_succ, List.set_cons_zero, List.set_cons_succ, List.foldr_cons, List.foldr_nil, Nat.zero_add, Nat.reduceAdd, Nat.reduceSub, List.getElem?_nil, true_and, and_true, eq_self, wipeG, fRg1, fRg2, int1, rgB, fAdd, addL, fMul, dTupL, eIdx, lst1, idxW, dIsi2, dDct, fD0, fD1, fCallD, dpW, fListN, fSortN, fSset, ssW, wpFd, sSetD, oDct, sPut, sUpd, Bool.not_true, Bool.not_false, decide_true, decide_false, optD, dSlN, dSumV, iItm, sSetB, dRepr, dCin, dCix, sSwap, Bool.false_eq_true, if_true, if_false, ↓reduceIte, DB.b_is_space_1, atD_zero, atD_one]
          exact ⟨i, m, rfl, g', is_between_any (k := k + 1) b 1 m h⟩
      | _ => exact h
    | a :: b :: c :: r =>
      simp only [wpSs, wpS, wpE, wpA, wpX, wpO, wpT, wpI, wpF, sSeq, sNext, sCont, sRet, sRetN, sRetF, oLst, sRetO, sIf, tBors, tBor, sDrop, sSet, sSetF, frz1, sFrz, sFrzs, sApp, sExt, sUnp, sRetC, sSetS, sSetC, rvX, sRaise, sFor, xNil, xE, slotW, xS, rvD, rvL, rvS, dCallF, fCallF, dVar, dC, dLst, dNil, dCons, dTup, fLst, dOp, dAnd, dOr, dNot, dIf, dCall, fCall, dIsi, dRev, dSl, rSlD, rRevD, eB, boolD, eChain, eAnd, eOr, eNot, intD, eNeg, ixW, oInt, oNone, lstW, srtW, sLen, sIx, binW, cmpW, subW, modW, rAdd, rMul, powW, fdivW, ltW, leW, gtW, geW, eqW, neW, rEqq, rNeq, inW, isW, isV, biW, lenD, truW, iSeq, seqD, iRange1, iRange2, rng1, rng2, iEnu, enu1, iZip2, zip2, fLc, tTT, s0, List.map_cons, List.map_nil, List.length_cons, List.length_nil, List.replicate, List.cons_append, List.nil_append, List.getElem?_cons_zero, List.getElem?_cons_succ, List.set_cons_zero, List.set_cons_succ, List.foldr_cons, List.foldr_nil, Nat.zero_add, Nat.reduceAdd, Nat.reduceSub, List.getElem?_nil, true_and, and_true, eq_self, wipeG, fRg1, fRg2, int1, rgB, fAdd, addL, fMul, dTupL, eIdx, lst1, idxW, dIsi2, dDct, fD0, fD1, fCallD, dpW, fListN, fSortN, fSset, ssW, wpFd, sSetD, oDct, sPut, sUpd, Bool.not_true, Bool.not_false, decide_true, decide_false, optD, dSlN, dSumV, iItm, sSetB, dRepr, dCin, dCix, sSwap, Bool.false_eq_true, if_true, if_false, ↓reduceIte, DB.b_is_space]
      rw [if_neg (by rw [show isT "tuple" (PyData.tuple (a :: b :: c :: r)) = true from rfl]; decide), if_pos (by rw [decide_eq_false (by omega)]; rfl)]
      have e : spcX (.tuple (a :: b :: c :: r)) = false := by cases a <;> cases b <;> rfl
      rw [e] at h
      exact h
  | _ => simp only [wpSs, wpS, wpE, wpA, wpX, wpO, wpT, wpI, wpF, sSeq, sNext, sCont, sRet, sRetN, sRetF, oLst, sRetO, sIf, tBors, tBor, sDrop, sSet, sSetF, frz1, sFrz, sFrzs, sApp, sExt, sUnp, sRetC, sSetS, sSetC, rvX, sRaise, sFor, xNil, xE, slotW, xS, rvD, rvL, rvS, dCallF, fCallF, dVar, dC, dLst, dNil, dCons, dTup, fLst, dOp, dAnd, dOr, dNot, dIf, dCall, fCall, dIsi, dRev, dSl, rSlD, rRevD, eB, boolD, eChain, eAnd, eOr, eNot, intD, eNeg, ixW, oInt, oNone, lstW, srtW, sLen, sIx, binW, cmpW, subW, modW, rAdd, rMul, powW, fdivW, ltW, leW, gtW, geW, eqW, neW, rEqq, rNeq, inW, isW, isV, biW, lenD, truW, iSeq, seqD, iRange1, iRange2, rng1, rng2, iEnu, enu1, iZip2, zip2, fLc, tTT, s0, List.map_cons, List.map_nil, List.length_cons, List.length_nil, List.replicate, List.cons_append, List.nil_append, List.getElem?_cons_zero, List.getElem?_cons_succ, List.set_cons_zero, List.set_cons_succ, List.foldr_cons, List.foldr_nil, Nat.zero_add, Nat.reduceAdd, Nat.reduceSub, List.getElem?_nil, true_and, and_true, eq_self, wipeG, fRg1, fRg2, int1, rgB, fAdd, addL, fMul, dTupL, eIdx, lst1, idxW, dIsi2, dDct, fD0, fD1, fCallD, dpW, fListN, fSortN, fSset, ssW, wpFd, sSetD, oDct, sPut, sUpd, Bool.not_true, Bool.not_false, decide_true, decide_false, optD, dSlN, dSumV, iItm, sSetB, dRepr, dCin, dCix, sSwap, Bool.false_eq_true, if_true, if_false, ↓reduceIte, DB.b_is_space]; exact h
theorem getC_mem {i m : Int} (h : getC mostPl i = some m) : (i = 2 ∧ m = 6) ∨ (i = 3 ∧ m = 4) ∨ (i = 5 ∧ m = 3) := by
  by_cases h2 : i = 2
  · subst h2
    have e : getC mostPl 2 = some 6 := by decide
    rw [e] at h
    exact .inl ⟨rfl, (Option.some.inj h).symm⟩
  · by_cases h3 : i = 3
    · subst h3
      have e : getC mostPl 3 = some 4 := by decide
      rw [e] at h
      exact .inr (.inl ⟨rfl, (Option.some.inj h).symm⟩)
    · by_cases h5 : i = 5
      · subst h5
        have e : getC mostPl 5 = some 3 := by decide
        rw [e] at h
        exact .inr (.inr ⟨rfl, (Option.some.inj h).symm⟩)
      · exfalso
        have e : getC mostPl i = none := by
          unfold getC mostPl
          rw [List.find?_cons_of_neg (by simpa using fun z => h2 z.symm), List.find?_cons_of_neg (by simpa using fun z => h3 z.symm), List.find?_cons_of_neg (by simpa using fun z => h5 z.symm)]
          rfl
        rw [e] at h
        cases h
theorem spcX_no {a b : PyData} (h : [a, b].all (betB 1 6) = false) : spcX (.tuple [a, b]) = false := by
  cases a with
  | int i =>
    cases b with
    | int j =>
      cases e : spcX (.tuple [.int i, .int j]) with
      | false => rfl
      | true =>
        exfalso
        have e : (match getC mostPl i with
          | some m => decide (1 ≤ j) && decide (j ≤ m)
          | none => false) = true := e
        cases g : getC mostPl i with
        | none => rw [g] at e; cases e
        | some m =>
          rw [g] at e
          have e : (decide (1 ≤ j) && decide (j ≤ m)) = true := e
          rw [Bool.and_eq_true, decide_eq_true_eq, decide_eq_true_eq] at e
          have q := getC_mem g
          have h : (betB 1 6 (.int i) && (betB 1 6 (.int j) && true)) = false := h
          have h1 : betB 1 6 (.int i) = true := by
            show (decide (1 ≤ i) && decide (i ≤ 6)) = true
            rw [Bool.and_eq_true, decide_eq_true_eq, decide_eq_true_eq]
            omega
          have h2 : betB 1 6 (.int j) = true := by
            show (decide (1 ≤ j) && decide (j ≤ 6)) = true
            rw [Bool.and_eq_true, decide_eq_true_eq, decide_eq_true_eq]
            omega
          rw [h1, h2] at h
          cases h
    | _ => rfl
  | _ => cases b <;> rfl
def good13 : List PyData := [.tuple [.int 2, .int 1], .tuple [.int 2, .int 2], .tuple [.int 2, .int 3], .tuple [.int 2, .int 4], .tuple [.int 2, .int 5], .tuple [.int 2, .int 6], .tuple [.int 3, .int 1], .tuple [.int 3, .int 2], .tuple [.int 3, .int 3], .tuple [.int 3, .int 4], .tuple [.int 5, .int 1], .tuple [.int 5, .int 2], .tuple [.int 5, .int 3]]
def six : List Int := [1, 2, 3, 4, 5, 6]
theorem six_of {i : Int} (h : betB 1 6 (.int i) = true) : i ∈ six := by
  have h : (decide (1 ≤ i) && decide (i ≤ 6)) = true := h
  rw [Bool.and_eq_true, decide_eq_true_eq, decide_eq_true_eq] at h
  simp only [six, List.mem_cons, List.not_mem_nil, or_false]
  omega
theorem good_all : (six.all fun i => six.all fun j => inD (.tuple [.int i, .int j]) good13 == spcX (.tuple [.int i, .int j])) = true := by decide +kernel
theorem good_ok {a b : PyData} (h : [a, b].all (betB 1 6) = true) : dOk (.tuple [a, b]) = true ∧ inD (.tuple [a, b]) good13 = spcX (.tuple [a, b]) := by
  have h : (betB 1 6 a && (betB 1 6 b && true)) = true := h
  rw [Bool.and_eq_true, Bool.and_eq_true] at h
  cases a with
  | int i =>
    cases b with
    | int j =>
      refine ⟨rfl, ?_⟩
      have q := List.all_eq_true.mp (List.all_eq_true.mp good_all i (six_of h.1)) j (six_of h.2.1)
      exact eq_of_beq q
    | _ => cases h.2.1
  | _ => cases h.1
theorem spcX_len {ds : List PyData} (h : ds.length ≠ 2) : spcX (.tuple ds) = false := by
  match ds, h with
  | [], _ => rfl
  | [a], _ => cases a <;> rfl
  | [a, b], h => exact (h rfl).elim
  | a :: b :: c :: r, _ => cases a <;> cases b <;> rfl
theorem due11_2 {D : EndsD} {ds : List PyData} (h : D.rt (.d (.bool (spcX (.tuple ds))))) : wpSs (wpFn DB.Γ (k + 1)) DB.b_law_due_k11_1 E D [some (.d (.tuple ds)), some (.d (.list good13)), none] := by
  simp only [DB.b_law_due_k11_1, wpSs, wpS, wpE, wpA, wpX, wpO, wpT, wpI, wpF, sSeq, sNext, sCont, sRet, sRetN, sRetF, oLst, sRetO, sIf, tBors, tBor, sDrop, sSet, sSetF, frz1, sFrz, sFrzs, sApp, sExt, sUnp, sRetC, sSetS, sSetC, rvX, sRaise, sFor, xNil, xE, slotW, xS, rvD, rvL, rvS, dCallF, fCallF, dVar, dC, dLst, dNil, dCons, dTup, fLst, dOp, dAnd, dOr, dNot, dIf, dCall, fCall, dIsi, dRev, dSl, rSlD, rRevD, eB, boolD, eChain, eAnd, eOr, eNot, intD, eNeg, ixW, oInt, oNone, lstW, srtW, sLen, sIx, binW, cmpW, subW, modW, rAdd, rMul, powW, fdivW, ltW, leW, gtW, geW, eqW, neW, rEqq, rNeq, inW, isW, isV, biW, lenD, truW, iSeq, seqD, iRange1, iRange2, rng1, rng2, iEnu, enu1, iZip2, zip2, fLc, tTT, s0, List.map_cons, List.map_nil, List.length_cons, List.length_nil, List.replicate, List.cons_append, List.nil_append, List.getElem?_cons_zero, List.getElem?_cons_succ, List.set_cons_zero, List.set_cons_succ, List.foldr_cons, List.foldr_nil, Nat.zero_add, Nat.reduceAdd, Nat.reduceSub, List.getElem?_nil, true_and, and_true, eq_self, wipeG, fRg1, fRg2, int1, rgB, fAdd, addL, fMul, dTupL, eIdx, lst1, idxW, dIsi2, dDct, fD0, fD1, fCallD, dpW, fListN, fSortN, fSset, ssW, wpFd, sSetD, oDct, sPut, sUpd, Bool.not_true, Bool.not_false, decide_true, decide_false, optD, dSlN, dSumV, iItm, sSetB, dRepr, dCin, dCix, sSwap, Bool.false_eq_true, if_true, if_false, ↓reduceIte]
  have e1 : isT "tuple" (PyData.tuple ds) = true := rfl
  rw [e1]
  try walk_at "wps"
  by_cases c : (ds.length : Int) = 2
  · rw [decide_eq_true c]
    have em : ds = ds.map id := by simp
    try walk_at "wps"
    refine ⟨rfl, ?_⟩
    rw [em]
    refine lcGo_tt id (fun d => .bool (betB 1 6 d)) ds (fun d _ K hK => ?_) ?_
    · try walk_at "wps"
      exact whole11_ok d _ _ hK
    · rw [← em]
      refine tru_all (f := betB 1 6) (l := ds) (K := boolD fun b => if (!b) = true then D.rt (.d (.bool false)) else dOk (.tuple ds) = true ∧ PyData.plainAll good13 = true ∧ D.rt (.d (.bool (inD (.tuple ds) good13)))) ?_
      match ds, c with
      | [a, b], _ =>
        cases q : [a, b].all (betB 1 6) with
        | false =>
          rw [spcX_no q] at h
          try walk_at "wps"
          exact h
        | true =>
          obtain ⟨g1, g2⟩ := good_ok q
          rw [← g2] at h
          try walk_at "wps"
          exact ⟨g1, by decide, h⟩
  · rw [decide_eq_false c]
    rw [spcX_len (by omega)] at h
    try walk_at "wps"
    exact h
theorem due11_any (x : PyData) (h : Q (.d (.bool (spcX x)))) : wpFn DB.Γ (k + 2) DB.law_due_k11 [.d x] Q E := by
  refine fn_go DB.g_law_due_k11 ?_
  simp only [DB.b_law_due_k11, s0, List.map_cons, List.map_nil, List.length_cons, List.length_nil, List.replicate, List.cons_append, List.nil_append]
  refine s_set (cut_K (P := fun x => x = .list good13) (fun K' hK' => ?_) ?_)
  · walk_at "wps"
    repeat (refine ⟨sm100 (by omega), ?_⟩)
    exact hK' _ rfl
  · rintro _ rfl
    cases x with
    | tuple ds => exact due11_2 h
    | _ =>
      simp only [DB.b_law_due_k11_1, wpSs, wpS, wpE, wpA, wpX, wpO, wpT, wpI, wpF, sSeq, sNext, sCont, sRet, sRetN, sRetF, oLst, sRetO, sIf, tBors, tBor, sDrop, sSet, sSetF, frz1, sFrz, sFrzs, sApp, sExt, sUnp, sRetC, sSetS, sSetC, rvX, sRaise, sFor, xNil, xE, slotW, xS, rvD, rvL, rvS, dCallF, fCallF, dVar, dC, dLst, dNil, dCons, dTup, fLst, dOp, dAnd, dOr, dNot, dIf, dCall, fCall, dIsi, dRev, dSl, rSlD, rRevD, eB, boolD, eChain, eAnd, eOr, eNot, intD, eNeg, ixW, oInt, oNone, lstW, srtW, sLen, sIx, binW, cmpW, subW, modW, rAdd, rMul, powW, fdivW, ltW, leW, gtW, geW, eqW, neW, rEqq, rNeq, inW, isW, isV, biW, lenD, truW, iSeq, seqD, iRange1, iRange2, rng1, rng2, iEnu, enu1, iZip2, zip2, fLc, tTT, s0, List.map_cons, List.map_nil, List.length_cons, List.length_nil, List.replicate, List.cons_append, List.nil_append, List.getElem?_cons_zero, List.getElem?_cons_succ, List.set_cons_zero, List.set_cons_succ, List.foldr_cons, List.foldr_nil, Nat.zero_add, Nat.reduceAdd, Nat.reduceSub, List.getElem?_nil, true_and, and_true, eq_self, wipeG, fRg1, fRg2, int1, rgB, fAdd, addL, fMul, dTupL, eIdx, lst1, idxW, dIsi2, dDct, fD0, fD1, fCallD, dpW, fListN, fSortN, fSset, ssW, wpFd, sSetD, oDct, sPut, sUpd, Bool.not_true, Bool.not_false, decide_true, decide_false, optD, dSlN, dSumV, iItm, sSetB, dRepr, dCin, dCix, sSwap, Bool.false_eq_true, if_true, if_false, ↓reduceIte]
      exact h
theorem sl_1 {L : List PyData} {D : EndsD} {o1 o2 : Option SV} (hL : L.length = 10) (h : ∀ x, D.rt (.d x)) : wpSs (wpFn DB.Γ (k + 1)) DB.b_law_space_like_k11_1 E D [some (.m .st), o1, o2, some (.d (.list L))] := by
  simp only [DB.b_law_space_like_k11_1, wpSs, wpS, wpE, wpA, wpX, wpO, wpT, wpI, wpF, sSeq, sNext, sCont, sRet, sRetN, sRetF, oLst, sRetO, sIf, tBors, tBor, sDrop, sSet, sSetF, frz1, sFrz, sFrzs, sApp, sExt, sUnp, sRetC, sSetS, sSetC, rvX, sRaise, sFor, xNil, xE, slotW, xS, rvD, rvL, rvS, dCallF, fCallF, dVar, dC, dLst, dNil, dCons, dTup, fLst, dOp, dAnd, dOr, dNot, dIf, dCall, fCall, dIsi, dRev, dSl, rSlD, rRevD, eB, boolD, eChain, eAnd, eOr, eNot, intD, eNeg, ixW, oInt, oNone, lstW, srtW, sLen, sIx, binW, cmpW, subW, modW, rAdd, rMul, powW, fdivW, ltW, leW, gtW, geW, eqW, neW, rEqq, rNeq, inW, isW, isV, biW, lenD, truW, iSeq, seqD, iRange1, iRange2, rng1, rng2, iEnu, enu1, iZip2, zip2, fLc, tTT, s0, List.map_cons, List.map_nil, List.length_cons, List.length_nil, List.replicate, List.cons_append, List.nil_append, List.getElem?_cons_zero, List.getElem?_cons_succ, List.set_cons_zero, List.set_cons_succ, List.foldr_cons, List.foldr_nil, Nat.zero_add, Nat.reduceAdd, Nat.reduceSub, List.getElem?_nil, true_and, and_true, eq_self, wipeG, fRg1, fRg2, int1, rgB, fAdd, addL, fMul, dTupL, eIdx, lst1, idxW, dIsi2, dDct, fD0, fD1, fCallD, dpW, fListN, fSortN, fSset, ssW, wpFd, sSetD, oDct, sPut, sUpd, Bool.not_true, Bool.not_false, decide_true, decide_false, optD, dSlN, dSumV, iItm, sSetB, dRepr, dCin, dCix, sSwap, Bool.false_eq_true, if_true, if_false, ↓reduceIte]
  refine ⟨sm100 (by omega), ?_⟩
  refine take_goD (k := k) (by omega) (by omega) fun j d0 d1 => ?_
  obtain ⟨i, ei, i0, i1⟩ := atD_ints (l := [PyData.int 0, PyData.int 0, PyData.int 0, PyData.int 0, PyData.int 0, PyData.int 1, PyData.int 2, PyData.int 3, PyData.int 4, PyData.int 5, PyData.int 6, PyData.int 7, PyData.int 8, PyData.int 9]) (b := 9) (by decide) d0 d1
  simp only [ei]
  obtain ⟨x, _, ex⟩ := atD_in (l := L) i0 (by omega)
  simp only [ex]
  exact h x
theorem sl_2 {x y : PyData} {D : EndsD} {o3 : Option SV} (h : ∀ x, D.rt (.d x)) : wpSs (wpFn DB.Γ (k + 1)) DB.b_law_space_like_k11_2 E D [some (.m .st), some (.d x), some (.d y), o3] := by
  unfold DB.b_law_space_like_k11_2
  refine s_set (cut_K (P := fun x => ∃ L, x = .list L ∧ L.length = 10) (fun K' hK' => ?_) ?_)
  · walk_at "wps"
    repeat (refine ⟨sm100 (by omega), ?_⟩)
    exact hK' _ ⟨_, rfl, rfl⟩
  · rintro x ⟨L, rfl, hL⟩
    exact sl_1 hL h
theorem sl_3 {x : PyData} {D : EndsD} {o2 o3 : Option SV} (h : ∀ x, D.rt (.d x)) : wpSs (wpFn DB.Γ (k + 1)) DB.b_law_space_like_k11_3 E D [some (.m .st), some (.d x), o2, o3] := by
  unfold DB.b_law_space_like_k11_3
  refine set_ix (cut_K (P := fun x => ∃ L, x = .list L ∧ L.length = 13) (fun K' hK' => ?_) ?_)
  · walk_at "wps"
    repeat (refine ⟨sm100 (by omega), ?_⟩)
    exact hK' _ ⟨_, rfl, rfl⟩
  · rintro x ⟨L, rfl, hL⟩
    exact pick_any rfl (by omega) (by omega) (by rw [hL]; omega) fun x _ => sl_2 h
theorem space_like_ok (h : ∀ x, Q (.d x)) : wpFn DB.Γ (k + 2) DB.law_space_like_k11 [.m .st] Q E := by
  refine fn_go DB.g_law_space_like_k11 ?_
  simp only [DB.b_law_space_like_k11, s0, List.map_cons, List.map_nil, List.length_cons, List.length_nil, List.replicate, List.cons_append, List.nil_append]
  refine set_ix (cut_K (P := fun x => ∃ L, x = .list L ∧ L.length = 13) (fun K' hK' => ?_) ?_)
  · walk_at "wps"
    repeat (refine ⟨by first | exact sm100 (by omega) | decide, ?_⟩)
    exact hK' _ ⟨_, rfl, rfl⟩
  · rintro x ⟨L, rfl, hL⟩
    refine cut_K (P := fun x => ∃ i : Int, x = .int i ∧ 0 ≤ i ∧ i < 13) (fun K' hK' => ?_) ?_
    · walk_at "wps"
      refine take_goD (k := k) (by omega) (by omega) fun j d0 d1 => ?_
      refine ⟨sm100 (by omega), ?_⟩
      refine take_goD (k := k) (by omega) (by omega) fun j4 e0 e1 => ?_
      have q : j4 = 0 ∨ j4 = 1 ∨ j4 = 2 ∨ j4 = 3 := by omega
      rcases q with rfl | rfl | rfl | rfl
      · exact hK' _ ⟨0, rfl, by omega, by omega⟩
      · exact hK' _ ⟨1, rfl, by omega, by omega⟩
      · exact hK' _ ⟨2, rfl, by omega, by omega⟩
      · exact hK' _ ⟨j, rfl, d0, d1⟩
    · rintro _ ⟨i, rfl, i0, i1⟩
      obtain ⟨y, _, ey⟩ := atD_in (l := L) i0 (by omega)
      exact ix_at ey (sl_3 h)
end
section
variable {E : Str → Prop} {p : Int} {n : Nat} {v : Rw} {D : EndsD} {ns : List Int} {i : Nat} {q3 : Option PyData} {o4 o5 o6 o7 : Option SV}
theorem k11_6 (hv : Row p n v) (s : Sp p n) (hK : ∀ q3 o4 o5, D.nx [some (.scr ns), some (.d (.int (i : Int))), some (.m .st), od q3, o4, o5, some (.d (spD p n)), some (.d (rowD v))]) : wpSs (wpFn DB.Γ 19) DB.b_law_k11_6 E D [some (.scr ns), some (.d (.int (i : Int))), some (.m .st), od q3, o4, o5, some (.d (spD p n)), some (.d (rowD v))] := by
  simp only [DB.b_law_k11_6, wpSs, wpS, wpE, wpA, wpX, wpO, wpT, wpI, wpF, sSeq, sNext, sCont, sRet, sRetN, sRetF, oLst, sRetO, sIf, tBors, tBor, sDrop, sSet, sSetF, frz1, sFrz, sFrzs, sApp, sExt, sUnp, sRetC, sSetS, sSetC, rvX, sRaise, sFor, xNil, xE, slotW, xS, rvD, rvL, rvS, dCallF, fCallF, dVar, dC, dLst, dNil, dCons, dTup, fLst, dOp, dAnd, dOr, dNot, dIf, dCall, fCall, dIsi, dRev, dSl, rSlD, rRevD, eB, boolD, eChain, eAnd, eOr, eNot, intD, eNeg, ixW, oInt, oNone, lstW, srtW, sLen, sIx, binW, cmpW, subW, modW, rAdd, rMul, powW, fdivW, ltW, leW, gtW, geW, eqW, neW, rEqq, rNeq, inW, isW, isV, biW, lenD, truW, iSeq, seqD, iRange1, iRange2, rng1, rng2, iEnu, enu1, iZip2, zip2, fLc, tTT, s0, List.map_cons, List.map_nil, List.length_cons, List.length_nil, List.replicate, List.cons_append, List.nil_append, List.getElem?_cons_zero, List.getElem?_cons_succ, List.set_cons_zero, List.set_cons_succ, List.foldr_cons, List.foldr_nil, Nat.zero_add, Nat.reduceAdd, Nat.reduceSub, List.getElem?_nil, true_and, and_true, eq_self, wipeG, fRg1, fRg2, int1, rgB, fAdd, addL, fMul, dTupL, eIdx, lst1, idxW, dIsi2, dDct, fD0, fD1, fCallD, dpW, fListN, fSortN, fSset, ssW, wpFd, sSetD, oDct, sPut, sUpd, Bool.not_true, Bool.not_false, decide_true, decide_false, optD, dSlN, dSumV, iItm, sSetB, dRepr, dCin, dCix, sSwap, Bool.false_eq_true, if_true, if_false, ↓reduceIte]
  refine ⟨small (by omega), by omega, by omega, by cases q3 <;> rfl, ?_⟩
  rw [rng_ints]
  refine lcGo_any PyData.int id (fun _ => True) _ [] (fun y hy K hK => ?_) fun ys hl hP => ?_
  · try walk_at "wps"
    exact toD' (P := fun _ => True) (fun Q h => bent_row11_ok (k := 17) s hv.1 fun x => h _ trivial) fun y _ => hK y trivial
  · rw [List.nil_append]
    refine ⟨small (by rw [List.length_map, hl]; simp [rngI]), ?_⟩
    rw [show rowD v :: List.map id ys = (rowD v :: ys).map id from rfl]
    refine forGo_inv id (fun l r => ∃ (q3 : Option PyData) (o4 o5 : Option SV), r = [some (.scr ns), some (.d (.int (i : Int))), some (.m .st), od q3, o4, o5, some (.d (spD p n)), some (.d (rowD v))]) ?_ ?_ _ _ ⟨_, _, _, rfl⟩
    · rintro r ⟨q3, o4, o5, rfl⟩
      exact hK _ _ _
    · rintro x l r K2 hK2 ⟨q3, o4, o5, rfl⟩
      simp only [bindT, id, DB.b_law_k11_5, wpSs, wpS, wpE, wpA, wpX, wpO, wpT, wpI, wpF, sSeq, sNext, sCont, sRet, sRetN, sRetF, oLst, sRetO, sIf, tBors, tBor, sDrop, sSet, sSetF, frz1, sFrz, sFrzs, sApp, sExt, sUnp, sRetC, sSetS, sSetC, rvX, sRaise, sFor, xNil, xE, slotW, xS, rvD, rvL, rvS, dCallF, fCallF, dVar, dC, dLst, dNil, dCons, dTup, fLst, dOp, dAnd, dOr, dNot, dIf, dCall, fCall, dIsi, dRev, dSl, rSlD, rRevD, eB, boolD, eChain, eAnd, eOr, eNot, intD, eNeg, ixW, oInt, oNone, lstW, srtW, sLen, sIx, binW, cmpW, subW, modW, rAdd, rMul, powW, fdivW, ltW, leW, gtW, geW, eqW, neW, rEqq, rNeq, inW, isW, isV, biW, lenD, truW, iSeq, seqD, iRange1, iRange2, rng1, rng2, iEnu, enu1, iZip2, zip2, fLc, tTT, s0, List.map_cons, List.map_nil, List.length_cons, List.length_nil, List.replicate, List.cons_append, List.nil_append, List.getElem?_cons_zero, List.getElem?_cons_succ, List.set_cons_zero, List.set_cons_succ, List.foldr_cons, List.foldr_nil, Nat.zero_add, Nat.reduceAdd, Nat.reduceSub, List.getElem?_nil, true_and, and_true, eq_self, wipeG, fRg1, fRg2, int1, rgB, fAdd, addL, fMul, dTupL, eIdx, lst1, idxW, dIsi2, dDct, fD0, fD1, fCallD, dpW, fListN, fSortN, fSset, ssW, wpFd, sSetD, oDct, sPut, sUpd, Bool.not_true, Bool.not_false, decide_true, decide_false, optD, dSlN, dSumV, iItm, sSetB, dRepr, dCin, dCix, sSwap, Bool.false_eq_true, if_true, if_false, ↓reduceIte]
      refine toD _ (fun Q h => is_row_any (k := 16) x h) ?_
      simp only [DB.b_law_k11_4, wpSs, wpS, wpE, wpA, wpX, wpO, wpT, wpI, wpF, sSeq, sNext, sCont, sRet, sRetN, sRetF, oLst, sRetO, sIf, tBors, tBor, sDrop, sSet, sSetF, frz1, sFrz, sFrzs, sApp, sExt, sUnp, sRetC, sSetS, sSetC, rvX, sRaise, sFor, xNil, xE, slotW, xS, rvD, rvL, rvS, dCallF, fCallF, dVar, dC, dLst, dNil, dCons, dTup, fLst, dOp, dAnd, dOr, dNot, dIf, dCall, fCall, dIsi, dRev, dSl, rSlD, rRevD, eB, boolD, eChain, eAnd, eOr, eNot, intD, eNeg, ixW, oInt, oNone, lstW, srtW, sLen, sIx, binW, cmpW, subW, modW, rAdd, rMul, powW, fdivW, ltW, leW, gtW, geW, eqW, neW, rEqq, rNeq, inW, isW, isV, biW, lenD, truW, iSeq, seqD, iRange1, iRange2, rng1, rng2, iEnu, enu1, iZip2, zip2, fLc, tTT, s0, List.map_cons, List.map_nil, List.length_cons, List.length_nil, List.replicate, List.cons_append, List.nil_append, List.getElem?_cons_zero, List.getElem?_cons_succ, List.set_cons_zero, List.set_cons_succ, List.foldr_cons, List.foldr_nil, Nat.zero_add, Nat.reduceAdd, Nat.reduceSub, List.getElem?_nil, true_and, and_true, eq_self, wipeG, fRg1, fRg2, int1, rgB, fAdd, addL, fMul, dTupL, eIdx, lst1, idxW, dIsi2, dDct, fD0, fD1, fCallD, dpW, fListN, fSortN, fSset, ssW, wpFd, sSetD, oDct, sPut, sUpd, Bool.not_true, Bool.not_false, decide_true, decide_false, optD, dSlN, dSumV, iItm, sSetB, dRepr, dCin, dCix, sSwap, Bool.false_eq_true, if_true, if_false, ↓reduceIte]
      rw [show ∀ b, isT "bool" (PyData.bool b) = true from fun _ => rfl]
      try walk_at "wps"
      refine toD _ (fun Q h => is_row11_any (k := 17) x h) ?_
      refine ⟨dOk_bool _, dOk_bool _, ?_⟩
      rw [eqv_bool_self]
      try walk_at "wps"
      exact hK2 _ ⟨_, _, _, rfl⟩
theorem k11_cell (hK : ∀ o2 q3 o4 o5 o6 o7, D.nx [some (.scr ns), some (.d (.int (i : Int))), o2, od q3, o4, o5, o6, o7]) {o2 : Option SV} : wpSs (wpFn DB.Γ 19) DB.b_law_k11_10 E D [some (.scr ns), some (.d (.int (i : Int))), o2, od q3, o4, o5, o6, o7] := by
  simp only [DB.b_law_k11_10, wpSs, wpS, wpE, wpA, wpX, wpO, wpT, wpI, wpF, sSeq, sNext, sCont, sRet, sRetN, sRetF, oLst, sRetO, sIf, tBors, tBor, sDrop, sSet, sSetF, frz1, sFrz, sFrzs, sApp, sExt, sUnp, sRetC, sSetS, sSetC, rvX, sRaise, sFor, xNil, xE, slotW, xS, rvD, rvL, rvS, dCallF, fCallF, dVar, dC, dLst, dNil, dCons, dTup, fLst, dOp, dAnd, dOr, dNot, dIf, dCall, fCall, dIsi, dRev, dSl, rSlD, rRevD, eB, boolD, eChain, eAnd, eOr, eNot, intD, eNeg, ixW, oInt, oNone, lstW, srtW, sLen, sIx, binW, cmpW, subW, modW, rAdd, rMul, powW, fdivW, ltW, leW, gtW, geW, eqW, neW, rEqq, rNeq, inW, isW, isV, biW, lenD, truW, iSeq, seqD, iRange1, iRange2, rng1, rng2, iEnu, enu1, iZip2, zip2, fLc, tTT, s0, List.map_cons, List.map_nil, List.length_cons, List.length_nil, List.replicate, List.cons_append, List.nil_append, List.getElem?_cons_zero, List.getElem?_cons_succ, List.set_cons_zero, List.set_cons_succ, List.foldr_cons, List.foldr_nil, Nat.zero_add, Nat.reduceAdd, Nat.reduceSub, List.getElem?_nil, true_and, and_true, eq_self, wipeG, fRg1, fRg2, int1, rgB, fAdd, addL, fMul, dTupL, eIdx, lst1, idxW, dIsi2, dDct, fD0, fD1, fCallD, dpW, fListN, fSortN, fSset, ssW, wpFd, sSetD, oDct, sPut, sUpd, Bool.not_true, Bool.not_false, decide_true, decide_false, optD, dSlN, dSumV, iItm, sSetB, dRepr, dCin, dCix, sSwap, Bool.false_eq_true, if_true, if_false, ↓reduceIte]
  refine state_ok (k := 17) ns i ?_
  simp only [DB.b_law_k11_9, wpSs, wpS, wpE, wpA, wpX, wpO, wpT, wpI, wpF, sSeq, sNext, sCont, sRet, sRetN, sRetF, oLst, sRetO, sIf, tBors, tBor, sDrop, sSet, sSetF, frz1, sFrz, sFrzs, sApp, sExt, sUnp, sRetC, sSetS, sSetC, rvX, sRaise, sFor, xNil, xE, slotW, xS, rvD, rvL, rvS, dCallF, fCallF, dVar, dC, dLst, dNil, dCons, dTup, fLst, dOp, dAnd, dOr, dNot, dIf, dCall, fCall, dIsi, dRev, dSl, rSlD, rRevD, eB, boolD, eChain, eAnd, eOr, eNot, intD, eNeg, ixW, oInt, oNone, lstW, srtW, sLen, sIx, binW, cmpW, subW, modW, rAdd, rMul, powW, fdivW, ltW, leW, gtW, geW, eqW, neW, rEqq, rNeq, inW, isW, isV, biW, lenD, truW, iSeq, seqD, iRange1, iRange2, rng1, rng2, iEnu, enu1, iZip2, zip2, fLc, tTT, s0, List.map_cons, List.map_nil, List.length_cons, List.length_nil, List.replicate, List.cons_append, List.nil_append, List.getElem?_cons_zero, List.getElem?_cons_succ, List.set_cons_zero, List.set_cons_succ, List.foldr_cons, List.foldr_nil, Nat.zero_add, Nat.reduceAdd, Nat.reduceSub, List.getElem?_nil, true_and, and_true, eq_self, wipeG, fRg1, fRg2, int1, rgB, fAdd, addL, fMul, dTupL, eIdx, lst1, idxW, dIsi2, dDct, fD0, fD1, fCallD, dpW, fListN, fSortN, fSset, ssW, wpFd, sSetD, oDct, sPut, sUpd, Bool.not_true, Bool.not_false, decide_true, decide_false, optD, dSlN, dSumV, iItm, sSetB, dRepr, dCin, dCix, sSwap, Bool.false_eq_true, if_true, if_false, ↓reduceIte]
  refine ⟨by omega, by omega, ?_⟩
  rw [rng_ints]
  refine forGo_inv PyData.int (fun l r => ∃ (q3 : Option PyData) (o4 o5 : Option SV), r = [some (.scr ns), some (.d (.int (i : Int))), some (.m .st), od q3, o4, o5, o6, o7]) ?_ ?_ _ _ ⟨_, _, _, rfl⟩
  · rintro r ⟨q3, o4, o5, rfl⟩
    simp only [DB.b_law_k11_8, wpSs, wpS, wpE, wpA, wpX, wpO, wpT, wpI, wpF, sSeq, sNext, sCont, sRet, sRetN, sRetF, oLst, sRetO, sIf, tBors, tBor, sDrop, sSet, sSetF, frz1, sFrz, sFrzs, sApp, sExt, sUnp, sRetC, sSetS, sSetC, rvX, sRaise, sFor, xNil, xE, slotW, xS, rvD, rvL, rvS, dCallF, fCallF, dVar, dC, dLst, dNil, dCons, dTup, fLst, dOp, dAnd, dOr, dNot, dIf, dCall, fCall, dIsi, dRev, dSl, rSlD, rRevD, eB, boolD, eChain, eAnd, eOr, eNot, intD, eNeg, ixW, oInt, oNone, lstW, srtW, sLen, sIx, binW, cmpW, subW, modW, rAdd, rMul, powW, fdivW, ltW, leW, gtW, geW, eqW, neW, rEqq, rNeq, inW, isW, isV, biW, lenD, truW, iSeq, seqD, iRange1, iRange2, rng1, rng2, iEnu, enu1, iZip2, zip2, fLc, tTT, s0, List.map_cons, List.map_nil, List.length_cons, List.length_nil, List.replicate, List.cons_append, List.nil_append, List.getElem?_cons_zero, List.getElem?_cons_succ, List.set_cons_zero, List.set_cons_succ, List.foldr_cons, List.foldr_nil, Nat.zero_add, Nat.reduceAdd, Nat.reduceSub, List.getElem?_nil, true_and, and_true, eq_self, wipeG, fRg1, fRg2, int1, rgB, fAdd, addL, fMul, dTupL, eIdx, lst1, idxW, dIsi2, dDct, fD0, fD1, fCallD, dpW, fListN, fSortN, fSset, ssW, wpFd, sSetD, oDct, sPut, sUpd, Bool.not_true, Bool.not_false, decide_true, decide_false, optD, dSlN, dSumV, iItm, sSetB, dRepr, dCin, dCix, sSwap, Bool.false_eq_true, if_true, if_false, ↓reduceIte]
    refine toD' (P := fun y => ∃ p n, S13 p n ∧ y = spD p n) (fun Q h => space11_ok (k := 17) fun p n s => h _ ⟨p, n, s, rfl⟩) ?_
    rintro y ⟨p, n, s13, rfl⟩
    simp only [DB.b_law_k11_7, wpSs, wpS, wpE, wpA, wpX, wpO, wpT, wpI, wpF, sSeq, sNext, sCont, sRet, sRetN, sRetF, oLst, sRetO, sIf, tBors, tBor, sDrop, sSet, sSetF, frz1, sFrz, sFrzs, sApp, sExt, sUnp, sRetC, sSetS, sSetC, rvX, sRaise, sFor, xNil, xE, slotW, xS, rvD, rvL, rvS, dCallF, fCallF, dVar, dC, dLst, dNil, dCons, dTup, fLst, dOp, dAnd, dOr, dNot, dIf, dCall, fCall, dIsi, dRev, dSl, rSlD, rRevD, eB, boolD, eChain, eAnd, eOr, eNot, intD, eNeg, ixW, oInt, oNone, lstW, srtW, sLen, sIx, binW, cmpW, subW, modW, rAdd, rMul, powW, fdivW, ltW, leW, gtW, geW, eqW, neW, rEqq, rNeq, inW, isW, isV, biW, lenD, truW, iSeq, seqD, iRange1, iRange2, rng1, rng2, iEnu, enu1, iZip2, zip2, fLc, tTT, s0, List.map_cons, List.map_nil, List.length_cons, List.length_nil, List.replicate, List.cons_append, List.nil_append, List.getElem?_cons_zero, List.getElem?_cons_succ, List.set_cons_zero, List.set_cons_succ, List.foldr_cons, List.foldr_nil, Nat.zero_add, Nat.reduceAdd, Nat.reduceSub, List.getElem?_nil, true_and, and_true, eq_self, wipeG, fRg1, fRg2, int1, rgB, fAdd, addL, fMul, dTupL, eIdx, lst1, idxW, dIsi2, dDct, fD0, fD1, fCallD, dpW, fListN, fSortN, fSset, ssW, wpFd, sSetD, oDct, sPut, sUpd, Bool.not_true, Bool.not_false, decide_true, decide_false, optD, dSlN, dSumV, iItm, sSetB, dRepr, dCin, dCix, sSwap, Bool.false_eq_true, if_true, if_false, ↓reduceIte]
    refine toD' (P := fun y => ∃ v, Row p n v ∧ y = rowD v) (fun Q h => row11_ok (k := 17) s13.sp fun v hv => h _ ⟨v, hv, rfl⟩) ?_
    rintro y ⟨v, hv, rfl⟩
    exact k11_6 hv s13.sp fun q3 o4 o5 => hK _ _ _ _ _ _
  · rintro x l r K2 hK2 ⟨q3, o4, o5, rfl⟩
    simp only [bindT, DB.b_law_k11_3, wpSs, wpS, wpE, wpA, wpX, wpO, wpT, wpI, wpF, sSeq, sNext, sCont, sRet, sRetN, sRetF, oLst, sRetO, sIf, tBors, tBor, sDrop, sSet, sSetF, frz1, sFrz, sFrzs, sApp, sExt, sUnp, sRetC, sSetS, sSetC, rvX, sRaise, sFor, xNil, xE, slotW, xS, rvD, rvL, rvS, dCallF, fCallF, dVar, dC, dLst, dNil, dCons, dTup, fLst, dOp, dAnd, dOr, dNot, dIf, dCall, fCall, dIsi, dRev, dSl, rSlD, rRevD, eB, boolD, eChain, eAnd, eOr, eNot, intD, eNeg, ixW, oInt, oNone, lstW, srtW, sLen, sIx, binW, cmpW, subW, modW, rAdd, rMul, powW, fdivW, ltW, leW, gtW, geW, eqW, neW, rEqq, rNeq, inW, isW, isV, biW, lenD, truW, iSeq, seqD, iRange1, iRange2, rng1, rng2, iEnu, enu1, iZip2, zip2, fLc, tTT, s0, List.map_cons, List.map_nil, List.length_cons, List.length_nil, List.replicate, List.cons_append, List.nil_append, List.getElem?_cons_zero, List.getElem?_cons_succ, List.set_cons_zero, List.set_cons_succ, List.foldr_cons, List.foldr_nil, Nat.zero_add, Nat.reduceAdd, Nat.reduceSub, List.getElem?_nil, true_and, and_true, eq_self, wipeG, fRg1, fRg2, int1, rgB, fAdd, addL, fMul, dTupL, eIdx, lst1, idxW, dIsi2, dDct, fD0, fD1, fCallD, dpW, fListN, fSortN, fSset, ssW, wpFd, sSetD, oDct, sPut, sUpd, Bool.not_true, Bool.not_false, decide_true, decide_false, optD, dSlN, dSumV, iItm, sSetB, dRepr, dCin, dCix, sSwap, Bool.false_eq_true, if_true, if_false, ↓reduceIte]
    refine toD' (P := fun _ => True) (fun Q h => space_like_ok (k := 17) fun x => h _ trivial) ?_
    rintro y _
    simp only [DB.b_law_k11_2, wpSs, wpS, wpE, wpA, wpX, wpO, wpT, wpI, wpF, sSeq, sNext, sCont, sRet, sRetN, sRetF, oLst, sRetO, sIf, tBors, tBor, sDrop, sSet, sSetF, frz1, sFrz, sFrzs, sApp, sExt, sUnp, sRetC, sSetS, sSetC, rvX, sRaise, sFor, xNil, xE, slotW, xS, rvD, rvL, rvS, dCallF, fCallF, dVar, dC, dLst, dNil, dCons, dTup, fLst, dOp, dAnd, dOr, dNot, dIf, dCall, fCall, dIsi, dRev, dSl, rSlD, rRevD, eB, boolD, eChain, eAnd, eOr, eNot, intD, eNeg, ixW, oInt, oNone, lstW, srtW, sLen, sIx, binW, cmpW, subW, modW, rAdd, rMul, powW, fdivW, ltW, leW, gtW, geW, eqW, neW, rEqq, rNeq, inW, isW, isV, biW, lenD, truW, iSeq, seqD, iRange1, iRange2, rng1, rng2, iEnu, enu1, iZip2, zip2, fLc, tTT, s0, List.map_cons, List.map_nil, List.length_cons, List.length_nil, List.replicate, List.cons_append, List.nil_append, List.getElem?_cons_zero, List.getElem?_cons_succ, List.set_cons_zero, List.set_cons_succ, List.foldr_cons, List.foldr_nil, Nat.zero_add, Nat.reduceAdd, Nat.reduceSub, List.getElem?_nil, true_and, and_true, eq_self, wipeG, fRg1, fRg2, int1, rgB, fAdd, addL, fMul, dTupL, eIdx, lst1, idxW, dIsi2, dDct, fD0, fD1, fCallD, dpW, fListN, fSortN, fSset, ssW, wpFd, sSetD, oDct, sPut, sUpd, Bool.not_true, Bool.not_false, decide_true, decide_false, optD, dSlN, dSumV, iItm, sSetB, dRepr, dCin, dCix, sSwap, Bool.false_eq_true, if_true, if_false, ↓reduceIte]
    refine toD _ (fun Q h => is_space_any (k := 15) y h) ?_
    simp only [DB.b_law_k11_1, wpSs, wpS, wpE, wpA, wpX, wpO, wpT, wpI, wpF, sSeq, sNext, sCont, sRet, sRetN, sRetF, oLst, sRetO, sIf, tBors, tBor, sDrop, sSet, sSetF, frz1, sFrz, sFrzs, sApp, sExt, sUnp, sRetC, sSetS, sSetC, rvX, sRaise, sFor, xNil, xE, slotW, xS, rvD, rvL, rvS, dCallF, fCallF, dVar, dC, dLst, dNil, dCons, dTup, fLst, dOp, dAnd, dOr, dNot, dIf, dCall, fCall, dIsi, dRev, dSl, rSlD, rRevD, eB, boolD, eChain, eAnd, eOr, eNot, intD, eNeg, ixW, oInt, oNone, lstW, srtW, sLen, sIx, binW, cmpW, subW, modW, rAdd, rMul, powW, fdivW, ltW, leW, gtW, geW, eqW, neW, rEqq, rNeq, inW, isW, isV, biW, lenD, truW, iSeq, seqD, iRange1, iRange2, rng1, rng2, iEnu, enu1, iZip2, zip2, fLc, tTT, s0, List.map_cons, List.map_nil, List.length_cons, List.length_nil, List.replicate, List.cons_append, List.nil_append, List.getElem?_cons_zero, List.getElem?_cons_succ, List.set_cons_zero, List.set_cons_succ, List.foldr_cons, List.foldr_nil, Nat.zero_add, Nat.reduceAdd, Nat.reduceSub, List.getElem?_nil, true_and, and_true, eq_self, wipeG, fRg1, fRg2, int1, rgB, fAdd, addL, fMul, dTupL, eIdx, lst1, idxW, dIsi2, dDct, fD0, fD1, fCallD, dpW, fListN, fSortN, fSset, ssW, wpFd, sSetD, oDct, sPut, sUpd, Bool.not_true, Bool.not_false, decide_true, decide_false, optD, dSlN, dSumV, iItm, sSetB, dRepr, dCin, dCix, sSwap, Bool.false_eq_true, if_true, if_false, ↓reduceIte]
    rw [show ∀ b, isT "bool" (PyData.bool b) = true from fun _ => rfl]
    try walk_at "wps"
    refine toD _ (fun Q h => due11_any (k := 17) y h) ?_
    refine ⟨dOk_bool _, dOk_bool _, ?_⟩
    rw [eqv_bool_self]
    try walk_at "wps"
    exact hK2 _ ⟨some _, _, _, rfl⟩
end
theorem goal_k11 : ∀ ns : List Int, ns.length ≤ 63 → wpFn DB.Γ 20 DB.law_k11 [.scr ns] (fun rv => rv = .d (.bool true)) fun _ => False := fun ns _ => by
  refine fn_go DB.g_law_k11 ?_
  simp only [DB.b_law_k11, wpSs, wpS, wpE, wpA, wpX, wpO, wpT, wpI, wpF, sSeq, sNext, sCont, sRet, sRetN, sRetF, oLst, sRetO, sIf, tBors, tBor, sDrop, sSet, sSetF, frz1, sFrz, sFrzs, sApp, sExt, sUnp, sRetC, sSetS, sSetC, rvX, sRaise, sFor, xNil, xE, slotW, xS, rvD, rvL, rvS, dCallF, fCallF, dVar, dC, dLst, dNil, dCons, dTup, fLst, dOp, dAnd, dOr, dNot, dIf, dCall, fCall, dIsi, dRev, dSl, rSlD, rRevD, eB, boolD, eChain, eAnd, eOr, eNot, intD, eNeg, ixW, oInt, oNone, lstW, srtW, sLen, sIx, binW, cmpW, subW, modW, rAdd, rMul, powW, fdivW, ltW, leW, gtW, geW, eqW, neW, rEqq, rNeq, inW, isW, isV, biW, lenD, truW, iSeq, seqD, iRange1, iRange2, rng1, rng2, iEnu, enu1, iZip2, zip2, fLc, tTT, s0, List.map_cons, List.map_nil, List.length_cons, List.length_nil, List.replicate, List.cons_append, List.nil_append, List.getElem?_cons_zero, List.getElem?_cons_succ, List.set_cons_zero, List.set_cons_succ, List.foldr_cons, List.foldr_nil, Nat.zero_add, Nat.reduceAdd, Nat.reduceSub, List.getElem?_nil, true_and, and_true, eq_self, wipeG, fRg1, fRg2, int1, rgB, fAdd, addL, fMul, dTupL, eIdx, lst1, idxW, dIsi2, dDct, fD0, fD1, fCallD, dpW, fListN, fSortN, fSset, ssW, wpFd, sSetD, oDct, sPut, sUpd, Bool.not_true, Bool.not_false, decide_true, decide_false, optD, dSlN, dSumV, iItm, sSetB, dRepr, dCin, dCix, sSwap, Bool.false_eq_true, if_true, if_false, ↓reduceIte]
  obtain ⟨m0, em, hm0⟩ := cells 12 ns (by omega)
  have em : (if (if (12 : Int) < ns.length then (12 : Int) else (ns.length : Int)) > 1 then (if (12 : Int) < ns.length then (12 : Int) else (ns.length : Int)) else 1) = (m0 : Int) := em
  rw [em]
  refine ⟨by omega, by omega, ?_⟩
  rw [rng_nats, Int.toNat_natCast]
  refine forGo_inv (fun (i : Nat) => PyData.int (i : Int)) (fun l r => ∃ (o1 o2 : Option SV) (q3 : Option PyData) (o4 o5 o6 o7 : Option SV), r = [some (.scr ns), o1, o2, od q3, o4, o5, o6, o7]) ?_ ?_ _ _ ⟨_, _, none, _, _, _, _, rfl⟩
  · rintro r ⟨o1, o2, q3, o4, o5, o6, o7, rfl⟩
    simp only [DB.b_law_k11_11, wpSs, wpS, wpE, wpA, wpX, wpO, wpT, wpI, wpF, sSeq, sNext, sCont, sRet, sRetN, sRetF, oLst, sRetO, sIf, tBors, tBor, sDrop, sSet, sSetF, frz1, sFrz, sFrzs, sApp, sExt, sUnp, sRetC, sSetS, sSetC, rvX, sRaise, sFor, xNil, xE, slotW, xS, rvD, rvL, rvS, dCallF, fCallF, dVar, dC, dLst, dNil, dCons, dTup, fLst, dOp, dAnd, dOr, dNot, dIf, dCall, fCall, dIsi, dRev, dSl, rSlD, rRevD, eB, boolD, eChain, eAnd, eOr, eNot, intD, eNeg, ixW, oInt, oNone, lstW, srtW, sLen, sIx, binW, cmpW, subW, modW, rAdd, rMul, powW, fdivW, ltW, leW, gtW, geW, eqW, neW, rEqq, rNeq, inW, isW, isV, biW, lenD, truW, iSeq, seqD, iRange1, iRange2, rng1, rng2, iEnu, enu1, iZip2, zip2, fLc, tTT, s0, List.map_cons, List.map_nil, List.length_cons, List.length_nil, List.replicate, List.cons_append, List.nil_append, List.getElem?_cons_zero, List.getElem?_cons_succ, List.set_cons_zero, List.set_cons_succ, List.foldr_cons, List.foldr_nil, Nat.zero_add, Nat.reduceAdd, Nat.reduceSub, List.getElem?_nil, true_and, and_true, eq_self, wipeG, fRg1, fRg2, int1, rgB, fAdd, addL, fMul, dTupL, eIdx, lst1, idxW, dIsi2, dDct, fD0, fD1, fCallD, dpW, fListN, fSortN, fSset, ssW, wpFd, sSetD, oDct, sPut, sUpd, Bool.not_true, Bool.not_false, decide_true, decide_false, optD, dSlN, dSumV, iItm, sSetB, dRepr, dCin, dCix, sSwap, Bool.false_eq_true, if_true, if_false, ↓reduceIte]
    refine ⟨small (by omega), ?_⟩
    refine toD _ (fun Q h => is_space_any (k := 15) (.tuple [.int 2, .int 6]) h) ?_
    rw [show spcX (.tuple [.int 2, .int 6]) = true by decide +kernel]
    try walk_at "wps"
    refine ⟨small (by omega), ?_⟩
    refine toD _ (fun Q h => is_space_any (k := 15) (.tuple [.int 2, .int 7]) h) ?_
    rw [show spcX (.tuple [.int 2, .int 7]) = false by decide +kernel]
    try walk_at "wps"
    refine ⟨small (by omega), ?_⟩
    refine toD _ (fun Q h => is_space_any (k := 15) (.tuple [.int 5, .int 4]) h) ?_
    rw [show spcX (.tuple [.int 5, .int 4]) = false by decide +kernel]
    try walk_at "wps"
  · rintro i l r K hK ⟨o1, o2, q3, o4, o5, o6, o7, rfl⟩
    simp only [bindT, wpSs, wpS, wpE, wpA, wpX, wpO, wpT, wpI, wpF, sSeq, sNext, sCont, sRet, sRetN, sRetF, oLst, sRetO, sIf, tBors, tBor, sDrop, sSet, sSetF, frz1, sFrz, sFrzs, sApp, sExt, sUnp, sRetC, sSetS, sSetC, rvX, sRaise, sFor, xNil, xE, slotW, xS, rvD, rvL, rvS, dCallF, fCallF, dVar, dC, dLst, dNil, dCons, dTup, fLst, dOp, dAnd, dOr, dNot, dIf, dCall, fCall, dIsi, dRev, dSl, rSlD, rRevD, eB, boolD, eChain, eAnd, eOr, eNot, intD, eNeg, ixW, oInt, oNone, lstW, srtW, sLen, sIx, binW, cmpW, subW, modW, rAdd, rMul, powW, fdivW, ltW, leW, gtW, geW, eqW, neW, rEqq, rNeq, inW, isW, isV, biW, lenD, truW, iSeq, seqD, iRange1, iRange2, rng1, rng2, iEnu, enu1, iZip2, zip2, fLc, tTT, s0, List.map_cons, List.map_nil, List.length_cons, List.length_nil, List.replicate, List.cons_append, List.nil_append, List.getElem?_cons_zero, List.getElem?_cons_succ, List.set_cons_zero, List.set_cons_succ, List.foldr_cons, List.foldr_nil, Nat.zero_add, Nat.reduceAdd, Nat.reduceSub, List.getElem?_nil, true_and, and_true, eq_self, wipeG, fRg1, fRg2, int1, rgB, fAdd, addL, fMul, dTupL, eIdx, lst1, idxW, dIsi2, dDct, fD0, fD1, fCallD, dpW, fListN, fSortN, fSset, ssW, wpFd, sSetD, oDct, sPut, sUpd, Bool.not_true, Bool.not_false, decide_true, decide_false, optD, dSlN, dSumV, iItm, sSetB, dRepr, dCin, dCix, sSwap, Bool.false_eq_true, if_true, if_false, ↓reduceIte]
    exact k11_cell fun o2 q3 o4 o5 o6 o7 => hK _ ⟨_, _, _, _, _, _, _, rfl⟩
end ME
end
section
set_option Elab.async false
set_option linter.all false
set_option maxRecDepth 100000
set_option maxHeartbeats 0
namespace Hd
open PySem PySem.Spec PyProof.Rows L2 DP
def top (i : Nat) : Stmt := PySem.Challenge.pw_fewspaces_k11_spaces_and_rows_looked_at.main.body.getD i (.Pass ⟨0, 0, 0, 0⟩)
def dd (x : Str) (i : Nat) : He.DefD := ⟨(x, none), x, x, defArgs (top i), defBody (top i), defScope (top i), [], []⟩
def fn : List He.DefD := [dd "is_whole" 2, dd "is_between" 3, dd "is_space" 4, dd "is_row" 5, dd "_law_cell_at" 7, dd "_law_state" 8, dd "_law_take" 9, dd "_law_space" 10, dd "_law_plus" 11, dd "_law_row" 12, dd "_law_rows" 13, dd "_law_head" 14, dd "_law_form" 15, dd "_law_part" 16, dd "_law_whole" 17, dd "_law_is_row" 18, dd "_law_bent_row" 19, dd "_law_due" 20, dd "_law_space_like" 21, dd "law" 22]
def fa : List He.Fa := [.glo "is_whole", .glo "is_between", .glo "is_space", .glo "is_row", .glo "_law_cell_at", .glo "_law_state", .glo "_law_take", .glo "_law_space", .glo "_law_plus", .glo "_law_row", .glo "_law_rows", .glo "_law_head", .glo "_law_form", .glo "_law_part", .glo "_law_whole", .glo "_law_is_row", .glo "_law_bent_row", .glo "_law_due", .glo "_law_space_like", .glo "law", .free "all", .free "any", .free "bool", .free "int", .free "isinstance", .free "len", .free "list", .free "max", .free "min", .free "range", .free "set", .free "sorted", .free "tuple"]
def G : Sig := { bis := ["all", "any", "bool", "int", "isinstance", "len", "list", "max", "min", "range", "set", "sorted", "tuple"], consts := [], funs := ((("_law_cell_at" : Str), (DB.law_cell_at_k11, 2)) :: (("_law_state" : Str), (DB.law_state_k11, 2)) :: (("_law_take" : Str), (DB.law_take, 2)) :: (("_law_space" : Str), (DB.law_space_k11, 2)) :: (("_law_row" : Str), (DB.law_row_k11, 2)) :: (("_law_space_like" : Str), (DB.law_space_like_k11, 1)) :: (("is_whole" : Str), (DB.is_whole, 1)) :: (("is_between" : Str), (DB.is_between, 3)) :: (("is_space" : Str), (DB.is_space, 1)) :: (("is_row" : Str), (DB.is_row, 2)) :: (("_law_bent_row" : Str), (DB.law_bent_row_k11, 3)) :: (("_law_whole" : Str), (DB.law_whole_k11, 3)) :: (("_law_due" : Str), (DB.law_due_k11, 1)) :: (("_law_is_row" : Str), (DB.law_is_row_k11, 2)) :: (("law" : Str), (DB.law_k11, 1)) :: []), excs := [], scr := ["_law_script"], slo := [], dcs := [("MOST_PLACES", [(2, 6), (3, 4), (5, 3)])] }
section
variable {P : Program} {w : World} {K : PySem.W.Frag} {h : Heap} {mg : Str → Option Value} {base : Heap} (X : K.In h) (Gn : h.Ns mainGlobals mg) (c : He.SaysD fa fn K)
include X Gn c
theorem d__law_cell_at : DefOk K mg G "_law_cell_at" 2 2 DB.b_law_cell_at_k11 := by
  obtain ⟨fd, F⟩ := c.def_ 4
  exact ⟨_, fd, _, _, _, ["_law_script", "_law_k"], ["_law_script", "_law_k"], ⟨[], ["_law_state_here"], [], [], []⟩, 60, He.glo_ok X Gn (c.fact 4), F, fnSc_by (by decide +kernel), rfl, rfl, by kernel_rfl, F.bindsN (fun _ _ _ _ _ _ us hl => match us, hl with | [_, _], _ => rfl)⟩
theorem d__law_state : DefOk K mg G "_law_state" 2 3 DB.b_law_state_k11 := by
  obtain ⟨fd, F⟩ := c.def_ 5
  exact ⟨_, fd, _, _, _, ["_law_script", "_law_k", "_law_cell"], ["_law_script", "_law_k"], ⟨[], ["_law_state_here"], [], [], []⟩, 60, He.glo_ok X Gn (c.fact 5), F, fnSc_by (by decide +kernel), rfl, rfl, by kernel_rfl, F.bindsN (fun _ _ _ _ _ _ us hl => match us, hl with | [_, _], _ => rfl)⟩
theorem d__law_take : PrimOk P w K mg base "_law_take" 2 1 takeW := by
  obtain ⟨fd, F⟩ := c.def_ 6
  obtain ⟨p0, p1, p2, p3, p4, p5, p6, p7, p8, p9, p10, p11, p12, p13, p14, p15, p16, p17, p18, p19, p20, p21, p22, p23, p24, p25, p26, p27, p28, p29, p30, p31, p32, p33, p34, p35, p36, p37, p38, p39, p40, p41, p42, p43, p44, p45, p46, p47, p48, p49, p50, p51, p52, p53, p54, p55, p56, p57, p58, p59, p60, p61, p62, p63, p64, p65, p66, p67, p68, p69, p70, e⟩ : ∃ p0 p1 p2 p3 p4 p5 p6 p7 p8 p9 p10 p11 p12 p13 p14 p15 p16 p17 p18 p19 p20 p21 p22 p23 p24 p25 p26 p27 p28 p29 p30 p31 p32 p33 p34 p35 p36 p37 p38 p39 p40 p41 p42 p43 p44 p45 p46 p47 p48 p49 p50 p51 p52 p53 p54 p55 p56 p57 p58 p59 p60 p61 p62 p63 p64 p65 p66 p67 p68 p69 p70, defBody (top 9) = takeAt "_law_state_here" "_law_many" "_law_found" "_law_mixed" p0 p1 p2 p3 p4 p5 p6 p7 p8 p9 p10 p11 p12 p13 p14 p15 p16 p17 p18 p19 p20 p21 p22 p23 p24 p25 p26 p27 p28 p29 p30 p31 p32 p33 p34 p35 p36 p37 p38 p39 p40 p41 p42 p43 p44 p45 p46 p47 p48 p49 p50 p51 p52 p53 p54 p55 p56 p57 p58 p59 p60 p61 p62 p63 p64 p65 p66 p67 p68 p69 p70 := ⟨_, _, _, _, _, _, _, _, _, _, _, _, _, _, _, _, _, _, _, _, _, _, _, _, _, _, _, _, _, _, _, _, _, _, _, _, _, _, _, _, _, _, _, _, _, _, _, _, _, _, _, _, _, _, _, _, _, _, _, _, _, _, _, _, _, _, _, _, _, _, _, rfl⟩
  have F' : FunD K "_law_take" "_law_take" (defArgs (top 9)) (takeAt "_law_state_here" "_law_many" "_law_found" "_law_mixed" p0 p1 p2 p3 p4 p5 p6 p7 p8 p9 p10 p11 p12 p13 p14 p15 p16 p17 p18 p19 p20 p21 p22 p23 p24 p25 p26 p27 p28 p29 p30 p31 p32 p33 p34 p35 p36 p37 p38 p39 p40 p41 p42 p43 p44 p45 p46 p47 p48 p49 p50 p51 p52 p53 p54 p55 p56 p57 p58 p59 p60 p61 p62 p63 p64 p65 p66 p67 p68 p69 p70) (defScope (top 9)) [] [] (He.fAd K ("_law_take", none)) fd := by
    rw [← e]
    exact F
  refine ⟨_, fd, ["_law_state_here", "_law_many"], He.glo_ok X Gn (c.fact 6), F.kp, rfl, F.bindsN (fun _ _ _ _ _ _ us hl => match us, hl with | [_, _], _ => rfl), fun k hk => ?_⟩
  obtain ⟨k', rfl⟩ : ∃ k', k = k' + 1 := ⟨k - 1, by omega⟩
  exact take_ok F' (fnSc_by (by decide +kernel)) (locB_ok (by decide +kernel)) (locB_ok (by decide +kernel)) (by decide +kernel) (by decide +kernel) (by decide +kernel) (by decide +kernel)
theorem d__law_space : DefOk K mg G "_law_space" 2 3 DB.b_law_space_k11 := by
  obtain ⟨fd, F⟩ := c.def_ 7
  exact ⟨_, fd, _, _, _, ["_law_state_here", "_law_most", "_law_some"], ["_law_state_here", "_law_most"], ⟨[], ["_law_state_here"], [], [], []⟩, 60, He.glo_ok X Gn (c.fact 7), F, fnSc_by (by decide +kernel), rfl, rfl, by kernel_rfl, F.bindsN (fun _ _ _ _ _ _ us hl => match us, hl with | [_, _], _ => rfl)⟩
theorem d__law_row : DefOk K mg G "_law_row" 2 4 DB.b_law_row_k11 := by
  obtain ⟨fd, F⟩ := c.def_ 9
  exact ⟨_, fd, _, _, _, ["_law_state_here", "_law_space_here", "_law_ahead", "_law_place"], ["_law_state_here", "_law_space_here"], ⟨[], ["_law_state_here"], [], [], []⟩, 60, He.glo_ok X Gn (c.fact 9), F, fnSc_by (by decide +kernel), rfl, rfl, by kernel_rfl, F.bindsN (fun _ _ _ _ _ _ us hl => match us, hl with | [_, _], _ => rfl)⟩
theorem d__law_space_like : DefOk K mg G "_law_space_like" 1 4 DB.b_law_space_like_k11 := by
  obtain ⟨fd, F⟩ := c.def_ 18
  exact ⟨_, fd, _, _, _, ["_law_state_here", "_law_p", "_law_n", "_law_some"], ["_law_state_here"], ⟨[], ["_law_state_here"], [], [], []⟩, 60, He.glo_ok X Gn (c.fact 18), F, fnSc_by (by decide +kernel), rfl, rfl, by kernel_rfl, F.bindsN (fun _ _ _ _ _ _ us hl => match us, hl with | [_], _ => rfl)⟩
theorem d_is_whole : DefOk K mg G "is_whole" 1 1 DB.b_is_whole := by
  obtain ⟨fd, F⟩ := c.def_ 0
  exact ⟨_, fd, _, _, _, ["thing"], ["thing"], ⟨[], ["_law_state_here"], [], [], []⟩, 60, He.glo_ok X Gn (c.fact 0), F, fnSc_by (by decide +kernel), rfl, rfl, by kernel_rfl, F.bindsN (fun _ _ _ _ _ _ us hl => match us, hl with | [_], _ => rfl)⟩
theorem d_is_between : DefOk K mg G "is_between" 3 3 DB.b_is_between := by
  obtain ⟨fd, F⟩ := c.def_ 1
  exact ⟨_, fd, _, _, _, ["thing", "least", "most"], ["thing", "least", "most"], ⟨[], ["_law_state_here"], [], [], []⟩, 60, He.glo_ok X Gn (c.fact 1), F, fnSc_by (by decide +kernel), rfl, rfl, by kernel_rfl, F.bindsN (fun _ _ _ _ _ _ us hl => match us, hl with | [_, _, _], _ => rfl)⟩
theorem d_is_space : DefOk K mg G "is_space" 1 1 DB.b_is_space := by
  obtain ⟨fd, F⟩ := c.def_ 2
  exact ⟨_, fd, _, _, _, ["thing"], ["thing"], ⟨[], ["_law_state_here"], [], [], []⟩, 60, He.glo_ok X Gn (c.fact 2), F, fnSc_by (by decide +kernel), rfl, rfl, by kernel_rfl, F.bindsN (fun _ _ _ _ _ _ us hl => match us, hl with | [_], _ => rfl)⟩
theorem d_is_row : DefOk K mg G "is_row" 2 3 DB.b_is_row := by
  obtain ⟨fd, F⟩ := c.def_ 3
  exact ⟨_, fd, _, _, _, ["space", "thing", "number"], ["space", "thing"], ⟨[], ["_law_state_here"], [], [], []⟩, 60, He.glo_ok X Gn (c.fact 3), F, fnSc_by (by decide +kernel), rfl, rfl, by kernel_rfl, F.bindsN (fun _ _ _ _ _ _ us hl => match us, hl with | [_, _], _ => rfl)⟩
theorem d__law_bent_row : DefOk K mg G "_law_bent_row" 3 6 DB.b_law_bent_row_k11 := by
  obtain ⟨fd, F⟩ := c.def_ 16
  exact ⟨_, fd, _, _, _, ["_law_state_here", "_law_space_here", "_law_row_here", "_law_at", "_law_odd", "_law_some"], ["_law_state_here", "_law_space_here", "_law_row_here"], ⟨[], ["_law_state_here"], [], [], []⟩, 60, He.glo_ok X Gn (c.fact 16), F, fnSc_by (by decide +kernel), rfl, rfl, by kernel_rfl, F.bindsN (fun _ _ _ _ _ _ us hl => match us, hl with | [_, _, _], _ => rfl)⟩
theorem d__law_whole : DefOk K mg G "_law_whole" 3 3 DB.b_law_whole_k11 := by
  obtain ⟨fd, F⟩ := c.def_ 14
  exact ⟨_, fd, _, _, _, ["_law_thing", "_law_least", "_law_most"], ["_law_thing", "_law_least", "_law_most"], ⟨[], ["_law_state_here"], [], [], []⟩, 60, He.glo_ok X Gn (c.fact 14), F, fnSc_by (by decide +kernel), rfl, rfl, by kernel_rfl, F.bindsN (fun _ _ _ _ _ _ us hl => match us, hl with | [_, _, _], _ => rfl)⟩
theorem d__law_due : DefOk K mg G "_law_due" 1 3 DB.b_law_due_k11 := by
  obtain ⟨fd, F⟩ := c.def_ 17
  exact ⟨_, fd, _, _, _, ["_law_thing", "_law_good", "_law_one"], ["_law_thing"], ⟨[], ["_law_state_here"], [], [], []⟩, 60, He.glo_ok X Gn (c.fact 17), F, fnSc_by (by decide +kernel), rfl, rfl, by kernel_rfl, F.bindsN (fun _ _ _ _ _ _ us hl => match us, hl with | [_], _ => rfl)⟩
theorem d__law_is_row : DefOk K mg G "_law_is_row" 2 3 DB.b_law_is_row_k11 := by
  obtain ⟨fd, F⟩ := c.def_ 15
  exact ⟨_, fd, _, _, _, ["_law_space_here", "_law_thing", "_law_number"], ["_law_space_here", "_law_thing"], ⟨[], ["_law_state_here"], [], [], []⟩, 60, He.glo_ok X Gn (c.fact 15), F, fnSc_by (by decide +kernel), rfl, rfl, by kernel_rfl, F.bindsN (fun _ _ _ _ _ _ us hl => match us, hl with | [_, _], _ => rfl)⟩
theorem d_law : DefOk K mg G "law" 1 8 DB.b_law_k11 := by
  obtain ⟨fd, F⟩ := c.def_ 19
  exact ⟨_, fd, _, _, _, ["_law_script", "_law_k", "_law_state_here", "_law_turn", "_law_thing", "_law_found", "_law_space_here", "_law_row_here"], ["_law_script"], ⟨[], ["_law_state_here"], [], [], []⟩, 60, He.glo_ok X Gn (c.fact 19), F, fnSc_by (by decide +kernel), rfl, rfl, by kernel_rfl, F.bindsN (fun _ _ _ _ _ _ us hl => match us, hl with | [_], _ => rfl)⟩
def FnP (P : Program) (w : World) (K : PySem.W.Frag) (mg : Str → Option Value) (base : Heap) (e : Str × (Nat × Nat)) : Prop := (∃ N body, DB.Γ e.2.1 = some (.def_ N body) ∧ DefOk K mg G e.1 e.2.2 N body) ∨ ∃ l φ, DB.Γ e.2.1 = some (.prim l φ) ∧ PrimOk P w K mg base e.1 e.2.2 l φ
theorem fns : Al (FnP P w K mg base) G.funs :=
  .cons (.inl ⟨_, _, DB.g_law_cell_at_k11, d__law_cell_at X Gn c⟩) <|
  .cons (.inl ⟨_, _, DB.g_law_state_k11, d__law_state X Gn c⟩) <|
  .cons (.inr ⟨_, _, DB.g_law_take, d__law_take X Gn c⟩) <|
  .cons (.inl ⟨_, _, DB.g_law_space_k11, d__law_space X Gn c⟩) <|
  .cons (.inl ⟨_, _, DB.g_law_row_k11, d__law_row X Gn c⟩) <|
  .cons (.inl ⟨_, _, DB.g_law_space_like_k11, d__law_space_like X Gn c⟩) <|
  .cons (.inl ⟨_, _, DB.g_is_whole, d_is_whole X Gn c⟩) <|
  .cons (.inl ⟨_, _, DB.g_is_between, d_is_between X Gn c⟩) <|
  .cons (.inl ⟨_, _, DB.g_is_space, d_is_space X Gn c⟩) <|
  .cons (.inl ⟨_, _, DB.g_is_row, d_is_row X Gn c⟩) <|
  .cons (.inl ⟨_, _, DB.g_law_bent_row_k11, d__law_bent_row X Gn c⟩) <|
  .cons (.inl ⟨_, _, DB.g_law_whole_k11, d__law_whole X Gn c⟩) <|
  .cons (.inl ⟨_, _, DB.g_law_due_k11, d__law_due X Gn c⟩) <|
  .cons (.inl ⟨_, _, DB.g_law_is_row_k11, d__law_is_row X Gn c⟩) <|
  .cons (.inl ⟨_, _, DB.g_law_k11, d_law X Gn c⟩) <|
  .nil
theorem bis : Al (fun b => mg b = none) G.bis :=
  .cons (He.free_ok X Gn (c.fact 20)) <|
  .cons (He.free_ok X Gn (c.fact 21)) <|
  .cons (He.free_ok X Gn (c.fact 22)) <|
  .cons (He.free_ok X Gn (c.fact 23)) <|
  .cons (He.free_ok X Gn (c.fact 24)) <|
  .cons (He.free_ok X Gn (c.fact 25)) <|
  .cons (He.free_ok X Gn (c.fact 26)) <|
  .cons (He.free_ok X Gn (c.fact 27)) <|
  .cons (He.free_ok X Gn (c.fact 28)) <|
  .cons (He.free_ok X Gn (c.fact 29)) <|
  .cons (He.free_ok X Gn (c.fact 30)) <|
  .cons (He.free_ok X Gn (c.fact 31)) <|
  .cons (He.free_ok X Gn (c.fact 32)) <|
  .nil
theorem csts : Al (fun e : Str × PyData => ∃ v u, mg e.1 = some u ∧ RelV v u ∧ ∀ H, Rp H v e.2) G.consts :=
  .nil
theorem excs : Al (fun x => ∃ Ca, mg x = some (.ref Ca) ∧ PySem.W.excIn K Ca [.type "ValueError", .type "Exception", .type "BaseException", .type "object"] "ValueError.__new__" = true ∧ PySem.W.keepIn K (.ref Ca) = true ∧ PySem.W.subIn K (.ref Ca) (.type "BaseException") = some true ∧ PySem.W.typeIn K (.ref Ca) = some (.type "type")) G.excs :=
  .nil
def cdE (K : PySem.W.Frag) (x : Str) (kvs : List (Int × Int)) : Bool := match PySem.W.nsIn K mainGlobals x with
  | some (some (.ref a)) => !(a == sysModules) && (match K.lookup a with | some ob => cdB kvs ob | none => false)
  | _ => false
def exK (K : PySem.W.Frag) : Bool := cdE K "MOST_PLACES" [(2, 6), (3, 4), (5, 3)]
omit c in
theorem cdE_ok {x : Str} {kvs : List (Int × Int)} (e : cdE K x kvs = true) : ∃ a, mg x = some (.ref a) ∧ CDict K a kvs := by
  unfold cdE at e
  split at e
  · rename_i a q
    obtain ⟨h1, h2⟩ := He.ba e
    split at h2
    · rename_i ob lk
      exact ⟨a, PySem.W.mg_of X Gn q, ⟨by simpa using h1, ob, lk, h2⟩⟩
    · cases h2
  · cases e
theorem tab (e : exK K = true) : TabOk P w K mg base G DB.Γ where
  nol := rfl
  nor := rfl
  cdc := fun x kvs h => (by
    have q := lk_mem h
    rcases List.mem_cons.mp q with q | q
    · obtain ⟨rfl, rfl⟩ := Prod.mk.inj q
      exact cdE_ok X Gn e
    · cases q)
  fn := fun f id n h => (fns X Gn c).get (lk_mem h)
  bis := fun _ hb => (bis X Gn c).get hb
  cst := fun _ _ h => (csts X Gn c).get (lk_mem h)
  exc := fun _ h => (excs X Gn c).get h
end
abbrev R : PySem.W.OpenRow := PySem.W.OpenLaw.row PySem.Challenge.rw_fewspaces_k11_spaces_and_rows_looked_at
abbrev hk : PySem.W.Hook := He.hookX 4 fa fn [] [] exK
def ob (s : PySem.W.SharedT) : He.AlX := He.obsX 4 fa fn [] [] exK (HandSHeadRun.getT s)
theorem ob_eq (s : PySem.W.SharedT) : ob s = hk.obs s.abs := He.obsX_eq (HandSHeadRun.getT_eq s)
def loose : List PySem.Str := (["is_whole", "is_between", "is_space", "is_row", "_law_cell_at", "_law_state", "_law_take", "_law_space", "_law_plus", "_law_row", "_law_rows", "_law_head"] : List PySem.Str) ++ (["_law_form", "_law_part", "_law_whole", "_law_is_row", "_law_bent_row", "_law_due", "_law_space_like", "MOST_PLACES"] : List PySem.Str)
theorem run (w : World) : HandSHeadRun.RunEq R (PySem.W.view R.prog [22]) hk ob 4000 loose w := by
  exact PySem.W.byRow2 "special-get-raises" (P := fun w => HandSHeadRun.RunEq R (PySem.W.view R.prog [22]) hk ob 4000 loose w) (fun w => by intro os; kernel_rfl) (fun w => by intro os; kernel_rfl) w
theorem goal : ∀ ns : List Int, ns.length ≤ 63 → wpFn DB.Γ 20 DB.law_k11 [.scr ns] (fun rv => rv = .d (.bool true)) fun _ => False := ME.goal_k11
theorem facts {P : Program} {w : World} {K : PySem.W.Frag} {h : Heap} {mg : Str → Option Value} {f : Addr} (X : K.In h) (Gn : h.Ns mainGlobals mg) (hfa : mg ("law" : Str) = some (.ref f)) (c : He.SaysD fa fn K) (ce : exK K = true) :
    ∃ fd : FuncData, (∀ (s : Shared) (v : Value), BindsTo s fd ⟨[v], []⟩ [("_law_script", v)]) ∧ ∀ base : Heap, K.In base → base.Ns mainGlobals mg → FnOk P w K mg base CX0 20 f fd ["_law_script"] (spLaw K mg (wpFn DB.Γ 20 DB.law_k11)) := by
  obtain ⟨fd, F⟩ := c.def_ 19
  have e1 := He.glo_ok X Gn (c.fact 19)
  have hb : ∀ (kV doc pm : Value) (an : Option Addr) (cdv ct : Value) (us : List Value), us.length = (["_law_script"] : List Str).length → bindArgs (PySem.W.fnOf "law" "law" (defArgs (top 22)) (defBody (top 22)) (defScope (top 22)) .none kV doc pm an cdv ct) ⟨us, []⟩ = pure ((["_law_script"] : List Str).zip us) := fun _ _ _ _ _ _ us hl => match us, hl with | [_], _ => rfl
  have ef : He.fAd K ("law", none) = f := by
    have e2 : mg ("law" : Str) = some (.ref (He.fAd K ("law", none))) := e1
    rw [hfa] at e2
    cases e2
    rfl
  have F2 : FunD K "law" "law" (defArgs (top 22)) (defBody (top 22)) (defScope (top 22)) [] [] f fd := by
    rw [← ef]
    exact F
  refine ⟨fd, fun s v => F2.bindsA (ps := (["_law_script"] : List Str)) hb s [v] rfl, fun base KB GB => ?_⟩
  exact DP.FnOk.to0 (fn_law (k := 19) (ps := (["_law_script"] : List Str)) (tab X Gn c ce) (N := ["_law_script", "_law_k", "_law_state_here", "_law_turn", "_law_thing", "_law_found", "_law_space_here", "_law_row_here"]) (hi := ⟨[], ["_law_state_here"], [], [], []⟩) (fuel := 60) DB.g_law_k11 F2 (fnSc_by (by decide +kernel)) rfl (by kernel_rfl))
end Hd
open PySem PySem.W PySem.Calls PyProof.Rows
theorem PySem.Challenge.cw_fewspaces_k11_spaces_and_rows_looked_at_holds : PySem.Challenge.rw_fewspaces_k11_spaces_and_rows_looked_at.Holds := by
  w_on; o_law
  refine HandSHeadRun.head_any (r := OpenLaw.row PySem.Challenge.rw_fewspaces_k11_spaces_and_rows_looked_at) (q := view (OpenLaw.row PySem.Challenge.rw_fewspaces_k11_spaces_and_rows_looked_at).prog [22]) (H := Hd.hk) (ob := Hd.ob) (M := 4000) (loose := Hd.loose) (d := HandSHeadRun.topDef (OpenLaw.row PySem.Challenge.rw_fewspaces_k11_spaces_and_rows_looked_at).prog 22) (kwd := []) Hd.ob_eq
    (by kernel_rfl) (fun s => by kernel_rfl) Hd.run (by kernel_rfl) (by kernel_rfl) (by kernel_rfl) (by rfl) (by first | assumption | decide +kernel) (by decide +kernel) ⟨rfl, rfl, rfl, rfl, rfl, by decide +kernel⟩ ?hw ?hc
  case hw => w_witness2
  case hc =>
    refine L2.walk_ofE (l := PySem.Challenge.rw_fewspaces_k11_spaces_and_rows_looked_at) (n := 63) (k := 20) (x := "_law_script") (CX := L2.CX0) rfl (by decide) (by kernel_rfl) ⟨rfl, by decide, by decide⟩ ?F (fun _ _ _ _ z => z)
    intro w mg fa h Y G hmg0
    obtain ⟨K, KX, c⟩ := Y
    have hmg : mg ("law" : PySem.Str) = some (.ref fa) := by
      have e : (HandSHeadRun.topDef (OpenLaw.row PySem.Challenge.rw_fewspaces_k11_spaces_and_rows_looked_at).prog 22).name = ("law" : PySem.Str) := by kernel_rfl
      rw [← e]
      exact hmg0
    obtain ⟨fd, hb, hF⟩ := Hd.facts (P := (PySem.Challenge.rw_fewspaces_k11_spaces_and_rows_looked_at).prog) (w := w) KX G hmg c.t.d c.more
    exact ⟨K, fd, _, KX, hb, fun H a ns hl hO hS => DP.law_sp Hd.goal H a ns hl hO hS, hF⟩

end
