import PyProof.Rows.All
import Wide.All
import OpenK.AllK
import Wide.FinOn
import KE.DataEq
import KE.DataCmp
import KE.DataIsa
import KE.DataAny
import KE.SortData
import HandS.ForMost
import HandS.Conv
import HandS.TupAny
import HandS.TupMul
import HandS.IsInst
import HandS.Flow
import HandS.Zip
import HandS.Style
import HandS.Defaults
import HandS.Lambda
import HandS.WordsExc
import HandS.CallSlots
import HandS.ExcOwn
import KE.GoesMore
import HandS.NoneIn
import HandS.HeadEnd
import HandS.HeadHook1
import HandS.HeadHook2
import KE.KStateDown
import Lean
import HandS.Base
import HandS.Call
import HandS.Ends
import HandS.More
import HandS.Words
import HandS.Head0
import HandS.Head1
import HandS.Head2
import PySem.Challenge.RW_fewspaces_k23_whole_joined_and_met
section
set_option Elab.async false
set_option linter.all false
set_option maxRecDepth 100000
set_option autoImplicit false
/-! D1: a data layer over the hand layer: values that read as data, slots that hold data, owned lists and the drawing state. -/
namespace DP
open PySem PySem.Spec PyProof.Rows L2

/-! ### values that are data in an abstract heap -/
mutual
inductive Rp (H : Hp) : V → PyData → Prop
  | non : Rp H .non .none
  | bl (b : Bool) : Rp H (.bl b) (.bool b)
  | int (i : Int) : Rp H (.int i) (.int i)
  | str (x : Str) : Rp H (.str x) (.str x)
  | lst {a : Addr} {xs : List V} {ds : List PyData} : Rd H a (.lst xs) → xs.length ≤ sizeLine → RpA H xs ds → Rp H (.ref a) (.list ds)
  | tup {a : Addr} {xs : List V} {ds : List PyData} : H a = some (.tup xs) → xs.length ≤ sizeLine → RpA H xs ds → Rp H (.ref a) (.tuple ds)
  | dct {a : Addr} : H a = some (.dK []) → Rp H (.ref a) (.dict [])
inductive RpA (H : Hp) : List V → List PyData → Prop
  | nil : RpA H [] []
  | cons {v : V} {vs : List V} {d : PyData} {ds : List PyData} : Rp H v d → RpA H vs ds → RpA H (v :: vs) (d :: ds)
end
theorem Rd.mono {H H' : Hp} (s : Same H H') {a : Addr} {o : HO} (h : Rd H a o) : Rd H' a o := by
  rcases h with h | ⟨u, h⟩
  · exact .inl (s _ _ h)
  · exact .inr ⟨u, s _ _ h⟩
mutual
theorem Rp.mono {H H' : Hp} (s : Same H H') : ∀ (d : PyData) (v : V), Rp H v d → Rp H' v d
  | .none, _, h => by cases h; exact .non
  | .bool _, _, h => by cases h; exact .bl _
  | .int _, _, h => by cases h; exact .int _
  | .str _, _, h => by cases h; exact .str _
  | .list ds, _, h => by
    cases h with
    | lst a b c => exact .lst (Rd.mono s a) b (RpA.mono s ds _ c)
  | .tuple ds, _, h => by
    cases h with
    | tup a b c => exact .tup (s _ _ a) b (RpA.mono s ds _ c)
  | .dict _, _, h => by
    cases h with
    | dct a => exact .dct (s _ _ a)
theorem RpA.mono {H H' : Hp} (s : Same H H') : ∀ (ds : List PyData) (vs : List V), RpA H vs ds → RpA H' vs ds
  | [], _, h => by cases h; exact .nil
  | d :: ds, _, h => by
    cases h with
    | cons a b => exact .cons (Rp.mono s d _ a) (RpA.mono s ds _ b)
end
theorem Rp.up {H H' : Hp} {v : V} {d : PyData} (h : Rp H v d) (s : Same H H') : Rp H' v d := Rp.mono s d v h
theorem RpA.up {H H' : Hp} {v : List V} {d : List PyData} (h : RpA H v d) (s : Same H H') : RpA H' v d := RpA.mono s d v h
theorem RpA.length {H : Hp} : ∀ {vs : List V} {ds : List PyData}, RpA H vs ds → vs.length = ds.length
  | _, _, .nil => rfl
  | _, _, .cons _ t => by rw [List.length_cons, List.length_cons, RpA.length t]
theorem RpA.append {H : Hp} : ∀ {vs ws : List V} {ds es : List PyData}, RpA H vs ds → RpA H ws es → RpA H (vs ++ ws) (ds ++ es)
  | _, _, _, _, .nil, s => s
  | _, _, _, _, .cons r t, s => .cons r (RpA.append t s)
theorem RpA.get {H : Hp} : ∀ {vs : List V} {ds : List PyData} {i : Nat} {d : PyData}, RpA H vs ds → ds[i]? = some d → ∃ v, vs[i]? = some v ∧ Rp H v d
  | _, _, _, _, .nil, e => by simp at e
  | _, _, 0, _, .cons r _, e => by simp at e; subst e; exact ⟨_, rfl, r⟩
  | _, _, i + 1, d, .cons _ t, e => by
    obtain ⟨u, h1, h2⟩ := RpA.get (i := i) (d := d) t (by simpa using e)
    exact ⟨u, by simpa using h1, h2⟩
theorem RpA.getV {H : Hp} : ∀ {vs : List V} {ds : List PyData} {i : Nat} {v : V}, RpA H vs ds → vs[i]? = some v → ∃ d, ds[i]? = some d ∧ Rp H v d
  | _, _, _, _, .nil, e => by simp at e
  | _, _, 0, _, .cons r _, e => by simp at e; subst e; exact ⟨_, rfl, r⟩
  | _, _, i + 1, d, .cons _ t, e => by
    obtain ⟨u, h1, h2⟩ := RpA.getV (i := i) t (by simpa using e)
    exact ⟨u, by simpa using h1, h2⟩
theorem RpA.take {H : Hp} : ∀ {vs : List V} {ds : List PyData} (n : Nat), RpA H vs ds → RpA H (vs.take n) (ds.take n)
  | _, _, 0, _ => .nil
  | _, _, _ + 1, .nil => .nil
  | _, _, n + 1, .cons r t => .cons r (RpA.take n t)
theorem RpA.drop {H : Hp} : ∀ {vs : List V} {ds : List PyData} (n : Nat), RpA H vs ds → RpA H (vs.drop n) (ds.drop n)
  | _, _, 0, r => r
  | _, _, _ + 1, .nil => .nil
  | _, _, n + 1, .cons _ t => RpA.drop n t
theorem RpA.reverse {H : Hp} : ∀ {vs : List V} {ds : List PyData}, RpA H vs ds → RpA H vs.reverse ds.reverse
  | _, _, .nil => .nil
  | _, _, .cons r t => by
    rw [List.reverse_cons, List.reverse_cons]
    exact RpA.append (RpA.reverse t) (.cons r .nil)
theorem RpA.replicate {H : Hp} {vs : List V} {ds : List PyData} (h : RpA H vs ds) : ∀ n : Nat, RpA H (List.replicate n vs).flatten (List.replicate n ds).flatten
  | 0 => .nil
  | n + 1 => by
    rw [List.replicate_succ, List.replicate_succ, List.flatten_cons, List.flatten_cons]
    exact h.append (RpA.replicate h n)
section
variable {X : Cx} {pins : List (Addr × Obj)} {σ : L2.St} {H : Hp} {s : Shared}
theorem lstR (I : Inv X pins σ H s) {a : Addr} {xs : List V} (h : Rd H a (.lst xs)) : ∃ (its : List Value) (n : Nat), xs.length ≤ sizeLine ∧ Vals xs its ∧ s.heap.get? a = some { cls := .type "list", data := .seq its.toArray n } := by
  obtain ⟨z, its, n, r, e⟩ := h.ok I.hok
  exact ⟨its, n, z, r, e⟩
theorem tupR (I : Inv X pins σ H s) {a : Addr} {xs : List V} (h : H a = some (.tup xs)) : ∃ its : List Value, xs.length ≤ sizeLine ∧ Vals xs its ∧ IsTup s.heap a its.toArray := by
  obtain ⟨z, its, r, e⟩ := I.hok a _ h
  exact ⟨its, z, r, e⟩
mutual
theorem Rp.reads (I : Inv X pins σ H s) : ∀ (d : PyData) (v : V) (u : Value), Rp H v d → RelV v u → ∃ as, Reads s.heap u d as
  | .none, _, _, h, r => by
    cases h
    cases r
    exact ⟨_, Reads.none⟩
  | .bool b, _, _, h, r => by
    cases h
    cases r
    exact ⟨_, Reads.bool b⟩
  | .int i, _, _, h, r => by
    cases h
    obtain ⟨t, rfl⟩ := r
    exact ⟨_, Reads.int i t⟩
  | .str x, _, _, h, r => by
    cases h
    obtain ⟨t, rfl⟩ := r
    exact ⟨_, Reads.str x t⟩
  | .list ds, _, _, h, r => by
    cases h with
    | lst hs hl ha =>
      cases r
      obtain ⟨its, n, _, rv, ho⟩ := lstR I hs
      obtain ⟨as, hr⟩ := Rp.readsAll I ds _ its ha rv
      exact ⟨_, Reads.list ho rfl rfl hr⟩
  | .tuple ds, _, _, h, r => by
    cases h with
    | tup hs hl ha =>
      cases r
      obtain ⟨its, _, rv, ⟨o, ho, hc, n, hd⟩⟩ := tupR I hs
      obtain ⟨as, hr⟩ := Rp.readsAll I ds _ its ha rv
      exact ⟨_, Reads.tuple ho hc hd hr⟩
  | .dict _, _, _, h, r => by
    cases h with
    | dct ha =>
      cases r
      obtain ⟨_, _, vs, kv, o, es, ep, h1, h2, h3, h4, h5, h6⟩ := (show ObjOk X.prog X.w H s.heap _ (.dK []) from I.hok _ _ ha)
      have e0 : vs = [] := by
        cases kv
        rfl
      subst e0
      have e1 : es.toList = [] := by
        generalize es.toList = l at h5
        cases h5
        rfl
      refine ⟨_, Reads.dict (kvs := []) (as := []) (bs := []) h1 h2.1 h3 ?_ ?_⟩
      · rw [e1]; exact ReadsAll.nil
      · rw [e1]; exact ReadsAll.nil
theorem Rp.readsAll (I : Inv X pins σ H s) : ∀ (ds : List PyData) (vs : List V) (us : List Value), RpA H vs ds → Vals vs us → ∃ as, ReadsAll s.heap us ds as
  | [], _, _, h, r => by
    cases h
    cases r
    exact ⟨_, ReadsAll.nil⟩
  | d :: ds, _, _, h, r => by
    cases h with
    | cons h1 h2 =>
      cases r with
      | cons r1 r2 =>
        obtain ⟨as, q1⟩ := Rp.reads I d _ _ h1 r1
        obtain ⟨bs, q2⟩ := Rp.readsAll I ds _ _ h2 r2
        exact ⟨_, ReadsAll.cons q1 q2⟩
end
end
/-! ### a heap without some addresses -/
def hd (H : Hp) (O : List Addr) : Hp := fun a => if a ∈ O then none else H a
theorem hd_out {H : Hp} {O : List Addr} {a : Addr} (h : a ∉ O) : hd H O a = H a := by unfold hd; rw [if_neg h]
theorem hd_in {H : Hp} {O : List Addr} {a : Addr} (h : a ∈ O) : hd H O a = none := by unfold hd; rw [if_pos h]
theorem hd_some {H : Hp} {O : List Addr} {a : Addr} {o : HO} (h : hd H O a = some o) : a ∉ O ∧ H a = some o := by
  by_cases q : a ∈ O
  · rw [hd_in q] at h; cases h
  · rw [hd_out q] at h; exact ⟨q, h⟩
theorem hd_nil (H : Hp) : hd H [] = H := by
  funext a
  exact hd_out (by simp)
theorem hd_same (H : Hp) (O : List Addr) : Same (hd H O) H := fun _ _ h => (hd_some h).2
theorem hd_sub {H : Hp} {O O' : List Addr} (h : ∀ a, a ∈ O' → a ∈ O) : Same (hd H O) (hd H O') := fun a o e => by
  obtain ⟨h1, h2⟩ := hd_some e
  rw [hd_out fun z => h1 (h a z)]
  exact h2
theorem hd_mono {H H' : Hp} {O : List Addr} (h : ∀ a o, a ∉ O → H a = some o → H' a = some o) : Same (hd H O) (hd H' O) := fun a o e => by
  obtain ⟨h1, h2⟩ := hd_some e
  rw [hd_out h1]
  exact h a o h1 h2
theorem same_hd {H H' : Hp} {O : List Addr} (s : Same H H') : Same (hd H O) (hd H' O) := hd_mono fun a o _ e => s a o e
theorem same_new {H : Hp} {p : Addr} {o : HO} (h : H p = none) : Same H (upd H p o) := fun b x e => by
  rw [upd_ne (ne_of_none e h)]
  exact e
/-! ### what a slot holds -/
/-- what may change: an owned list, an owned dict, the drawing state -/
inductive MO where
  | lst (xs : List PyData)
  | dct (kvs : List (PyData × PyData))
  | st
inductive SV where
  | d (x : PyData)
  | m (o : MO)
  | scr (ns : List Int)
abbrev SEnv := List (Option SV)
/-- the same with addresses -/
inductive DV where
  | d (x : PyData)
  | m (a : Addr) (o : MO)
  | scr (a : Addr) (ns : List Int)
abbrev DEnv := List (Option DV)
def DV.er : DV → SV
  | .d x => .d x
  | .m _ o => .m o
  | .scr _ ns => .scr ns
def er (r : DEnv) : SEnv := r.map (Option.map DV.er)
theorem er_len (r : DEnv) : (er r).length = r.length := by unfold er; rw [List.length_map]
theorem er_set (r : DEnv) (i : Nat) (x : Option DV) : er (r.set i x) = (er r).set i (x.map DV.er) := by unfold er; rw [List.map_set]
theorem er_get (r : DEnv) (i : Nat) : (er r)[i]? = (r[i]?).map (Option.map DV.er) := by unfold er; rw [List.getElem?_map]
theorem er_d {r : DEnv} {i : Nat} {x : PyData} (h : (er r)[i]? = some (some (.d x))) : r[i]? = some (some (.d x)) := by
  rw [er_get] at h
  cases q : r[i]? with
  | none => rw [q] at h; cases h
  | some o =>
    rw [q] at h
    cases o with
    | none => cases h
    | some y =>
      cases y with
      | d z => cases h; rfl
      | m a o => cases h
      | scr a ns => cases h
theorem er_m {r : DEnv} {i : Nat} {o : MO} (h : (er r)[i]? = some (some (.m o))) : ∃ a, r[i]? = some (some (.m a o)) := by
  rw [er_get] at h
  cases q : r[i]? with
  | none => rw [q] at h; cases h
  | some u =>
    rw [q] at h
    cases u with
    | none => cases h
    | some y =>
      cases y with
      | d z => cases h
      | m a o => cases h; exact ⟨a, rfl⟩
      | scr a ns => cases h
theorem er_scr {r : DEnv} {i : Nat} {ns : List Int} (h : (er r)[i]? = some (some (.scr ns))) : ∃ a, r[i]? = some (some (.scr a ns)) := by
  rw [er_get] at h
  cases q : r[i]? with
  | none => rw [q] at h; cases h
  | some u =>
    rw [q] at h
    cases u with
    | none => cases h
    | some y =>
      cases y with
      | d z => cases h
      | m a o => cases h
      | scr a ns => cases h; exact ⟨a, rfl⟩
def adr : DV → Option Addr
  | .m a _ => some a
  | _ => none
def oA (r : DEnv) : List Addr := r.filterMap fun x => x.bind adr
theorem mem_oA {a : Addr} {r : DEnv} : a ∈ oA r ↔ ∃ (i : Nat) (o : MO), r[i]? = some (some (.m a o)) := by
  unfold oA
  rw [List.mem_filterMap]
  constructor
  · rintro ⟨x, hx, e⟩
    obtain ⟨i, hi⟩ := List.mem_iff_getElem?.mp hx
    cases x with
    | none => cases e
    | some y =>
      cases y with
      | d z => cases e
      | scr b ns => cases e
      | m b o =>
        have e' : some b = some a := e
        cases e'
        exact ⟨i, o, hi⟩
  · rintro ⟨i, o, h⟩
    exact ⟨_, List.mem_iff_getElem?.mpr ⟨i, h⟩, rfl⟩
/-- the drawing state: a list of a number and a truth -/
def StOk (H : Hp) (a : Addr) : Prop := ∃ (x : Int) (b : Bool), H a = some (.lst [.int x, .bl b]) ∧ 0 ≤ x ∧ (b = false → x < 2147483647)
theorem StOk.ne {H : Hp} {a : Addr} (h : StOk H a) : H a ≠ none := by
  obtain ⟨x, b, e, _⟩ := h
  rw [e]
  simp
theorem StOk.keep {H H' : Hp} {a : Addr} (h : StOk H a) (k : ∀ o, H a = some o → H' a = some o) : StOk H' a := by
  obtain ⟨x, b, e, q⟩ := h
  exact ⟨x, b, k _ e, q⟩
/-- objects that callers share: drawing states, tables of code objects -/
inductive SK where
  | dr
  | tab (q : Str)
def SInv (H : Hp) : Addr × SK → Prop
  | (a, .dr) => StOk H a
  | (a, .tab q) => LamX.TabS H a q
theorem SInv.obj {H : Hp} {s : Addr × SK} (h : SInv H s) : (∃ vs, H s.1 = some (.lst vs)) ∨ ∃ ps, H s.1 = some (.tbl ps) := by
  obtain ⟨a, k⟩ := s
  cases k with
  | dr =>
    obtain ⟨x, b, e, _⟩ := (show StOk H a from h)
    exact .inl ⟨_, e⟩
  | tab q =>
    obtain ⟨ps, e, _⟩ := (show LamX.TabS H a q from h)
    exact .inr ⟨ps, e⟩
theorem SInv.ne {H : Hp} {s : Addr × SK} (h : SInv H s) : H s.1 ≠ none := by
  rcases h.obj with ⟨vs, e⟩ | ⟨ps, e⟩ <;> (rw [e]; simp)
theorem SInv.mono {H H' : Hp} {s : Addr × SK} (h : SInv H s) (k : Same H H') : SInv H' s := by
  obtain ⟨a, t⟩ := s
  cases t with
  | dr => exact StOk.keep (show StOk H a from h) fun o e => k _ _ e
  | tab q => exact LamX.TabS.ext (show LamX.TabS H a q from h) k
/-- an object that is no code object is changed elsewhere -/
theorem SInv.upd {H : Hp} {s : Addr × SK} {a : Addr} {o u : HO} (h : SInv H s) (e : H a = some o) (n : ∀ φ, o ≠ .ext φ) (ne : s.1 ≠ a) : SInv (upd H a u) s := by
  obtain ⟨b, t⟩ := s
  cases t with
  | dr => exact StOk.keep (show StOk H b from h) fun o e => by rw [upd_ne ne]; exact e
  | tab q =>
    obtain ⟨ps, h1, h2, h3⟩ := (show LamX.TabS H b q from h)
    refine ⟨ps, by rw [upd_ne ne]; exact h1, h2, fun pos cv hc => ?_⟩
    obtain ⟨c, e1, e2⟩ := h3 pos cv hc
    refine ⟨c, e1, ?_⟩
    rw [upd_ne]
    · exact e2
    · rintro rfl
      rw [e] at e2
      have e3 := Option.some.inj e2
      unfold LamX.CodeO at e3
      exact n _ e3
def kD : Key → PyData
  | .inl i => .int i
  | .inr x => .str x
/-- a dict whose keys are tuples of numbers and texts -/
inductive DctR (H : Hp) : List (List Key × V) → List (PyData × PyData) → Prop
  | nil : DctR H [] []
  | cons {k : List Key} {v : V} {d : PyData} {ks : List (List Key × V)} {kvs : List (PyData × PyData)} : Rp H v d → DctR H ks kvs → DctR H ((k, v) :: ks) ((.tuple (k.map kD), d) :: kvs)
theorem DctR.up {H H' : Hp} {ks : List (List Key × V)} {kvs : List (PyData × PyData)} (h : DctR H ks kvs) (s : Same H H') : DctR H' ks kvs := by
  induction h with
  | nil => exact .nil
  | cons a _ ih => exact .cons (a.up s) ih
def MOk (H : Hp) (Os : List Addr) (a : Addr) : MO → Prop
  | .lst xs => ∃ vs, H a = some (.lst vs) ∧ vs.length ≤ sizeLine ∧ RpA (hd H Os) vs xs
  | .dct kvs => ∃ ks, H a = some (.dT ks) ∧ ks.length ≤ sizeLine ∧ DctR (hd H Os) ks kvs
  | .st => StOk H a
theorem MOk.keep {H H' : Hp} {Os Os' : List Addr} {a : Addr} {o : MO} (h : MOk H Os a o) (k : ∀ u, H a = some u → H' a = some u) (s : Same (hd H Os) (hd H' Os')) : MOk H' Os' a o := by
  cases o with
  | lst xs =>
    obtain ⟨vs, h1, h2, h3⟩ := h
    exact ⟨vs, k _ h1, h2, h3.up s⟩
  | dct kvs =>
    obtain ⟨vs, h1, h2, h3⟩ := h
    exact ⟨vs, k _ h1, h2, h3.up s⟩
  | st => exact StOk.keep h k
theorem MOk.ne {H : Hp} {Os : List Addr} {a : Addr} {o : MO} (h : MOk H Os a o) : H a ≠ none := by
  cases o with
  | lst xs => obtain ⟨vs, h1, _⟩ := h; rw [h1]; simp
  | dct xs => obtain ⟨vs, h1, _⟩ := h; rw [h1]; simp
  | st => exact StOk.ne h
theorem MOk.noext {H : Hp} {Os : List Addr} {a : Addr} {o : MO} (h : MOk H Os a o) : ∃ u, H a = some u ∧ ∀ φ, u ≠ .ext φ := by
  cases o with
  | lst xs => obtain ⟨vs, h1, _⟩ := h; exact ⟨_, h1, fun φ z => by cases z⟩
  | dct xs => obtain ⟨vs, h1, _⟩ := h; exact ⟨_, h1, fun φ z => by cases z⟩
  | st => obtain ⟨x, b, h1, _⟩ := h; exact ⟨_, h1, fun φ z => by cases z⟩
/-- the script -/
def ScrOk (K : PySem.W.Frag) (H : Hp) (a : Addr) (ns : List Int) : Prop := (∃ o, H a = some (.frz o (.lst (ns.map V.int)))) ∨
  ∃ (o : Obj) (its : Array Value) (n : Nat), K.lookup a = some o ∧ o.cls = .type "list" ∧ o.dict = none ∧ o.data = .seq its n ∧ its.size ≤ sizeLine ∧ Vals (ns.map V.int) its.toList
theorem ScrOk.sq {K : PySem.W.Frag} {H : Hp} {a : Addr} {ns : List Int} (h : ScrOk K H a ns) : SqL K H a (ns.map V.int) := by
  rcases h with ⟨o, h⟩ | h
  · exact .inl (.inr ⟨o, h⟩)
  · exact .inr h
theorem ScrOk.keep {K : PySem.W.Frag} {H H' : Hp} {a : Addr} {ns : List Int} (h : ScrOk K H a ns) (k : ∀ o u, H a = some (.frz o u) → H' a = some (.frz o u)) : ScrOk K H' a ns := by
  rcases h with ⟨o, h⟩ | h
  · exact .inl ⟨o, k _ _ h⟩
  · exact .inr h
structure Cfg where
  K : PySem.W.Frag
  n : Nat
  O : List Addr
  H_0 : Hp
  S : List (Addr × SK)
def RepV (K : PySem.W.Frag) (H : Hp) (Os : List Addr) : V → DV → Prop
  | v, .d x => Rp (hd H Os) v x
  | v, .m a o => v = .ref a ∧ MOk H Os a o
  | v, .scr a ns => v = .ref a ∧ ScrOk K H a ns
/-- the shared objects: the callers', the drawing states of the slots -/
def sA (r : DEnv) : List (Addr × SK) := r.filterMap fun x => match x with
  | some (.m a .st) => some (a, .dr)
  | _ => none
theorem mem_sA {s : Addr × SK} {r : DEnv} : s ∈ sA r ↔ s.2 = .dr ∧ ∃ i : Nat, r[i]? = some (some (.m s.1 .st)) := by
  unfold sA
  rw [List.mem_filterMap]
  obtain ⟨a, k⟩ := s
  constructor
  · rintro ⟨x, hx, e⟩
    obtain ⟨i, hi⟩ := List.mem_iff_getElem?.mp hx
    split at e
    · cases e
      exact ⟨rfl, i, hi⟩
    · cases e
  · rintro ⟨e, i, h⟩
    have e' : k = .dr := e
    subst e'
    exact ⟨_, List.mem_iff_getElem?.mpr ⟨i, h⟩, rfl⟩
def sh (C : Cfg) (r : DEnv) : List (Addr × SK) := C.S ++ sA r
def Shared_ (C : Cfg) (r : DEnv) (a : Addr) : Prop := ∃ k, (a, k) ∈ sh C r
structure RepE (C : Cfg) (σ : L2.St) (H : Hp) (r : DEnv) : Prop where
  lenS : σ.length = C.n
  len : r.length = C.n
  slot : ∀ (i : Nat) (x : DV), r[i]? = some (some x) → ∃ v, σ[i]? = some (some v) ∧ RepV C.K H (C.O ++ oA r) v x
  sep : ∀ (i : Nat) (a : Addr) (o : MO), r[i]? = some (some (.m a o)) → o ≠ .st → a ∉ C.O ∧ ∀ (j : Nat) (y : DV), j ≠ i → r[j]? = some (some y) → adr y ≠ some a
  dom : ∀ a ∈ C.O, H a ≠ none
  ext : ∀ a o, (∀ k, (a, k) ∉ C.S) → C.H_0 a = some o → H a = some o
  ownf : ∀ (i : Nat) (a : Addr) (o : MO), r[i]? = some (some (.m a o)) → o ≠ .st → C.H_0 a = none
  stf : ∀ (i : Nat) (a : Addr), r[i]? = some (some (.m a .st)) → (a, .dr) ∈ C.S ∨ (C.H_0 a = none ∧ a ∉ C.O)
  sto : ∀ s ∈ C.S, SInv H s
  szo : ∀ s ∈ C.S, s.1 ∈ C.O ∧ C.H_0 s.1 ≠ none
/-- how the heap may change while an expression is evaluated -/
def Gr (C : Cfg) (r : DEnv) (H H' : Hp) : Prop := (∀ a o, (∀ k, (a, k) ∉ sh C r) → H a = some o → H' a = some o) ∧ ∀ s ∈ sh C r, SInv H' s
section
variable {C : Cfg} {σ : L2.St} {H H' H1 H2 : Hp} {r : DEnv}
theorem RepE.shI (R : RepE C σ H r) : ∀ s ∈ sh C r, SInv H s := fun s hs => by
  rcases List.mem_append.mp hs with h | h
  · exact R.sto s h
  · obtain ⟨e, i, q⟩ := mem_sA.mp h
    obtain ⟨v, _, _, z⟩ := R.slot i _ q
    obtain ⟨a, k⟩ := s
    have e' : k = .dr := e
    subst e'
    exact z
theorem Gr.of_same (R : RepE C σ H r) (s : Same H H') : Gr C r H H' := ⟨fun a o _ e => s a o e, fun x hx => (R.shI x hx).mono s⟩
theorem Gr.refl (R : RepE C σ H r) : Gr C r H H := Gr.of_same R (Same.refl H)
theorem Gr.trans (a : Gr C r H H1) (b : Gr C r H1 H2) : Gr C r H H2 := ⟨fun x o n e => b.1 x o n (a.1 x o n e), b.2⟩
theorem Gr.then_same (a : Gr C r H H1) (b : Same H1 H2) : Gr C r H H2 := ⟨fun x o n e => b x o (a.1 x o n e), fun x h => (a.2 x h).mono b⟩
/-- shared addresses are among those that data don't name -/
theorem RepE.shO (R : RepE C σ H r) {a : Addr} {k : SK} (h : (a, k) ∈ sh C r) : a ∈ C.O ++ oA r := by
  rcases List.mem_append.mp h with h | h
  · exact List.mem_append_left _ (R.szo _ h).1
  · obtain ⟨_, i, q⟩ := mem_sA.mp h
    exact List.mem_append_right _ (mem_oA.mpr ⟨i, _, q⟩)
theorem Gr.hd (R : RepE C σ H r) (g : Gr C r H H') : Same (DP.hd H (C.O ++ oA r)) (DP.hd H' (C.O ++ oA r)) := hd_mono fun a o ho e => g.1 a o (fun k z => ho (R.shO z)) e
/-- an owned object is not shared -/
theorem RepE.ownN (R : RepE C σ H r) {i : Nat} {a : Addr} {o : MO} (e : r[i]? = some (some (.m a o))) (n : o ≠ .st) : ∀ k, (a, k) ∉ sh C r := fun k h => by
  rcases List.mem_append.mp h with h | h
  · exact (R.sep i a o e n).1 (R.szo _ h).1
  · obtain ⟨_, j, q⟩ := mem_sA.mp h
    by_cases hj : j = i
    · subst hj
      rw [e] at q
      cases q
      exact n rfl
    · exact (R.sep i a o e n).2 j _ hj q rfl
theorem RepE.keepM (R : RepE C σ H r) (g : Gr C r H H') {i : Nat} {a : Addr} {o : MO} (e : r[i]? = some (some (.m a o))) : MOk H' (C.O ++ oA r) a o := by
  obtain ⟨v, _, _, z⟩ := R.slot i _ e
  by_cases n : o = .st
  · subst n
    exact g.2 (a, .dr) (List.mem_append_right _ (mem_sA.mpr ⟨rfl, i, e⟩))
  · exact z.keep (fun u q => g.1 a u (R.ownN e n) q) (g.hd R)
theorem RepE.grow (R : RepE C σ H r) (g : Gr C r H H') : RepE C σ H' r where
  lenS := R.lenS
  len := R.len
  slot := fun i x e => by
    obtain ⟨v, h1, h2⟩ := R.slot i x e
    refine ⟨v, h1, ?_⟩
    cases x with
    | d y => exact Rp.up h2 (g.hd R)
    | m a o => exact ⟨h2.1, R.keepM g e⟩
    | scr a ns =>
      refine ⟨h2.1, h2.2.keep fun o u q => g.1 a _ (fun k z => ?_) q⟩
      rcases (R.shI _ z).obj with ⟨vs, w⟩ | ⟨ps, w⟩
      · rw [q] at w; cases w
      · rw [q] at w; cases w
  sep := R.sep
  dom := fun a ha => by
    by_cases h : ∃ k, (a, k) ∈ sh C r
    · obtain ⟨k, h⟩ := h
      exact (g.2 _ h).ne
    · intro z
      cases q : H a with
      | none => exact R.dom a ha q
      | some o => rw [g.1 a o (fun k z => h ⟨k, z⟩) q] at z; cases z
  ext := fun a o hn e => by
    refine g.1 a o (fun k z => ?_) (R.ext a o hn e)
    rcases List.mem_append.mp z with h | h
    · exact hn k h
    · obtain ⟨_, j, q⟩ := mem_sA.mp h
      rcases R.stf j a q with w | ⟨w, _⟩
      · exact hn _ w
      · rw [w] at e; cases e
  ownf := R.ownf
  stf := R.stf
  sto := fun s hs => g.2 s (List.mem_append_left _ hs)
  szo := R.szo
theorem RepE.domA (R : RepE C σ H r) : ∀ a ∈ C.O ++ oA r, H a ≠ none := fun a ha => by
  rcases List.mem_append.mp ha with h | h
  · exact R.dom a h
  · obtain ⟨i, o, e⟩ := mem_oA.mp h
    obtain ⟨v, _, _, z⟩ := R.slot i _ e
    exact z.ne
theorem RepE.fresh (R : RepE C σ H r) {p : Addr} (h : H p = none) : p ∉ C.O ++ oA r := fun z => R.domA p z h
theorem RepE.h0 (R : RepE C σ H r) {a : Addr} (h : H a = none) : C.H_0 a = none := by
  cases q : C.H_0 a with
  | none => rfl
  | some o =>
    have hs : ∀ k, (a, k) ∉ C.S := fun k z => (R.sto _ z).ne h
    rw [R.ext a o hs q] at h
    cases h
/-- what stood at the entry, outside of O, is data still -/
theorem RepE.base (R : RepE C σ H r) : Same (DP.hd C.H_0 C.O) (DP.hd H (C.O ++ oA r)) := fun a o e => by
  obtain ⟨h1, h2⟩ := hd_some e
  have hs : ∀ k, (a, k) ∉ C.S := fun k z => h1 (R.szo _ z).1
  have h3 := R.ext a o hs h2
  rw [hd_out]
  · exact h3
  · intro z
    rcases List.mem_append.mp z with z | z
    · exact h1 z
    · obtain ⟨i, y, e'⟩ := mem_oA.mp z
      by_cases n : y = .st
      · subst n
        rcases R.stf i a e' with w | w
        · exact hs _ w
        · rw [w.1] at h2; cases h2
      · rw [R.ownf i a y e' n] at h2; cases h2
theorem Gr.none (R : RepE C σ H r) (g : Gr C r H H') {p : Addr} (h : H' p = none) : H p = none := by
  by_cases z : ∃ k, (p, k) ∈ sh C r
  · obtain ⟨k, z⟩ := z
    exact absurd h (g.2 _ z).ne
  · cases q : H p with
    | none => rfl
    | some o => rw [g.1 p o (fun k w => z ⟨k, w⟩) q] at h; cases h
/-- the same from here on: what stands now stays, but for what may change -/
def Cfg.at (C : Cfg) (H : Hp) (r : DEnv) : Cfg := { C with H_0 := fun a => if a ∈ oA r ∧ a ∉ C.S.map Prod.fst then none else H a }
theorem notS {a : Addr} : a ∉ C.S.map Prod.fst ↔ ∀ k, (a, k) ∉ C.S := by
  constructor
  · intro h k z
    exact h (List.mem_map.mpr ⟨_, z, rfl⟩)
  · intro h z
    obtain ⟨⟨b, k⟩, z', e⟩ := List.mem_map.mp z
    have e' : b = a := e
    subst e'
    exact h k z'
theorem at_eq (a : Addr) : (C.at H r).H_0 a = if a ∈ oA r ∧ a ∉ C.S.map Prod.fst then none else H a := rfl
theorem at_out {a : Addr} (h : a ∉ oA r) : (C.at H r).H_0 a = H a := by
  rw [at_eq, if_neg fun z => h z.1]
theorem at_sh {a : Addr} {k : SK} (h : (a, k) ∈ C.S) : (C.at H r).H_0 a = H a := by
  rw [at_eq, if_neg fun z => notS.mp z.2 k h]
theorem at_own {a : Addr} (h : a ∈ oA r) (n : ∀ k, (a, k) ∉ C.S) : (C.at H r).H_0 a = Option.none := by
  rw [at_eq, if_pos ⟨h, notS.mpr n⟩]
theorem RepE.toAt (R : RepE C σ H r) : RepE (C.at H r) σ H r where
  lenS := R.lenS
  len := R.len
  slot := R.slot
  sep := R.sep
  dom := R.dom
  ext := fun a o _ e => by
    by_cases h : a ∈ oA r ∧ a ∉ C.S.map Prod.fst
    · rw [at_own h.1 (notS.mp h.2)] at e; cases e
    · have z : (C.at H r).H_0 a = H a := by
        rw [at_eq, if_neg h]
      rw [← z]
      exact e
  ownf := fun i a o e n => at_own (mem_oA.mpr ⟨i, o, e⟩) fun k z => (R.sep i a o e n).1 (R.szo _ z).1
  stf := fun i a e => by
    rcases R.stf i a e with h | h
    · exact .inl h
    · exact .inr ⟨at_own (mem_oA.mpr ⟨i, _, e⟩) fun k z => h.2 (R.szo _ z).1, h.2⟩
  sto := R.sto
  szo := fun s hs => ⟨(R.szo s hs).1, by
    rw [at_sh (C := C) (k := s.2) hs]
    exact (R.sto s hs).ne⟩
theorem RepE.at_ge (R : RepE C σ H r) {a : Addr} {o : HO} (hs : ∀ k, (a, k) ∉ C.S) (e : C.H_0 a = some o) : (C.at H r).H_0 a = some o := by
  rw [at_out]
  · exact R.ext a o hs e
  · intro h
    obtain ⟨i, y, q⟩ := mem_oA.mp h
    by_cases n : y = .st
    · subst n
      rcases R.stf i a q with w | w
      · exact hs _ w
      · rw [w.1] at e; cases e
    · rw [R.ownf i a y q n] at e; cases e
theorem RepE.ofAt (R : RepE C σ H r) {σ' : L2.St} {H' : Hp} {r' : DEnv} (R' : RepE (C.at H r) σ' H' r') : RepE C σ' H' r' where
  lenS := R'.lenS
  len := R'.len
  slot := R'.slot
  sep := R'.sep
  dom := R'.dom
  ext := fun a o hn e => R'.ext a o hn (R.at_ge hn e)
  ownf := fun i a o e n => by
    cases q : C.H_0 a with
    | none => rfl
    | some u =>
      have hs : ∀ k, (a, k) ∉ C.S := fun k z => (R'.sep i a o e n).1 (R.szo _ z).1
      have w := R'.ownf i a o e n
      rw [R.at_ge hs q] at w
      cases w
  stf := fun i a e => by
    rcases R'.stf i a e with h | ⟨h1, h2⟩
    · exact .inl h
    · refine .inr ⟨?_, h2⟩
      cases q : C.H_0 a with
      | none => rfl
      | some u =>
        have hs : ∀ k, (a, k) ∉ C.S := fun k z => h2 (R.szo _ z).1
        rw [R.at_ge hs q] at h1
        cases h1
  sto := R'.sto
  szo := R.szo
/-- data of now are data at any later time -/
theorem RepE.later (R : RepE C σ H r) {σ' : L2.St} {H' : Hp} {r' : DEnv} (R' : RepE (C.at H r) σ' H' r') : Same (DP.hd H (C.O ++ oA r)) (DP.hd H' (C.O ++ oA r')) := fun a o e => by
  obtain ⟨h1, h2⟩ := hd_some e
  refine R'.base a o ?_
  have h3 : a ∉ (C.at H r).O := fun z => h1 (List.mem_append_left _ z)
  rw [hd_out h3, at_out fun z => h1 (List.mem_append_right _ z)]
  exact h2
end
end DP

end
section
set_option Elab.async false
set_option linter.all false
set_option maxRecDepth 100000
set_option autoImplicit false
namespace DP
open PySem PySem.Spec PyProof.Rows L2
/-! ### readings over data -/
abbrev TD := SEnv → (PyData → Prop) → Prop
abbrev TTD := SEnv → (Bool → Prop) → Prop
abbrev TAD := SEnv → (List PyData → Prop) → Prop
def up (C : Cfg) (t : TD) : TE := fun σ H Q => ∃ (r : DEnv) (Q' : PyData → Prop), RepE C σ H r ∧ t (er r) Q' ∧ ∀ v H' x, Gr C r H H' → Rp (hd H' (C.O ++ oA r)) v x → Q' x → Q v H'
def upT (C : Cfg) (t : TTD) : TT := fun σ H Q => ∃ (r : DEnv) (Q' : Bool → Prop), RepE C σ H r ∧ t (er r) Q' ∧ ∀ b H', Gr C r H H' → Q' b → Q b H'
def upA (C : Cfg) (t : TAD) : TA := fun σ H Q => ∃ (r : DEnv) (Q' : List PyData → Prop), RepE C σ H r ∧ t (er r) Q' ∧ ∀ vs H' xs, Gr C r H H' → RpA (hd H' (C.O ++ oA r)) vs xs → Q' xs → Q vs H'
/-- a new list that nothing else holds -/
def upF (C : Cfg) (t : TAD) : TE := fun σ H Q => ∃ (r : DEnv) (Q' : List PyData → Prop), RepE C σ H r ∧ t (er r) Q' ∧ ∀ a H' vs xs, Gr C r H H' → H a = none → H' a = some (.lst vs) → vs.length ≤ sizeLine → RpA (hd H' (a :: (C.O ++ oA r))) vs xs → Q' xs → Q (.ref a) H'
def PD (X : Cx) (C : Cfg) (e : Expr) (t : TD) : Prop := PE X e (up C t)
def PDT (X : Cx) (C : Cfg) (e : Expr) (t : TTD) : Prop := PT X e (upT C t)
def PDW (X : Cx) (C : Cfg) (e : Expr) (t : TTD) : Prop := PW X e (upT C t)
def PDA (X : Cx) (C : Cfg) (es : List Expr) (t : TAD) : Prop := PA X es (upA C t)
def PF (X : Cx) (C : Cfg) (e : Expr) (t : TAD) : Prop := PE X e (upF C t)
section
variable {X : Cx} {C : Cfg} {e a b : Expr} {es : List Expr} {pos : Pos}
theorem PE_imp {t u : TE} (h : PE X e t) (q : ∀ σ H Q, u σ H Q → t σ H Q) : PE X e u := ⟨fun pins s σ H Q I hw => h.run pins s σ H Q I (q σ H Q hw)⟩
theorem PT_imp {t u : TT} (h : PT X e t) (q : ∀ σ H Q, u σ H Q → t σ H Q) : PT X e u := ⟨fun pins s σ H Q I hw => h.run pins s σ H Q I (q σ H Q hw)⟩
theorem PW_imp {t u : TT} (h : PW X e t) (q : ∀ σ H Q, u σ H Q → t σ H Q) : PW X e u := ⟨fun w pins s σ H Q I hw => h.run w pins s σ H Q I (q σ H Q hw)⟩
theorem PA_imp {t u : TA} (h : PA X es t) (q : ∀ σ H Q, u σ H Q → t σ H Q) : PA X es u := ⟨fun p pins s σ H Q I hw => h.run p pins s σ H Q I (q σ H Q hw)⟩
theorem PS_imp {st : Stmt} {t u : TS} (h : PS X st t) (q : ∀ D σ H, u D σ H → t D σ H) : PS X st u := ⟨fun pins s σ H D I hw => h.run pins s σ H D I (q D σ H hw)⟩
theorem PSs_imp {st : List Stmt} {t u : TS} (h : PSs X st t) (q : ∀ D σ H, u D σ H → t D σ H) : PSs X st u := ⟨fun pins s σ H D I hw => h.run pins s σ H D I (q D σ H hw)⟩
theorem new_hd {σ : L2.St} {H : Hp} {r : DEnv} (R : RepE C σ H r) {p : Addr} {o : HO} (h : H p = none) : hd (upd H p o) (C.O ++ oA r) p = some o := by
  rw [hd_out (R.fresh h), upd_same]
/-! ### names, constants -/
def dVar (i : Nat) : TD := fun r Q => match r[i]? with
  | some (some (.d x)) => Q x
  | _ => False
theorem dVar_get {i : Nat} {r : DEnv} {Q : PyData → Prop} (h : dVar i (er r) Q) : ∃ x, r[i]? = some (some (DV.d x)) ∧ Q x := by
  unfold dVar at h
  split at h
  · rename_i x e
    exact ⟨x, er_d e, h⟩
  · exact h.elim
def dC (x : PyData) : TD := fun _ Q => Q x
theorem pd_var (i : Nat) {x : Str} (hN : X.N[i]? = some x := by rfl) (hv : Vis X.env.scope x := by first | exact Or.inl rfl | exact Or.inr (Or.inl rfl) | exact Or.inr (Or.inr rfl)) (hd' : (x == ("__debug__" : Str)) = false := by decide)
    (hcd : (x == ("__classdict__" : Str)) = false := by decide) : PD X C (.Name x pos) (dVar i) := by
  refine PE_imp (pe_var hN hv hd' hcd) ?_
  rintro σ H Q ⟨r, Q', R, w, k⟩
  obtain ⟨x, e1, q⟩ := dVar_get w
  obtain ⟨v, e2, h⟩ := R.slot i _ e1
  exact ⟨v, e2, k v H x (Gr.refl R) h q⟩
theorem pd_int {i : Int} {j : Nat} : PD X C (.Constant (.int i) j pos) (dC (.int i)) := PE_imp pe_int fun σ H Q ⟨r, Q', R, q, k⟩ => k _ H _ (Gr.refl R) (.int i) q
theorem pd_bl {i : Bool} {j : Nat} : PD X C (.Constant (.bool i) j pos) (dC (.bool i)) := PE_imp pe_bl fun σ H Q ⟨r, Q', R, q, k⟩ => k _ H _ (Gr.refl R) (.bl i) q
theorem pd_non {j : Nat} : PD X C (.Constant .none j pos) (dC .none) := PE_imp pe_non fun σ H Q ⟨r, Q', R, q, k⟩ => k _ H _ (Gr.refl R) .non q
theorem pd_str {i : Str} {j : Nat} : PD X C (.Constant (.str i) j pos) (dC (.str i)) := PE_imp pe_str fun σ H Q ⟨r, Q', R, q, k⟩ => k _ H _ (Gr.refl R) (.str i) q
/-- a module's constant that is a number or a text -/
theorem pd_globI {x : Str} {u : Value} {i : Int} (hg : Gl X x) (hm : X.mg x = some u) (rv : RelV (.int i) u) (hd' : (x == ("__debug__" : Str)) = false := by decide) : PD X C (.Name x pos) (dC (.int i)) :=
  PE_imp (pe_glob hg hm rv hd') fun σ H Q ⟨r, Q', R, q, k⟩ => k _ H _ (Gr.refl R) (.int i) q
theorem pd_globS {x : Str} {u : Value} {i : Str} (hg : Gl X x) (hm : X.mg x = some u) (rv : RelV (.str i) u) (hd' : (x == ("__debug__" : Str)) = false := by decide) : PD X C (.Name x pos) (dC (.str i)) :=
  PE_imp (pe_glob hg hm rv hd') fun σ H Q ⟨r, Q', R, q, k⟩ => k _ H _ (Gr.refl R) (.str i) q
/-! ### between the judgements -/
/-- data that name no object -/
def flatD : PyData → Bool
  | .none => true
  | .bool _ => true
  | .int _ => true
  | .str _ => true
  | _ => false
theorem Rp.flat {H H' : Hp} {v : V} {d : PyData} (h : Rp H v d) (f : flatD d = true) : Rp H' v d := by
  cases h with
  | non => exact .non
  | bl b => exact .bl b
  | int b => exact .int b
  | str b => exact .str b
  | lst => cases f
  | tup => cases f
  | dct => cases f
theorem RpA.put {H : Hp} {a : Addr} {vs : List V} {xs : List PyData} {O : List Addr} (e : H a = some (.lst vs)) (na : a ∉ O) (l : vs.length ≤ sizeLine) (h : RpA (hd H (a :: O)) vs xs) : Rp (hd H O) (.ref a) (.list xs) := by
  refine .lst (.inl ?_) l (h.up (hd_sub fun b hb => List.mem_cons_of_mem _ hb))
  rw [hd_out na]
  exact e
def dLst (t : TAD) : TD := fun r Q => t r fun xs => Q (.list xs)
theorem PF.d {t : TAD} (h : PF X C e t) : PD X C e (dLst t) := PE_imp h fun σ H Q ⟨r, Q', R, q, k⟩ => ⟨r, _, R, q, fun a H' vs xs g na e l rp qx => k _ H' _ g (RpA.put e (R.fresh na) l rp) qx⟩
/-! ### arguments -/
def dNil : TAD := fun _ Q => Q []
def dCons (t : TD) (u : TAD) : TAD := fun r Q => t r fun x => u r fun xs => Q (x :: xs)
theorem pda_nil : PDA X C [] dNil := PA_imp pa_nil fun σ H Q ⟨r, Q', R, q, k⟩ => k _ H _ (Gr.refl R) .nil q
theorem pda_cons {t : TD} {u : TAD} (ha : PD X C e t) (hr : PDA X C es u) (hs : starEach (e :: es) X.env = (false, eval e X.env) :: starEach es X.env := by rfl) : PDA X C (e :: es) (dCons t u) :=
  PA_imp (pa_cons ha hr hs) fun σ H Q ⟨r, Q', R, q, k⟩ => ⟨r, _, R, q, fun v H1 x g1 rp1 q1 => ⟨r, _, R.grow g1, q1, fun vs H2 xs g2 rp2 q2 => k _ H2 _ (g1.trans g2) (.cons (rp1.up (g2.hd (R.grow g1))) rp2) q2⟩⟩
/-! ### displays -/
def dTup (t : TAD) : TD := fun r Q => t r fun xs => xs.length ≤ sizeLine ∧ Q (.tuple xs)
theorem pd_tup {x1 : Nat} {t : TAD} (h : PDA X C es t) : PD X C (.Tuple es x1 pos) (dTup t) :=
  PE_imp (pe_tup h) fun σ H Q ⟨r, Q', R, q, k⟩ => ⟨r, _, R, q, fun vs H1 xs g rp q1 => ⟨by rw [rp.length]; exact q1.1, fun p np => by
    have R1 := R.grow g
    refine k _ _ _ (g.then_same (same_new np)) (.tup (new_hd R1 np) (by rw [rp.length]; exact q1.1) (rp.up (same_hd (same_new np)))) q1.2⟩⟩
def fLst (t : TAD) : TAD := fun r Q => t r fun xs => xs.length ≤ sizeLine ∧ Q xs
theorem new_in {H : Hp} {a : Addr} {o : HO} {O : List Addr} (h : H a = none) : Same (hd H O) (hd (upd H a o) (a :: O)) := fun b u e => by
  obtain ⟨h1, h2⟩ := hd_some e
  have ne : b ≠ a := ne_of_none h2 h
  rw [hd_out (by rw [List.mem_cons, not_or]; exact ⟨ne, h1⟩), upd_ne ne]
  exact h2
theorem pf_lst {t : TAD} (h : PDA X C es t) : PF X C (.List es pos) (fLst t) :=
  PE_imp (pe_lst h) fun σ H Q ⟨r, Q', R, q, k⟩ => ⟨r, _, R, q, fun vs H1 xs g rp q1 => ⟨by rw [rp.length]; exact q1.1, fun p np => by
    refine k p _ vs xs (g.then_same (same_new np)) (Gr.none R g np) upd_same (by rw [rp.length]; exact q1.1) (rp.up (new_in np)) q1.2⟩⟩
/-- {} -/
theorem pd_dict0 : PD X C (.Dict [] [] pos) (dC (.dict [])) :=
  PE_imp pe_dnewK fun σ H Q ⟨r, Q', R, q, k⟩ p np => k _ _ _ (Gr.of_same R (same_new np)) (.dct (new_hd R np)) q
end
/-! ### operators -/
abbrev R2D := PyData → PyData → (PyData → Prop) → Prop
def upR (r : R2D) : R2 := fun x y H Q => ∃ (O : List Addr) (dx dy : PyData) (Q' : PyData → Prop), (∀ a ∈ O, H a ≠ none) ∧ Rp (hd H O) x dx ∧ Rp (hd H O) y dy ∧ r dx dy Q' ∧ ∀ z H' dz, Same H H' → Rp (hd H' O) z dz → Q' dz → Q z H'
def OpD (X : Cx) (f : Value → Value → Sem Value) (r : R2D) : Prop := OpR X f (upR r)
def dOp (r : R2D) (ta tb : TD) : TD := fun e Q => ta e fun x => tb e fun y => r x y Q
section
variable {X : Cx} {C : Cfg} {e a b c : Expr} {es : List Expr} {pos : Pos} {ta tb tc : TD} {r r' : R2D}
theorem op_go {σ : L2.St} {H : Hp} {Q : VK} (h : up C (dOp r ta tb) σ H Q) : tOp (upR r) (up C ta) (up C tb) σ H Q := by
  obtain ⟨ρ, Q', R, q, k⟩ := h
  exact ⟨ρ, _, R, q, fun v H1 x g1 rp1 q1 => ⟨ρ, _, R.grow g1, q1, fun w H2 y g2 rp2 q2 => ⟨C.O ++ oA ρ, x, y, Q', ((R.grow g1).grow g2).domA, rp1.up (g2.hd (R.grow g1)), rp2, q2, fun z H' dz sm rpz qz => k z H' dz ((g1.trans g2).then_same sm) rpz qz⟩⟩⟩
theorem pd_op {op : Operator} (ho : OpD X (binaryOp op) r) (ha : PD X C a ta) (hb : PD X C b tb) : PD X C (.BinOp a op b pos) (dOp r ta tb) := PE_imp (pe_op ho ha hb) fun _ _ _ => op_go
theorem pd_cmp {op : CmpOp} (ho : OpD X (compareOp op) r) (ha : PD X C a ta) (hb : PD X C b tb) (hm : behindInMarks op b = false := by first | exact nomark _ | rfl) : PD X C (.Compare a [op] [b] pos) (dOp r ta tb) := PE_imp (pe_cmpR ho ha hb hm) fun _ _ _ => op_go
/-- a test by a value that is a truth -/
def dB (t : TD) : TTD := fun r Q => t r fun x => ∃ k, x = .bool k ∧ Q k
theorem rp_bl {H : Hp} {v : V} {k : Bool} (h : Rp H v (.bool k)) : v = .bl k := by cases h; rfl
theorem test_go {t : TD} {u : TE} (h : ∀ σ H Q, up C t σ H Q → u σ H Q) {σ : L2.St} {H : Hp} {Q : Bool → Hp → Prop} (w : upT C (dB t) σ H Q) : tTest u σ H Q := by
  obtain ⟨ρ, Q', R, q, k⟩ := w
  refine h _ _ _ ⟨ρ, _, R, q, fun v H' x g rp qx => ?_⟩
  obtain ⟨b, rfl, qb⟩ := qx
  exact ⟨b, rp_bl rp, k b H' g qb⟩
theorem pt_of {t : TD} (h : PD X C e t) (he : ∀ whole, isTrue e X.env whole = (do let v ← whole; standAt e.pos; holding [v] (truthy v)) := by intro _; rfl) : PDT X C e (dB t) :=
  PT_imp (pt_val h he) fun _ _ _ w => test_go (fun _ _ _ z => z) w
theorem ptd_cmp {op : CmpOp} (ho : OpD X (compareOp op) r) (ha : PD X C a ta) (hb : PD X C b tb) (hm : behindInMarks op b = false := by first | exact nomark _ | rfl) : PDT X C (.Compare a [op] [b] pos) (dB (dOp r ta tb)) :=
  PT_imp (pt_cmpR ho ha hb hm) fun _ _ _ w => test_go (fun _ _ _ => op_go) w
/-- a op b op c -/
def dChain (r r' : R2D) (ta tb tc : TD) : TD := fun e Q => ta e fun x => tb e fun y => r x y fun z => ∃ k, z = .bool k ∧ if k = true then tc e fun w => r' y w Q else Q (.bool false)
theorem chain_go {σ : L2.St} {H : Hp} {Q : VK} (h : up C (dChain r r' ta tb tc) σ H Q) : tChain (upR r) (upR r') (up C ta) (up C tb) (up C tc) σ H Q := by
  obtain ⟨ρ, Q', R, q, k⟩ := h
  refine ⟨ρ, _, R, q, fun v H1 x g1 rp1 q1 => ⟨ρ, _, R.grow g1, q1, fun w H2 y g2 rp2 q2 => ?_⟩⟩
  have R2 := (R.grow g1).grow g2
  refine ⟨C.O ++ oA ρ, x, y, _, R2.domA, rp1.up (g2.hd (R.grow g1)), rp2, q2, fun z H3 dz sm rpz qz => ?_⟩
  obtain ⟨b, rfl, qb⟩ := qz
  refine ⟨b, rp_bl rpz, ?_⟩
  have g3 : Gr C ρ H2 H3 := Gr.of_same R2 sm
  have R3 := R2.grow g3
  cases b with
  | false =>
    rw [if_neg Bool.false_ne_true] at qb ⊢
    exact k _ H3 _ ((g1.trans g2).trans g3) (.bl false) qb
  | true =>
    rw [if_pos rfl] at qb ⊢
    refine ⟨ρ, _, R3, qb, fun w' H4 y' g4 rp4 q4 => ⟨C.O ++ oA ρ, y, y', Q', (R3.grow g4).domA, (rp2.up (g3.hd R2)).up (g4.hd R3), rp4, q4, fun z' H5 dz' sm5 rp5 q5 => k z' H5 dz' ((((g1.trans g2).trans g3).trans g4).then_same sm5) rp5 q5⟩⟩
theorem pd_chain {op op' : CmpOp} (ho : OpD X (compareOp op) r) (ho' : OpD X (compareOp op') r') (ha : PD X C a ta) (hb : PD X C b tb) (hc : PD X C c tc) (hm : lastMarks [op, op'] [b, c] = false := by rfl) : PD X C (.Compare a [op, op'] [b, c] pos) (dChain r r' ta tb tc) :=
  PE_imp (pe_chain ho ho' ha hb hc (hm := hm)) fun _ _ _ => chain_go
theorem ptd_chain {op op' : CmpOp} (ho : OpD X (compareOp op) r) (ho' : OpD X (compareOp op') r') (ha : PD X C a ta) (hb : PD X C b tb) (hc : PD X C c tc) (hm : lastMarks [op, op'] [b, c] = false := by rfl) : PDT X C (.Compare a [op, op'] [b, c] pos) (dB (dChain r r' ta tb tc)) :=
  PT_imp (pt_chain ho ho' ha hb hc (hm := hm)) fun _ _ _ w => test_go (fun _ _ _ => chain_go) w
/-! ### and, or, not -/
variable {tA tB' : TTD} {rest : List Expr}
def dAnd (t u : TTD) : TTD := fun r Q => t r fun k => if k = true then u r Q else Q false
def dOr (t u : TTD) : TTD := fun r Q => t r fun k => if k = true then Q true else u r Q
def dNot (t : TTD) : TTD := fun r Q => t r fun k => Q (!k)
theorem PDW.t (h : PDW X C e tA) : PDT X C e tA := h.pt
theorem pdw_and1 (ha : PDT X C a tA) : PDW X C (.BoolOp .And [a] pos) tA := pw_and1 ha
theorem pdw_or1 (ha : PDT X C a tA) : PDW X C (.BoolOp .Or [a] pos) tA := pw_or1 ha
theorem pdw_and (ha : PDT X C a tA) (hb : PDW X C (.BoolOp .And (b :: rest) pos) tB') : PDW X C (.BoolOp .And (a :: b :: rest) pos) (dAnd tA tB') :=
  PW_imp (pw_and ha hb) fun σ H Q ⟨ρ, Q', R, q, k⟩ => ⟨ρ, _, R, q, fun c H1 g1 q1 => by
    cases c with
    | true => rw [if_pos rfl] at q1 ⊢; exact ⟨ρ, Q', R.grow g1, q1, fun c' H2 g2 q2 => k c' H2 (g1.trans g2) q2⟩
    | false => rw [if_neg Bool.false_ne_true] at q1 ⊢; exact k _ H1 g1 q1⟩
theorem pdw_or (ha : PDT X C a tA) (hb : PDW X C (.BoolOp .Or (b :: rest) pos) tB') : PDW X C (.BoolOp .Or (a :: b :: rest) pos) (dOr tA tB') :=
  PW_imp (pw_or ha hb) fun σ H Q ⟨ρ, Q', R, q, k⟩ => ⟨ρ, _, R, q, fun c H1 g1 q1 => by
    cases c with
    | true => rw [if_pos rfl] at q1 ⊢; exact k _ H1 g1 q1
    | false => rw [if_neg Bool.false_ne_true] at q1 ⊢; exact ⟨ρ, Q', R.grow g1, q1, fun c' H2 g2 q2 => k c' H2 (g1.trans g2) q2⟩⟩
theorem pdt_not (ha : PDT X C a tA) : PDT X C (.UnaryOp .Not a pos) (dNot tA) :=
  PT_imp (pt_not ha) fun σ H Q ⟨ρ, Q', R, q, k⟩ => ⟨ρ, _, R, q, fun c H1 g1 q1 => k _ H1 g1 q1⟩
/-- as values -/
def dAndV (ta tb : TD) : TD := fun r Q => ta r fun x => ∃ k, x = .bool k ∧ if k = true then tb r Q else Q (.bool false)
def dOrV (ta tb : TD) : TD := fun r Q => ta r fun x => ∃ k, x = .bool k ∧ if k = true then Q (.bool true) else tb r Q
def dNotV (ta : TD) : TD := fun r Q => ta r fun x => ∃ k, x = .bool k ∧ Q (.bool (!k))
theorem pd_one {op : BoolOp} (h : PD X C a ta) : PD X C (.BoolOp op [a] pos) ta := pe_one h
theorem pd_and (ha : PD X C a ta) (hb : PD X C (.BoolOp .And (b :: rest) pos) tb) : PD X C (.BoolOp .And (a :: b :: rest) pos) (dAndV ta tb) :=
  PE_imp (pe_and ha hb) fun σ H Q ⟨ρ, Q', R, q, k⟩ => ⟨ρ, _, R, q, fun v H1 x g1 rp q1 => by
    obtain ⟨c, rfl, q1⟩ := q1
    refine ⟨c, rp_bl rp, ?_⟩
    cases c with
    | true => rw [if_pos rfl] at q1 ⊢; exact ⟨ρ, Q', R.grow g1, q1, fun w H2 y g2 rp2 q2 => k w H2 y (g1.trans g2) rp2 q2⟩
    | false => rw [if_neg Bool.false_ne_true] at q1 ⊢; exact k _ H1 _ g1 (.bl false) q1⟩
theorem pd_or (ha : PD X C a ta) (hb : PD X C (.BoolOp .Or (b :: rest) pos) tb) : PD X C (.BoolOp .Or (a :: b :: rest) pos) (dOrV ta tb) :=
  PE_imp (pe_or ha hb) fun σ H Q ⟨ρ, Q', R, q, k⟩ => ⟨ρ, _, R, q, fun v H1 x g1 rp q1 => by
    obtain ⟨c, rfl, q1⟩ := q1
    refine ⟨c, rp_bl rp, ?_⟩
    cases c with
    | true => rw [if_pos rfl] at q1 ⊢; exact k _ H1 _ g1 (.bl true) q1
    | false => rw [if_neg Bool.false_ne_true] at q1 ⊢; exact ⟨ρ, Q', R.grow g1, q1, fun w H2 y g2 rp2 q2 => k w H2 y (g1.trans g2) rp2 q2⟩⟩
theorem pd_not (ha : PD X C a ta) : PD X C (.UnaryOp .Not a pos) (dNotV ta) :=
  PE_imp (pe_not ha) fun σ H Q ⟨ρ, Q', R, q, k⟩ => ⟨ρ, _, R, q, fun v H1 x g1 rp q1 => by
    obtain ⟨c, rfl, q1⟩ := q1
    exact ⟨c, rp_bl rp, k _ H1 _ g1 (.bl _) q1⟩⟩
def dIf (t : TTD) (ta tb : TD) : TD := fun r Q => t r fun k => if k = true then ta r Q else tb r Q
theorem pd_ifExp (hc : PDT X C c tA) (ha : PD X C a ta) (hb : PD X C b tb) : PD X C (.IfExp c a b pos) (dIf tA ta tb) :=
  PE_imp (pe_ifExp hc ha hb) fun σ H Q ⟨ρ, Q', R, q, k⟩ => ⟨ρ, _, R, q, fun c H1 g1 q1 => by
    cases c with
    | true => rw [if_pos rfl] at q1 ⊢; exact ⟨ρ, Q', R.grow g1, q1, fun w H2 y g2 rp2 q2 => k w H2 y (g1.trans g2) rp2 q2⟩
    | false => rw [if_neg Bool.false_ne_true] at q1 ⊢; exact ⟨ρ, Q', R.grow g1, q1, fun w H2 y g2 rp2 q2 => k w H2 y (g1.trans g2) rp2 q2⟩⟩
end
end DP

end
section
set_option Elab.async false
set_option linter.all false
set_option maxRecDepth 100000
set_option autoImplicit false
set_option maxHeartbeats 4000000
namespace DP
open PySem PySem.Spec PyProof.Rows L2
/-! ### operators by data -/
theorem tuple_mul1 (l : Addr) (items : Array Value) (n : Nat) (dd : Option Addr) (sl : Array (Option Value)) (x : Int) (u : Tok) (c0 : (decide (x < -(2 ^ 63)) || decide (x ≥ 2 ^ 63)) = false) (c1 : (items.isEmpty || x == 1) = true) :
    Meets (Builtin.«tuple.__mul__» ⟨[.ref l, .int x u], []⟩) (fun _ R s => s.heap.get? l = some { cls := .type "tuple", dict := dd, data := .seq items n, slots := sl } ∧
      R (.ok (.ret (Value.ref l))) s) :=
  .of_wp fun prog w A R s h => by
    obtain ⟨hp, g, d, tk, os⟩ := s
    obtain ⟨hl, h⟩ := h
    have f1 := AutoSeq1.idx_int
    wp_walk using wpAny_loadPart' hl
    repeat (first
      | (refine wpAny_ite_false (decide_eq_false (by rw [c0]; exact Bool.false_ne_true)) ?_; wp_walk using wpAny_loadPart' hl)
      | (refine wpAny_ite_true (decide_eq_true c1) ?_; wp_walk using wpAny_loadPart' hl))
    exact ⟨_, rfl, h⟩
theorem tuple_mul0 (l : Addr) (items : Array Value) (n : Nat) (dd : Option Addr) (sl : Array (Option Value)) (x : Int) (u : Tok) (c0 : (decide (x < -(2 ^ 63)) || decide (x ≥ 2 ^ 63)) = false) (c1 : (items.isEmpty || x == 1) = false) (c2 : (decide (x ≤ 0) || items.isEmpty) = true) :
    Meets (Builtin.«tuple.__mul__» ⟨[.ref l, .int x u], []⟩) (fun _ R s => s.heap.get? l = some { cls := .type "tuple", dict := dd, data := .seq items n, slots := sl } ∧
      R (.ok (.ret (Value.ref s.heap.objs.size))) { s with heap := s.heap.push { cls := Value.type "tuple", data := Data.seq #[] }, toks := s.toks }) :=
  .of_wp fun prog w A R s h => by
    obtain ⟨hp, g, d, tk, os⟩ := s
    obtain ⟨hl, h⟩ := h
    have f1 := AutoSeq1.idx_int
    wp_walk using wpAny_loadPart' hl
    repeat (first
      | (refine wpAny_ite_false (decide_eq_false (by rw [c0]; exact Bool.false_ne_true)) ?_; wp_walk using wpAny_loadPart' hl)
      | (refine wpAny_ite_false (decide_eq_false (by rw [c1]; exact Bool.false_ne_true)) ?_; wp_walk using wpAny_loadPart' hl)
      | (refine wpAny_ite_true (decide_eq_true c2) ?_; wp_walk using wpAny_loadPart' hl))
    exact ⟨_, rfl, h⟩

section
variable {X : Cx}
theorem rp_int {H : Hp} {v : V} {i : Int} (h : Rp H v (.int i)) : v = .int i := by cases h; rfl
theorem rp_str {H : Hp} {v : V} {i : Str} (h : Rp H v (.str i)) : v = .str i := by cases h; rfl
theorem rp_tup {H : Hp} {v : V} {ds : List PyData} (h : Rp H v (.tuple ds)) : ∃ a xs, v = .ref a ∧ H a = some (.tup xs) ∧ xs.length ≤ sizeLine ∧ RpA H xs ds := by
  cases h with
  | tup a b c => exact ⟨_, _, rfl, a, b, c⟩
theorem rp_lst {H : Hp} {v : V} {ds : List PyData} (h : Rp H v (.list ds)) : ∃ a xs, v = .ref a ∧ Rd H a (.lst xs) ∧ xs.length ≤ sizeLine ∧ RpA H xs ds := by
  cases h with
  | lst a b c => exact ⟨_, _, rfl, a, b, c⟩
theorem Rd.full {H : Hp} {O : List Addr} {a : Addr} {o : HO} (h : Rd (hd H O) a o) : Rd H a o := Rd.mono (hd_same _ _) h
theorem notdom {H : Hp} {O : List Addr} {p : Addr} (h : ∀ a ∈ O, H a ≠ none) (n : H p = none) : p ∉ O := fun z => h p z n
theorem rp_new {H : Hp} {O : List Addr} {p : Addr} {xs : List V} {ds : List PyData} (h : ∀ a ∈ O, H a ≠ none) (n : H p = none) (l : xs.length ≤ sizeLine) (r : RpA (hd H O) xs ds) : Rp (hd (upd H p (.tup xs)) O) (.ref p) (.tuple ds) :=
  .tup (by rw [hd_out (notdom h n), upd_same]) l (r.up (same_hd (same_new n)))
theorem rp_newL {H : Hp} {O : List Addr} {p : Addr} {xs : List V} {ds : List PyData} (h : ∀ a ∈ O, H a ≠ none) (n : H p = none) (l : xs.length ≤ sizeLine) (r : RpA (hd H O) xs ds) : Rp (hd (upd H p (.lst xs)) O) (.ref p) (.list ds) :=
  .lst (.inl (by rw [hd_out (notdom h n), upd_same])) l (r.up (same_hd (same_new n)))
/-- ints alone -/
def rInt (c : Int → Int → Prop) (g : Int → Int → PyData) : R2D := fun x y Q => ∃ i j, x = .int i ∧ y = .int j ∧ c i j ∧ Q (g i j)
theorem opd_int {f : Value → Value → Sem Value} {c : Int → Int → Prop} {g : Int → Int → Int} (h : OpR X f (rI c fun i j => .int (g i j))) : OpD X f (rInt c fun i j => .int (g i j)) := by
  intro pins s σ H x y v u Q I rx ry w
  obtain ⟨O, dx, dy, Q', dm, hx, hy, ⟨i, j, rfl, rfl, hc, q⟩, k⟩ := w
  rw [rp_int hx] at rx
  rw [rp_int hy] at ry
  exact h pins s σ H _ _ v u Q I rx ry ⟨i, j, rfl, rfl, hc, k _ H _ (Same.refl H) (.int _) q⟩
theorem opd_sub : OpD X (binaryOp .Sub) (rInt (fun _ _ => True) fun i j => .int (i - j)) := opd_int fun pins s σ H x y v u Q I rx ry ⟨i, j, e1, e2, _, q⟩ => op_sub pins s σ H x y v u Q I rx ry ⟨i, j, e1, e2, q⟩
theorem opd_mod : OpD X (binaryOp .Mod) (rInt (fun _ j => 0 < j) fun i j => .int (i % j)) := opd_int op_mod
theorem opd_fdiv : OpD X (binaryOp .FloorDiv) (rInt CDiv fun i j => .int (i / j)) := opd_int op_fdiv
theorem opd_pow : OpD X (binaryOp .Pow) (rInt CPow fun i j => .int (i ^ j.toNat)) := opd_int op_pow
/-- + -/
def rAdd : R2D
  | .int i, .int j, Q => Q (.int (i + j))
  | .tuple a, .tuple b, Q => a.length + b.length ≤ sizeLine ∧ Q (.tuple (a ++ b))
  | .list a, .list b, Q => a.length + b.length ≤ sizeLine ∧ Q (.list (a ++ b))
  | .str a, .str b, Q => a.length + b.length ≤ sizeLine ∧ Q (.str (a ++ b))
  | _, _, _ => False
theorem catL {pins : List (Addr × Obj)} {s : Shared} {σ : L2.St} {H : Hp} {a b : Addr} {xs ys : List V} {Q : VK} (I : Inv X pins σ H s) (h1 : Rd H a (.lst xs)) (h2 : Rd H b (.lst ys)) (hz : xs.length + ys.length ≤ sizeLine)
    (q : ∀ p, H p = none → Q (.ref p) (upd H p (.lst (xs ++ ys)))) : wpAny (model X.prog X.w) X.A (binaryOp .Add (.ref a) (.ref b)) (EP X pins σ Q) X.xe s := by
  obtain ⟨its, n, z, r, e⟩ := lstR I h1
  obtain ⟨its2, n2, z2, r2, e2⟩ := lstR I h2
  have l1 := r.length
  have l2 := r2.length
  refine PySem.P.add_list e e2 ?_ (by rw [List.size_toArray, List.size_toArray]; omega)
  have ea : its.toArray ++ its2.toArray = (its ++ its2).toArray := by simp
  rw [ea]
  exact ⟨.ref _, _, I.lnew (t' := s.toks) (r.append r2) (by rw [List.length_append]; omega), rfl, q _ I.fresh⟩
theorem opd_add : OpD X (binaryOp .Add) rAdd := by
  intro pins s σ H x y v u Q I rx ry w
  obtain ⟨O, dx, dy, Q', dm, hx, hy, q, k⟩ := w
  cases dx with
  | int i =>
    cases dy with
    | int j =>
      rw [rp_int hx] at rx
      rw [rp_int hy] at ry
      exact op_add pins s σ H _ _ v u Q I rx ry ⟨i, j, rfl, rfl, k _ H _ (Same.refl H) (.int _) q⟩
    | _ => exact q.elim
  | tuple ds =>
    cases dy with
    | tuple es =>
      obtain ⟨a, xs, rfl, h1, h2, h3⟩ := rp_tup hx
      obtain ⟨b, ys, rfl, h4, h5, h6⟩ := rp_tup hy
      obtain ⟨q1, q2⟩ := q
      have l1 := h3.length
      have l2 := h6.length
      refine op_catA pins s σ H _ _ v u Q I rx ry ⟨a, b, xs, ys, rfl, rfl, .inl (.inl (hd_some h1).2), .inl (.inl (hd_some h4).2), by omega, fun e => ?_, fun _ e => ?_, fun _ _ p np => ?_⟩
      · subst e
        cases h3
        exact k _ H _ (Same.refl H) hy q2
      · subst e
        cases h6
        rw [List.append_nil] at q2
        exact k _ H _ (Same.refl H) hx q2
      · exact k _ _ _ (same_new np) (rp_new dm np (by rw [List.length_append]; omega) (h3.append h6)) q2
    | _ => exact q.elim
  | list ds =>
    cases dy with
    | list es =>
      obtain ⟨a, xs, rfl, h1, h2, h3⟩ := rp_lst hx
      obtain ⟨b, ys, rfl, h4, h5, h6⟩ := rp_lst hy
      obtain ⟨q1, q2⟩ := q
      have l1 := h3.length
      have l2 := h6.length
      cases (show v = Value.ref a from rx)
      cases (show u = Value.ref b from ry)
      exact catL I (DP.Rd.full h1) (DP.Rd.full h4) (by omega) fun p np => k _ _ _ (same_new np) (rp_newL dm np (by rw [List.length_append]; omega) (h3.append h6)) q2
    | _ => exact q.elim
  | str i =>
    cases dy with
    | str j =>
      rw [rp_str hx] at rx
      rw [rp_str hy] at ry
      exact op_add_str pins s σ H _ _ v u Q I rx ry ⟨i, j, rfl, rfl, q.1, k _ H _ (Same.refl H) (.str _) q.2⟩
    | _ => exact q.elim
  | _ => exact q.elim
/-- * -/
def rMul : R2D
  | .int i, .int j, Q => CMul i j ∧ Q (.int (i * j))
  | .tuple a, .int j, Q => a ≠ [] ∧ a.length ≤ 1000 ∧ 0 ≤ j ∧ j ≤ 1000 ∧ Q (.tuple (List.replicate j.toNat a).flatten)
  | _, _, _ => False
theorem opd_mul : OpD X (binaryOp .Mult) rMul := by
  intro pins s σ H x y v u Q I rx ry w
  obtain ⟨O, dx, dy, Q', dm, hx, hy, q, k⟩ := w
  cases dx with
  | int i =>
    cases dy with
    | int j =>
      rw [rp_int hx] at rx
      rw [rp_int hy] at ry
      exact op_mul pins s σ H _ _ v u Q I rx ry ⟨i, j, rfl, rfl, q.1, k _ H _ (Same.refl H) (.int _) q.2⟩
    | _ => exact q.elim
  | tuple ds =>
    cases dy with
    | int j =>
      obtain ⟨a, xs, rfl, h1, h2, h3⟩ := rp_tup hx
      rw [rp_int hy] at ry
      obtain ⟨q0, q1, q2, q3, q4⟩ := q
      have l1 := h3.length
      have hne : xs ≠ [] := fun e => q0 (List.eq_nil_of_length_eq_zero (by rw [← l1, e]; rfl))
      by_cases j2 : 2 ≤ j
      · refine op_repT pins s σ H _ _ v u Q I rx ry ⟨a, j, xs, rfl, rfl, .inl (.inl (hd_some h1).2), hne, j2, q3, by omega, fun p np => ?_⟩
        refine k _ _ _ (same_new np) (rp_new dm np ?_ (h3.replicate j.toNat)) q4
        rw [PyProof.Rows.lm_len_rep_flat, sizeLine_eq]
        have a1 : j.toNat * xs.length ≤ 1000 * 1000 := Nat.mul_le_mul (by omega) (by omega)
        omega
      · cases (show v = Value.ref a from rx)
        obtain ⟨t, rfl⟩ := (show ∃ t, u = Value.int j t from ry)
        obtain ⟨its, z, r, ⟨⟨cls, dd, data, sl⟩, ho, hc, n, hd'⟩⟩ := tupR I (hd_some h1).2
        simp only at hc hd'
        subst hc hd'
        have hi : its.toArray.isEmpty = false := by
          cases its with
          | nil => cases r; exact absurd rfl hne
          | cons a b => rfl
        have c0 : (decide (j < -(2 ^ 63)) || decide (j ≥ 2 ^ 63)) = false := by
          rw [decide_eq_false (by omega), decide_eq_false (by omega)] <;> rfl
        by_cases j1 : j = 1
        · subst j1
          refine wpAny_binaryOp_repeat_ref (T := "tuple") (U := "int") (by decide) ⟨_, ho, rfl⟩ (fun s' => typeIs_int s' 1 t) noFill_tuple_mul F.fills_int_mul F.slot_int_rmul repeat_tuple F.slot_int_index.lookup
            (call_meets F.slot_int_rmul (typeIs_int s 1 t) F.entry_int_rmul (F.args_int_rmul_2 _ _) (int_rmul_tuple 1 t a its.toArray n dd sl)
              ⟨ho, rfl, ⟨_, ho, rfl⟩, call_meets F.slot_tuple_mul ⟨_, ho, rfl⟩ F.entry_tuple_mul (F.args_tuple_mul_2 _ _) (tuple_mul1 a its.toArray n dd sl 1 t c0 (by rw [hi]; rfl)) ⟨ho, ?_⟩⟩)
          have e1 : (List.replicate (1 : Int).toNat ds).flatten = ds := by simp
          rw [e1] at q4
          exact ⟨.ref a, H, I, rfl, k _ H _ (Same.refl H) hx q4⟩
        · have j0 : j = 0 := by omega
          subst j0
          refine wpAny_binaryOp_repeat_ref (T := "tuple") (U := "int") (by decide) ⟨_, ho, rfl⟩ (fun s' => typeIs_int s' 0 t) noFill_tuple_mul F.fills_int_mul F.slot_int_rmul repeat_tuple F.slot_int_index.lookup
            (call_meets F.slot_int_rmul (typeIs_int s 0 t) F.entry_int_rmul (F.args_int_rmul_2 _ _) (int_rmul_tuple 0 t a its.toArray n dd sl)
              ⟨ho, rfl, ⟨_, ho, rfl⟩, call_meets F.slot_tuple_mul ⟨_, ho, rfl⟩ F.entry_tuple_mul (F.args_tuple_mul_2 _ _) (tuple_mul0 a its.toArray n dd sl 0 t c0 (by rw [hi]; rfl) rfl) ⟨ho, ?_⟩⟩)
          have np := I.hok.fresh (Nat.le_refl s.heap.objs.size)
          refine ⟨.ref s.heap.objs.size, _, I.laid (t' := s.toks) (o := .tup []) (fun b ob q => Heap.get?_push_of_some _ q) (Nat.le_refl _) ?_, rfl, k _ _ _ (same_new np) (rp_new dm np (Nat.zero_le _) .nil) q4⟩
          exact ⟨Nat.zero_le _, [], .nil, IsTup.new _ _⟩
    | _ => exact q.elim
  | _ => exact q.elim
/-- ==, != -/
def dOk (d : PyData) : Bool := d.plain && decide (d.depth ≤ 60)
def rEqq : R2D := fun x y Q => dOk x = true ∧ dOk y = true ∧ Q (.bool (PyData.eqv x y))
def rNeq : R2D := fun x y Q => dOk x = true ∧ dOk y = true ∧ Q (.bool (!PyData.eqv x y))
theorem dOk_plain {d : PyData} (h : dOk d = true) : d.plain = true := (Bool.and_eq_true_iff.mp h).1
theorem dOk_depth {d : PyData} (h : dOk d = true) : d.depth ≤ 60 := of_decide_eq_true (Bool.and_eq_true_iff.mp h).2
theorem room_min {u a b : Nat} (h : u + 64 < cLine) (ha : a ≤ 60) : u + min a b < cLine := by
  have : min a b ≤ a := Nat.min_le_left _ _
  omega
theorem opd_eq (hu : X.A.units + 64 < cLine) : OpD X (compareOp .Eq) rEqq := by
  intro pins s σ H x y v u Q I rx ry w
  obtain ⟨O, dx, dy, Q', dm, hx, hy, ⟨h1, h2, q⟩, k⟩ := w
  obtain ⟨as, r1⟩ := Rp.reads I dx x v (hx.up (hd_same _ _)) rx
  obtain ⟨bs, r2⟩ := Rp.reads I dy y u (hy.up (hd_same _ _)) ry
  exact SeqAt.eq_plain r1 r2 (dOk_plain h1) (dOk_plain h2) (room_min hu (dOk_depth h1)) ⟨.bl _, H, I, rfl, k _ H _ (Same.refl H) (.bl _) q⟩
theorem opd_ne (hu : X.A.units + 64 < cLine) : OpD X (compareOp .NotEq) rNeq := by
  intro pins s σ H x y v u Q I rx ry w
  obtain ⟨O, dx, dy, Q', dm, hx, hy, ⟨h1, h2, q⟩, k⟩ := w
  obtain ⟨as, r1⟩ := Rp.reads I dx x v (hx.up (hd_same _ _)) rx
  obtain ⟨bs, r2⟩ := Rp.reads I dy y u (hy.up (hd_same _ _)) ry
  exact SeqAt.ne_plain r1 r2 (dOk_plain h1) (dOk_plain h2) (room_min hu (dOk_depth h1)) ⟨.bl _, H, I, rfl, k _ H _ (Same.refl H) (.bl _) q⟩
/-- <, <=, >, >= -/
def rOrd (g : PyData → PyData → Bool) : R2D := fun x y Q => PySem.W.alike x y = true ∧ x ≠ .none ∧ x.depth ≤ 60 ∧ Q (.bool (g x y))
theorem opd_lt (hu : X.A.units + 64 < cLine) : OpD X (compareOp .Lt) (rOrd fun x y => PySem.W.dataLt x y) := by
  intro pins s σ H x y v u Q I rx ry w
  obtain ⟨O, dx, dy, Q', dm, hx, hy, ⟨h1, h2, h3, q⟩, k⟩ := w
  obtain ⟨as, r1⟩ := Rp.reads I dx x v (hx.up (hd_same _ _)) rx
  obtain ⟨bs, r2⟩ := Rp.reads I dy y u (hy.up (hd_same _ _)) ry
  exact PySem.W.lt_data r1 r2 h1 h2 (room_min hu h3) ⟨.bl _, H, I, rfl, k _ H _ (Same.refl H) (.bl _) q⟩
theorem opd_le (hu : X.A.units + 64 < cLine) : OpD X (compareOp .LtE) (rOrd fun x y => !PySem.W.dataLt y x) := by
  intro pins s σ H x y v u Q I rx ry w
  obtain ⟨O, dx, dy, Q', dm, hx, hy, ⟨h1, h2, h3, q⟩, k⟩ := w
  obtain ⟨as, r1⟩ := Rp.reads I dx x v (hx.up (hd_same _ _)) rx
  obtain ⟨bs, r2⟩ := Rp.reads I dy y u (hy.up (hd_same _ _)) ry
  exact PySem.W.le_data r1 r2 h1 h2 (room_min hu h3) ⟨.bl _, H, I, rfl, k _ H _ (Same.refl H) (.bl _) q⟩
theorem opd_gt (hu : X.A.units + 64 < cLine) : OpD X (compareOp .Gt) (rOrd fun x y => PySem.W.dataLt y x) := by
  intro pins s σ H x y v u Q I rx ry w
  obtain ⟨O, dx, dy, Q', dm, hx, hy, ⟨h1, h2, h3, q⟩, k⟩ := w
  obtain ⟨as, r1⟩ := Rp.reads I dx x v (hx.up (hd_same _ _)) rx
  obtain ⟨bs, r2⟩ := Rp.reads I dy y u (hy.up (hd_same _ _)) ry
  exact PySem.W.gt_data r1 r2 h1 h2 (room_min hu h3) ⟨.bl _, H, I, rfl, k _ H _ (Same.refl H) (.bl _) q⟩
theorem opd_ge (hu : X.A.units + 64 < cLine) : OpD X (compareOp .GtE) (rOrd fun x y => !PySem.W.dataLt x y) := by
  intro pins s σ H x y v u Q I rx ry w
  obtain ⟨O, dx, dy, Q', dm, hx, hy, ⟨h1, h2, h3, q⟩, k⟩ := w
  obtain ⟨as, r1⟩ := Rp.reads I dx x v (hx.up (hd_same _ _)) rx
  obtain ⟨bs, r2⟩ := Rp.reads I dy y u (hy.up (hd_same _ _)) ry
  exact PySem.W.ge_data r1 r2 h1 h2 (room_min hu h3) ⟨.bl _, H, I, rfl, k _ H _ (Same.refl H) (.bl _) q⟩
/-- in, not in: lists, tuples; a text in a text -/
def inD (x : PyData) (xs : List PyData) : Bool := xs.any fun y => PyData.eqv y x
def rInn (neg : Bool) : R2D := fun x y Q => dOk x = true ∧ ∃ xs, (y = .list xs ∨ y = .tuple xs) ∧ PyData.plainAll xs = true ∧ Q (.bool (if neg = true then !inD x xs else inD x xs))
theorem room_in2 {u a b : Nat} (h : u + 64 < cLine) (ha : a ≤ 60) : u + 1 + min b a < cLine := by
  have : min b a ≤ a := Nat.min_le_right _ _
  omega
theorem opd_in (hu : X.A.units + 64 < cLine) : OpD X (compareOp .In) (rInn false) := by
  intro pins s σ H x y v u Q I rx ry w
  obtain ⟨O, dx, dy, Q', dm, hx, hy, ⟨h1, xs, e, h2, q⟩, k⟩ := w
  obtain ⟨as, r1⟩ := Rp.reads I dx x v (hx.up (hd_same _ _)) rx
  obtain ⟨bs, r2⟩ := Rp.reads I dy y u (hy.up (hd_same _ _)) ry
  rcases e with rfl | rfl
  · exact SeqAt.in_list_data r2 r1 h2 (dOk_plain h1) (room_in2 hu (dOk_depth h1)) ⟨.bl _, H, I, rfl, k _ H _ (Same.refl H) (.bl _) q⟩
  · exact SeqAt.in_tuple_data r2 r1 h2 (dOk_plain h1) (room_in2 hu (dOk_depth h1)) ⟨.bl _, H, I, rfl, k _ H _ (Same.refl H) (.bl _) q⟩
theorem opd_notIn (hu : X.A.units + 64 < cLine) : OpD X (compareOp .NotIn) (rInn true) := by
  intro pins s σ H x y v u Q I rx ry w
  obtain ⟨O, dx, dy, Q', dm, hx, hy, ⟨h1, xs, e, h2, q⟩, k⟩ := w
  obtain ⟨as, r1⟩ := Rp.reads I dx x v (hx.up (hd_same _ _)) rx
  obtain ⟨bs, r2⟩ := Rp.reads I dy y u (hy.up (hd_same _ _)) ry
  rcases e with rfl | rfl
  · exact SeqAt.notIn_list_data r2 r1 h2 (dOk_plain h1) (room_in2 hu (dOk_depth h1)) ⟨.bl _, H, I, rfl, k _ H _ (Same.refl H) (.bl _) q⟩
  · exact SeqAt.notIn_tuple_data r2 r1 h2 (dOk_plain h1) (room_in2 hu (dOk_depth h1)) ⟨.bl _, H, I, rfl, k _ H _ (Same.refl H) (.bl _) q⟩
/-- is, is not: None; truths -/
def isNon : PyData → Bool
  | .none => true
  | _ => false
def isV : PyData → PyData → Option Bool
  | x, .none => some (isNon x)
  | .bool a, .bool b => some (decide (a = b))
  | _, _ => none
def rIss (neg : Bool) : R2D := fun x y Q => ∃ k, isV x y = some k ∧ Q (.bool (if neg = true then !k else k))
theorem rp_non {H : Hp} {v : V} {d : PyData} (h : Rp H v d) : decide (v = .non) = isNon d := by
  cases h <;> rfl
theorem opd_is : OpD X (compareOp .Is) (rIss false) := by
  intro pins s σ H x y v u Q I rx ry w
  obtain ⟨O, dx, dy, Q', dm, hx, hy, ⟨b, e, q⟩, k⟩ := w
  cases dy with
  | none =>
    cases hy
    have e' : isNon dx = b := by
      have z : isV dx .none = some (isNon dx) := by cases dx <;> rfl
      rw [z] at e
      exact Option.some.inj e
    refine op_isN pins s σ H _ _ v u Q I rx ry ⟨rfl, ?_⟩
    rw [rp_non hx, e']
    exact k _ H _ (Same.refl H) (.bl _) q
  | bool c =>
    cases dx with
    | bool a =>
      cases hx
      cases hy
      have e' : decide (a = c) = b := Option.some.inj e
      refine op_isBl pins s σ H _ _ v u Q I rx ry ⟨a, c, rfl, rfl, ?_⟩
      subst e'
      exact k _ H _ (Same.refl H) (.bl _) q
    | _ => cases e
  | _ => cases dx <;> cases e
theorem opd_isnot : OpD X (compareOp .IsNot) (rIss true) := by
  intro pins s σ H x y v u Q I rx ry w
  obtain ⟨O, dx, dy, Q', dm, hx, hy, ⟨b, e, q⟩, k⟩ := w
  cases dy with
  | none =>
    cases hy
    have e' : isNon dx = b := by
      have z : isV dx .none = some (isNon dx) := by cases dx <;> rfl
      rw [z] at e
      exact Option.some.inj e
    refine op_notN pins s σ H _ _ v u Q I rx ry ⟨rfl, ?_⟩
    rw [rp_non hx, e']
    exact k _ H _ (Same.refl H) (.bl _) q
  | bool c =>
    cases dx with
    | bool a =>
      cases hx
      cases hy
      have e' : decide (a = c) = b := Option.some.inj e
      refine op_notBl pins s σ H _ _ v u Q I rx ry ⟨a, c, rfl, rfl, ?_⟩
      subst e'
      exact k _ H _ (Same.refl H) (.bl _) q
    | _ => cases e
  | _ => cases dx <;> cases e
/-- - x -/
def dNeg (t : TD) : TD := fun r Q => t r fun x => ∃ i, x = .int i ∧ Q (.int (-i))
theorem pd_neg {C : Cfg} {a : Expr} {pos : Pos} {t : TD} (ha : PD X C a t) : PD X C (.UnaryOp .USub a pos) (dNeg t) :=
  PE_imp (pe_un un_neg ha) fun σ H Q ⟨ρ, Q', R, q, k⟩ => ⟨ρ, _, R, q, fun v H1 x g1 rp q1 => by
    obtain ⟨i, rfl, q1⟩ := q1
    exact ⟨i, rp_int rp, k _ H1 _ g1 (.int _) q1⟩⟩
end
end DP

end
section
set_option Elab.async false
set_option linter.all false
set_option maxRecDepth 100000
set_option autoImplicit false
set_option maxHeartbeats 4000000
namespace DP
open PySem PySem.Spec PyProof.Rows L2
/-! ### built-in calls by data -/
abbrev RC := List PyData → (PyData → Prop) → Prop
def upC (r : RC) : List V → Hp → VK → Prop := fun vs H Q => ∃ (O : List Addr) (ds : List PyData) (Q' : PyData → Prop), (∀ a ∈ O, H a ≠ none) ∧ RpA (hd H O) vs ds ∧ r ds Q' ∧ ∀ z H' dz, Same H H' → Rp (hd H' O) z dz → Q' dz → Q z H'
def CallD (X : Cx) (f : Value) (r : RC) : Prop := CallR X f (upC r)
def dCall (r : RC) (t : TAD) : TD := fun e Q => t e fun xs => r xs Q
section
variable {X : Cx} {C : Cfg} {x : Str} {p pos : Pos} {e : Expr} {es : List Expr} {t : TAD} {bid T : String} {r : RC}
theorem call_go {σ : L2.St} {H : Hp} {Q : VK} (h : up C (dCall r t) σ H Q) : tCB (upC r) (upA C t) σ H Q := by
  obtain ⟨ρ, Q', R, q, k⟩ := h
  exact ⟨ρ, _, R, q, fun vs H1 xs g1 rp q1 => ⟨C.O ++ oA ρ, xs, Q', (R.grow g1).domA, rp, q1, fun z H' dz sm rpz qz => k z H' dz (g1.then_same sm) rpz qz⟩⟩
theorem pd_callB (hc : CallD X (.builtin bid) r) (hm : X.mg x = none) (hv : bootBuiltins x = some (.builtin bid)) (ha : PDA X C (e :: es) t) (hg : Gl X x := by rfl) (hn : x ≠ "__name__" := by decide) (hdb : (x == ("__debug__" : Str)) = false := by decide)
    (he : starEach (e :: es) X.env = (false, eval e X.env) :: starEach es X.env := by rfl) (hpl : (backTo pos (starEach es X.env)).any (·.1) = false := by rfl) : PD X C (.Call (.Name x p) (e :: es) [] pos) (dCall r t) :=
  PE_imp (pe_callB hc hg hm hv ha hn hdb he hpl) fun _ _ _ => call_go
theorem pd_callTy (hc : CallD X (.type T) r) (hm : X.mg x = none) (hv : bootBuiltins x = some (.type T)) (ha : PDA X C (e :: es) t) (hg : Gl X x := by rfl) (hn : x ≠ "__name__" := by decide) (hdb : (x == ("__debug__" : Str)) = false := by decide)
    (he : starEach (e :: es) X.env = (false, eval e X.env) :: starEach es X.env := by rfl) (hpl : (backTo pos (starEach es X.env)).any (·.1) = false := by rfl) : PD X C (.Call (.Name x p) (e :: es) [] pos) (dCall r t) :=
  PE_imp (pe_callTy hc hg hm hv ha hn hdb he hpl) fun _ _ _ => call_go
/-! the built-ins -/
theorem rpa1 {H : Hp} {vs : List V} {d : PyData} (h : RpA H vs [d]) : ∃ v, vs = [v] ∧ Rp H v d := by
  cases h with
  | cons a b => cases b; exact ⟨_, rfl, a⟩
theorem rpa2 {H : Hp} {vs : List V} {d d' : PyData} (h : RpA H vs [d, d']) : ∃ v w, vs = [v, w] ∧ Rp H v d ∧ Rp H w d' := by
  cases h with
  | cons a b =>
    obtain ⟨w, rfl, c⟩ := rpa1 b
    exact ⟨_, w, rfl, a, c⟩
def lenD : PyData → Option Nat
  | .list xs => some xs.length
  | .tuple xs => some xs.length
  | .str x => if x.length ≤ sizeLine then some x.length else none
  | _ => none
def rLen : RC := fun xs Q => ∃ d n, xs = [d] ∧ lenD d = some n ∧ Q (.int n)
theorem cd_len : CallD X (.builtin "len") rLen := by
  intro pins s σ H vs us Q I rv w
  obtain ⟨O, ds, Q', dm, rp, ⟨d, n, rfl, hn, q⟩, k⟩ := w
  obtain ⟨v, rfl, hv⟩ := rpa1 rp
  cases d with
  | list xs =>
    obtain ⟨a, ys, rfl, h1, h2, h3⟩ := rp_lst hv
    have e : xs.length = n := Option.some.inj hn
    have l := h3.length
    refine call_len_seq pins s σ H _ us Q I rv ⟨a, ys, rfl, .inl (.inl (DP.Rd.full h1)), ?_⟩
    rw [l, e]
    exact k _ H _ (Same.refl H) (.int _) q
  | tuple xs =>
    obtain ⟨a, ys, rfl, h1, h2, h3⟩ := rp_tup hv
    have e : xs.length = n := Option.some.inj hn
    have l := h3.length
    refine call_len_seq pins s σ H _ us Q I rv ⟨a, ys, rfl, .inr (.inl (.inl (hd_some h1).2)), ?_⟩
    rw [l, e]
    exact k _ H _ (Same.refl H) (.int _) q
  | str z =>
    rw [rp_str hv] at rv
    have hn' : (if z.length ≤ sizeLine then some z.length else none) = some n := hn
    by_cases hz : z.length ≤ sizeLine
    · rw [if_pos hz] at hn'
      have e := Option.some.inj hn'
      refine call_len_str pins s σ H _ us Q I rv ⟨z, rfl, hz, ?_⟩
      rw [e]
      exact k _ H _ (Same.refl H) (.int _) q
    · rw [if_neg hz] at hn'
      cases hn'
  | _ => cases hn
def rTupleOf : RC := fun xs Q => ∃ ys, (xs = [.list ys] ∨ xs = [.tuple ys]) ∧ Q (.tuple ys)
theorem cd_tuple : CallD X (.type "tuple") rTupleOf := by
  intro pins s σ H vs us Q I rv w
  obtain ⟨O, ds, Q', dm, rp, ⟨ys, e | e, q⟩, k⟩ := w
  · subst e
    obtain ⟨v, rfl, hv⟩ := rpa1 rp
    obtain ⟨a, xs, rfl, h1, h2, h3⟩ := rp_lst hv
    exact call_tuple_of pins s σ H _ us Q I rv ⟨a, xs, rfl, .inl ⟨.inl (DP.Rd.full h1), fun p np => k _ _ _ (same_new np) (rp_new dm np h2 h3) q⟩⟩
  · subst e
    obtain ⟨v, rfl, hv⟩ := rpa1 rp
    obtain ⟨a, xs, rfl, h1, h2, h3⟩ := rp_tup hv
    exact call_tuple_of pins s σ H _ us Q I rv ⟨a, xs, rfl, .inr ⟨.inl (.inl (hd_some h1).2), k _ H _ (Same.refl H) hv q⟩⟩
def rTruth (f : List PyData → Bool) : RC := fun xs Q => ∃ ys, (xs = [.list ys] ∨ xs = [.tuple ys]) ∧ PyData.plainAll ys = true ∧ (∀ y ∈ ys, y.fits63) ∧ Q (.bool (f ys))
theorem cd_all (hc : X.calm = true) : CallD X (.builtin "all") (rTruth fun ys => ys.all PyData.truthy) := by
  intro pins s σ H vs us Q I rv w
  obtain ⟨O, ds, Q', dm, rp, ⟨ys, e | e, hp, hf, q⟩, k⟩ := w
  · subst e
    obtain ⟨v, rfl, hv⟩ := rpa1 rp
    obtain ⟨a, xs, rfl, h1, h2, h3⟩ := rp_lst hv
    obtain ⟨its, n, z, r, eo⟩ := lstR I (DP.Rd.full h1)
    obtain ⟨as, hr⟩ := Rp.readsAll I ys xs its (h3.up (hd_same _ _)) r
    rw [Vals.ref1 rv]
    exact PySem.W.all_list_data (I.ok.hd hc) ⟨_, eo, rfl, n, rfl⟩ (by simpa using hr) hp hf fun h' tk hk => ⟨.bl _, H, I.kept hk, rfl, k _ H _ (Same.refl H) (.bl _) q⟩
  · subst e
    obtain ⟨v, rfl, hv⟩ := rpa1 rp
    obtain ⟨a, xs, rfl, h1, h2, h3⟩ := rp_tup hv
    obtain ⟨its, z, r, eo⟩ := tupR I (hd_some h1).2
    obtain ⟨as, hr⟩ := Rp.readsAll I ys xs its (h3.up (hd_same _ _)) r
    rw [Vals.ref1 rv]
    exact PySem.W.all_tuple_data (I.ok.hd hc) (show s.heap.IsTuple a its.toArray from eo) (by simpa using hr) hp hf fun h' tk hk => ⟨.bl _, H, I.kept hk, rfl, k _ H _ (Same.refl H) (.bl _) q⟩
theorem cd_any (hc : X.calm = true) : CallD X (.builtin "any") (rTruth fun ys => ys.any PyData.truthy) := by
  intro pins s σ H vs us Q I rv w
  obtain ⟨O, ds, Q', dm, rp, ⟨ys, e | e, hp, hf, q⟩, k⟩ := w
  · subst e
    obtain ⟨v, rfl, hv⟩ := rpa1 rp
    obtain ⟨a, xs, rfl, h1, h2, h3⟩ := rp_lst hv
    obtain ⟨its, n, z, r, eo⟩ := lstR I (DP.Rd.full h1)
    obtain ⟨as, hr⟩ := Rp.readsAll I ys xs its (h3.up (hd_same _ _)) r
    rw [Vals.ref1 rv]
    exact PySem.W.any_list_data (I.ok.hd hc) ⟨_, eo, rfl, n, rfl⟩ (by simpa using hr) hp hf fun h' tk hk => ⟨.bl _, H, I.kept hk, rfl, k _ H _ (Same.refl H) (.bl _) q⟩
  · subst e
    obtain ⟨v, rfl, hv⟩ := rpa1 rp
    obtain ⟨a, xs, rfl, h1, h2, h3⟩ := rp_tup hv
    obtain ⟨its, z, r, eo⟩ := tupR I (hd_some h1).2
    obtain ⟨as, hr⟩ := Rp.readsAll I ys xs its (h3.up (hd_same _ _)) r
    rw [Vals.ref1 rv]
    exact PySem.W.any_tuple_data (I.ok.hd hc) (show s.heap.IsTuple a its.toArray from eo) (by simpa using hr) hp hf fun h' tk hk => ⟨.bl _, H, I.kept hk, rfl, k _ H _ (Same.refl H) (.bl _) q⟩
theorem rpa_ints {H : Hp} : ∀ {ns : List Int} {vs : List V}, RpA H vs (ns.map PyData.int) → vs = ns.map V.int
  | [], _, h => by cases h; rfl
  | n :: ns, _, h => by
    cases h with
    | cons a b => rw [rp_int a, rpa_ints b]; rfl
def rSumD : RC := fun xs Q => ∃ ns : List Int, xs = [.list (ns.map PyData.int)] ∧ Q (.int ns.sum)
theorem cd_sum (hc : X.calm = true) : CallD X (.builtin "sum") rSumD := by
  intro pins s σ H vs us Q I rv w
  obtain ⟨O, ds, Q', dm, rp, ⟨ns, rfl, q⟩, k⟩ := w
  obtain ⟨v, rfl, hv⟩ := rpa1 rp
  obtain ⟨a, xs, rfl, h1, h2, h3⟩ := rp_lst hv
  rw [rpa_ints h3] at h1
  exact cr_sum hc pins s σ H _ us Q I rv ⟨a, ns, rfl, .inl (DP.Rd.full h1), k _ H _ (Same.refl H) (.int _) q⟩
def rInt1 : RC := fun xs Q => (∃ i, xs = [.int i] ∧ Q (.int i)) ∨ ∃ b : Bool, xs = [.bool b] ∧ Q (.int (if b then 1 else 0))
theorem cd_int : CallD X (.type "int") rInt1 := by
  intro pins s σ H vs us Q I rv w
  obtain ⟨O, ds, Q', dm, rp, (⟨i, rfl, q⟩ | ⟨b, rfl, q⟩), k⟩ := w
  · obtain ⟨v, rfl, hv⟩ := rpa1 rp
    rw [rp_int hv] at rv
    exact call_int1 pins s σ H _ us Q I rv (.inl ⟨i, rfl, k _ H _ (Same.refl H) (.int _) q⟩)
  · obtain ⟨v, rfl, hv⟩ := rpa1 rp
    rw [rp_bl hv] at rv
    exact call_int1 pins s σ H _ us Q I rv (.inr ⟨b, rfl, k _ H _ (Same.refl H) (.int _) q⟩)
def rII (g : Int → Int → Int) : RC := fun xs Q => ∃ i j, xs = [.int i, .int j] ∧ Q (.int (g i j))
theorem cd_max2 (hc : X.calm = true) : CallD X (.builtin "max") (rII fun i j => if j > i then j else i) := by
  intro pins s σ H vs us Q I rv w
  obtain ⟨O, ds, Q', dm, rp, ⟨i, j, rfl, q⟩, k⟩ := w
  obtain ⟨v, w, rfl, hv, hw⟩ := rpa2 rp
  rw [rp_int hv, rp_int hw] at rv
  exact call_max2 hc pins s σ H _ us Q I rv ⟨i, j, rfl, k _ H _ (Same.refl H) (.int _) q⟩
theorem cd_min2 (hc : X.calm = true) : CallD X (.builtin "min") (rII fun i j => if j < i then j else i) := by
  intro pins s σ H vs us Q I rv w
  obtain ⟨O, ds, Q', dm, rp, ⟨i, j, rfl, q⟩, k⟩ := w
  obtain ⟨v, w, rfl, hv, hw⟩ := rpa2 rp
  rw [rp_int hv, rp_int hw] at rv
  exact call_min2 hc pins s σ H _ us Q I rv ⟨i, j, rfl, k _ H _ (Same.refl H) (.int _) q⟩
/-! ### new lists by calls -/
abbrev RF := List PyData → (List PyData → Prop) → Prop
def upCF (r : RF) : List V → Hp → VK → Prop := fun vs H Q => ∃ (O : List Addr) (ds : List PyData) (Q' : List PyData → Prop), (∀ a ∈ O, H a ≠ none) ∧ RpA (hd H O) vs ds ∧ r ds Q' ∧ ∀ a H' ws xs, Same H H' → H a = none → H' a = some (.lst ws) → ws.length ≤ sizeLine → RpA (hd H' (a :: O)) ws xs → Q' xs → Q (.ref a) H'
def CallF (X : Cx) (f : Value) (r : RF) : Prop := CallR X f (upCF r)
def fCall (r : RF) (t : TAD) : TAD := fun e Q => t e fun xs => r xs Q
theorem callF_go {r : RF} {σ : L2.St} {H : Hp} {Q : VK} (h : upF C (fCall r t) σ H Q) : tCB (upCF r) (upA C t) σ H Q := by
  obtain ⟨ρ, Q', R, q, k⟩ := h
  exact ⟨ρ, _, R, q, fun vs H1 xs g1 rp q1 => ⟨C.O ++ oA ρ, xs, Q', (R.grow g1).domA, rp, q1, fun a H' ws ys sm na ea l rpz qz => k a H' ws ys (g1.then_same sm) (Gr.none R g1 na) ea l rpz qz⟩⟩
theorem pf_callB {r : RF} (hc : CallF X (.builtin bid) r) (hm : X.mg x = none) (hv : bootBuiltins x = some (.builtin bid)) (ha : PDA X C (e :: es) t) (hg : Gl X x := by rfl) (hn : x ≠ "__name__" := by decide) (hdb : (x == ("__debug__" : Str)) = false := by decide)
    (he : starEach (e :: es) X.env = (false, eval e X.env) :: starEach es X.env := by rfl) (hpl : (backTo pos (starEach es X.env)).any (·.1) = false := by rfl) : PF X C (.Call (.Name x p) (e :: es) [] pos) (fCall r t) :=
  PE_imp (pe_callB hc hg hm hv ha hn hdb he hpl) fun _ _ _ => callF_go
theorem pf_callTy {r : RF} (hc : CallF X (.type T) r) (hm : X.mg x = none) (hv : bootBuiltins x = some (.type T)) (ha : PDA X C (e :: es) t) (hg : Gl X x := by rfl) (hn : x ≠ "__name__" := by decide) (hdb : (x == ("__debug__" : Str)) = false := by decide)
    (he : starEach (e :: es) X.env = (false, eval e X.env) :: starEach es X.env := by rfl) (hpl : (backTo pos (starEach es X.env)).any (·.1) = false := by rfl) : PF X C (.Call (.Name x p) (e :: es) [] pos) (fCall r t) :=
  PE_imp (pe_callTy hc hg hm hv ha hn hdb he hpl) fun _ _ _ => callF_go
def rListOf : RF := fun xs Q => ∃ ys, (xs = [.list ys] ∨ xs = [.tuple ys]) ∧ Q ys
theorem cf_list : CallF X (.type "list") rListOf := by
  intro pins s σ H vs us Q I rv w
  obtain ⟨O, ds, Q', dm, rp, ⟨ys, e | e, q⟩, k⟩ := w
  · subst e
    obtain ⟨v, rfl, hv⟩ := rpa1 rp
    obtain ⟨a, xs, rfl, h1, h2, h3⟩ := rp_lst hv
    exact call_list_of pins s σ H _ us Q I rv ⟨a, xs, rfl, .inl (.inl (DP.Rd.full h1)), fun p np => k _ _ _ _ (same_new np) np upd_same h2 (h3.up (new_in np)) q⟩
  · subst e
    obtain ⟨v, rfl, hv⟩ := rpa1 rp
    obtain ⟨a, xs, rfl, h1, h2, h3⟩ := rp_tup hv
    exact call_list_of pins s σ H _ us Q I rv ⟨a, xs, rfl, .inr (.inl (.inl (hd_some h1).2)), fun p np => k _ _ _ _ (same_new np) np upd_same h2 (h3.up (new_in np)) q⟩
/-! sorted -/
def sortD (ds : List PyData) : List PyData := ds.mergeSort (PySem.W.dataLe false id)
def SortOk (ds : List PyData) : Prop := PySem.W.AllAlike ds ∧ (PySem.W.Sortable ds ∨ (ds.length ≤ 1 ∧ ∀ d ∈ ds, d ≠ .none)) ∧ ∀ d ∈ ds, d.depth ≤ 60
def rSortedD : RF := fun xs Q => ∃ ys, xs = [.list ys] ∧ SortOk ys ∧ Q (sortD ys)
open PySem.W in
theorem sorts_one {prog : Program} {w : World} {A : Around} {s : Shared} {vs : List Value} {ds : List PyData} (e : EachIs (fun v d => ∃ as, Reads s.heap v d as) vs ds) (hal : AllAlike ds) (h1 : ds.length ≤ 1) (hn : ∀ d ∈ ds, d ≠ .none) (hu : ∀ d, d ∈ ds → A.units + d.depth < cLine) : SortsAt prog w A s (dataKind s.heap ds) vs := by
  have room : ∀ {d d' : PyData}, d ∈ ds → A.units + min d.depth d'.depth < cLine := fun {d d'} hd => Nat.lt_of_le_of_lt (Nat.add_le_add_left (Nat.min_le_left _ _) _) (hu d hd)
  refine ⟨fun v hv => ?_, general', ?_, fun h2 => ?_⟩
  · obtain ⟨d, hd, as, r⟩ := e.left v hv
    exact ⟨_, dataKind_some hal hd r⟩
  · intro E x y a b Q ha hb hq
    obtain ⟨d, as, hd, ra, rfl⟩ := dataKind_inv ha
    obtain ⟨d', as', hd', rb, rfl⟩ := dataKind_inv hb
    show wpAny _ _ (oneLt' false x y) _ _ _
    exact oneLt_alike (fun z => nomatch z) ra rb (hal d hd d' hd') (hn d hd) (room hd) hq
  · have := e.length
    omega
theorem each_pairs {H : Hp} : ∀ {vs : List V} {ds : List PyData} {its : List Value}, RpA H vs ds → Vals vs its → PySem.W.EachIs (fun v (b : V × PyData) => RelV b.1 v) its (vs.zip ds)
  | _, _, _, .nil, .nil => .nil
  | _, _, _, .cons _ b, .cons r t => .cons r (each_pairs b t)
theorem rpa_pairs {H : Hp} : ∀ {ps : List (V × PyData)}, (∀ p ∈ ps, Rp H p.1 p.2) → RpA H (ps.map (·.1)) (ps.map (·.2))
  | [], _ => .nil
  | p :: ps, h => .cons (h p List.mem_cons_self) (rpa_pairs fun q hq => h q (List.mem_cons_of_mem _ hq))
theorem pairs_rpa {H : Hp} : ∀ {vs : List V} {ds : List PyData}, RpA H vs ds → ∀ p ∈ vs.zip ds, Rp H p.1 p.2
  | _, _, .nil, _, h => by simp at h
  | _, _, .cons a b, p, h => by
    rw [List.zip_cons_cons, List.mem_cons] at h
    rcases h with rfl | h
    · exact a
    · exact pairs_rpa b p h
theorem each_vals : ∀ {out : List Value} {ps : List (V × PyData)}, PySem.W.EachIs (fun v (b : V × PyData) => RelV b.1 v) out ps → Vals (ps.map (·.1)) out
  | _, _, .nil => .nil
  | _, _, .cons a b => .cons a (each_vals b)
theorem rpa_each {H : Hp} {X : Cx} {pins : List (Addr × Obj)} {σ : L2.St} {s : Shared} (I : Inv X pins σ H s) : ∀ {vs : List V} {ds : List PyData} {its : List Value}, RpA H vs ds → Vals vs its → PySem.W.EachIs (fun v (b : V × PyData) => ∃ as, Reads s.heap v b.2 as) its (vs.zip ds)
  | _, _, _, .nil, .nil => .nil
  | _, _, _, .cons a b, .cons r t => .cons (Rp.reads I _ _ _ a r) (rpa_each I b t)
open PySem.W in
theorem sorted_pairs {prog : Program} {w : World} {A : Around} {E : Value → Shared → Prop} {s : Shared} {l : Addr} {its : List Value} {ps : List (V × PyData)} {Q : Value → Shared → Prop} (hl : s.heap.IsList l its.toArray) (e : EachIs (fun v (b : V × PyData) => RelV b.1 v) its ps)
    (er : EachIs (fun v (b : V × PyData) => ∃ as, Reads s.heap v b.2 as) its ps) (ok : SortOk (ps.map (·.2))) (hL : ps.length ≤ sizeLine) (hu : A.units + 64 < cLine)
    (h : ∀ out, out.length = ps.length → EachIs (fun v (b : V × PyData) => RelV b.1 v) out (ps.mergeSort (dataLe false (·.2))) → Q (.ref (s.heap.objs.size + 1)) { s with heap := sortedAll s.heap its (List.toArray out) }) :
    wpAny (model prog w) A (call (.builtin "sorted") [.ref l]) Q E s := by
  obtain ⟨hal, hk, hd⟩ := ok
  have hd' : ∀ b ∈ ps, b.2.depth ≤ 60 := fun b hb => hd _ (List.mem_map.mpr ⟨b, hb, rfl⟩)
  rcases hk with hk | ⟨h1, hn⟩
  · exact sorted_data hl e er hal hk hL (fun b hb => by have := hd' b hb; omega) h
  · have er' : EachIs (fun v (b : V × PyData) => ∃ as, Reads (sortingHeap (copyHeap s.heap its) (s.heap.objs.size + 1) its) v b.2 as) its ps := er.mono fun _ _ ⟨as, r⟩ => ⟨as, PyProof.Rows.Reads.keeps (fun _ _ => sorting_copy_old) r⟩
    exact sorted_vals hl (sorts_one (s := { s with heap := sortingHeap (copyHeap s.heap its) (s.heap.objs.size + 1) its }) (each_map (R := fun v d => ∃ as, Reads (sortingHeap (copyHeap s.heap its) (s.heap.objs.size + 1) its) v d as) (fun b : V × PyData => b.2) er') hal h1 hn
        (bound_map fun b hb => by have := hd' b hb; show A.units + 1 + 1 + b.2.depth < cLine; omega)) (by rw [e.length]; exact hL)
      (h _ (by rw [sortVals_length false rfl]; exact e.length) (sortVals_data false e er' hal))
theorem cf_sorted (hu : X.A.units + 64 < cLine) : CallF X (.builtin "sorted") rSortedD := by
  intro pins s σ H vs us Q I rv w
  obtain ⟨O, ds, Q', dm, rp, ⟨ys, rfl, ok, q⟩, k⟩ := w
  obtain ⟨v, rfl, hv⟩ := rpa1 rp
  obtain ⟨a, xs, rfl, h1, h2, h3⟩ := rp_lst hv
  obtain ⟨its, n, z, r, eo⟩ := lstR I (DP.Rd.full h1)
  rw [Vals.ref1 rv]
  have ln := h3.length
  have e2 : (xs.zip ys).map (·.2) = ys := List.map_snd_zip (by omega)
  have elen : (xs.zip ys).length = xs.length := by rw [List.length_zip]; omega
  refine sorted_pairs (ps := xs.zip ys) ⟨_, eo, rfl, n, rfl⟩ (each_pairs h3 r) (rpa_each I (h3.up (hd_same _ _)) r) (by rw [e2]; exact ok) (by omega) hu fun out hlen he => ?_
  obtain ⟨ee, he2⟩ := sortedAll_at s.heap its out.toArray
  have vo := each_vals he
  have np : H (s.heap.objs.size + 1) = none := I.hok.fresh (Nat.le_succ _)
  have lw : (((xs.zip ys).mergeSort (PySem.W.dataLe false (·.2))).map (·.1)).length ≤ sizeLine := by
    rw [List.length_map, List.length_mergeSort]
    omega
  refine ⟨.ref (s.heap.objs.size + 1), _, I.laid (t' := s.toks) (o := .lst (((xs.zip ys).mergeSort (PySem.W.dataLe false (·.2))).map (·.1))) (fun b u z => sortedAll_old z) (Nat.le_succ _) ⟨lw, out, ee, vo, he2⟩, rfl,
    k _ _ _ (sortD ys) (same_new np) np upd_same lw ?_ q⟩
  have es : sortD ys = ((xs.zip ys).mergeSort (PySem.W.dataLe false (·.2))).map (·.2) := by
    have z := PySem.W.sort_maps (r := PySem.W.dataLe false fun b : V × PyData => b.2) (s := PySem.W.dataLe false id) (fun b : V × PyData => b.2) (l := xs.zip ys) (fun a _ b _ => rfl)
    rw [e2] at z
    exact z.symm
  rw [es]
  refine (rpa_pairs fun p hp => ?_).up (new_in np)
  exact pairs_rpa h3 p (List.mem_mergeSort.mp hp)
end
end DP

end
section
set_option Elab.async false
set_option linter.all false
set_option maxRecDepth 100000
set_option autoImplicit false
set_option maxHeartbeats 4000000
namespace DP
open PySem PySem.Spec PyProof.Rows L2
section
variable {X : Cx} {C : Cfg} {e a b : Expr} {pos : Pos} {t ta tb : TD}
/-! ### x[i] -/
def atD (xs : List PyData) (i : Int) : Option PyData := (ixN xs.length i).bind fun j => xs[j]?
def rIxD : R2D := fun x y Q => ∃ i xs d, y = .int i ∧ (x = .list xs ∨ x = .tuple xs) ∧ atD xs i = some d ∧ Q d
theorem at_rp {H : Hp} {vs : List V} {xs : List PyData} {i : Int} {d : PyData} (h : RpA H vs xs) (e : atD xs i = some d) : ∃ v, atI vs i = some v ∧ Rp H v d := by
  unfold atD at e
  rw [← h.length] at e
  unfold atI
  cases q : ixN vs.length i with
  | none => rw [q] at e; cases e
  | some j =>
    rw [q] at e
    exact h.get e
theorem ixd : IxR X (upR rIxD) := by
  intro value slice pins s σ H x y v u Q I rx ry w hs
  obtain ⟨O, dx, dy, Q', dm, hx, hy, ⟨i, xs, d, rfl, ex, hd', q⟩, k⟩ := w
  rw [rp_int hy] at ry
  rcases ex with rfl | rfl
  · obtain ⟨a, ys, rfl, h1, h2, h3⟩ := rp_lst hx
    obtain ⟨z, e1, e2⟩ := at_rp h3 hd'
    exact ix_list value slice pins s σ H _ _ v u Q I rx ry ⟨a, ys, i, z, rfl, rfl, .inl (DP.Rd.full h1), e1, k _ H _ (Same.refl H) e2 q⟩ hs
  · obtain ⟨a, ys, rfl, h1, h2, h3⟩ := rp_tup hx
    obtain ⟨z, e1, e2⟩ := at_rp h3 hd'
    exact ix_tup value slice pins s σ H _ _ v u Q I rx ry ⟨a, ys, i, z, rfl, rfl, .inl (.inl (hd_some h1).2), e1, k _ H _ (Same.refl H) e2 q⟩ hs
theorem pd_ix (ha : PD X C a ta) (hb : PD X C b tb) (hs : PlainIx b := by exact fun _ _ => rfl) : PD X C (.Subscript a b pos) (dOp rIxD ta tb) := PE_imp (pe_ix ixd ha hb hs) fun _ _ _ => op_go
/-! ### x[lo:hi] -/
abbrev TOD := SEnv → (Option Int → Prop) → Prop
def upO (C : Cfg) (t : TOD) : TO := fun σ H Q => ∃ (r : DEnv) (Q' : Option Int → Prop), RepE C σ H r ∧ t (er r) Q' ∧ ∀ o H', Gr C r H H' → Q' o → Q o H'
def PDO (X : Cx) (C : Cfg) (e : Option Expr) (t : TOD) : Prop := PO X e (upO C t)
theorem PO_imp {eo : Option Expr} {t u : TO} (h : PO X eo t) (q : ∀ σ H Q, u σ H Q → t σ H Q) : PO X eo u := ⟨fun pins s σ H Q I hw => h.run pins s σ H Q I (q σ H Q hw)⟩
def oNone : TOD := fun _ Q => Q none
def oSome (t : TD) : TOD := fun r Q => t r fun x => ∃ i, x = .int i ∧ Q (some i)
theorem pdo_none : PDO X C none oNone := PO_imp po_none fun σ H Q ⟨r, Q', R, q, k⟩ => k none H (Gr.refl R) q
theorem pdo_some (h : PD X C e t) : PDO X C (some e) (oSome t) := PO_imp (po_some h) fun σ H Q ⟨r, Q', R, q, k⟩ => ⟨r, _, R, q, fun v H1 x g rp qx => by
  obtain ⟨i, rfl, qx⟩ := qx
  exact ⟨i, rp_int rp, k _ H1 g qx⟩⟩
def cutD (xs : List PyData) (lo hi : Option Int) : List PyData := (xs.drop (HT.sIx xs.length 0 lo)).take (HT.sIx xs.length xs.length hi - HT.sIx xs.length 0 lo)
def rSlD : PyData → Option Int → Option Int → (PyData → Prop) → Prop
  | .list xs, lo, hi, Q => Q (.list (cutD xs lo hi))
  | .tuple xs, lo, hi, Q => Q (.tuple (cutD xs lo hi))
  | _, _, _, _ => False
def upSl : V → Option Int → Option Int → Hp → VK → Prop := fun x lo hi H Q => ∃ (O : List Addr) (dx : PyData) (Q' : PyData → Prop), (∀ a ∈ O, H a ≠ none) ∧ Rp (hd H O) x dx ∧ rSlD dx lo hi Q' ∧ ∀ z H' dz, Same H H' → Rp (hd H' O) z dz → Q' dz → Q z H'
theorem cut_rp {H : Hp} {vs : List V} {xs : List PyData} {lo hi : Option Int} (h : RpA H vs xs) : RpA H (cutV vs lo hi) (cutD xs lo hi) := by
  unfold cutV cutD
  rw [h.length]
  exact (h.drop _).take _
theorem cut_len {xs : List V} {lo hi : Option Int} : (cutV xs lo hi).length ≤ xs.length := by
  unfold cutV
  rw [List.length_take, List.length_drop]
  omega
theorem sld : SlR X upSl := by
  intro pins s σ H x v vl vu lo hi sl Q I rx hs pl pu w
  obtain ⟨O, dx, Q', dm, hx, q, k⟩ := w
  cases dx with
  | list xs =>
    obtain ⟨a, ys, rfl, h1, h2, h3⟩ := rp_lst hx
    exact sl_list pins s σ H _ v vl vu lo hi sl Q I rx hs pl pu ⟨a, ys, rfl, .inl (DP.Rd.full h1), fun p np => k _ _ _ (same_new np) (rp_newL dm np (Nat.le_trans cut_len h2) (cut_rp h3)) q⟩
  | tuple xs =>
    obtain ⟨a, ys, rfl, h1, h2, h3⟩ := rp_tup hx
    refine sl_tupA pins s σ H _ v vl vu lo hi sl Q I rx hs pl pu ⟨a, ys, rfl, .inl (.inl (hd_some h1).2), fun hw => ?_, fun _ p np => ?_⟩
    · refine k _ H _ (Same.refl H) hx ?_
      have e : cutD xs lo hi = xs := by
        unfold cutD
        rw [← h3.length, hw.1, hw.2, h3.length]
        simp
      have q' : Q' (.tuple (cutD xs lo hi)) := q
      rw [e] at q'
      exact q'
    · exact k _ _ _ (same_new np) (rp_new dm np (Nat.le_trans cut_len h2) (cut_rp h3)) q
  | _ => exact (show False from q).elim
def dSl (t : TD) (tl th : TOD) : TD := fun r Q => t r fun x => tl r fun l => th r fun u => rSlD x l u Q
theorem pd_slice {lo hi : Option Expr} {tl th : TOD} {p2 : Pos} (he : PD X C e t) (hl : PDO X C lo tl) (hu : PDO X C hi th) : PD X C (.Subscript e (.Slice lo hi none p2) pos) (dSl t tl th) :=
  PE_imp (pe_slice sld he hl hu) fun σ H Q ⟨r, Q', R, q, k⟩ => ⟨r, _, R, q, fun v H1 x g1 rp q1 => ⟨r, _, R.grow g1, q1, fun l H2 g2 q2 => ⟨r, _, (R.grow g1).grow g2, q2, fun u H3 g3 q3 =>
    ⟨C.O ++ oA r, x, Q', (((R.grow g1).grow g2).grow g3).domA, (rp.up (g2.hd (R.grow g1))).up (g3.hd ((R.grow g1).grow g2)), q3, fun z H' dz sm rpz qz => k z H' dz (((g1.trans g2).trans g3).then_same sm) rpz qz⟩⟩⟩⟩
/-! ### x[::-1] -/
section
variable {prog : Program} {w : World} {A : Around} {E : Value → Shared → Prop} {s : Shared}
theorem sliceApplied_rev {sl : Addr} {vl vu vs : Value} {n : Nat} {Q : Int × Int × Nat → Shared → Prop} (hs : s.heap.IsSliceOf sl vl vu vs) (pl : IsPart vl none) (pu : IsPart vu none) (ps : IsPart vs (some (-1)))
    (h : Q ((n : Int) - 1, -1, n) s) : wpAny (model prog w) A (Builtin.Slice.sliceApplied (.ref sl) (pure (n : Int))) Q E s := by
  obtain ⟨os, hos, hcs, hds⟩ := id hs
  unfold Builtin.Slice.sliceApplied Builtin.Slice.sliceFields
  refine wpAny_bind (wpAny_bind (wpAny_field hos hds (x := vl) rfl (wpAny_bind (wpAny_field hos hds (x := vu) rfl (wpAny_bind (wpAny_field hos hds (x := vs) rfl (wpAny_pure ?_)))))))
  refine wpAny_bind (HT.slicePart_ ps ?_)
  show wpAny _ _ (if ((-1 : Int) == 0) = true then _ else _) _ _ s
  rw [if_neg (by decide)]
  refine wpAny_bind (HT.slicePart_ pl (wpAny_bind (HT.slicePart_ pu (wpAny_bind (wpAny_pure ?_)))))
  show wpAny _ _ (match Builtin.Slice.sliceAdjust none none (-1) (n : Int) with | (lo, hi) => pure (lo, (-1 : Int), Builtin.Slice.slicePlaces lo hi (-1))) _ _ s
  have e : Builtin.Slice.sliceAdjust none none (-1) (n : Int) = ((n : Int) - 1, -1) := by
    unfold Builtin.Slice.sliceAdjust
    simp
  rw [e]
  show wpAny _ _ (pure ((n : Int) - 1, (-1 : Int), Builtin.Slice.slicePlaces ((n : Int) - 1) (-1) (-1))) _ _ s
  have e2 : Builtin.Slice.slicePlaces ((n : Int) - 1) (-1) (-1) = n := by
    unfold Builtin.Slice.slicePlaces
    simp
    split <;> omega
  rw [e2]
  exact wpAny_pure h
theorem fm_range {α : Type} (f : Nat → Option α) : ∀ (ys : List α) (k : Nat), (∀ m, m < ys.length → f (k + m) = ys[m]?) → (List.range' k ys.length).filterMap f = ys
  | [], k, _ => rfl
  | y :: ys, k, h => by
    have h0 : f k = some y := by simpa using h 0 (by simp)
    rw [List.length_cons, List.range'_succ, List.filterMap_cons, h0, fm_range f ys (k + 1) fun m hm => by
      have q := h (m + 1) (by rw [List.length_cons]; omega)
      rw [show k + 1 + m = k + (m + 1) by omega]
      simpa using q]
theorem pick_rev (xs : List Value) : ((List.range xs.length).filterMap fun (m : Nat) => xs.toArray[(((xs.length : Nat) : Int) - 1 + (m : Int) * -1).toNat]?) = xs.reverse := by
  have h := fm_range (fun (m : Nat) => xs.toArray[(((xs.length : Nat) : Int) - 1 + (m : Int) * -1).toNat]?) xs.reverse 0 fun m hm => by
    rw [List.length_reverse] at hm
    rw [List.getElem?_reverse hm, Nat.zero_add, show (((xs.length : Nat) : Int) - 1 + (m : Int) * -1).toNat = xs.length - 1 - m by omega]
    simp
  rw [List.length_reverse, ← List.range_eq_range'] at h
  exact h
theorem getItem_tuple_rev {tp sl : Addr} {items : List Value} {vl vu vs : Value} {Q : Value → Shared → Prop} (ht : IsTup s.heap tp items.toArray) (hs : s.heap.IsSliceOf sl vl vu vs) (pl : IsPart vl none) (pu : IsPart vu none) (ps : IsPart vs (some (-1)))
    (h : Q (.ref s.heap.objs.size) { s with heap := s.heap.push { cls := .type "tuple", data := .seq items.reverse.toArray } }) (hsz : items.length ≤ sizeLine) : wpAny (model prog w) A (getItem (.ref tp) (.ref sl)) Q E s := by
  have htake : sizeOk (.seq items.reverse.toArray) := by
    show items.reverse.toArray.size ≤ sizeLine
    rw [List.size_toArray, List.length_reverse]
    exact hsz
  obtain ⟨os, hos, hcs, hds⟩ := id hs
  have hTs : s.TypeIs (.ref sl) "slice" := ⟨os, hos, hcs⟩
  unfold getItem
  try with_reducible refine wpAny_holding ?_
  first | refine wpAny_bind (wpAny_pure ?_) | skip
  refine wpAny_bind (wpAny_sequenceKey ht.typeIs (by decide) ?_)
  refine wpAny_bind (wpAny_callSpecial?_slot (name := Str.ofString "__getitem__") ht.typeIs PyProof.Rows.slot_tuple_getitem
    (wpAny_call_entry PyProof.Rows.slot_tuple_getitem ht.typeIs entry_tuple_getitem ?_ (args_tuple_getitem _ _)))
  show wpAny _ _ (Builtin.Tuple.tupleItemsOf (.ref tp) >>= _) _ _ s
  refine wpAny_bind (tupleItemsOf_ ht ?_)
  refine wpAny_bind (wpAny_typeOf hTs ?_)
  rw [if_pos (by decide)]
  refine wpAny_bind (sliceApplied_rev hs pl pu ps ?_)
  have hno : ¬ ((((items.toArray.size : Int) - 1) == 0 && (-1 : Int) == 1 && items.toArray.size == items.toArray.size) = true) := by
    intro q
    rw [Bool.and_eq_true, Bool.and_eq_true] at q
    exact absurd q.1.2 (by decide)
  show wpAny _ _ (if (((items.toArray.size : Int) - 1) == 0 && (-1 : Int) == 1 && items.toArray.size == items.toArray.size) = true then _ else _) _ _ s
  rw [if_neg hno]
  have ep : ((List.range items.toArray.size).filterMap fun (k : Nat) => items.toArray[((items.toArray.size : Int) - 1 + (k : Int) * -1).toNat]?) = items.reverse := by
    have := pick_rev items
    simpa using this
  rw [ep]
  first
    | exact wpAny_bind (m := Builtin.Tuple.tupleExact _) (wpAny_newObj_type (wpAny_pure ⟨_, rfl, wpAny_pure h⟩) htake)
    | exact wpAny_bind (m := Builtin.Tuple.tupleExact _) (wpAny_newObj_type (wpAny_bind (wpAny_pure (wpAny_pure ⟨_, rfl, wpAny_pure h⟩))) htake)
    | exact wpAny_bind (wpAny_bind (m := Builtin.Tuple.tupleExact _) (wpAny_newObj_type (wpAny_pure (wpAny_pure ⟨_, rfl, wpAny_pure h⟩)) htake))
    | exact wpAny_bind (wpAny_bind (m := Builtin.Tuple.tupleExact _) (wpAny_newObj_type (wpAny_pure ⟨_, rfl, wpAny_pure h⟩) htake))
end
theorem Vals.rev {xs : List V} {us : List Value} (r : Vals xs us) : Vals xs.reverse us.reverse := by
  induction r with
  | nil => exact .nil
  | cons a b ih =>
    rw [List.reverse_cons, List.reverse_cons]
    exact ih.append (.cons a .nil)
def rRevD : PyData → (PyData → Prop) → Prop
  | .list xs, Q => Q (.list xs.reverse)
  | .tuple xs, Q => Q (.tuple xs.reverse)
  | _, _ => False
def dRev (t : TD) : TD := fun r Q => t r fun x => rRevD x Q
theorem pd_rev {k : Nat} {p1 p2 p3 : Pos} (he : PD X C e t) : PD X C (.Subscript e (.Slice none none (some (.UnaryOp .USub (.Constant (.int 1) k p1) p2)) p3) pos) (dRev t) := by
  refine ⟨fun pins s σ H Q I h => ?_⟩
  obtain ⟨ρ, Q', R, q, kk⟩ := h
  refine Subscript_ (thn (he.run pins s σ H (fun v H1 => Gr C ρ H H1 ∧ ∃ x, Rp (hd H1 (C.O ++ oA ρ)) v x ∧ rRevD x Q') I ⟨ρ, _, R, q, fun v H' x g rp qx => ⟨g, x, rp, qx⟩⟩) fun v s1 ⟨x, H1, I1, r1, g1, dx, rp, q1⟩ => ?_)
  have hst : PO X (some (.UnaryOp .USub (.Constant (.int 1) k p1) p2)) (tPart (tUn (rU fun i => .int (-i)) (tC (.int 1)))) := po_some (pe_un un_neg pe_int)
  refine wpAny_Slice (thn (po_none.run pins s1 σ H1 (fun o H2 => o = none ∧ H2 = H1) I1 ⟨rfl, rfl⟩) fun vl s2 ⟨l, H2, I2, pl, el, e2⟩ => ?_)
  subst el e2
  refine thn (po_none.run pins s2 σ H2 (fun o H3 => o = none ∧ H3 = H2) I2 ⟨rfl, rfl⟩) fun vu s3 ⟨u, H3, I3, pu, eu, e3⟩ => ?_
  subst eu e3
  refine thn (hst.run pins s3 σ H3 (fun o H4 => o = some (-1) ∧ H4 = H3) I3 ⟨1, rfl, -1, rfl, rfl, rfl⟩) fun vs s4 ⟨o, H4, I4, ps, eo, e4⟩ => ?_
  subst eo e4
  have I5 : Inv X pins σ H4 { s4 with heap := s4.heap.push { cls := .type "slice", data := .fields #[vl, vu, vs] } } := I4.kept (t' := s4.toks) fun b ob q => Heap.get?_push_of_some _ q
  have np := I5.hok.fresh (Nat.le_refl _)
  have dm := (R.grow g1).domA
  cases dx with
  | list xs =>
    obtain ⟨a, ys, rfl, h1, h2, h3⟩ := rp_lst rp
    cases r1
    obtain ⟨its, n, z, r, eo⟩ := lstR I5 (DP.Rd.full h1)
    have hlen := r.length
    have hl : ({ s4 with heap := s4.heap.push { cls := .type "slice", data := .fields #[vl, vu, vs] } } : Shared).heap.IsList a its.toArray := ⟨_, eo, rfl, n, rfl⟩
    show wpAny (model X.prog X.w) X.A (subscriptTail e (.Slice none none (some (.UnaryOp .USub (.Constant (.int 1) k p1) p2)) p3) (.ref a) (.ref s4.heap.objs.size)) (EP X pins σ Q) X.xe { s4 with heap := s4.heap.push { cls := .type "slice", data := .fields #[vl, vu, vs] } }
    refine tail_any (ops := [.ref a, .ref s4.heap.objs.size]) hl.typeIs (PySem.slot_list_getitem.lookup) ?_ (by with_unfolding_all rfl)
    refine wpAny_getItem_list_slice hl (Heap.IsSliceOf.new _ vl vu vs) pl pu ps (by decide) ?_ (by rw [List.size_toArray]; omega)
    rw [PySem.W.krv_pick]
    refine ⟨.ref _, _, I5.laid (t' := s4.toks) (o := .lst ys.reverse) (fun b ob q => Heap.get?_push_of_some _ q) (Nat.le_refl _) ?_, rfl, kk _ _ _ (g1.then_same (same_new np)) (rp_newL dm np (by rw [List.length_reverse]; exact h2) h3.reverse) q1⟩
    exact ⟨by rw [List.length_reverse]; exact h2, _, 0, Vals.rev r, Heap.get?_push_size _ rfl⟩
  | tuple xs =>
    obtain ⟨a, ys, rfl, h1, h2, h3⟩ := rp_tup rp
    cases r1
    obtain ⟨its, z, r, eo⟩ := tupR I5 (hd_some h1).2
    have hlen := r.length
    show wpAny (model X.prog X.w) X.A (subscriptTail e (.Slice none none (some (.UnaryOp .USub (.Constant (.int 1) k p1) p2)) p3) (.ref a) (.ref s4.heap.objs.size)) (EP X pins σ Q) X.xe { s4 with heap := s4.heap.push { cls := .type "slice", data := .fields #[vl, vu, vs] } }
    refine tail_any (ops := [.ref a, .ref s4.heap.objs.size]) eo.typeIs slot_tuple_getitem.lookup ?_ (by with_unfolding_all rfl)
    refine getItem_tuple_rev eo (Heap.IsSliceOf.new _ vl vu vs) pl pu ps ?_ (by omega)
    refine ⟨.ref _, _, I5.laid (t' := s4.toks) (o := .tup ys.reverse) (fun b ob q => Heap.get?_push_of_some _ q) (Nat.le_refl _) ?_, rfl, kk _ _ _ (g1.then_same (same_new np)) (rp_new dm np (by rw [List.length_reverse]; exact h2) h3.reverse) q1⟩
    exact ⟨by rw [List.length_reverse]; exact h2, _, Vals.rev r, IsTup.new _ _⟩
  | _ => exact (show False from q1).elim
/-! ### isinstance(x, T) -/
def isT : String → PyData → Bool
  | "int", d => d.isInt
  | "bool", d => d.isBool
  | "str", d => d.isStr
  | "list", d => d.isList
  | "tuple", d => d.isTuple
  | _, _ => false
def rIsiD (T : String) : List V → Hp → VK → Prop := fun vs H Q => ∃ v d, vs = [v, .ty T] ∧ Rp H v d ∧ Q (.bl (isT T d)) H
theorem cr_isi {T : String} (hT : T ∈ ["int", "bool", "str", "list", "tuple"]) : CallR X (.builtin "isinstance") (rIsiD T) := by
  intro pins s σ H xs us Q I rv w
  obtain ⟨v, d, rfl, hv, q⟩ := w
  obtain ⟨u1, u2, rfl, r1, r2⟩ := vals2 rv
  cases (show u2 = Value.type T from r2)
  obtain ⟨as, rd⟩ := Rp.reads I d v u1 hv r1
  simp only [List.mem_cons, List.not_mem_nil, or_false] at hT
  rcases hT with rfl | rfl | rfl | rfl | rfl
  · exact PySem.W.isinstance_int_data rd fun tk _ => ⟨.bl _, H, I.tok tk, rfl, q⟩
  · exact PySem.W.isinstance_bool_data rd fun tk _ => ⟨.bl _, H, I.tok tk, rfl, q⟩
  · exact PySem.W.isinstance_str_data rd fun tk _ => ⟨.bl _, H, I.tok tk, rfl, q⟩
  · exact PySem.W.isinstance_list_data rd fun tk _ => ⟨.bl _, H, I.tok tk, rfl, q⟩
  · exact PySem.W.isinstance_tuple_data rd fun tk _ => ⟨.bl _, H, I.tok tk, rfl, q⟩
def dIsi (T : String) (t : TD) : TD := fun r Q => t r fun x => Q (.bool (isT T x))
theorem pd_isi {T : String} {x : Str} {p q : Pos} (hm : X.mg "isinstance" = none) (hmT : X.mg x = none) (hv : bootBuiltins x = some (.type T)) (ha : PD X C a ta) (hT : T ∈ ["int", "bool", "str", "list", "tuple"] := by decide) (hg : Gl X "isinstance" := by rfl) (hgT : Gl X x := by rfl) (hn : x ≠ "__name__" := by decide) (hdb : (x == ("__debug__" : Str)) = false := by decide)
    (he : starEach [a, .Name x q] X.env = (false, eval a X.env) :: starEach [.Name x q] X.env := by rfl) (hpl : (backTo pos (starEach [.Name x q] X.env)).any (·.1) = false := by rfl) (he2 : starEach [.Name x q] X.env = (false, eval (.Name x q) X.env) :: starEach [] X.env := by rfl) :
    PD X C (.Call (.Name "isinstance" p) [a, .Name x q] [] pos) (dIsi T ta) :=
  PE_imp (pe_callB (cr_isi hT) hg hm (by decide +kernel) (pa_cons ha (pa_cons (pe_bltn (v := .ty T) hgT hmT hv rfl hn hdb) pa_nil he2) he) (by decide) (by decide) he hpl) fun σ H Q ⟨r, Q', R, q, k⟩ =>
    ⟨r, _, R, q, fun v H1 x g rp qx => ⟨v, x, rfl, rp.up (hd_same _ _), k _ H1 _ g (.bl _) qx⟩⟩
end
end DP

end
section
set_option Elab.async false
set_option linter.all false
set_option maxRecDepth 100000
set_option autoImplicit false
set_option maxHeartbeats 4000000
namespace DP
open PySem PySem.Spec PyProof.Rows L2
/-! ### enumerate(tuple) -/
section
open Sem (wp)
open AutoSeq1 (wpAny_loadPart')
theorem meets_enumerate_newT (l : Addr) (items : Array Value) (n : Nat) (dct : Option Addr) (sl : Array (Option Value)) :
    Meets (Builtin.«enumerate.__new__» ⟨[.type "enumerate", .ref l], []⟩) (fun _ R s => s.heap.get? l = some { cls := .type "tuple", dict := dct, data := .seq items n, slots := sl } ∧
      R (.ok (.ret (.ref (s.heap.push { cls := .type "tuple_iterator", data := .fields #[.ref l, .int 0 0] }).objs.size)))
        { s with heap := (s.heap.push { cls := .type "tuple_iterator", data := .fields #[.ref l, .int 0 0] }).push { cls := .type "enumerate", data := .fields #[.none, .bool false, .ref s.heap.objs.size, rawInt 0, .none, .none] } }) :=
  .of_wp fun prog w A R s h => by
    obtain ⟨hp, g, d, tk, os⟩ := s; obtain ⟨hl, h⟩ := h
    have hsub := sub_enumerate
    have hL : Heap.IsTuple (Shared.heap ⟨hp, g, d, tk, os⟩) l items := ⟨_, hl, rfl, n, rfl⟩
    wp_walk using wpAny_loadPart' hl
    refine wpAny_stack_any fun st => wpAny_pure ?_
    split
    · rename_i c _ _ _ _ _
      cases (c == Value.type "enumerate")
      · wp_walk using wpAny_loadPart' hl, wpAny_pyIter_tuple hL
        exact ⟨_, rfl, h⟩
      · wp_walk using wpAny_loadPart' hl, wpAny_pyIter_tuple hL
        exact ⟨_, rfl, h⟩
    · wp_walk using wpAny_loadPart' hl, wpAny_pyIter_tuple hL
      exact ⟨_, rfl, h⟩
theorem call_enumerate_tuple {prog : Program} {w : World} {A : Around} {E : Value → Shared → Prop} {s : Shared} {l : Addr} {items : Array Value} {Q : Value → Shared → Prop} (hL : s.heap.IsTuple l items)
    (h : ∀ h', IsEnum h' (s.heap.objs.size + 1) s.heap.objs.size 0 .none → h'.IsTupleIter s.heap.objs.size l 0 → h'.objs.size = s.heap.objs.size + 2 →
      (∀ b o, s.heap.get? b = some o → h'.get? b = some o) → Q (.ref (s.heap.objs.size + 1)) { s with heap := h' }) :
    wpAny (model prog w) A (call (.type "enumerate") [.ref l]) Q E s := by
  obtain ⟨⟨c, dct, dt, sl⟩, hl, hc, n, hd⟩ := hL
  replace hc : c = .type "tuple" := hc
  replace hd : dt = .seq items n := hd
  subst hc hd
  refine callType_new F.called_enumerate (by decide) (F.typeCall_enumerate_1 _) (F.newCall_enumerate_1 _) (fun obj => F.args_object_init_2 obj _) F.entry_enumerate_new
    (meets_enumerate_newT l items n dct sl) ⟨hl, ?_⟩
  have hz : (s.heap.push { cls := .type "tuple_iterator", data := .fields #[.ref l, .int 0 0] }).objs.size = s.heap.objs.size + 1 := Heap.size_push ..
  show _ ∧ _
  rw [hz]
  have he : IsEnum ((s.heap.push { cls := .type "tuple_iterator", data := .fields #[.ref l, .int 0 0] }).push
      { cls := .type "enumerate", data := .fields #[.none, .bool false, .ref s.heap.objs.size, rawInt 0, .none, .none] }) (s.heap.objs.size + 1) s.heap.objs.size 0 .none := by
    have := Heap.get?_push_size (s.heap.push { cls := .type "tuple_iterator", data := .fields #[.ref l, .int 0 0] })
      (o := { cls := .type "enumerate", data := .fields #[.none, .bool false, .ref s.heap.objs.size, rawInt 0, .none, .none] }) rfl
    rw [hz] at this; exact this
  refine ⟨⟨_, he, rfl⟩, h _ he ⟨_, Heap.get?_push_of_some _ (Heap.get?_push_size _ rfl), rfl, rfl⟩ (by rw [Heap.size_push, hz]) fun b o x => Heap.get?_push_of_some _ (Heap.get?_push_of_some _ x)⟩
end
def IteT (a : Addr) : It :=
  ⟨fun i H => ∃ (xs : List V) (x : V), H a = some (.tup xs) ∧ xs[i]? = some x, fun i H v H' => ∃ T x, v = .ref T ∧ H T = none ∧ H' = upd H T (.tup [.int (i : Nat), x]) ∧ ∀ xs, H a = some (.tup xs) → xs[i]? = some x, fun i H => ∃ xs : List V, H a = some (.tup xs) ∧ xs.length = i⟩
theorem turn_enumT {P : Program} {w : World} {K : PySem.W.Frag} {elts : List Expr} {kk : Nat} {tpos : Pos} (a e it : Addr) :
    Turn P w K (.Tuple elts kk tpos) (IteT a) [e, it] e (fun i h => (∃ old, IsEnum h e it ((i : Nat) : Int) old) ∧ h.IsTupleIter it a i ∧ e ≠ it ∧ a ≠ it) where
  mem := by simp
  obj := fun i h st b hb => by
    obtain ⟨⟨old, he⟩, ⟨o, ho, hc, hd⟩, _⟩ := st
    have e' : b = e ∨ b = it := by simpa using hb
    rcases e' with z | z
    · rw [z]; exact ⟨_, he, fun v q => nomatch q⟩
    · rw [z]; exact ⟨o, ho, fun v q => by rw [hd] at q; cases q⟩
  keep := fun i h h' st k => let ⟨⟨old, he⟩, hi, hne⟩ := st; ⟨⟨old, k e (by simp) _ he⟩, hi.at fun o q => k it (by simp) o q, hne⟩
  item := by
    intro X hP hw hK hc i pins s σ H E I hf st hg
    subst hP hw hK
    obtain ⟨⟨old, he⟩, hit, hne, hai⟩ := st
    obtain ⟨xs, x, hq, hx⟩ := hg
    obtain ⟨its, hz, rv, p⟩ := tupR I hq
    obtain ⟨u, hu, ru⟩ := rv.get hx
    have hel : e < s.heap.objs.size := Heap.lt_size he
    have hil : it < s.heap.objs.size := by obtain ⟨_, q, _⟩ := hit; exact Heap.lt_size q
    have D := Draws.tuple (prog := X.prog) (w := X.w) (A := X.A.in1) (I.ok.hd hc) it a hai its.toArray
    have hlt : i < its.toArray.size := by
      obtain ⟨hl, _⟩ := List.getElem?_eq_some_iff.mp hu
      simpa using hl
    have hef : e ∉ [it, a] := by
      intro z
      have e' : e = it ∨ e = a := by simpa using z
      rcases e' with z | z
      · exact hne z
      · have hn := (hf e (by simp)).1
        rw [z, hq] at hn
        cases hn
    refine wpAny_pyNext_enum_itemD D he ⟨hit, (show s.heap.IsTuple a its.toArray from p)⟩ hlt hne hef fun x' h' tk hP ho hit' hT hsz hk => ?_
    refine ⟨_, rfl, wpAny_letOwnedTupleGo_enum (s := { s with heap := h', toks := tk + 1 }) ho fun h'' he' sb => ?_⟩
    have ex : x' = u := by
      have h1 : its.toArray[i]? = some x' := hP
      have h2 : its.toArray[i]? = some u := by simpa using hu
      rw [h1] at h2
      exact Option.some.inj h2
    subst ex
    have hT2 : h''.get? s.heap.objs.size = some { cls := .type "tuple", data := .seq #[.int i tk, x'] } := (sb.2 _ (Nat.ne_of_gt hel)).trans hT
    have new : ObjOk X.prog X.w (upd H s.heap.objs.size (.tup [.int (i : Nat), x])) h'' s.heap.objs.size (.tup [.int (i : Nat), x]) :=
      ⟨by show 2 ≤ sizeLine; decide, [.int i tk, x'], .cons ⟨_, rfl⟩ (.cons ru .nil), ⟨_, hT2, rfl, _, rfl⟩⟩
    have I1 : Inv X pins σ (upd H s.heap.objs.size (.tup [.int (i : Nat), x])) { s with heap := h'', toks := tk + 1 } :=
      I.turnedNew (ch := [e, it]) (fun b ob hb q => (sb.2 b (fun z => hb (by simp [z]))).trans (hk b ob (fun z => hb (by simp [z])) (fun z => hb (by simp [z])) q)) hf (Nat.le_refl _) new
    refine ⟨.ref s.heap.objs.size, _, I1, rfl, ⟨_, x, rfl, I.hok.fresh (Nat.le_refl _), rfl, fun ys hy => by rw [hq] at hy; cases hy; exact hx⟩, ⟨⟨x', ?_⟩, hit'.1.at fun o q => (sb.2 it (Ne.symm hne)).trans q, hne, hai⟩, fun b hb => ?_⟩
    · have e1 : ((i + 1 : Nat) : Int) = (i : Int) + 1 := by omega
      rw [e1]; exact he'
    · have hb' : b < s.heap.objs.size := by
        have e' : b = e ∨ b = it := by simpa using hb
        rcases e' with z | z
        · rw [z]; exact hel
        · rw [z]; exact hil
      rw [upd_ne (Nat.ne_of_lt hb')]
      exact (hf b hb).1
  done := by
    intro X hP hw hK hc i pins s σ H E I hf st hg
    subst hP hw hK
    obtain ⟨⟨old, he⟩, hit, hne, hai⟩ := st
    obtain ⟨xs, hq, hx⟩ := hg
    obtain ⟨its, hz, rv, p⟩ := tupR I hq
    obtain ⟨f0, f1, f2, f3, f4, f5⟩ := hf it (by simp)
    have D := Draws.tuple (prog := X.prog) (w := X.w) (A := X.A.in1) (I.ok.hd hc) it a hai its.toArray
    have hn : its.toArray.size = i := by rw [List.size_toArray, ← rv.length]; exact hx
    refine wpAny_pyNext_enum_endD D he ⟨?_, (show s.heap.IsTuple a its.toArray from p)⟩ fun h' eb => ⟨rfl, I.turned (t' := s.toks) (fun b o hb q => eb b o hb q) f0 f1 f3 f4 f5⟩
    rw [hn]
    exact hit
  self := fun A i s Q E st h => let ⟨⟨_, he⟩, _⟩ := st; wpAny_pyIter_enum he h
end DP

end
section
set_option Elab.async false
set_option linter.all false
set_option maxRecDepth 100000
set_option autoImplicit false
set_option maxHeartbeats 4000000
namespace DP
open PySem PySem.Spec PyProof.Rows L2
/-! ### slots change -/
section
variable {C : Cfg} {σ : L2.St} {H H' : Hp} {r : DEnv} {i : Nat} {v : V}
theorem set_get {α : Type} {l : List α} {i j : Nat} {x y : α} (h : (l.set i x)[j]? = some y) : (j = i ∧ y = x) ∨ (j ≠ i ∧ l[j]? = some y) := by
  by_cases e : j = i
  · subst e
    by_cases hl : j < l.length
    · rw [List.getElem?_set_self hl] at h
      exact .inl ⟨rfl, (Option.some.inj h).symm⟩
    · rw [List.getElem?_eq_none (by rw [List.length_set]; omega)] at h
      cases h
  · rw [List.getElem?_set_ne (Ne.symm e)] at h
    exact .inr ⟨e, h⟩
theorem RepV.less {K : PySem.W.Frag} {H : Hp} {Os Os' : List Addr} {v : V} {x : DV} (h : RepV K H Os v x) (s : ∀ a, a ∈ Os' → a ∈ Os) : RepV K H Os' v x := by
  cases x with
  | d y => exact Rp.up h (hd_sub s)
  | m a o => exact ⟨h.1, h.2.keep (fun _ q => q) (hd_sub s)⟩
  | scr a ns => exact h
theorem oA_set_less {x : Option DV} (hx : ∀ y, x = some y → adr y = none) {a : Addr} (h : a ∈ oA (r.set i x)) : a ∈ oA r := by
  obtain ⟨j, o, e⟩ := mem_oA.mp h
  rcases set_get e with ⟨_, z⟩ | ⟨_, z⟩
  · have q := hx _ z.symm
    cases q
  · exact mem_oA.mpr ⟨j, o, z⟩
/-- a slot holds what has no address of its own, or nothing -/
theorem RepE.put (R : RepE C σ H r) {x : Option DV} (hx : ∀ y, x = some y → adr y = none) (hi : i < C.n) (hv : ∀ y, x = some y → RepV C.K H (C.O ++ oA r) v y) : RepE C (σ.set i (some v)) H (r.set i x) := by
  have less : ∀ a, a ∈ C.O ++ oA (r.set i x) → a ∈ C.O ++ oA r := fun a ha => by
    rcases List.mem_append.mp ha with h | h
    · exact List.mem_append_left _ h
    · exact List.mem_append_right _ (oA_set_less hx h)
  refine ⟨by rw [List.length_set]; exact R.lenS, by rw [List.length_set]; exact R.len, fun j y e => ?_, fun j a o e n => ?_, R.dom, R.ext, fun j a o e n => ?_, fun j a e => ?_, R.sto, R.szo⟩
  · rcases set_get e with ⟨rfl, z⟩ | ⟨hj, z⟩
    · exact ⟨v, List.getElem?_set_self (by rw [R.lenS]; exact hi), (hv y z.symm).less less⟩
    · obtain ⟨w, h1, h2⟩ := R.slot j y z
      exact ⟨w, by rw [List.getElem?_set_ne (Ne.symm hj)]; exact h1, h2.less less⟩
  · rcases set_get e with ⟨rfl, z⟩ | ⟨hj, z⟩
    · cases (hx _ z.symm)
    · obtain ⟨h1, h2⟩ := R.sep j a o z n
      refine ⟨h1, fun k y hk ek => ?_⟩
      rcases set_get ek with ⟨rfl, z2⟩ | ⟨hk2, z2⟩
      · rw [hx y z2.symm]; exact fun q => nomatch q
      · exact h2 k y hk z2
  · rcases set_get e with ⟨rfl, z⟩ | ⟨hj, z⟩
    · cases (hx _ z.symm)
    · exact R.ownf j a o z n
  · rcases set_get e with ⟨rfl, z⟩ | ⟨hj, z⟩
    · cases (hx _ z.symm)
    · exact R.stf j a z
theorem RepE.set_d (R : RepE C σ H r) {x : PyData} (hi : i < C.n) (h : Rp (hd H (C.O ++ oA r)) v x) : RepE C (σ.set i (some v)) H (r.set i (some (.d x))) :=
  R.put (fun y e => by cases e; rfl) hi fun y e => by cases e; exact h
/-- the slots may say less -/
theorem RepE.weak (R : RepE C σ H r) {σ' : L2.St} {r' : DEnv} (ls : σ'.length = C.n) (lr : r'.length = C.n) (hs : ∀ (j : Nat) (y : DV), r'[j]? = some (some y) → r[j]? = some (some y)) (hσ : ∀ (j : Nat) (y : DV) (w : V), r'[j]? = some (some y) → σ[j]? = some (some w) → σ'[j]? = some (some w)) : RepE C σ' H r' := by
  have less : ∀ a, a ∈ C.O ++ oA r' → a ∈ C.O ++ oA r := fun a ha => by
    rcases List.mem_append.mp ha with h | h
    · exact List.mem_append_left _ h
    · obtain ⟨j, o, e⟩ := mem_oA.mp h
      exact List.mem_append_right _ (mem_oA.mpr ⟨j, o, hs j _ e⟩)
  refine ⟨ls, lr, fun j y e => ?_, fun j a o e n => ?_, R.dom, R.ext, fun j a o e n => R.ownf j a o (hs j _ e) n, fun j a e => R.stf j a (hs j _ e), R.sto, R.szo⟩
  · obtain ⟨w, h1, h2⟩ := R.slot j y (hs j y e)
    exact ⟨w, hσ j y w e h1, h2.less less⟩
  · obtain ⟨h1, h2⟩ := R.sep j a o (hs j _ e) n
    exact ⟨h1, fun k y hk ek => h2 k y hk (hs k y ek)⟩
/-- an owned list is data from now on -/
theorem RepE.freeze (R : RepE C σ H r) {a : Addr} {xs : List PyData} (e : r[i]? = some (some (.m a (.lst xs)))) : RepE C σ H (r.set i (some (.d (.list xs)))) := by
  obtain ⟨v, h1, rfl, vs, h2, h3, h4⟩ := R.slot i _ e
  have ns : MO.lst xs ≠ .st := fun z => by cases z
  have less : ∀ b, b ∈ C.O ++ oA (r.set i (some (.d (.list xs)))) → b ∈ C.O ++ oA r := fun b hb => by
    rcases List.mem_append.mp hb with h | h
    · exact List.mem_append_left _ h
    · exact List.mem_append_right _ (oA_set_less (fun y e => by cases e; rfl) h)
  have na : a ∉ C.O ++ oA (r.set i (some (.d (.list xs)))) := fun hz => by
    rcases List.mem_append.mp hz with h | h
    · exact (R.sep i a _ e ns).1 h
    · obtain ⟨j, y, ej⟩ := mem_oA.mp h
      rcases set_get ej with ⟨ej1, z⟩ | ⟨hj, z⟩
      · cases z
      · exact (R.sep i a _ e ns).2 j _ hj z rfl
  refine ⟨R.lenS, by rw [List.length_set]; exact R.len, fun j y ej => ?_, fun j b o ej n => ?_, R.dom, R.ext, fun j b o ej n => ?_, fun j b ej => ?_, R.sto, R.szo⟩
  · rcases set_get ej with ⟨rfl, z⟩ | ⟨hj, z⟩
    · cases z
      refine ⟨_, h1, .lst (.inl ?_) h3 (h4.up (hd_sub less))⟩
      rw [hd_out na]
      exact h2
    · obtain ⟨w, q1, q2⟩ := R.slot j y z
      exact ⟨w, q1, q2.less less⟩
  · rcases set_get ej with ⟨rfl, z⟩ | ⟨hj, z⟩
    · cases z
    · obtain ⟨q1, q2⟩ := R.sep j b o z n
      refine ⟨q1, fun k y hk ek => ?_⟩
      rcases set_get ek with ⟨rfl, z2⟩ | ⟨hk2, z2⟩
      · cases z2; exact fun q => nomatch q
      · exact q2 k y hk z2
  · rcases set_get ej with ⟨rfl, z⟩ | ⟨hj, z⟩
    · cases z
    · exact R.ownf j b o z n
  · rcases set_get ej with ⟨rfl, z⟩ | ⟨hj, z⟩
    · cases z
    · exact R.stf j b z
/-- a slot holds a new object that may change -/
theorem RepE.new (R : RepE C σ H r) (g : Gr C r H H') {a : Addr} {o : MO} (hi : i < C.n) (hn : H a = none) (h : MOk H' (a :: (C.O ++ oA r)) a o) : RepE C (σ.set i (some (.ref a))) H' (r.set i (some (.m a o))) := by
  have R' := R.grow g
  have fr := R.fresh hn
  have ne : ∀ b, b ∈ C.O ++ oA r → b ≠ a := fun b hb z => fr (z ▸ hb)
  have less : ∀ b, b ∈ C.O ++ oA (r.set i (some (.m a o))) → b ∈ a :: (C.O ++ oA r) := fun b hb => by
    rcases List.mem_append.mp hb with h | h
    · exact List.mem_cons_of_mem _ (List.mem_append_left _ h)
    · obtain ⟨j, y, ej⟩ := mem_oA.mp h
      rcases set_get ej with ⟨rfl, z⟩ | ⟨hj, z⟩
      · cases z
        exact List.mem_cons_self
      · exact List.mem_cons_of_mem _ (List.mem_append_right _ (mem_oA.mpr ⟨j, y, z⟩))
  -- what stood ahead names no new address
  have nw : Same (hd H (C.O ++ oA r)) (hd H' (a :: (C.O ++ oA r))) := fun b u e => by
    obtain ⟨e1, e2⟩ := hd_some e
    have e3 : b ≠ a := ne_of_none e2 hn
    rw [hd_out (by rw [List.mem_cons, not_or]; exact ⟨e3, e1⟩)]
    exact g.1 b u (fun k z => e1 (R.shO z)) e2
  refine ⟨by rw [List.length_set]; exact R.lenS, by rw [List.length_set]; exact R.len, fun j y ej => ?_, fun j b u ej n => ?_, R'.dom, R'.ext, fun j b u ej n => ?_, fun j b ej => ?_, R'.sto, R.szo⟩
  · rcases set_get ej with ⟨rfl, z⟩ | ⟨hj, z⟩
    · cases z
      exact ⟨_, List.getElem?_set_self (by rw [R.lenS]; exact hi), rfl, h.keep (fun _ q => q) (hd_sub less)⟩
    · obtain ⟨w, q1, q2⟩ := R.slot j y z
      obtain ⟨w', q1', q2'⟩ := R'.slot j y z
      rw [q1] at q1'
      cases q1'
      refine ⟨w, by rw [List.getElem?_set_ne (Ne.symm hj)]; exact q1, ?_⟩
      refine RepV.less (Os := a :: (C.O ++ oA r)) ?_ less
      cases y with
      | d x => exact Rp.up q2 nw
      | m b u =>
        refine ⟨q2'.1, ?_⟩
        by_cases n : u = .st
        · subst n; exact q2'.2
        · exact q2.2.keep (fun w q => g.1 b w (R.ownN z n) q) nw
      | scr b ns => exact q2'
  · rcases set_get ej with ⟨rfl, z⟩ | ⟨hj, z⟩
    · cases z
      refine ⟨fun q => fr (List.mem_append_left _ q), fun k y hk ek q => ?_⟩
      rcases set_get ek with ⟨z1, _⟩ | ⟨_, z2⟩
      · exact hk z1
      · cases y with
        | d x => cases q
        | scr b ns => cases q
        | m b u =>
          have q' : some b = some a := q
          cases q'
          exact fr (List.mem_append_right _ (mem_oA.mpr ⟨k, u, z2⟩))
    · obtain ⟨q1, q2⟩ := R.sep j b u z n
      refine ⟨q1, fun k y hk ek => ?_⟩
      rcases set_get ek with ⟨rfl, z2⟩ | ⟨_, z2⟩
      · cases z2
        intro q
        have q' : some a = some b := q
        cases q'
        exact fr (List.mem_append_right _ (mem_oA.mpr ⟨j, u, z⟩))
      · exact q2 k y hk z2
  · rcases set_get ej with ⟨rfl, z⟩ | ⟨hj, z⟩
    · cases z; exact R.h0 hn
    · exact R.ownf j b u z n
  · rcases set_get ej with ⟨rfl, z⟩ | ⟨hj, z⟩
    · cases z; exact .inr ⟨R.h0 hn, fun q => fr (List.mem_append_left _ q)⟩
    · exact R.stf j b z
/-- an owned object is changed -/
theorem RepE.change (R : RepE C σ H r) {a : Addr} {o o' : MO} {u : HO} (e : r[i]? = some (some (.m a o))) (n : o ≠ .st) (n' : o' ≠ .st) (h : MOk (upd H a u) (C.O ++ oA r) a o') : RepE C σ (upd H a u) (r.set i (some (.m a o'))) := by
  obtain ⟨v, h1, hv, hm⟩ := R.slot i _ e
  obtain ⟨u0, hu, hx⟩ := hm.noext
  have ain : a ∈ oA r := mem_oA.mpr ⟨i, o, e⟩
  have sub : ∀ b, b ∈ C.O ++ oA (r.set i (some (.m a o'))) → b ∈ C.O ++ oA r := fun b hb => by
    rcases List.mem_append.mp hb with h | h
    · exact List.mem_append_left _ h
    · obtain ⟨j, y, ej⟩ := mem_oA.mp h
      rcases set_get ej with ⟨rfl, z⟩ | ⟨hj, z⟩
      · cases z
        exact List.mem_append_right _ ain
      · exact List.mem_append_right _ (mem_oA.mpr ⟨j, y, z⟩)
  have nw : Same (hd H (C.O ++ oA r)) (hd (upd H a u) (C.O ++ oA r)) := fun b w q => by
    obtain ⟨e1, e2⟩ := hd_some q
    have e3 : b ≠ a := fun z => e1 (z ▸ List.mem_append_right _ ain)
    rw [hd_out e1, upd_ne e3]
    exact e2
  refine ⟨R.lenS, by rw [List.length_set]; exact R.len, fun j y ej => ?_, fun j b w ej nn => ?_, fun b hb => ?_, fun b w hn eb => ?_, fun j b w ej nn => ?_, fun j b ej => ?_, fun s hs => ?_, R.szo⟩
  · rcases set_get ej with ⟨rfl, z⟩ | ⟨hj, z⟩
    · cases z
      exact ⟨v, h1, hv, h.keep (fun _ q => q) (hd_sub sub)⟩
    · obtain ⟨w, q1, q2⟩ := R.slot j y z
      refine ⟨w, q1, RepV.less (Os := C.O ++ oA r) ?_ sub⟩
      cases y with
      | d x => exact Rp.up q2 nw
      | m b y =>
        have hba : b ≠ a := fun q => (R.sep i a o e n).2 j _ hj z (by rw [← q]; rfl)
        exact ⟨q2.1, q2.2.keep (fun w q => by rw [upd_ne hba]; exact q) nw⟩
      | scr b ns =>
        refine ⟨q2.1, q2.2.keep fun ob w q => ?_⟩
        rw [upd_ne]
        · exact q
        · rintro rfl
          cases o with
          | lst xs => obtain ⟨vs, q3, _⟩ := hm; rw [q] at q3; cases q3
          | dct xs => obtain ⟨vs, q3, _⟩ := hm; rw [q] at q3; cases q3
          | st => exact n rfl
  · rcases set_get ej with ⟨rfl, z⟩ | ⟨hj, z⟩
    · cases z
      obtain ⟨q1, q2⟩ := R.sep j a o e n
      refine ⟨q1, fun k y hk ek => ?_⟩
      rcases set_get ek with ⟨z1, _⟩ | ⟨_, z2⟩
      · exact absurd z1 hk
      · exact q2 k y hk z2
    · obtain ⟨q1, q2⟩ := R.sep j b w z nn
      refine ⟨q1, fun k y hk ek => ?_⟩
      rcases set_get ek with ⟨rfl, z2⟩ | ⟨hk2, z2⟩
      · cases z2
        exact (show adr (DV.m a o) ≠ some b from q2 k _ hk e)
      · exact q2 k y hk z2
  · have q := R.dom b hb
    intro z
    rw [upd_ne (fun w => (R.sep i a o e n).1 (by rw [← w]; exact hb))] at z
    exact q z
  · have h5 := R.ext b w hn eb
    rw [upd_ne]
    · exact h5
    · rintro rfl
      rw [R.ownf i b o e n] at eb
      cases eb
  · rcases set_get ej with ⟨rfl, z⟩ | ⟨hj, z⟩
    · cases z; exact R.ownf j a o e n
    · exact R.ownf j b w z nn
  · rcases set_get ej with ⟨rfl, z⟩ | ⟨hj, z⟩
    · cases z; exact absurd rfl n'
    · exact R.stf j b z
  · exact (R.sto s hs).upd hu hx fun z => (R.sep i a o e n).1 (by rw [← z]; exact (R.szo s hs).1)
end
end DP

end
section
set_option Elab.async false
set_option linter.all false
set_option maxRecDepth 100000
set_option autoImplicit false
set_option maxHeartbeats 4000000
namespace DP
open PySem PySem.Spec PyProof.Rows L2
/-! ### what a def hands back: data, a new list -/
inductive RV where
  | d (x : PyData)
  | l (xs : List PyData)
structure EndsD where
  nx : SEnv → Prop
  rt : RV → Prop
  bk : SEnv → Prop := fun _ => False
  ct : SEnv → Prop := fun _ => False
abbrev TSD := EndsD → SEnv → Prop
/-- the heap behind the entry C -/
structure Out (C : Cfg) (H' : Hp) : Prop where
  ext : ∀ a o, (∀ k, (a, k) ∉ C.S) → C.H_0 a = some o → H' a = some o
  sto : ∀ s ∈ C.S, SInv H' s
  dom : ∀ a ∈ C.O, H' a ≠ none
theorem RepE.out {C : Cfg} {σ : L2.St} {H : Hp} {r : DEnv} (R : RepE C σ H r) : Out C H := ⟨R.ext, R.sto, R.dom⟩
theorem Out.ofAt {C : Cfg} {σ : L2.St} {H H' : Hp} {r : DEnv} (R : RepE C σ H r) (o : Out (C.at H r) H') : Out C H' := ⟨fun a u hn e => o.ext a u hn (R.at_ge hn e), o.sto, o.dom⟩
def RetV (C : Cfg) (v : V) (H' : Hp) : RV → Prop
  | .d x => Rp (hd H' C.O) v x
  | .l xs => ∃ p vs, v = .ref p ∧ C.H_0 p = none ∧ p ∉ C.O ∧ H' p = some (.lst vs) ∧ vs.length ≤ sizeLine ∧ RpA (hd H' (p :: C.O)) vs xs
theorem RetV.ofAt {C : Cfg} {σ : L2.St} {H H' : Hp} {r : DEnv} {v : V} {rv : RV} (R : RepE C σ H r) (h : RetV (C.at H r) v H' rv) : RetV C v H' rv := by
  have nn : ∀ p, (C.at H r).H_0 p = none → p ∉ C.O → C.H_0 p = none := fun p h1 h2 => by
    cases q : C.H_0 p with
    | none => rfl
    | some u =>
      rw [R.at_ge (fun k z => h2 (R.szo _ z).1) q] at h1
      cases h1
  cases rv with
  | d x => exact h
  | l xs =>
    obtain ⟨p, vs, h1, h2, h3, h4⟩ := h
    exact ⟨p, vs, h1, nn p h2 h3, h3, h4⟩
def upS (C : Cfg) (t : TSD) : TS := fun D σ H => ∃ (r : DEnv) (D' : EndsD), RepE C σ H r ∧ t D' (er r) ∧ (∀ σ' H' r', RepE C σ' H' r' → D'.nx (er r') → D.nx σ' H') ∧ (∀ v H' rv, Out C H' → RetV C v H' rv → D'.rt rv → D.rt v H') ∧ (∀ σ' H' r', RepE C σ' H' r' → D'.bk (er r') → D.bk σ' H') ∧ (∀ σ' H' r', RepE C σ' H' r' → D'.ct (er r') → D.ct σ' H')
def PSD (X : Cx) (C : Cfg) (st : Stmt) (t : TSD) : Prop := PS X st (upS C t)
def PSDs (X : Cx) (C : Cfg) (st : List Stmt) (t : TSD) : Prop := PSs X st (upS C t)
section
variable {X : Cx} {C : Cfg} {st : Stmt} {rest : List Stmt} {t u : TSD} {e : Expr} {te : TD} {pos : Pos}
def sSeq (t u : TSD) : TSD := fun D r => t { D with nx := u D } r
def sNext : TSD := fun D r => D.nx r
theorem psds_nil : PSDs X C [] sNext := PSs_imp pss_nil fun D σ H ⟨r, D', R, q, k, _⟩ => k σ H r R q
theorem psds_cons (h1 : PSD X C st t) (h2 : PSDs X C rest u) : PSDs X C (st :: rest) (sSeq t u) := PSs_imp (pss_cons h1 h2) fun D σ H ⟨r, D', R, q, k1, k2, k3, k4⟩ =>
  ⟨r, { D' with nx := u D' }, R, q, fun σ' H' r' R' q' => ⟨r', D', R', q', k1, k2, k3, k4⟩, k2, k3, k4⟩
theorem psd_pass : PSD X C (.Pass pos) sNext := PS_imp ps_pass fun D σ H ⟨r, D', R, q, k, _⟩ => k σ H r R q
theorem psd_doc {x : Str} {j : Nat} {p : Pos} : PSD X C (.Expr (.Constant (.str x) j p) pos) sNext := PS_imp ps_doc fun D σ H ⟨r, D', R, q, k, _⟩ => k σ H r R q
def sCont : TSD := fun D r => D.ct r
theorem psd_cont : PSD X C (.Continue pos) sCont := PS_imp ps_continue fun D σ H ⟨r, D', R, q, _, _, _, k⟩ => k σ H r R q
def sRet (te : TD) : TSD := fun D r => te r fun x => D.rt (.d x)
theorem RepE.retD {σ : L2.St} {H : Hp} {r : DEnv} (R : RepE C σ H r) {v : V} {x : PyData} (h : Rp (hd H (C.O ++ oA r)) v x) : RetV C v H (.d x) := Rp.up h (hd_sub fun a ha => List.mem_append_left _ ha)
theorem psd_ret (he : PD X C e te) : PSD X C (.Return (some e) pos) (sRet te) := PS_imp (ps_ret he) fun D σ H ⟨r, D', R, q, k1, k2, _⟩ =>
  ⟨r, _, R, q, fun v H' x g rp qx => k2 v H' (.d x) (R.grow g).out ((R.grow g).retD rp) qx⟩
def sRetN : TSD := fun D _ => D.rt (.d .none)
theorem psd_retN : PSD X C (.Return none pos) sRetN := PS_imp ps_retN fun D σ H ⟨r, D', R, q, k1, k2, _⟩ => k2 _ H (.d .none) R.out (R.retD .non) q
/-- return of a new list -/
def sRetF (te : TAD) : TSD := fun D r => te r fun xs => D.rt (.l xs)
theorem RepE.retL {σ : L2.St} {H H' : Hp} {r : DEnv} (R : RepE C σ H r) (g : Gr C r H H') {a : Addr} {vs : List V} {xs : List PyData} (na : H a = none) (ea : H' a = some (.lst vs)) (l : vs.length ≤ sizeLine) (rp : RpA (hd H' (a :: (C.O ++ oA r))) vs xs) : RetV C (.ref a) H' (.l xs) :=
  ⟨a, vs, rfl, R.h0 na, fun z => R.fresh na (List.mem_append_left _ z), ea, l, rp.up (hd_sub fun b hb => by
    rcases List.mem_cons.mp hb with rfl | hb
    · exact List.mem_cons_self
    · exact List.mem_cons_of_mem _ (List.mem_append_left _ hb))⟩
theorem psd_retF {tf : TAD} (he : PF X C e tf) : PSD X C (.Return (some e) pos) (sRetF tf) := PS_imp (ps_ret he) fun D σ H ⟨r, D', R, q, k1, k2, _⟩ =>
  ⟨r, _, R, q, fun a H' vs xs g na ea l rp qx => k2 _ H' (.l xs) (R.grow g).out (R.retL g na ea l rp) qx⟩
/-- the owned list of a slot -/
def oLst (i : Nat) (k : List PyData → Prop) : SEnv → Prop := fun r => match r[i]? with
  | some (some (.m (.lst xs))) => k xs
  | _ => False
theorem oLst_get {i : Nat} {k : List PyData → Prop} {r : DEnv} (h : oLst i k (er r)) : ∃ a xs, r[i]? = some (some (.m a (.lst xs))) ∧ k xs := by
  unfold oLst at h
  split at h
  · rename_i xs e
    obtain ⟨a, q⟩ := er_m e
    exact ⟨a, xs, q, h⟩
  · exact h.elim
/-- return of an owned list -/
def sRetO (i : Nat) : TSD := fun D r => oLst i (fun xs => D.rt (.l xs)) r
theorem psd_retO (i : Nat) {x : Str} {p : Pos} (hN : X.N[i]? = some x) (hv : Vis X.env.scope x) (hd' : (x == ("__debug__" : Str)) = false) (hcd : (x == ("__classdict__" : Str)) = false) : PSD X C (.Return (some (.Name x p)) pos) (sRetO i) := PS_imp (ps_ret (pe_var hN hv hd' hcd)) fun D σ H ⟨r, D', R, w, k1, k2, _⟩ => by
  obtain ⟨a, xs, e1, q⟩ := oLst_get w
  obtain ⟨v, e2, rfl, vs, h2, h3, h4⟩ := R.slot i _ e1
  have ns : MO.lst xs ≠ .st := fun z => by cases z
  exact ⟨_, e2, k2 _ H (.l xs) R.out ⟨a, vs, rfl, R.ownf i a _ e1 ns, (R.sep i a _ e1 ns).1, h2, h3, h4.up (hd_sub fun b hb => by
    rcases List.mem_cons.mp hb with rfl | hb
    · exact List.mem_append_right _ (mem_oA.mpr ⟨i, _, e1⟩)
    · exact List.mem_append_left _ hb)⟩ q⟩
def sIf (c : TTD) (t u : TSD) : TSD := fun D r => c r fun k => if k = true then t D r else u D r
theorem psd_if {c : Expr} {a b : List Stmt} {tc : TTD} (hc : PDT X C c tc) (ha : PSDs X C a t) (hb : PSDs X C b u) : PSD X C (.If c a b pos) (sIf tc t u) := PS_imp (ps_if hc ha hb) fun D σ H ⟨r, D', R, q, k⟩ =>
  ⟨r, _, R, q, fun b H1 g q1 => by
    cases b with
    | true => rw [if_pos rfl] at q1 ⊢; exact ⟨r, D', R.grow g, q1, k⟩
    | false => rw [if_neg Bool.false_ne_true] at q1 ⊢; exact ⟨r, D', R.grow g, q1, k⟩⟩
/-- an expression for nothing -/
def sDrop (te : TD) : TSD := fun D r => te r fun _ => D.nx r
theorem psd_expr (he : PD X C e te) (hs : swapsWith e none pos.line X.env = pure false) : PSD X C (.Expr e pos) (sDrop te) := PS_imp (ps_expr he hs) fun D σ H ⟨r, D', R, q, k⟩ =>
  ⟨r, _, R, q, fun v H' x g rp qx => k.1 σ H' r (R.grow g) qx⟩
theorem set_d_nx {D : Ends} {σ : L2.St} {H H' : Hp} {r : DEnv} {D' : EndsD} {i : Nat} {v : V} {x : PyData} (R : RepE C σ H r) (g : Gr C r H H') (hi : i < C.n) (rp : Rp (hd H' (C.O ++ oA r)) v x) (k : ∀ σ' H' r', RepE C σ' H' r' → D'.nx (er r') → D.nx σ' H') (q : D'.nx ((er r).set i (some (.d x)))) : D.nx (σ.set i (some v)) H' :=
  k _ H' _ ((R.grow g).set_d hi rp) (by rw [er_set]; exact q)
/-- x = e -/
def sSet (i : Nat) (te : TD) : TSD := fun D r => te r fun x => D.nx (r.set i (some (.d x)))
theorem psd_set (i : Nat) {x : Str} {pos' : Pos} (hN : X.N.Nodup) (hn : C.n = X.N.length) (he : PD X C e te) (hi : X.N[i]? = some x) (hx : Loc X.env.scope x) (hs : swapsWith e (some (.Name x pos')) pos.line X.env = pure false) (hf : X.fn x = true ∨ X.env.scope.names.lookup x = some .local) :
    PSD X C (.Assign [.Name x pos'] e pos) (sSet i te) := PS_imp (ps_set hN hi hx he hs hf) fun D σ H ⟨r, D', R, q, k⟩ =>
  ⟨r, _, R, q, fun v H' x g rp qx => set_d_nx R g (by rw [hn]; exact (List.getElem?_eq_some_iff.mp hi).1) rp k.1 qx⟩
/-- x = e, a new list that is to be changed -/
def sSetF (i : Nat) (te : TAD) : TSD := fun D r => te r fun xs => D.nx (r.set i (some (.m (.lst xs))))
theorem psd_setF (i : Nat) {tf : TAD} {x : Str} {pos' : Pos} (hN : X.N.Nodup) (hn : C.n = X.N.length) (he : PF X C e tf) (hi : X.N[i]? = some x) (hx : Loc X.env.scope x) (hs : swapsWith e (some (.Name x pos')) pos.line X.env = pure false) (hf : X.fn x = true ∨ X.env.scope.names.lookup x = some .local) :
    PSD X C (.Assign [.Name x pos'] e pos) (sSetF i tf) := PS_imp (ps_set hN hi hx he hs hf) fun D σ H ⟨r, D', R, q, k⟩ =>
  ⟨r, _, R, q, fun a H' vs xs g na ea l rp qx => k.1 _ H' _ (R.new g (o := .lst xs) (by rw [hn]; exact (List.getElem?_eq_some_iff.mp hi).1) na ⟨vs, ea, l, rp⟩) (by rw [er_set]; exact qx)⟩
/-- owned lists that are data from now on (none where the slot holds data already) -/
def frz1 (i : Nat) (k : SEnv → Prop) : SEnv → Prop := fun r => match r[i]? with
  | some (some (.m (.lst xs))) => k (r.set i (some (.d (.list xs))))
  | _ => k r
def sFrz (i : Nat) (t : TSD) : TSD := fun D r => frz1 i (t D) r
theorem frz_rep {i : Nat} {k : SEnv → Prop} {σ : L2.St} {H : Hp} {r : DEnv} (R : RepE C σ H r) (h : frz1 i k (er r)) : ∃ r', RepE C σ H r' ∧ k (er r') := by
  unfold frz1 at h
  split at h
  · rename_i xs e
    obtain ⟨a, q⟩ := er_m e
    exact ⟨_, R.freeze q, by rw [er_set]; exact h⟩
  · exact ⟨r, R, h⟩
theorem psd_frz (i : Nat) (h : PSD X C st t) : PSD X C st (sFrz i t) := PS_imp h fun D σ H ⟨r, D', R, w, k⟩ => by
  obtain ⟨r', R', q⟩ := frz_rep R w
  exact ⟨r', D', R', q, k⟩
/-- x.append(e) -/
def sApp (i : Nat) (te : TD) : TSD := fun D r => oLst i (fun xs => te r fun y => xs.length < sizeLine ∧ D.nx (r.set i (some (.m (.lst (xs ++ [y])))))) r
theorem psd_app (i : Nat) {x : Str} {p apos cpos : Pos} (he : PD X C e te) (hN : X.N[i]? = some x) (hv : Vis X.env.scope x) (hd' : (x == ("__debug__" : Str)) = false) (hcd : (x == ("__classdict__" : Str)) = false)
    (pe : ∀ {to : TE} {t : TA}, PE X (.Name x p) to → PA X [e] t → PE X (.Call (.Attribute (.Name x p) "append" apos) [e] [] cpos) (tBM X.K "list" rAppend to t))
    (hs : swapsWith (.Call (.Attribute (.Name x p) "append" apos) [e] [] cpos) none pos.line X.env = pure false := by rfl) (hst : starEach [e] X.env = (false, eval e X.env) :: starEach [] X.env) : PSD X C (.Expr (.Call (.Attribute (.Name x p) "append" apos) [e] [] cpos) pos) (sApp i te) :=
  PS_imp (ps_expr (pe (pe_var hN hv hd' hcd) (pa_cons he pa_nil hst)) hs) fun D σ H ⟨r, D', R, w, k⟩ => by
  obtain ⟨a, xs, e1, q⟩ := oLst_get w
  obtain ⟨v, e2, rfl, vs, h2, h3, h4⟩ := R.slot i _ e1
  have ns : ∀ ys, MO.lst ys ≠ .st := fun ys z => by cases z
  refine ⟨_, e2, .inl ⟨rfl, _, .inl (.inl h2)⟩, r, _, R, q, fun w H' y g rp qy => ?_⟩
  have R' := R.grow g
  have h2' := g.1 a _ (R.ownN e1 (ns _)) h2
  have ln := h4.length
  refine ⟨a, vs, w, rfl, rfl, h2', by omega, k.1 σ _ _ (R'.change e1 (ns _) (ns (xs ++ [y])) ⟨vs ++ [w], upd_same, by rw [List.length_append]; simp; omega, ?_⟩) (by rw [er_set]; exact qy.2)⟩
  refine RpA.up ((h4.up (g.hd R)).append (.cons rp .nil)) fun b o z => ?_
  obtain ⟨z1, z2⟩ := hd_some z
  have na : b ≠ a := fun q => z1 (by rw [q]; exact List.mem_append_right _ (mem_oA.mpr ⟨i, _, e1⟩))
  rw [hd_out z1, upd_ne na]
  exact z2
/-- x.extend(e) -/
def sExt (i : Nat) (te : TD) : TSD := fun D r => oLst i (fun xs => te r fun y => match y with
  | .list ys => xs.length + ys.length ≤ sizeLine ∧ D.nx (r.set i (some (.m (.lst (xs ++ ys)))))
  | _ => False) r
def rExtR : V → List V → Hp → VK → Prop := fun x vs H Q => ∃ l b xs zs, x = .ref l ∧ vs = [.ref b] ∧ H l = some (.lst xs) ∧ Rd H b (.lst zs) ∧ xs.length + zs.length ≤ sizeLine ∧ Q .non (upd H l (.lst (xs ++ zs)))
theorem mt_extR : MtM X "list.extend" rExtR := by
  intro pins s σ H x vs v us Q I rx rv h
  obtain ⟨l, b, xs, zs, rfl, rfl, hH, hB, hz, q⟩ := h
  cases rx
  obtain ⟨u, rfl, ru⟩ := rv.one
  cases ru
  obtain ⟨z, its, n, r, hl, e⟩ := I.lstM hH
  obtain ⟨its2, n2, z2, r2, e2⟩ := lstR I hB
  have hl2 := r2.length
  have hsz : its.toArray.size + its2.toArray.size ≤ sizeLine := by rw [List.size_toArray, List.size_toArray]; omega
  have hlong : ¬ (!its.toArray.isEmpty && Builtin.List.listTooLong (its.toArray.size + its2.toArray.size)) = true := by
    rw [notLongL hsz, Bool.and_false]
    exact Bool.false_ne_true
  refine call_meets F.slot_list_extend ⟨_, e, rfl⟩ F.entry_list_extend (F.args_list_extend_2 _ _)
    (AutoSeq1.list_extend_list_list_0 l its.toArray n b its2.toArray n2 hlong (by rw [List.size_toArray]; omega) (by omega)) ⟨e, e2, ?_⟩
  refine ⟨.non, _, I.lset (its' := its ++ its2) hH e (by simp) (r.append r2) ?_, rfl, q⟩
  rw [List.length_append]
  omega
theorem psd_ext (i : Nat) {x : Str} {p apos cpos : Pos} (he : PD X C e te) (hN : X.N[i]? = some x) (hv : Vis X.env.scope x) (hd' : (x == ("__debug__" : Str)) = false) (hcd : (x == ("__classdict__" : Str)) = false)
    (pe : ∀ {to : TE} {t : TA}, PE X (.Name x p) to → PA X [e] t → PE X (.Call (.Attribute (.Name x p) "extend" apos) [e] [] cpos) (tBM X.K "list" rExtR to t))
    (hs : swapsWith (.Call (.Attribute (.Name x p) "extend" apos) [e] [] cpos) none pos.line X.env = pure false := by rfl) (hst : starEach [e] X.env = (false, eval e X.env) :: starEach [] X.env) : PSD X C (.Expr (.Call (.Attribute (.Name x p) "extend" apos) [e] [] cpos) pos) (sExt i te) :=
  PS_imp (ps_expr (pe (pe_var hN hv hd' hcd) (pa_cons he pa_nil hst)) hs) fun D σ H ⟨r, D', R, w, k⟩ => by
  obtain ⟨a, xs, e1, q⟩ := oLst_get w
  obtain ⟨v, e2, rfl, vs, h2, h3, h4⟩ := R.slot i _ e1
  have ns : ∀ ys, MO.lst ys ≠ .st := fun ys z => by cases z
  refine ⟨_, e2, .inl ⟨rfl, _, .inl (.inl h2)⟩, r, _, R, q, fun w H' y g rp qy => ?_⟩
  cases y with
  | list ys =>
    obtain ⟨hl, qy⟩ := qy
    have R' := R.grow g
    have h2' := g.1 a _ (R.ownN e1 (ns _)) h2
    obtain ⟨b, ws, rfl, p1, p2, p3⟩ := rp_lst rp
    have ln := h4.length
    have ln2 := p3.length
    refine ⟨a, b, vs, ws, rfl, rfl, h2', DP.Rd.full p1, by omega, k.1 σ _ _ (R'.change e1 (ns _) (ns (xs ++ ys)) ⟨vs ++ ws, upd_same, by rw [List.length_append]; omega, ?_⟩) (by rw [er_set]; exact qy)⟩
    refine RpA.up ((h4.up (g.hd R)).append p3) fun b o z => ?_
    obtain ⟨z1, z2⟩ := hd_some z
    have na : b ≠ a := fun q => z1 (by rw [q]; exact List.mem_append_right _ (mem_oA.mpr ⟨i, _, e1⟩))
    rw [hd_out z1, upd_ne na]
    exact z2
  | _ => exact (show False from qy).elim
end
end DP

end
section
set_option Elab.async false
set_option linter.all false
set_option maxRecDepth 100000
set_option autoImplicit false
set_option maxHeartbeats 4000000
namespace DP
open PySem PySem.Spec PyProof.Rows L2
/-! ### calls of the text's own defs -/
/-- what a def does with its arguments: what is wanted of what it hands back, of the class that it raises -/
abbrev FW := List SV → (RV → Prop) → (Str → Prop) → Prop
def ArgD (K : PySem.W.Frag) (H : Hp) (O : List Addr) (S : List (Addr × SK)) : V → DV → Prop
  | v, .d x => Rp (hd H O) v x
  | v, .m a .st => v = .ref a ∧ (a, SK.dr) ∈ S
  | _, .m _ _ => False
  | v, .scr a ns => v = .ref a ∧ ScrOk K H a ns
inductive ArgsD (K : PySem.W.Frag) (H : Hp) (O : List Addr) (S : List (Addr × SK)) : List V → List DV → Prop
  | nil : ArgsD K H O S [] []
  | cons {v : V} {vs : List V} {d : DV} {ds : List DV} : ArgD K H O S v d → ArgsD K H O S vs ds → ArgsD K H O S (v :: vs) (d :: ds)
theorem ArgsD.length {K : PySem.W.Frag} {H : Hp} {O : List Addr} {S : List (Addr × SK)} : ∀ {vs : List V} {ds : List DV}, ArgsD K H O S vs ds → vs.length = ds.length
  | _, _, .nil => rfl
  | _, _, .cons _ t => by rw [List.length_cons, List.length_cons, t.length]
theorem ArgsD.get {K : PySem.W.Frag} {H : Hp} {O : List Addr} {S : List (Addr × SK)} : ∀ {vs : List V} {ds : List DV} {i : Nat} {d : DV}, ArgsD K H O S vs ds → ds[i]? = some d → ∃ v, vs[i]? = some v ∧ ArgD K H O S v d
  | _, _, _, _, .nil, e => by simp at e
  | _, _, 0, _, .cons r _, e => by simp at e; subst e; exact ⟨_, rfl, r⟩
  | _, _, i + 1, d, .cons _ t, e => by
    obtain ⟨u, h1, h2⟩ := ArgsD.get (i := i) (d := d) t (by simpa using e)
    exact ⟨u, by simpa using h1, h2⟩
/-- a def's promise -/
def spOf (K : PySem.W.Frag) (mg : Str → Option Value) (n : Nat) (φ : FW) : Sp := fun vs H Q E => vs.length = n ∧ ∃ (O : List Addr) (S : List (Addr × SK)) (ds : List DV) (Q' : RV → Prop) (E' : Str → Prop),
  ArgsD K H O S vs ds ∧ (∀ a ∈ O, H a ≠ none) ∧ (∀ s ∈ S, SInv H s ∧ s.1 ∈ O) ∧ φ (ds.map DV.er) Q' E' ∧
    (∀ v H' rv, Out ⟨K, 0, O, H, S⟩ H' → RetV ⟨K, 0, O, H, S⟩ v H' rv → Q' rv → Q v H') ∧ ∀ c Ca H', mg c = some (.ref Ca) → Out ⟨K, 0, O, H, S⟩ H' → E' c → E (.ref Ca) none H'
/-- what is wanted of an exception that leaves the body entered at C -/
def wOf (mg : Str → Option Value) (C : Cfg) (E : Str → Prop) : WX := fun cls d _ H' => ∃ c Ca, mg c = some (.ref Ca) ∧ cls = .ref Ca ∧ d = none ∧ Out C H' ∧ E c
theorem wOf.at {mg : Str → Option Value} {C : Cfg} {σ : L2.St} {H : Hp} {r : DEnv} {E : Str → Prop} (R : RepE C σ H r) {cls : Value} {d : Option Addr} {σ' : L2.St} {H' : Hp} (h : wOf mg (C.at H r) E cls d σ' H') : wOf mg C E cls d σ' H' := by
  obtain ⟨c, Ca, h1, h2, h3, h4, h5⟩ := h
  exact ⟨c, Ca, h1, h2, h3, h4.ofAt R, h5⟩
/-- the slots at a def's entry -/
def s0 (n : Nat) (args : List SV) : SEnv := args.map some ++ List.replicate (n - args.length) none
theorem rep_start {K : PySem.W.Frag} {H : Hp} {O : List Addr} {S : List (Addr × SK)} {vs : List V} {ds : List DV} {N : List Str} (hl : vs.length ≤ N.length) (ha : ArgsD K H O S vs ds) (dm : ∀ a ∈ O, H a ≠ none) (hs : ∀ s ∈ S, SInv H s ∧ s.1 ∈ O) :
    ∃ r : DEnv, RepE ⟨K, N.length, O, H, S⟩ (L2.start N vs) H r ∧ er r = s0 N.length (ds.map DV.er) := by
  have ln := ha.length
  refine ⟨ds.map some ++ List.replicate (N.length - ds.length) none, ?_, ?_⟩
  · have at_ : ∀ (i : Nat) (x : DV), (ds.map some ++ List.replicate (N.length - ds.length) none)[i]? = some (some x) → ds[i]? = some x := fun i x e => by
      by_cases h : i < ds.length
      · rw [List.getElem?_append_left (by simpa using h), List.getElem?_map] at e
        cases q : ds[i]? with
        | none => rw [q] at e; cases e
        | some y => rw [q] at e; cases e; rfl
      · rw [List.getElem?_append_right (by simpa using h), List.getElem?_replicate] at e
        split at e <;> cases e
    have sub : ∀ a, a ∈ O ++ oA (ds.map some ++ List.replicate (N.length - ds.length) none) → a ∈ O := fun a h => by
      rcases List.mem_append.mp h with h | h
      · exact h
      · obtain ⟨i, o, e⟩ := mem_oA.mp h
        obtain ⟨v, _, q⟩ := ha.get (at_ i _ e)
        cases o with
        | st => exact (hs _ q.2).2
        | lst xs => exact q.elim
        | dct xs => exact q.elim
    refine ⟨?_, ?_, fun i x e => ?_, fun i a o e n => ?_, dm, fun a o _ e => e, fun i a o e n => ?_, fun i a e => ?_, fun s z => (hs s z).1, fun s z => ⟨(hs s z).2, (hs s z).1.ne⟩⟩
    · show (L2.start N vs).length = N.length
      unfold L2.start
      rw [List.length_append, List.length_map, List.length_replicate]
      omega
    · show (ds.map some ++ List.replicate (N.length - ds.length) none).length = N.length
      rw [List.length_append, List.length_map, List.length_replicate]
      omega
    · obtain ⟨v, h1, h2⟩ := ha.get (at_ i x e)
      refine ⟨v, ?_, ?_⟩
      · unfold L2.start
        have hi : i < vs.length := (List.getElem?_eq_some_iff.mp h1).1
        rw [List.getElem?_append_left (by simpa using hi), List.getElem?_map, h1]
        rfl
      · cases x with
        | d y => exact Rp.up h2 (hd_sub sub)
        | m a o =>
          cases o with
          | st => exact ⟨h2.1, (hs _ h2.2).1⟩
          | lst xs => exact h2.elim
          | dct xs => exact h2.elim
        | scr a ns => exact h2
    · obtain ⟨v, h1, h2⟩ := ha.get (at_ i _ e)
      cases o with
      | st => exact absurd rfl n
      | lst xs => exact h2.elim
      | dct xs => exact h2.elim
    · obtain ⟨v, h1, h2⟩ := ha.get (at_ i _ e)
      cases o with
      | st => exact absurd rfl n
      | lst xs => exact h2.elim
      | dct xs => exact h2.elim
    · obtain ⟨v, h1, h2⟩ := ha.get (at_ i _ e)
      exact .inl h2.2
  · unfold er s0
    rw [List.map_append, List.map_map, List.map_replicate, List.length_map, List.map_map]
    rfl
/-- THE RULE for a def -/
theorem fn_deep {P : Program} {w : World} {K : PySem.W.Frag} {mg : Str → Option Value} {base : Heap} {x qual : Str} {params : Arguments} {body : List Stmt} {scope : Scope} {f : Addr} {fd : FuncData} {N ps : List Str} {k : Nat} {tb : (Str → Prop) → TSD}
    (F : FunD K x qual params body scope [] [] f fd) (S : FnScope N ps scope)
    (hb : ∀ (cdv : Value) (A : Around) (outer : List Env) (s : Shared) (H : Hp) (E : XK) (C : Cfg) (E' : Str → Prop), Room k (A.deeper (envOfC qual scope s.heap.objs.size f cdv)) → C.n = N.length → C.K = K →
      Takes (cxOf (L2.CX P w) P w K mg base N qual scope f cdv A outer s H E) (wOf mg C E') → PSDs (cxOf (L2.CX P w) P w K mg base N qual scope f cdv A outer s H E) C body (tb E')) :
    FnOk P w K mg base (L2.CX P w) (k + 1) f fd ps (spOf K mg ps.length fun args Q E => tb E { nx := fun _ => Q (.d .none), rt := Q } (s0 N.length args)) := by
  have hpl : ps.length ≤ N.length := by have := congrArg List.length S.pre; rw [List.length_take] at this; omega
  refine F.ok S (fun vs H Q E h => h.1) fun cdv A outer s H vs Q E hr hsp => ?_
  obtain ⟨hl, O, Sh, ds, Q', E', ha, dm, hs, hφ, hQ, hE⟩ := hsp
  obtain ⟨r, R, er_⟩ := rep_start (N := N) (by omega) ha dm hs
  have tk : Takes (cxOf (L2.CX P w) P w K mg base N qual scope f cdv A outer s H E) (wOf mg ⟨K, N.length, O, H, Sh⟩ E') := by
    refine Takes.imp (takes_of (X := cxOf (L2.CX P w) P w K mg base N qual scope f cdv A outer s H E) (E := E) rfl rfl rfl rfl) fun cls d σ H' h => ?_
    obtain ⟨c, Ca, h1, rfl, rfl, h4, h5⟩ := h
    exact hE c Ca H' h1 ⟨h4.ext, h4.sto, h4.dom⟩ h5
  have out : ∀ H', Out ⟨K, N.length, O, H, Sh⟩ H' → Out ⟨K, 0, O, H, Sh⟩ H' := fun H' h => ⟨h.ext, h.sto, h.dom⟩
  refine ⟨_, hb cdv A outer s H E ⟨K, N.length, O, H, Sh⟩ E' hr rfl rfl tk, r, { nx := fun _ => Q' (.d .none), rt := Q' }, R, by rw [er_]; exact hφ, fun σ' H' r' R' q => ?_, fun v H' rv h1 h2 q => ?_, fun _ _ _ _ q => q, fun _ _ _ _ q => q⟩
  · exact hQ .non H' (.d .none) (out _ R'.out) .non q
  · refine hQ v H' rv (out _ h1) ?_ q
    cases rv with
    | d x => exact h2
    | l xs => exact h2
/-! ### arguments -/
abbrev TXD := SEnv → (List SV → Prop) → Prop
def upX (C : Cfg) (t : TXD) : TA := fun σ H Q => ∃ (r : DEnv) (Q' : List SV → Prop), RepE C σ H r ∧ t (er r) Q' ∧ ∀ vs H' ds, Gr C r H H' → ArgsD C.K H' (C.O ++ oA r) (sh C r) vs ds → Q' (ds.map DV.er) → Q vs H'
def PDX (X : Cx) (C : Cfg) (es : List Expr) (t : TXD) : Prop := PA X es (upX C t)
theorem ScrOk.gr {C : Cfg} {σ : L2.St} {H H' : Hp} {r : DEnv} (R : RepE C σ H r) (g : Gr C r H H') {K : PySem.W.Frag} {a : Addr} {ns : List Int} (h : ScrOk K H a ns) : ScrOk K H' a ns := h.keep fun o u q => g.1 a _ (fun k z => by
  rcases (R.shI _ z).obj with ⟨vs, w⟩ | ⟨ps, w⟩
  · rw [q] at w; cases w
  · rw [q] at w; cases w) q
theorem ArgD.gr {C : Cfg} {σ : L2.St} {H H' : Hp} {r : DEnv} (R : RepE C σ H r) (g : Gr C r H H') {v : V} {d : DV} (h : ArgD C.K H (C.O ++ oA r) (sh C r) v d) : ArgD C.K H' (C.O ++ oA r) (sh C r) v d := by
  cases d with
  | d x => exact Rp.up h (g.hd R)
  | m a o =>
    cases o with
    | st => exact h
    | lst xs => exact h.elim
    | dct xs => exact h.elim
  | scr a ns => exact ⟨h.1, h.2.gr R g⟩
section
variable {X : Cx} {C : Cfg} {e : Expr} {es : List Expr} {pos : Pos}
def xNil : TXD := fun _ Q => Q []
def xE (t : TD) (u : TXD) : TXD := fun r Q => t r fun x => u r fun xs => Q (.d x :: xs)
/-- a name: data, the drawing state, the script -/
def slotW (i : Nat) : SEnv → (SV → Prop) → Prop := fun r Q => match r[i]? with
  | some (some (.d x)) => Q (.d x)
  | some (some (.m .st)) => Q (.m .st)
  | some (some (.scr ns)) => Q (.scr ns)
  | _ => False
def xS (i : Nat) (u : TXD) : TXD := fun r Q => slotW i r fun x => u r fun xs => Q (x :: xs)
theorem slotW_get {i : Nat} {r : DEnv} {Q : SV → Prop} (h : slotW i (er r) Q) : ∃ y : DV, r[i]? = some (some y) ∧ ((∃ x, y = .d x) ∨ (∃ a, y = .m a .st) ∨ ∃ a ns, y = .scr a ns) ∧ Q y.er := by
  unfold slotW at h
  split at h
  · rename_i x e
    exact ⟨_, er_d e, .inl ⟨x, rfl⟩, h⟩
  · rename_i e
    obtain ⟨a, q⟩ := er_m e
    exact ⟨_, q, .inr (.inl ⟨a, rfl⟩), h⟩
  · rename_i ns e
    obtain ⟨a, q⟩ := er_scr e
    exact ⟨_, q, .inr (.inr ⟨a, ns, rfl⟩), h⟩
  · exact h.elim
theorem pdx_nil : PDX X C [] xNil := PA_imp pa_nil fun σ H Q ⟨r, Q', R, q, k⟩ => k _ H [] (Gr.refl R) .nil q
theorem pdx_e {t : TD} {u : TXD} (ha : PD X C e t) (hr : PDX X C es u) (hs : starEach (e :: es) X.env = (false, eval e X.env) :: starEach es X.env) : PDX X C (e :: es) (xE t u) :=
  PA_imp (pa_cons ha hr hs) fun σ H Q ⟨r, Q', R, q, k⟩ => ⟨r, _, R, q, fun v H1 x g1 rp1 q1 => ⟨r, _, R.grow g1, q1, fun vs H2 ds g2 rp2 q2 => k _ H2 (.d x :: ds) (g1.trans g2) (.cons (ArgD.gr (R.grow g1) g2 (d := .d x) rp1) rp2) q2⟩⟩
theorem pdx_s (i : Nat) {x : Str} {p : Pos} {u : TXD} (hN : X.N[i]? = some x) (hv : Vis X.env.scope x) (hd' : (x == ("__debug__" : Str)) = false) (hcd : (x == ("__classdict__" : Str)) = false) (hr : PDX X C es u) (hs : starEach (.Name x p :: es) X.env = (false, eval (.Name x p) X.env) :: starEach es X.env) :
    PDX X C (.Name x p :: es) (xS i u) :=
  PA_imp (pa_cons (pe_var hN hv hd' hcd) hr hs) fun σ H Q ⟨r, Q', R, w, k⟩ => by
    obtain ⟨y, e1, hy, q⟩ := slotW_get w
    obtain ⟨v, e2, h2⟩ := R.slot i _ e1
    have ad : ArgD C.K H (C.O ++ oA r) (sh C r) v y := by
      rcases hy with ⟨x, rfl⟩ | ⟨a, rfl⟩ | ⟨a, ns, rfl⟩
      · exact h2
      · exact ⟨h2.1, List.mem_append_right _ (mem_sA.mpr ⟨rfl, i, e1⟩)⟩
      · exact h2
    exact ⟨v, e2, r, _, R, q, fun vs H2 ds g2 rp2 q2 => k _ H2 (y :: ds) g2 (.cons (ad.gr R g2) rp2) q2⟩
/-! ### the call -/
theorem out_gr {σ : L2.St} {H H' : Hp} {r : DEnv} {n : Nat} (R : RepE C σ H r) (o : Out ⟨C.K, n, C.O ++ oA r, H, sh C r⟩ H') : Gr C r H H' := ⟨o.ext, o.sto⟩
def rvD (Q : PyData → Prop) : RV → Prop
  | .d x => Q x
  | .l xs => Q (.list xs)
def rvL (Q : List PyData → Prop) : RV → Prop
  | .l xs => Q xs
  | _ => False
/-- a new drawing state -/
def rvS (Q : Prop) : RV → Prop
  | .l [.int x, .bool b] => (0 ≤ x ∧ (b = false → x < 2147483647)) ∧ Q
  | _ => False
theorem rvS_get {Q : Prop} {rv : RV} (h : rvS Q rv) : ∃ x b, rv = .l [.int x, .bool b] ∧ 0 ≤ x ∧ (b = false → x < 2147483647) ∧ Q := by
  unfold rvS at h
  split at h
  · exact ⟨_, _, rfl, h.1.1, h.1.2, h.2⟩
  · exact h.elim
/-- a call, whatever is handed back -/
theorem call_any {CXX : CXT} {k : Nat} {f : Addr} {fd : FuncData} {ps : List Str} {φ : FW} {E : Str → Prop} {x : Str} {p : Pos} {t : TXD} (hK : C.K = X.K)
    (F : FnOk X.prog X.w X.K X.mg X.base (L2.CX X.prog X.w) k f fd ps (spOf X.K X.mg ps.length φ)) (hr : Room k X.A) (hg : Gl X x) (hm : X.mg x = some (.ref f)) (hk : PySem.W.keepIn X.K (.ref f) = true) (hb : Binds X.K fd ps [])
    (tk : Takes X (wOf X.mg C E)) (ha : PDX X C (e :: es) t) (hdb : (x == ("__debug__" : Str)) = false) (he : starEach (e :: es) X.env = (false, eval e X.env) :: starEach es X.env) (hpl : (backTo pos (starEach es X.env)).any (·.1) = false) :
    PE X (.Call (.Name x p) (e :: es) [] pos) (fun σ H Q => ∃ (r : DEnv) (Q' : RV → Prop), RepE C σ H r ∧ t (er r) (fun xs => xs.length = ps.length ∧ φ xs Q' E) ∧
      ∀ H1 v H' rv, Gr C r H H1 → Out ⟨C.K, 0, C.O ++ oA r, H1, sh C r⟩ H' → RetV ⟨C.K, 0, C.O ++ oA r, H1, sh C r⟩ v H' rv → Q' rv → Q v H') :=
  PE_imp (pe_callS F hr hg hm hk hb (passAt tk) ha hdb he hpl) fun σ H Q ⟨r, Q', R, q, k⟩ => by
    refine ⟨r, _, R, q, fun vs H1 ds g1 ad q1 => ?_⟩
    have R1 := R.grow g1
    have q1' := q1.2
    refine ⟨by rw [ad.length, ← q1.1, List.length_map], C.O ++ oA r, sh C r, ds, Q', E, by rw [← hK]; exact ad, R1.domA, fun s hs => ⟨R1.shI s hs, R1.shO (a := s.1) (k := s.2) hs⟩, q1', fun v H' rv o rt qq => ?_, fun c Ca H' hc o qq => ?_⟩
    · rw [← hK] at o rt
      exact k H1 v H' rv g1 o rt qq
    · rw [← hK] at o
      exact ⟨c, Ca, hc, rfl, rfl, (R1.grow (out_gr R1 o)).out, qq⟩
variable {CXX : CXT} {k : Nat} {f : Addr} {fd : FuncData} {ps : List Str} {φ : FW} {E : Str → Prop} {x : Str} {p : Pos} {t : TXD}
/-- what a call of a def stands on -/
structure CallOk (X : Cx) (C : Cfg) (x : Str) (n : Nat) (φ : FW) (E : Str → Prop) : Prop where
  hK : C.K = X.K
  tk : Takes X (wOf X.mg C E)
  fn : ∃ k f fd ps, ps.length = n ∧ FnOk X.prog X.w X.K X.mg X.base (L2.CX X.prog X.w) k f fd ps (spOf X.K X.mg n φ) ∧ Room k X.A ∧ X.mg x = some (.ref f) ∧ PySem.W.keepIn X.K (.ref f) = true ∧ Binds X.K fd ps []
def dCallF (n : Nat) (φ : FW) (E : Str → Prop) (t : TXD) : TD := fun r Q => t r fun xs => xs.length = n ∧ φ xs (rvD Q) E
theorem pd_callF {n : Nat} (c : CallOk X C x n φ E) (hg : Gl X x) (ha : PDX X C (e :: es) t) (hdb : (x == ("__debug__" : Str)) = false) (he : starEach (e :: es) X.env = (false, eval e X.env) :: starEach es X.env) (hpl : (backTo pos (starEach es X.env)).any (·.1) = false) :
    PD X C (.Call (.Name x p) (e :: es) [] pos) (dCallF n φ E t) := by
  obtain ⟨k, f, fd, ps, rfl, F, hr, hm, hk, hb⟩ := c.fn
  refine PE_imp (call_any (CXX := fun _ _ _ _ _ _ => False) c.hK F hr hg hm hk hb c.tk ha hdb he hpl) fun σ H Q ⟨r, Q', R, q, k⟩ => ⟨r, rvD Q', R, q, fun H1 v H' rv g1 o rt qq => ?_⟩
  have R1 := R.grow g1
  have g2 := out_gr R1 o
  cases rv with
  | d x => exact k v H' x (g1.trans g2) rt qq
  | l xs =>
    obtain ⟨p, vs, rfl, h1, h2, h3, h4, h5⟩ := rt
    exact k _ H' _ (g1.trans g2) (RpA.put h3 h2 h4 h5) qq
def fCallF (n : Nat) (φ : FW) (E : Str → Prop) (t : TXD) : TAD := fun r Q => t r fun xs => xs.length = n ∧ φ xs (rvL Q) E
theorem pf_callF {n : Nat} (c : CallOk X C x n φ E) (hg : Gl X x) (ha : PDX X C (e :: es) t) (hdb : (x == ("__debug__" : Str)) = false) (he : starEach (e :: es) X.env = (false, eval e X.env) :: starEach es X.env) (hpl : (backTo pos (starEach es X.env)).any (·.1) = false) :
    PF X C (.Call (.Name x p) (e :: es) [] pos) (fCallF n φ E t) := by
  obtain ⟨k, f, fd, ps, rfl, F, hr, hm, hk, hb⟩ := c.fn
  refine PE_imp (call_any (CXX := fun _ _ _ _ _ _ => False) c.hK F hr hg hm hk hb c.tk ha hdb he hpl) fun σ H Q ⟨r, Q', R, q, k⟩ => ⟨r, rvL Q', R, q, fun H1 v H' rv g1 o rt qq => ?_⟩
  have R1 := R.grow g1
  have g2 := out_gr R1 o
  cases rv with
  | d x => exact (show False from qq).elim
  | l xs =>
    obtain ⟨p, vs, rfl, h1, h2, h3, h4, h5⟩ := rt
    exact k p H' vs xs (g1.trans g2) (Gr.none R g1 h1) h3 h4 h5 qq
/-- return f(..) -/
def sRetC (n : Nat) (φ : FW) (E : Str → Prop) (t : TXD) : TSD := fun D r => t r fun xs => xs.length = n ∧ φ xs D.rt E
theorem psd_retC {n : Nat} {pos2 : Pos} (c : CallOk X C x n φ E) (hg : Gl X x) (ha : PDX X C (e :: es) t) (hdb : (x == ("__debug__" : Str)) = false) (he : starEach (e :: es) X.env = (false, eval e X.env) :: starEach es X.env) (hpl : (backTo pos (starEach es X.env)).any (·.1) = false) :
    PSD X C (.Return (some (.Call (.Name x p) (e :: es) [] pos)) pos2) (sRetC n φ E t) := by
  obtain ⟨k, f, fd, ps, rfl, F, hr, hm, hk, hb⟩ := c.fn
  refine PS_imp (ps_ret (call_any (CXX := fun _ _ _ _ _ _ => False) c.hK F hr hg hm hk hb c.tk ha hdb he hpl)) fun D σ H ⟨r, D', R, q, k1, k2, _⟩ => ⟨r, D'.rt, R, q, fun H1 v H' rv g1 o rt qq => ?_⟩
  have R1 := R.grow g1
  have g2 := out_gr R1 o
  refine k2 v H' rv (R1.grow g2).out ?_ qq
  cases rv with
  | d x => exact (R1.grow g2).retD rt
  | l xs =>
    obtain ⟨p, vs, rfl, h1, h2, h3, h4, h5⟩ := rt
    exact R1.retL g2 h1 h3 h4 h5
/-- x = f(..), a new drawing state -/
def sSetS (i n : Nat) (φ : FW) (E : Str → Prop) (t : TXD) : TSD := fun D r => t r fun xs => xs.length = n ∧ φ xs (rvS (D.nx (r.set i (some (.m .st))))) E
theorem psd_setS (i : Nat) {n : Nat} {y : Str} {pos2 pos' : Pos} (hN : X.N.Nodup) (hn : C.n = X.N.length) (hi : X.N[i]? = some y) (hx : Loc X.env.scope y) (hf : X.fn y = true ∨ X.env.scope.names.lookup y = some .local)
    (c : CallOk X C x n φ E) (hg : Gl X x) (ha : PDX X C (e :: es) t) (hdb : (x == ("__debug__" : Str)) = false) (he : starEach (e :: es) X.env = (false, eval e X.env) :: starEach es X.env) (hpl : (backTo pos (starEach es X.env)).any (·.1) = false) :
    PSD X C (.Assign [.Name y pos'] (.Call (.Name x p) (e :: es) [] pos) pos2) (sSetS i n φ E t) := by
  obtain ⟨k, f, fd, ps, rfl, F, hr, hm, hk, hb⟩ := c.fn
  refine PS_imp (ps_set hN hi hx (call_any (CXX := fun _ _ _ _ _ _ => False) c.hK F hr hg hm hk hb c.tk ha hdb he hpl) (by rfl) hf) fun D σ H ⟨r, D', R, q, k1, _⟩ => ⟨r, rvS (D'.nx ((er r).set i (some (.m .st)))), R, q, fun H1 v H' rv g1 o rt qq => ?_⟩
  have R1 := R.grow g1
  have g2 := out_gr R1 o
  obtain ⟨z, b, rfl, z1, z2, qq⟩ := rvS_get qq
  obtain ⟨p, vs, rfl, h1, h2, h3, h4, h5⟩ := rt
  obtain ⟨v1, v2, rfl, r1, r2⟩ := rpa2 h5
  rw [rp_int r1, rp_bl r2] at h3
  exact k1 _ H' _ (R1.new g2 (o := .st) (by rw [hn]; exact (List.getElem?_eq_some_iff.mp hi).1) h1 ⟨z, b, h3, z1, z2⟩) (by rw [er_set]; exact qq)
/-- raise X('..') -/
def sRaise (E : Str → Prop) (c : Str) : TSD := fun _ _ => E c
theorem psd_raise {c m : Str} {j : Nat} {Ca : Addr} {p2 pos2 : Pos} (tk : Takes X (wOf X.mg C E)) (hc : X.calm = true) (q : PySem.W.excIn X.K Ca [.type "ValueError", .type "Exception", .type "BaseException", .type "object"] "ValueError.__new__" = true) (gC : X.mg c = some (.ref Ca)) (kC : PySem.W.keepIn X.K (.ref Ca) = true)
    (h1 : PySem.W.subIn X.K (.ref Ca) (.type "BaseException") = some true) (h2 : PySem.W.typeIn X.K (.ref Ca) = some (.type "type")) (hg : Gl X c) (hdb : (c == ("__debug__" : Str)) = false) :
    PSD X C (.Raise (some (.Call (.Name c p) [.Constant (.str m) j p2] [] pos)) none pos2) (sRaise E c) :=
  PS_imp (ps_raise hc tk (pmk_own PySem.F.excBase_ValueError q gC kC (raises_own h1 h2) hg hdb)) fun D σ H ⟨r, D', R, w, _⟩ => ⟨c, Ca, gC, rfl, rfl, R.out, w⟩
end
end DP

end
section
set_option Elab.async false
set_option linter.all false
set_option maxRecDepth 100000
set_option autoImplicit false
set_option maxHeartbeats 4000000
namespace DP
open PySem PySem.Spec PyProof.Rows L2
/-! ### what is walked -/
/-- J walks the items xs, so long as the data of Hd stand -/
structure Goes (J : It) (Hd : Hp) (xs : List PyData) : Prop where
  go : ∀ (i : Nat) (x : PyData) (H : Hp) (O : List Addr), Same Hd (hd H O) → (∀ a ∈ O, H a ≠ none) → xs[i]? = some x → J.go i H ∧ ∀ v H', J.yld i H v H' → Same H H' ∧ Rp (hd H' O) v x
  stop : ∀ (H : Hp) (O : List Addr), Same Hd (hd H O) → J.stop xs.length H
theorem goes_list {K : PySem.W.Frag} {Hd : Hp} {a : Addr} {vs : List V} {xs : List PyData} (h : Rd Hd a (.lst vs)) (ha : RpA Hd vs xs) : Goes (Itl K a) Hd xs where
  go := fun i x H O s dm e => by
    have q : SqL K H a vs := .inl (DP.Rd.full (Rd.mono s h))
    obtain ⟨v, e1, e2⟩ := ha.get e
    refine ⟨⟨vs, v, q, e1⟩, fun w H' y => ?_⟩
    obtain ⟨eH, y⟩ := y
    subst eH
    have e3 := y vs q
    rw [e1] at e3
    cases e3
    exact ⟨Same.refl _, e2.up s⟩
  stop := fun H O s => ⟨vs, .inl (DP.Rd.full (Rd.mono s h)), Nat.le_of_eq ha.length⟩
theorem goes_tup {K : PySem.W.Frag} {Hd : Hp} {a : Addr} {vs : List V} {xs : List PyData} (h : Hd a = some (.tup vs)) (ha : RpA Hd vs xs) : Goes (Itt K a) Hd xs where
  go := fun i x H O s dm e => by
    have q : SqT K H a vs := .inl (.inl (hd_some (s _ _ h)).2)
    obtain ⟨v, e1, e2⟩ := ha.get e
    refine ⟨⟨vs, v, q, e1⟩, fun w H' y => ?_⟩
    obtain ⟨eH, y⟩ := y
    subst eH
    have e3 := y vs q
    rw [e1] at e3
    cases e3
    exact ⟨Same.refl _, e2.up s⟩
  stop := fun H O s => ⟨vs, .inl (.inl (hd_some (s _ _ h)).2), Nat.le_of_eq ha.length⟩
def rngD (lo : Int) (n : Nat) : List PyData := (List.range n).map fun (i : Nat) => PyData.int (lo + (i : Int))
theorem rngD_get {lo : Int} {n i : Nat} {x : PyData} (h : (rngD lo n)[i]? = some x) : i < n ∧ x = .int (lo + (i : Int)) := by
  unfold rngD at h
  rw [List.getElem?_map] at h
  cases q : (List.range n)[i]? with
  | none => rw [q] at h; cases h
  | some j =>
    rw [q] at h
    obtain ⟨hl, e⟩ := List.getElem?_eq_some_iff.mp q
    rw [List.getElem_range] at e
    rw [List.length_range] at hl
    subst e
    cases h
    exact ⟨hl, rfl⟩
theorem goes_rng {Hd : Hp} {lo : Int} {n : Nat} : Goes (Itr lo n) Hd (rngD lo n) where
  go := fun i x H O s dm e => by
    obtain ⟨h1, h2⟩ := rngD_get e
    refine ⟨h1, fun w H' y => ?_⟩
    obtain ⟨eH, y⟩ := y
    subst eH y h2
    exact ⟨Same.refl _, .int _⟩
  stop := fun H O s => by
    show n ≤ (rngD lo n).length
    unfold rngD
    simp
theorem rp_pair {H : Hp} {O : List Addr} {T : Addr} {x y : V} {dx dy : PyData} (dm : ∀ a ∈ O, H a ≠ none) (n : H T = none) (h1 : Rp (hd H O) x dx) (h2 : Rp (hd H O) y dy) : Rp (hd (upd H T (.tup [x, y])) O) (.ref T) (.tuple [dx, dy]) :=
  rp_new dm n (by show 2 ≤ sizeLine; decide) (.cons h1 (.cons h2 .nil))
def enuD (xs : List PyData) : List PyData := xs.zipIdx.map fun p => .tuple [.int (p.2 : Int), p.1]
theorem enuD_get {xs : List PyData} {i : Nat} {z : PyData} (h : (enuD xs)[i]? = some z) : ∃ x, xs[i]? = some x ∧ z = .tuple [.int (i : Int), x] := by
  unfold enuD at h
  rw [List.getElem?_map, List.getElem?_zipIdx] at h
  cases q : xs[i]? with
  | none => rw [q] at h; cases h
  | some x =>
    rw [q] at h
    cases h
    exact ⟨x, rfl, by simp⟩
theorem enuD_len (xs : List PyData) : (enuD xs).length = xs.length := by unfold enuD; simp
theorem goes_enumL {K : PySem.W.Frag} {Hd : Hp} {a : Addr} {vs : List V} {xs : List PyData} (h : Rd Hd a (.lst vs)) (ha : RpA Hd vs xs) : Goes (Ite K a) Hd (enuD xs) where
  go := fun i x H O s dm e => by
    obtain ⟨x', e0, rfl⟩ := enuD_get e
    have q : SqL K H a vs := .inl (DP.Rd.full (Rd.mono s h))
    obtain ⟨v, e1, e2⟩ := ha.get e0
    refine ⟨⟨vs, v, q, e1⟩, fun w H' y => ?_⟩
    obtain ⟨T, z, rfl, hT, rfl, y⟩ := y
    have e3 := y vs q
    rw [e1] at e3
    cases e3
    exact ⟨same_new hT, rp_pair dm hT (.int _) (e2.up s)⟩
  stop := fun H O s => ⟨vs, .inl (DP.Rd.full (Rd.mono s h)), by rw [enuD_len]; exact Nat.le_of_eq ha.length⟩
theorem goes_enumT {Hd : Hp} {a : Addr} {vs : List V} {xs : List PyData} (h : Hd a = some (.tup vs)) (ha : RpA Hd vs xs) : Goes (IteT a) Hd (enuD xs) where
  go := fun i x H O s dm e => by
    obtain ⟨x', e0, rfl⟩ := enuD_get e
    have q : H a = some (.tup vs) := (hd_some (s _ _ h)).2
    obtain ⟨v, e1, e2⟩ := ha.get e0
    refine ⟨⟨vs, v, q, e1⟩, fun w H' y => ?_⟩
    obtain ⟨T, z, rfl, hT, rfl, y⟩ := y
    have e3 := y vs q
    rw [e1] at e3
    cases e3
    exact ⟨same_new hT, rp_pair dm hT (.int _) (e2.up s)⟩
  stop := fun H O s => ⟨vs, (hd_some (s _ _ h)).2, by rw [enuD_len]; exact ha.length⟩
def zipD (xs ys : List PyData) : List PyData := List.zipWith (fun x y => .tuple [x, y]) xs ys
theorem zipD_get {xs ys : List PyData} {i : Nat} {z : PyData} (h : (zipD xs ys)[i]? = some z) : ∃ x y, xs[i]? = some x ∧ ys[i]? = some y ∧ z = .tuple [x, y] := by
  unfold zipD at h
  rw [List.getElem?_zipWith] at h
  cases q1 : xs[i]? with
  | none => rw [q1] at h; simp at h
  | some x =>
    cases q2 : ys[i]? with
    | none => rw [q1, q2] at h; simp at h
    | some y =>
      rw [q1, q2] at h
      simp at h
      exact ⟨x, y, rfl, rfl, h.symm⟩
theorem goes_zipL {K : PySem.W.Frag} {Hd : Hp} {a b : Addr} {vs ws : List V} {xs ys : List PyData} (h : Rd Hd a (.lst vs)) (ha : RpA Hd vs xs) (h2 : Rd Hd b (.lst ws)) (hb : RpA Hd ws ys) : Goes (Itz K a b) Hd (zipD xs ys) where
  go := fun i x H O s dm e => by
    obtain ⟨x', y', e0, e0', rfl⟩ := zipD_get e
    have q : SqL K H a vs := .inl (DP.Rd.full (Rd.mono s h))
    have q2 : SqL K H b ws := .inl (DP.Rd.full (Rd.mono s h2))
    obtain ⟨v, e1, e2⟩ := ha.get e0
    obtain ⟨v', e1', e2'⟩ := hb.get e0'
    refine ⟨⟨vs, ws, v, v', q, q2, e1, e1'⟩, fun w H' y => ?_⟩
    obtain ⟨T, z, z', rfl, hT, rfl, y, y'⟩ := y
    have e3 := y vs q
    rw [e1] at e3
    cases e3
    have e4 := y' ws q2
    rw [e1'] at e4
    cases e4
    exact ⟨same_new hT, rp_pair dm hT (e2.up s) (e2'.up s)⟩
  stop := fun H O s => ⟨vs, ws, .inl (DP.Rd.full (Rd.mono s h)), .inl (DP.Rd.full (Rd.mono s h2)), by
    have l1 := ha.length
    have l2 := hb.length
    unfold zipD
    rw [List.length_zipWith]
    omega⟩
theorem goes_zipT {K : PySem.W.Frag} {Hd : Hp} {a b : Addr} {vs ws : List V} {xs ys : List PyData} (h : Hd a = some (.tup vs)) (ha : RpA Hd vs xs) (h2 : Hd b = some (.tup ws)) (hb : RpA Hd ws ys) : Goes (RZ.ItzT K a b) Hd (zipD xs ys) where
  go := fun i x H O s dm e => by
    obtain ⟨x', y', e0, e0', rfl⟩ := zipD_get e
    have q : SqT K H a vs := .inl (.inl (hd_some (s _ _ h)).2)
    have q2 : SqT K H b ws := .inl (.inl (hd_some (s _ _ h2)).2)
    obtain ⟨v, e1, e2⟩ := ha.get e0
    obtain ⟨v', e1', e2'⟩ := hb.get e0'
    refine ⟨⟨vs, ws, v, v', q, q2, e1, e1'⟩, fun w H' y => ?_⟩
    obtain ⟨T, z, z', rfl, hT, rfl, y, y'⟩ := y
    have e3 := y vs q
    rw [e1] at e3
    cases e3
    have e4 := y' ws q2
    rw [e1'] at e4
    cases e4
    exact ⟨same_new hT, rp_pair dm hT (e2.up s) (e2'.up s)⟩
  stop := fun H O s => ⟨vs, ws, .inl (.inl (hd_some (s _ _ h)).2), .inl (.inl (hd_some (s _ _ h2)).2), by
    have l1 := ha.length
    have l2 := hb.length
    unfold zipD
    rw [List.length_zipWith]
    omega⟩
abbrev TID := SEnv → (List PyData → Prop) → Prop
def upI (C : Cfg) (t : TID) : TI := fun σ H R => ∃ (r : DEnv) (Q' : List PyData → Prop), RepE C σ H r ∧ t (er r) Q' ∧ ∀ J H' xs, Gr C r H H' → xs.length ≤ sizeLine → Goes J (hd H' (C.O ++ oA r)) xs → Q' xs → R J H'
def PDI (X : Cx) (C : Cfg) (tg iter : Expr) (t : TID) : Prop := PI X tg iter (upI C t)
theorem PI_imp {X : Cx} {tg iter : Expr} {t u : TI} (h : PI X tg iter t) (q : ∀ σ H R, u σ H R → t σ H R) : PI X tg iter u := ⟨fun pins s σ H R I hw => h.run pins s σ H R I (q σ H R hw)⟩
section
variable {X : Cx} {C : Cfg} {tg e e2 : Expr} {es : List Expr} {pos : Pos}
/-- the items of a list or a tuple -/
def seqD (k : List PyData → Prop) : PyData → Prop
  | .list xs => k xs
  | .tuple xs => k xs
  | _ => False
def iSeq (t : TD) : TID := fun r Q => t r fun x => seqD Q x
theorem pi_seq {l : Expr} {tl : TE} (hl : PE X l tl) : PI X tg l (fun σ H R => tl σ H fun x H1 => ∃ a, x = .ref a ∧ ((∃ xs, SqL X.K H1 a xs ∧ R (Itl X.K a) H1) ∨ ∃ xs, SqT X.K H1 a xs ∧ R (Itt X.K a) H1)) := by
  refine ⟨fun pins s σ H R I h => ?_⟩
  refine thn (hl.run pins s σ H _ I h) fun v s1 ⟨x, H1, I1, r1, q1⟩ => ?_
  obtain ⟨a, e, q1⟩ := q1
  subst e
  cases r1
  have fp : ∀ b, b ∈ [s1.heap.objs.size] → FpOk X pins H1 b := fun b hb => by
    have e : b = s1.heap.objs.size := by simpa using hb
    subst e
    exact I1.fpOk (Nat.le_refl _) (I1.hok.fresh (Nat.le_refl _))
  rcases q1 with ⟨xs, hq, q⟩ | ⟨xs, hq, q⟩
  · obtain ⟨its, rv, p, hz⟩ := I1.list hq
    exact wpAny_pyIter_list p.isList ⟨s1.heap.objs.size, [s1.heap.objs.size], _, _, H1, rfl, I1.kept (t' := s1.toks) fun b o e => Heap.get?_push_of_some _ e, turn_list a _, ⟨_, Heap.get?_push_size _ rfl, rfl, rfl⟩, fp, q⟩
  · obtain ⟨its, rv, p, hz⟩ := I1.tuple hq
    exact wpAny_pyIter_tuple (show s1.heap.IsTuple a its.toArray from p) ⟨s1.heap.objs.size, [s1.heap.objs.size], _, _, H1, rfl, I1.kept (t' := s1.toks) fun b o e => Heap.get?_push_of_some _ e, turn_tuple a _, ⟨_, Heap.get?_push_size _ rfl, rfl, rfl⟩, fp, q⟩
theorem pdi_seq {t : TD} (h : PD X C e t) : PDI X C tg e (iSeq t) := PI_imp (pi_seq h) fun σ H R ⟨r, Q', R0, q, k⟩ => ⟨r, _, R0, q, fun v H1 x g rp qx => by
  cases x with
  | list xs =>
    obtain ⟨a, ys, rfl, h1, h2, h3⟩ := rp_lst rp
    exact ⟨a, rfl, .inl ⟨ys, .inl (DP.Rd.full h1), k _ H1 xs g (by rw [← h3.length]; exact h2) (goes_list h1 h3) qx⟩⟩
  | tuple xs =>
    obtain ⟨a, ys, rfl, h1, h2, h3⟩ := rp_tup rp
    exact ⟨a, rfl, .inr ⟨ys, .inl (.inl (hd_some h1).2), k _ H1 xs g (by rw [← h3.length]; exact h2) (goes_tup h1 h3) qx⟩⟩
  | _ => exact (show False from qx).elim⟩
def rng1 (Q : List PyData → Prop) : List PyData → Prop
  | [.int j] => j ≤ 1000000 ∧ -1000000 ≤ j ∧ Q (rngD 0 j.toNat)
  | _ => False
def rng2 (Q : List PyData → Prop) : List PyData → Prop
  | [.int i, .int j] => (j ≤ 1000000 ∧ -1000000 ≤ i ∧ i ≤ 1000000 ∧ -1000000 ≤ j) ∧ Q (rngD i (j - i).toNat)
  | _ => False
def iRange1 (t : TAD) : TID := fun r Q => t r fun xs => rng1 Q xs
def iRange2 (t : TAD) : TID := fun r Q => t r fun xs => rng2 Q xs
theorem rngD_len (lo : Int) (n : Nat) : (rngD lo n).length = n := by unfold rngD; simp
theorem pdi_range1 {p : Pos} {t : TAD} (hm : X.mg "range" = none) (hg : Gl X "range") (ha : PDA X C [e] t) (hs : starEach [e] X.env = [(false, eval e X.env)]) : PDI X C tg (.Call (.Name "range" p) [e] [] pos) (iRange1 t) :=
  PI_imp (pi_range1 hg hm ha hs) fun σ H R ⟨r, Q', R0, q, k⟩ => ⟨r, _, R0, q, fun vs H1 xs g rp qx => by
    unfold rng1 at qx
    split at qx
    · rename_i j
      obtain ⟨v, rfl, hv⟩ := rpa1 rp
      rw [rp_int hv]
      exact ⟨j, rfl, by omega, by omega, k _ H1 _ g (by rw [rngD_len, sizeLine_eq]; omega) goes_rng qx.2.2⟩
    · exact qx.elim⟩
theorem pdi_range2 {p : Pos} {t : TAD} (hm : X.mg "range" = none) (hg : Gl X "range") (ha : PDA X C [e, e2] t) (hs : starEach [e, e2] X.env = [(false, eval e X.env), (false, eval e2 X.env)]) (hs2 : starEach [e2] X.env = [(false, eval e2 X.env)]) : PDI X C tg (.Call (.Name "range" p) [e, e2] [] pos) (iRange2 t) :=
  PI_imp (pi_range2 hg hm ha hs hs2) fun σ H R ⟨r, Q', R0, q, k⟩ => ⟨r, _, R0, q, fun vs H1 xs g rp qx => by
    unfold rng2 at qx
    split at qx
    · rename_i i j
      obtain ⟨v, w, rfl, hv, hw⟩ := rpa2 rp
      rw [rp_int hv, rp_int hw]
      exact ⟨i, j, rfl, ⟨by omega, by omega, by omega, by omega⟩, k _ H1 _ g (by rw [rngD_len, sizeLine_eq]; omega) goes_rng qx.2⟩
    · exact qx.elim⟩
/-- enumerate of a list or a tuple -/
def enu1 (Q : List PyData → Prop) : List PyData → Prop
  | [.list xs] => Q (enuD xs)
  | [.tuple xs] => Q (enuD xs)
  | _ => False
def iEnu (t : TAD) : TID := fun r Q => t r fun xs => enu1 Q xs
theorem pi_enumA {ta : TA} {p tpos : Pos} {elts : List Expr} {kk : Nat} (hg : Gl X "enumerate") (hm : X.mg "enumerate" = none) (ha : PA X [e] ta) (hs : starEach [e] X.env = [(false, eval e X.env)]) :
    PI X (.Tuple elts kk tpos) (.Call (.Name "enumerate" p) [e] [] pos) (fun σ H R => ta σ H fun vs H1 => ∃ a xs, vs = [.ref a] ∧ ((SqL X.K H1 a xs ∧ R (Ite X.K a) H1) ∨ (H1 a = some (.tup xs) ∧ R (IteT a) H1))) := by
  refine ⟨fun pins s σ H R I h => ?_⟩
  refine Call_ (ld_blt I hg hm boot_enumerate (PyProof.Rows.callWith_type1 (thn (ha.run pos pins s σ H _ I h) fun us s1 ⟨vs, H1, I1, r1, q1⟩ => ?_) hs rfl))
  obtain ⟨a, xs, ex, q1⟩ := q1
  subst ex
  cases r1 with
  | cons r rr =>
    cases rr
    cases r
    have fp : ∀ b, b ∈ [s1.heap.objs.size + 1, s1.heap.objs.size] → FpOk X pins H1 b := fun b hb => by
      have e' : b = s1.heap.objs.size + 1 ∨ b = s1.heap.objs.size := by simpa using hb
      have hle : s1.heap.objs.size ≤ b := by
        rcases e' with z | z
        · rw [z]; exact Nat.le_succ _
        · rw [z]; exact Nat.le_refl _
      exact I1.fpOk hle (I1.hok.fresh hle)
    rcases q1 with ⟨hq, q⟩ | ⟨hq, q⟩
    · obtain ⟨its, rv, p1, _⟩ := I1.list hq
      refine call_enumerate_list p1.isList fun h' he hit hsz hk => wpAny_pyIter_enum he ?_
      have I2 : Inv X pins σ H1 { s1 with heap := h' } := I1.kept (t' := s1.toks) hk
      exact ⟨s1.heap.objs.size + 1, [s1.heap.objs.size + 1, s1.heap.objs.size], _, _, H1, rfl, I2, turn_enum a (s1.heap.objs.size + 1) s1.heap.objs.size, ⟨⟨_, he⟩, hit, Nat.succ_ne_self _⟩, fp, q⟩
    · obtain ⟨its, hz, rv, p1⟩ := tupR I1 hq
      obtain ⟨o1, ho1, _⟩ := id p1
      refine call_enumerate_tuple (show s1.heap.IsTuple a its.toArray from p1) fun h' he hit hsz hk => wpAny_pyIter_enum he ?_
      have I2 : Inv X pins σ H1 { s1 with heap := h' } := I1.kept (t' := s1.toks) hk
      exact ⟨s1.heap.objs.size + 1, [s1.heap.objs.size + 1, s1.heap.objs.size], _, _, H1, rfl, I2, turn_enumT a (s1.heap.objs.size + 1) s1.heap.objs.size, ⟨⟨_, he⟩, hit, Nat.succ_ne_self _, Nat.ne_of_lt (Heap.lt_size ho1)⟩, fp, q⟩
theorem pdi_enum {p tpos : Pos} {elts : List Expr} {kk : Nat} {t : TAD} (hm : X.mg "enumerate" = none) (hg : Gl X "enumerate") (ha : PDA X C [e] t) (hs : starEach [e] X.env = [(false, eval e X.env)]) : PDI X C (.Tuple elts kk tpos) (.Call (.Name "enumerate" p) [e] [] pos) (iEnu t) :=
  PI_imp (pi_enumA hg hm ha hs) fun σ H R ⟨r, Q', R0, q, k⟩ => ⟨r, _, R0, q, fun vs H1 xs g rp qx => by
    unfold enu1 at qx
    split at qx
    · rename_i xs
      obtain ⟨v, rfl, hv⟩ := rpa1 rp
      obtain ⟨a, ys, rfl, h1, h2, h3⟩ := rp_lst hv
      exact ⟨a, ys, rfl, .inl ⟨.inl (DP.Rd.full h1), k _ H1 _ g (by rw [enuD_len, ← h3.length]; exact h2) (goes_enumL h1 h3) qx⟩⟩
    · rename_i xs
      obtain ⟨v, rfl, hv⟩ := rpa1 rp
      obtain ⟨a, ys, rfl, h1, h2, h3⟩ := rp_tup hv
      exact ⟨a, ys, rfl, .inr ⟨(hd_some h1).2, k _ H1 _ g (by rw [enuD_len, ← h3.length]; exact h2) (goes_enumT h1 h3) qx⟩⟩
    · exact qx.elim⟩
/-- zip of two lists, of two tuples -/
def zip2 (Q : List PyData → Prop) : List PyData → Prop
  | [.list xs, .list ys] => Q (zipD xs ys)
  | [.tuple xs, .tuple ys] => Q (zipD xs ys)
  | _ => False
def iZip2 (t : TAD) : TID := fun r Q => t r fun xs => zip2 Q xs
theorem zipD_len (xs ys : List PyData) : (zipD xs ys).length ≤ xs.length := by unfold zipD; rw [List.length_zipWith]; omega
theorem pdi_zip {p tpos : Pos} {elts : List Expr} {kk : Nat} {t : TAD} (hm : X.mg "zip" = none) (hg : Gl X "zip") (ha : PDA X C [e, e2] t) (hs : starEach [e, e2] X.env = (false, eval e X.env) :: starEach [e2] X.env) (hpl : (backTo pos (starEach [e2] X.env)).any (·.1) = false) :
    PDI X C (.Tuple elts kk tpos) (.Call (.Name "zip" p) [e, e2] [] pos) (iZip2 t) :=
  PI_imp (RZ.pi_zipA hg hm ha hs hpl) fun σ H R ⟨r, Q', R0, q, k⟩ => ⟨r, _, R0, q, fun vs H1 xs g rp qx => by
    unfold zip2 at qx
    split at qx
    · rename_i xs ys
      obtain ⟨v, w, rfl, hv, hw⟩ := rpa2 rp
      obtain ⟨a, vs, rfl, h1, h2, h3⟩ := rp_lst hv
      obtain ⟨b, ws, rfl, h4, h5, h6⟩ := rp_lst hw
      exact ⟨a, b, vs, ws, rfl, .inl ⟨.inl (DP.Rd.full h1), .inl (DP.Rd.full h4), k _ H1 _ g (Nat.le_trans (zipD_len _ _) (by rw [← h3.length]; exact h2)) (goes_zipL h1 h3 h4 h6) qx⟩⟩
    · rename_i xs ys
      obtain ⟨v, w, rfl, hv, hw⟩ := rpa2 rp
      obtain ⟨a, vs, rfl, h1, h2, h3⟩ := rp_tup hv
      obtain ⟨b, ws, rfl, h4, h5, h6⟩ := rp_tup hw
      exact ⟨a, b, vs, ws, rfl, .inr ⟨.inl (.inl (hd_some h1).2), .inl (.inl (hd_some h4).2), k _ H1 _ g (Nat.le_trans (zipD_len _ _) (by rw [← h3.length]; exact h2)) (goes_zipT h1 h3 h4 h6) qx⟩⟩
    · exact qx.elim⟩
end
/-! ### targets -/
inductive Tg where
  | one (i : Nat)
  | two (i j : Nat)
  | three (i j k : Nat)
def Tg.slots : Tg → List Nat
  | .one i => [i]
  | .two i j => [i, j]
  | .three i j k => [i, j, k]
def bindT : Tg → PyData → SEnv → (SEnv → Prop) → Prop
  | .one i, x, r, Q => Q (r.set i (some (.d x)))
  | .two i j, .tuple [x, y], r, Q => Q ((r.set i (some (.d x))).set j (some (.d y)))
  | .two i j, .list [x, y], r, Q => Q ((r.set i (some (.d x))).set j (some (.d y)))
  | .three i j k, .tuple [x, y, z], r, Q => Q (((r.set i (some (.d x))).set j (some (.d y))).set k (some (.d z)))
  | .three i j k, .list [x, y, z], r, Q => Q (((r.set i (some (.d x))).set j (some (.d y))).set k (some (.d z)))
  | _, _, _, _ => False
/-- the slots of is alone may differ -/
def Agree (is : List Nat) (σ σ' : L2.St) : Prop := σ'.length = σ.length ∧ ∀ j, j ∉ is → σ'[j]? = σ[j]?
def upG (C : Cfg) (tg : Tg) : TG := fun v σ H Q => ∃ (r : DEnv) (x : PyData) (Q' : SEnv → Prop), RepE C σ H r ∧ Rp (hd H (C.O ++ oA r)) v x ∧ bindT tg x (er r) Q' ∧
  ∀ σ' r', RepE C σ' H r' → Agree tg.slots σ σ' → (∀ (j : Nat), j ∉ tg.slots → r'[j]? = r[j]?) → (∀ j ∈ tg.slots, ∃ y, r'[j]? = some (some (.d y))) → Q' (er r') → Q σ' H
theorem PG_imp {X : Cx} {tg : Expr} {t u : TG} (h : PG X tg t) (q : ∀ v σ H Q, u v σ H Q → t v σ H Q) : PG X tg u := ⟨fun pins s σ H v w Q I r hw => h.run pins s σ H v w Q I r (q v σ H Q hw)⟩
section
variable {X : Cx} {C : Cfg} {pos p1 p2 p3 : Pos} {k : Nat}
/-- what a name must be so that it may be stored -/
structure StoreOk (X : Cx) (i : Nat) (x : Str) : Prop where
  hi : X.N[i]? = some x
  hx : Loc X.env.scope x
  hf : X.fn x = true ∨ X.env.scope.names.lookup x = some .local
theorem pdg_one {i : Nat} {x : Str} (hN : X.N.Nodup) (hn : C.n = X.N.length) (s : StoreOk X i x) : PG X (.Name x pos) (upG C (.one i)) :=
  PG_imp (pg_name hN s.hi s.hx s.hf) fun v σ H Q ⟨r, x, Q', R, rp, q, k⟩ => by
    have hi' : i < C.n := by rw [hn]; exact (List.getElem?_eq_some_iff.mp s.hi).1
    refine k _ _ (R.set_d hi' rp) ⟨List.length_set, fun j hj => ?_⟩ (fun j hj => ?_) (fun j hj => ?_) (by rw [er_set]; exact q)
    · rw [List.getElem?_set_ne (fun z => hj (by simp [Tg.slots, z]))]
    · rw [List.getElem?_set_ne (fun z => hj (by simp [Tg.slots, z]))]
    · have e : j = i := by simpa [Tg.slots] using hj
      subst e
      exact ⟨x, List.getElem?_set_self (by rw [R.len]; exact hi')⟩
theorem set2_get {α : Type} {l : List (Option α)} {i j m : Nat} {x y : α} (hi : i < l.length) (hj : j < l.length) (hm : m = i ∨ m = j) : ∃ z, ((l.set i (some x)).set j (some y))[m]? = some (some z) ∧ (z = x ∨ z = y) := by
  by_cases e : m = j
  · subst e
    exact ⟨y, List.getElem?_set_self (by rw [List.length_set]; exact hj), .inr rfl⟩
  · rcases hm with rfl | h
    · exact ⟨x, by rw [List.getElem?_set_ne (Ne.symm e), List.getElem?_set_self hi], .inl rfl⟩
    · exact absurd h e
theorem PG_or {tg : Expr} {t u : TG} (h1 : PG X tg t) (h2 : PG X tg u) : PG X tg (fun v σ H Q => t v σ H Q ∨ u v σ H Q) := ⟨fun pins s σ H v w Q I r hw => hw.elim (fun z => h1.run pins s σ H v w Q I r z) fun z => h2.run pins s σ H v w Q I r z⟩
theorem bind2_get {i j : Nat} {x : PyData} {r : SEnv} {Q : SEnv → Prop} (h : bindT (.two i j) x r Q) : ∃ dx dy, (x = .tuple [dx, dy] ∨ x = .list [dx, dy]) ∧ Q ((r.set i (some (.d dx))).set j (some (.d dy))) := by
  unfold bindT at h
  split at h
  all_goals rename_i hq
  all_goals first | (cases hq; done) | skip
  · cases hq; exact ⟨_, _, .inl rfl, h⟩
  · cases hq; exact ⟨_, _, .inr rfl, h⟩
  · exact h.elim
theorem bind3_get {i j k : Nat} {x : PyData} {r : SEnv} {Q : SEnv → Prop} (h : bindT (.three i j k) x r Q) : ∃ dx dy dz, (x = .tuple [dx, dy, dz] ∨ x = .list [dx, dy, dz]) ∧ Q (((r.set i (some (.d dx))).set j (some (.d dy))).set k (some (.d dz))) := by
  unfold bindT at h
  split at h
  all_goals rename_i hq
  all_goals first | (cases hq; done) | skip
  · cases hq; exact ⟨_, _, _, .inl rfl, h⟩
  · cases hq; exact ⟨_, _, _, .inr rfl, h⟩
  · exact h.elim
theorem set_less {C : Cfg} {r : DEnv} {i : Nat} {x : PyData} : ∀ a, a ∈ C.O ++ oA (r.set i (some (.d x))) → a ∈ C.O ++ oA r := fun b hb => by
  rcases List.mem_append.mp hb with h | h
  · exact List.mem_append_left _ h
  · exact List.mem_append_right _ (oA_set_less (fun y e => by cases e; rfl) h)
/-- two slots set, one behind the other -/
theorem set2_all {σ : L2.St} {H : Hp} {r : DEnv} {i j : Nat} {v1 v2 : V} {dx dy : PyData} (R : RepE C σ H r) (hi : i < C.n) (hj : j < C.n) (r1 : Rp (hd H (C.O ++ oA r)) v1 dx) (r2 : Rp (hd H (C.O ++ oA r)) v2 dy) :
    RepE C ((σ.set i (some v1)).set j (some v2)) H ((r.set i (some (.d dx))).set j (some (.d dy))) ∧ Agree [i, j] σ ((σ.set i (some v1)).set j (some v2)) ∧ (∀ m, m ∉ [i, j] → ((r.set i (some (.d dx))).set j (some (.d dy)))[m]? = r[m]?) ∧ ∀ m ∈ [i, j], ∃ y, ((r.set i (some (.d dx))).set j (some (.d dy)))[m]? = some (some (.d y)) := by
  have R1 := R.set_d (i := i) hi r1
  have R2 := R1.set_d (i := j) hj (r2.up (hd_sub set_less))
  refine ⟨R2, ⟨by simp, fun m hm => ?_⟩, fun m hm => ?_, fun m hm => ?_⟩
  · rw [List.getElem?_set_ne (fun z => hm (by simp [z])), List.getElem?_set_ne (fun z => hm (by simp [z]))]
  · rw [List.getElem?_set_ne (fun z => hm (by simp [z])), List.getElem?_set_ne (fun z => hm (by simp [z]))]
  · have e : m = i ∨ m = j := by simpa using hm
    obtain ⟨z, h1, h2⟩ := set2_get (l := r) (x := DV.d dx) (y := DV.d dy) (by rw [R.len]; exact hi) (by rw [R.len]; exact hj) e
    rcases h2 with rfl | rfl
    · exact ⟨_, h1⟩
    · exact ⟨_, h1⟩
theorem pdg_two {i j : Nat} {x y : Str} (hN : X.N.Nodup) (hn : C.n = X.N.length) (hK : C.K = X.K) (hc : X.calm = true) (s : StoreOk X i x) (s2 : StoreOk X j y) : PG X (.Tuple [.Name x p1, .Name y p2] k pos) (upG C (.two i j)) :=
  have gs := pgs_cons (pg_name (pos := p1) hN s.hi s.hx s.hf) (pgs_cons (pg_name (pos := p2) hN s2.hi s2.hx s2.hf) pgs_nil)
  PG_imp (PG_or (pg_tup (n := 2) (pos := pos) (k := k) hc gs) (pg_unl (n := 2) (pos := pos) (k := k) hc gs)) fun v σ H Q ⟨r, x, Q', R, rp, q, k⟩ => by
    have hi' : i < C.n := by rw [hn]; exact (List.getElem?_eq_some_iff.mp s.hi).1
    have hj' : j < C.n := by rw [hn]; exact (List.getElem?_eq_some_iff.mp s2.hi).1
    obtain ⟨dx, dy, ex, q⟩ := bind2_get q
    rcases ex with rfl | rfl
    · obtain ⟨a, vs, rfl, h1, h2, h3⟩ := rp_tup rp
      obtain ⟨v1, v2, rfl, r1, r2⟩ := rpa2 h3
      obtain ⟨R2, g1, g2, g3⟩ := set2_all R hi' hj' r1 r2
      exact .inl ⟨a, [v1, v2], rfl, .inl (.inl (hd_some h1).2), rfl, v1, [v2], rfl, v2, [], rfl, rfl, k _ _ R2 g1 g2 g3 (by rw [er_set, er_set]; exact q)⟩
    · obtain ⟨a, vs, rfl, h1, h2, h3⟩ := rp_lst rp
      obtain ⟨v1, v2, rfl, r1, r2⟩ := rpa2 h3
      obtain ⟨R2, g1, g2, g3⟩ := set2_all R hi' hj' r1 r2
      exact .inr ⟨a, [v1, v2], rfl, .inl (DP.Rd.full h1), rfl, v1, [v2], rfl, v2, [], rfl, rfl, k _ _ R2 g1 g2 g3 (by rw [er_set, er_set]; exact q)⟩
theorem set3_get {α : Type} {l : List (Option α)} {i j k m : Nat} {x y z : α} (hi : i < l.length) (hj : j < l.length) (hk : k < l.length) (hm : m = i ∨ m = j ∨ m = k) : ∃ u, (((l.set i (some x)).set j (some y)).set k (some z))[m]? = some (some u) ∧ (u = x ∨ u = y ∨ u = z) := by
  by_cases e : m = k
  · subst e
    exact ⟨z, List.getElem?_set_self (by simpa using hk), .inr (.inr rfl)⟩
  · obtain ⟨u, h1, h2⟩ := set2_get (l := l) (x := x) (y := y) hi hj (hm.elim .inl fun h => h.elim .inr fun h => absurd h e)
    exact ⟨u, by rw [List.getElem?_set_ne (Ne.symm e)]; exact h1, h2.elim .inl fun h => .inr (.inl h)⟩
theorem rpa3 {H : Hp} {vs : List V} {d d' d'' : PyData} (h : RpA H vs [d, d', d'']) : ∃ v w u, vs = [v, w, u] ∧ Rp H v d ∧ Rp H w d' ∧ Rp H u d'' := by
  cases h with
  | cons a b =>
    obtain ⟨w, u, rfl, c, e⟩ := rpa2 b
    exact ⟨_, w, u, rfl, a, c, e⟩
theorem pdg_three {i j l : Nat} {x y z : Str} (hN : X.N.Nodup) (hn : C.n = X.N.length) (hK : C.K = X.K) (hc : X.calm = true) (s : StoreOk X i x) (s2 : StoreOk X j y) (s3 : StoreOk X l z) : PG X (.Tuple [.Name x p1, .Name y p2, .Name z p3] k pos) (upG C (.three i j l)) :=
  have gs := pgs_cons (pg_name (pos := p1) hN s.hi s.hx s.hf) (pgs_cons (pg_name (pos := p2) hN s2.hi s2.hx s2.hf) (pgs_cons (pg_name (pos := p3) hN s3.hi s3.hx s3.hf) pgs_nil))
  PG_imp (PG_or (pg_tup (n := 3) (pos := pos) (k := k) hc gs) (pg_unl (n := 3) (pos := pos) (k := k) hc gs)) fun v σ H Q ⟨r, x, Q', R, rp, q, k⟩ => by
    have hi' : i < C.n := by rw [hn]; exact (List.getElem?_eq_some_iff.mp s.hi).1
    have hj' : j < C.n := by rw [hn]; exact (List.getElem?_eq_some_iff.mp s2.hi).1
    have hl' : l < C.n := by rw [hn]; exact (List.getElem?_eq_some_iff.mp s3.hi).1
    obtain ⟨dx, dy, dz, ex, q⟩ := bind3_get q
    have main : ∀ {v1 v2 v3 : V}, Rp (hd H (C.O ++ oA r)) v1 dx → Rp (hd H (C.O ++ oA r)) v2 dy → Rp (hd H (C.O ++ oA r)) v3 dz → Q (((σ.set i (some v1)).set j (some v2)).set l (some v3)) H := fun {v1 v2 v3} r1 r2 r3 => by
      obtain ⟨R2, g1, g2, g3⟩ := set2_all R hi' hj' r1 r2
      have R3 := R2.set_d (i := l) hl' (r3.up (hd_sub fun a ha => set_less a (set_less a ha)))
      refine k _ _ R3 ⟨by simp, fun m hm => ?_⟩ (fun m hm => ?_) (fun m hm => ?_) (by rw [er_set, er_set, er_set]; exact q)
      · rw [List.getElem?_set_ne (fun z => hm (by simp [Tg.slots, z])), List.getElem?_set_ne (fun z => hm (by simp [Tg.slots, z])), List.getElem?_set_ne (fun z => hm (by simp [Tg.slots, z]))]
      · rw [List.getElem?_set_ne (fun z => hm (by simp [Tg.slots, z])), List.getElem?_set_ne (fun z => hm (by simp [Tg.slots, z])), List.getElem?_set_ne (fun z => hm (by simp [Tg.slots, z]))]
      · have e : m = i ∨ m = j ∨ m = l := by simpa [Tg.slots] using hm
        obtain ⟨u, h1, h2⟩ := set3_get (l := r) (x := DV.d dx) (y := DV.d dy) (z := DV.d dz) (by rw [R.len]; exact hi') (by rw [R.len]; exact hj') (by rw [R.len]; exact hl') e
        rcases h2 with rfl | rfl | rfl
        · exact ⟨_, h1⟩
        · exact ⟨_, h1⟩
        · exact ⟨_, h1⟩
    rcases ex with rfl | rfl
    · obtain ⟨a, vs, rfl, h1, h2, h3⟩ := rp_tup rp
      obtain ⟨v1, v2, v3, rfl, r1, r2, r3⟩ := rpa3 h3
      exact .inl ⟨a, [v1, v2, v3], rfl, .inl (.inl (hd_some h1).2), rfl, v1, [v2, v3], rfl, v2, [v3], rfl, v3, [], rfl, rfl, main r1 r2 r3⟩
    · obtain ⟨a, vs, rfl, h1, h2, h3⟩ := rp_lst rp
      obtain ⟨v1, v2, v3, rfl, r1, r2, r3⟩ := rpa3 h3
      exact .inr ⟨a, [v1, v2, v3], rfl, .inl (DP.Rd.full h1), rfl, v1, [v2, v3], rfl, v2, [v3], rfl, v3, [], rfl, rfl, main r1 r2 r3⟩
end
/-! ### for -/
def forGo (tg : Tg) (body : TSD) (D : EndsD) : List PyData → SEnv → Prop
  | [], r => D.nx r
  | x :: xs, r => bindT tg x r fun r1 => body { D with nx := forGo tg body D xs, ct := forGo tg body D xs, bk := D.nx } r1
def sFor (tg : Tg) (it : TID) (body : TSD) : TSD := fun D r => it r fun xs => forGo tg body D xs r
theorem psd_for {X : Cx} {C : Cfg} {E : Str → Prop} {tgE iter : Expr} {body : List Stmt} {pos : Pos} {tg : Tg} {it : TID} {tb : TSD} (tk : Takes X (wOf X.mg C E)) (hp : PassesOwn (model X.prog X.w) X.A X.env X.xe) (hc : X.calm = true)
    (hi : PDI X C tgE iter it) (hg : ∀ C2 : Cfg, C2.n = C.n → C2.K = C.K → PG X tgE (upG C2 tg)) (hb : ∀ C2 : Cfg, C2.n = C.n → C2.K = C.K → Takes X (wOf X.mg C2 E) → PSDs X C2 body tb) (hs : ∀ x, foldedSetIterable iter X.env x = pure x) :
    PSD X C (.For tgE iter body [] pos) (sFor tg it tb) := by
  have pg : PG X tgE (fun v σ H Q => ∃ C2 : Cfg, (C2.n = C.n ∧ C2.K = C.K) ∧ upG C2 tg v σ H Q) := ⟨fun pins s σ H v w Q I r ⟨C2, ⟨h1, h2⟩, hw⟩ => (hg C2 h1 h2).run pins s σ H v w Q I r hw⟩
  have pb : PSs X body (fun D σ H => ∃ C2 : Cfg, (C2.n = C.n ∧ C2.K = C.K ∧ Takes X (wOf X.mg C2 E)) ∧ upS C2 tb D σ H) := ⟨fun pins s σ H D I ⟨C2, ⟨h1, h2, h3⟩, hw⟩ => (hb C2 h1 h2 h3).run pins s σ H D I hw⟩
  refine PS_imp (ps_for hp hc hi pg pb hs) fun D σ H ⟨r, D', R, q, k1, k2, k3, k4⟩ => ⟨r, fun xs => forGo tg tb D' xs (er r), R, q, fun J H1 xs g hl J0 qx => ?_⟩
  have R1 := R.grow g
  have tk2 : Takes X (wOf X.mg (C.at H1 r) E) := tk.imp fun c d σ H h => wOf.at R1 h
  refine ⟨fun i m σ' H' => ∃ r', RepE (C.at H1 r) σ' H' r' ∧ forGo tg tb D' (xs.drop i) (er r') ∧ m = xs.length - i ∧ i ≤ xs.length, ⟨xs.length, r, R1.toAt, by simpa using qx, by simp, Nat.zero_le _⟩, ?_⟩
  rintro i m σ3 H3 ⟨r3, R3, q3, rfl, hil⟩
  have sm := R1.later R3
  by_cases hlt : i < xs.length
  · have ex : xs[i]? = some xs[i] := by simp [hlt]
    obtain ⟨jg, jy⟩ := J0.go i xs[i] H3 (C.O ++ oA r3) sm R3.domA ex
    rw [List.drop_eq_getElem_cons hlt] at q3
    refine .inr ⟨jg, fun σ' H' => ∃ r', RepE (C.at H1 r) σ' H' r' ∧ forGo tg tb D' (xs.drop (i + 1)) (er r'), fun σ' H' ⟨r', a, b⟩ => ⟨xs.length - (i + 1), by omega, r', a, b, rfl, hlt⟩, fun x H' y => ?_⟩
    obtain ⟨s1, rp⟩ := jy x H' y
    refine ⟨C.at H1 r, ⟨rfl, rfl⟩, r3, xs[i], _, R3.grow (Gr.of_same R3 s1), rp, q3, fun σ4 r4 R4 _ _ _ q4 => ?_⟩
    refine ⟨C.at H1 r, ⟨rfl, rfl, tk2⟩, r4, _, R4, q4, fun σ' H' r' R' q' => ⟨r', R', q'⟩, fun v H' rv o rt qq => k2 v H' rv (o.ofAt R1) (rt.ofAt R1) qq, fun σ' H' r' R' q' => k1 _ _ _ (R1.ofAt R') q', fun σ' H' r' R' q' => ⟨r', R', q'⟩⟩
  · have e : i = xs.length := by omega
    subst e
    refine .inl ⟨J0.stop H3 _ sm, k1 _ _ _ (R1.ofAt R3) ?_⟩
    rw [List.drop_length] at q3
    exact q3
/-! ### while -/
def whileN (c : TTD) (body : TSD) (D : EndsD) : Nat → SEnv → Prop
  | 0, _ => False
  | n + 1, r => c r fun b => if b = true then body { D with nx := whileN c body D n, ct := whileN c body D n, bk := D.nx } r else D.nx r
def sWhile (c : TTD) (body : TSD) : TSD := fun D r => ∃ n, whileN c body D n r
theorem psd_while {X : Cx} {C : Cfg} {c : Expr} {body : List Stmt} {pos : Pos} {tc : TTD} {tb : TSD} (hp : PassesOwn (model X.prog X.w) X.A X.env X.xe) (hc : PDT X C c tc) (hb : PSDs X C body tb) : PSD X C (.While c body [] pos) (sWhile tc tb) := by
  refine PS_imp (ps_while hp hc hb) fun D σ H ⟨r, D', R, ⟨n, q⟩, k1, k2, k3, k4⟩ => ?_
  refine ⟨fun m σ' H' => ∃ r', RepE C σ' H' r' ∧ whileN tc tb D' m (er r'), ⟨n, r, R, q⟩, ?_⟩
  rintro m σ1 H1 ⟨r1, R1, q1⟩
  cases m with
  | zero => exact (show False from q1).elim
  | succ m =>
    refine ⟨r1, _, R1, q1, fun b H2 g q2 => ?_⟩
    have R2 := R1.grow g
    cases b with
    | true =>
      rw [if_pos rfl] at q2
      refine iteT ?_
      exact ⟨fun σ' H' => ∃ r', RepE C σ' H' r' ∧ whileN tc tb D' m (er r'), fun σ' H' h => ⟨m, Nat.lt_succ_self m, h⟩, r1, _, R2, q2, fun σ' H' r' R' q' => ⟨r', R', q'⟩, k2, fun σ' H' r' R' q' => k1 _ _ _ R' q', fun σ' H' r' R' q' => ⟨r', R', q'⟩⟩
    | false =>
      rw [if_neg Bool.false_ne_true] at q2
      exact iteF (k1 _ _ _ R2 q2)
end DP

end
section
set_option Elab.async false
set_option linter.all false
set_option maxRecDepth 100000
set_option autoImplicit false
set_option maxHeartbeats 4000000
namespace DP
open PySem PySem.Spec PyProof.Rows L2
/-! ### list comprehensions -/
def wipeG {α : Type} (r : List (Option α)) : List Nat → List (Option α)
  | [] => r
  | v :: vs => (wipeG r vs).set v none
theorem wipe_eq (σ : L2.St) : ∀ ws : List Nat, wipe σ ws = wipeG σ ws
  | [] => rfl
  | v :: vs => by unfold wipe wipeG; rw [wipe_eq σ vs]
theorem wipeG_len {α : Type} (r : List (Option α)) : ∀ ws : List Nat, (wipeG r ws).length = r.length
  | [] => rfl
  | v :: vs => by unfold wipeG; rw [List.length_set, wipeG_len r vs]
theorem wipeG_out {α : Type} {r : List (Option α)} {j : Nat} : ∀ {ws : List Nat}, j ∉ ws → (wipeG r ws)[j]? = r[j]?
  | [], _ => rfl
  | v :: vs, h => by
    unfold wipeG
    rw [List.getElem?_set_ne (fun z => h (by simp [z])), wipeG_out fun z => h (List.mem_cons_of_mem _ z)]
theorem wipeG_in {α : Type} {r : List (Option α)} {j : Nat} {x : α} : ∀ {ws : List Nat}, j ∈ ws → (wipeG r ws)[j]? ≠ some (some x)
  | [], h => by simp at h
  | v :: vs, h => by
    unfold wipeG
    by_cases e : j = v
    · subst e
      by_cases hl : j < (wipeG r vs).length
      · rw [List.getElem?_set_self hl]; simp
      · rw [List.getElem?_eq_none (by rw [List.length_set]; omega)]; simp
    · rw [List.getElem?_set_ne (Ne.symm e)]
      have h' : j ∈ vs := by
        rcases List.mem_cons.mp h with z | z
        · exact absurd z e
        · exact z
      exact wipeG_in h'
theorem wipeG_some {α : Type} {r : List (Option α)} {j : Nat} {x : α} {ws : List Nat} (h : (wipeG r ws)[j]? = some (some x)) : r[j]? = some (some x) ∧ j ∉ ws := by
  by_cases e : j ∈ ws
  · exact absurd h (wipeG_in e)
  · rw [wipeG_out e] at h
    exact ⟨h, e⟩
theorem wipe_agree {σ σ' : L2.St} {is ws : List Nat} (h : Agree is (wipe σ ws) σ') (sub : ∀ i ∈ is, i ∈ ws) : wipe σ' ws = wipe σ ws := by
  rw [wipe_eq, wipe_eq]
  have l : (wipeG σ' ws).length = (wipeG σ ws).length := by
    rw [wipeG_len, wipeG_len, h.1, wipe_length]
  refine List.ext_getElem? fun j => ?_
  by_cases e : j ∈ ws
  · cases q : (wipeG σ' ws)[j]? with
    | none =>
      have := List.getElem?_eq_none_iff.mp q
      rw [List.getElem?_eq_none (by omega)]
    | some a =>
      cases a with
      | some v => exact absurd q (wipeG_in e)
      | none =>
        cases q2 : (wipeG σ ws)[j]? with
        | none =>
          have h1 := List.getElem?_eq_none_iff.mp q2
          have h2 := (List.getElem?_eq_some_iff.mp q).1
          omega
        | some b =>
          cases b with
          | none => rfl
          | some v => exact absurd q2 (wipeG_in e)
  · rw [wipeG_out e, wipeG_out e, h.2 j fun z => e (sub j z), wipe_eq, wipeG_out e]
theorem er_wipe (r : DEnv) : ∀ ws : List Nat, er (wipeG r ws) = wipeG (er r) ws
  | [] => rfl
  | v :: vs => by unfold wipeG; rw [er_set, er_wipe r vs]; rfl
/-- no slot of these holds what may change -/
def noM (ws : List Nat) (r : SEnv) : Bool := ws.all fun i => match r[i]? with
  | some (some (.m _)) => false
  | _ => true
theorem noM_get {ws : List Nat} {r : DEnv} (h : noM ws (er r) = true) {i : Nat} {a : Addr} {o : MO} (e : r[i]? = some (some (.m a o))) : i ∉ ws := fun z => by
  have q := List.all_eq_true.mp h i z
  rw [er_get, e] at q
  cases q
def lcGo (tg : Tg) (tt : TTD) (te : TD) (r : SEnv) (Q : List PyData → Prop) : List PyData → List PyData → Prop
  | [], acc => Q acc
  | x :: xs, acc => bindT tg x r fun r1 => tt r1 fun b => if b = true then te r1 fun y => lcGo tg tt te r Q xs (acc ++ [y]) else lcGo tg tt te r Q xs acc
def fLc (tg : Tg) (it : TID) (tt : TTD) (te : TD) (ws : List Nat) : TAD := fun r Q => it r fun xs => noM ws r = true ∧ lcGo tg tt te (wipeG r ws) Q xs []
section
variable {C : Cfg} {σ : L2.St} {H H' : Hp} {r : DEnv}
theorem RepE.wiped (R : RepE C σ H r) (ws : List Nat) : RepE C (wipe σ ws) H (wipeG r ws) := by
  refine R.weak (by rw [wipe_length]; exact R.lenS) (by rw [wipeG_len]; exact R.len) (fun j y e => (wipeG_some e).1) fun j y w e q => ?_
  rw [wipe_eq, wipeG_out (wipeG_some e).2]
  exact q
/-- a new object, not to be named by data -/
def Cfg.add (C : Cfg) (D : Addr) : Cfg := { C with O := D :: C.O }
theorem RepE.addO (R : RepE C σ H r) {D : Addr} {u : HO} (n : H D = none) : RepE (C.add D) σ (upd H D u) r := by
  have sm : Same H (upd H D u) := same_new n
  have ne : ∀ a, H a ≠ none → a ≠ D := fun a h z => h (z ▸ n)
  refine ⟨R.lenS, R.len, fun i x e => ?_, fun i a o e nn => ?_, fun a ha => ?_, fun a o hn e => sm _ _ (R.ext a o hn e), R.ownf, fun i a e => ?_, fun s hs => (R.sto s hs).mono sm, fun s hs => ⟨List.mem_cons_of_mem _ (R.szo s hs).1, (R.szo s hs).2⟩⟩
  · obtain ⟨v, h1, h2⟩ := R.slot i x e
    refine ⟨v, h1, ?_⟩
    cases x with
    | d y => exact Rp.up h2 (new_in n)
    | m a o => exact ⟨h2.1, h2.2.keep (fun u q => sm _ _ q) (new_in n)⟩
    | scr a ns => exact ⟨h2.1, h2.2.keep fun o u q => sm _ _ q⟩
  · obtain ⟨h1, h2⟩ := R.sep i a o e nn
    obtain ⟨v, _, _, hm⟩ := R.slot i _ e
    refine ⟨fun z => ?_, h2⟩
    rcases List.mem_cons.mp z with z | z
    · exact ne a hm.ne z
    · exact h1 z
  · rcases List.mem_cons.mp ha with rfl | h
    · rw [upd_same]; simp
    · intro z
      cases q : H a with
      | none => exact R.dom a h q
      | some o => rw [sm _ _ q] at z; cases z
  · rcases R.stf i a e with h | ⟨h1, h2⟩
    · exact .inl h
    · obtain ⟨v, _, _, hm⟩ := R.slot i _ e
      refine .inr ⟨h1, fun z => ?_⟩
      rcases List.mem_cons.mp z with z | z
      · exact ne a hm.ne z
      · exact h2 z
/-- .. it is changed -/
theorem RepE.updO {D : Addr} {u : HO} {vs : List V} (R : RepE (C.add D) σ H r) (h0 : C.H_0 D = none) (e0 : H D = some (.lst vs)) (nS : ∀ k, (D, k) ∉ C.S) (nA : D ∉ oA r) : RepE (C.add D) σ (upd H D u) r := by
  have nx : ∀ φ, HO.lst vs ≠ .ext φ := fun φ z => by cases z
  have inO : D ∈ (C.add D).O ++ oA r := List.mem_append_left _ List.mem_cons_self
  have sm : Same (hd H ((C.add D).O ++ oA r)) (hd (upd H D u) ((C.add D).O ++ oA r)) := fun b w q => by
    obtain ⟨e1, e2⟩ := hd_some q
    have e3 : b ≠ D := fun z => e1 (z ▸ inO)
    rw [hd_out e1, upd_ne e3]
    exact e2
  refine ⟨R.lenS, R.len, fun i x e => ?_, R.sep, fun a ha => ?_, fun a o hn e => ?_, R.ownf, R.stf, fun s hs => ?_, R.szo⟩
  · obtain ⟨v, h1, h2⟩ := R.slot i x e
    refine ⟨v, h1, ?_⟩
    cases x with
    | d y => exact Rp.up h2 sm
    | m a o =>
      have hne : a ≠ D := fun z => nA (z ▸ mem_oA.mpr ⟨i, o, e⟩)
      exact ⟨h2.1, h2.2.keep (fun w q => by rw [upd_ne hne]; exact q) sm⟩
    | scr a ns =>
      refine ⟨h2.1, h2.2.keep fun o w q => ?_⟩
      rw [upd_ne]
      · exact q
      · rintro rfl
        rw [e0] at q
        cases q
  · by_cases z : a = D
    · subst z
      rw [upd_same]; simp
    · rw [upd_ne z]
      exact R.dom a ha
  · have q := R.ext a o hn e
    rw [upd_ne]
    · exact q
    · rintro rfl
      have e' : C.H_0 a = some o := e
      rw [h0] at e'
      cases e'
  · exact (R.sto s hs).upd e0 nx fun z => nS s.2 (by rw [← z]; exact hs)
end
abbrev BlkAll (X : Cx) (scope : Scope) (P : Cx → Prop) : Prop := ∀ (s : Shared) (H : Hp) (Ca : Addr) (cl : List (Str × Addr)) (fp : List Addr), P (X.blk s H scope (compEnvC scope cl Ca X.env) fp)
def gEx (C : Cfg) (tg : Tg) : TG := fun v σ H Q => ∃ C2 : Cfg, (C2.n = C.n ∧ C2.K = C.K) ∧ upG C2 tg v σ H Q
def tEx (C : Cfg) (tt : TTD) : TT := fun σ H Q => ∃ C2 : Cfg, (C2.n = C.n ∧ C2.K = C.K) ∧ upT C2 tt σ H Q
def eEx (C : Cfg) (te : TD) : TE := fun σ H Q => ∃ C2 : Cfg, (C2.n = C.n ∧ C2.K = C.K) ∧ up C2 te σ H Q
theorem lc_read {C : Cfg} {tg : Tg} {it : TID} {tt : TTD} {te : TD} {ws : List Nat} (sub : ∀ i ∈ tg.slots, i ∈ ws) {σ : L2.St} {H : Hp} {Q : VK} (h : upF C (fLc tg it tt te ws) σ H Q) : tLc (upI C it) (gEx C tg) (tEx C tt) (eEx C te) ws σ H Q := by
  obtain ⟨r, Q', R, q, k⟩ := h
  refine ⟨r, _, R, q, fun J H1 xs g hl J0 ⟨nm, qx⟩ D nD => ?_⟩
  have R1 := R.grow g
  have nH : H D = none := Gr.none R g nD
  have h0 : C.H_0 D = none := R1.h0 nD
  have frD := R1.fresh nD
  have nS : ∀ k, (D, k) ∉ C.S := fun k z => (R1.sto _ z).ne nD
  -- the slots without the block's own
  have inr : ∀ (i : Nat) (a : Addr) (o : MO), r[i]? = some (some (.m a o)) → (wipeG r ws)[i]? = some (some (.m a o)) := fun i a o e => by
    rw [wipeG_out (noM_get nm e)]
    exact e
  have oAw : ∀ a, a ∈ oA r ↔ a ∈ oA (wipeG r ws) := fun a => by
    constructor
    · intro h
      obtain ⟨i, o, e⟩ := mem_oA.mp h
      exact mem_oA.mpr ⟨i, o, inr i a o e⟩
    · intro h
      obtain ⟨i, o, e⟩ := mem_oA.mp h
      exact mem_oA.mpr ⟨i, o, (wipeG_some e).1⟩
  have shw : ∀ s, s ∈ sh C r ↔ s ∈ sh (C.add D) (wipeG r ws) := fun s => by
    constructor
    · intro h
      rcases List.mem_append.mp h with h | h
      · exact List.mem_append_left _ h
      · obtain ⟨e, i, q⟩ := mem_sA.mp h
        exact List.mem_append_right _ (mem_sA.mpr ⟨e, i, inr _ _ _ q⟩)
    · intro h
      rcases List.mem_append.mp h with h | h
      · exact List.mem_append_left _ h
      · obtain ⟨e, i, q⟩ := mem_sA.mp h
        exact List.mem_append_right _ (mem_sA.mpr ⟨e, i, (wipeG_some q).1⟩)
  have RD := (R1.wiped ws).addO (u := .lst []) nD
  have qx' : lcGo tg tt te (er (wipeG r ws)) Q' xs [] := by rw [er_wipe]; exact qx
  refine ⟨fun i m H3 => ∃ acc accd, m = xs.length - i ∧ i ≤ xs.length ∧ H3 D = some (.lst acc) ∧ acc.length ≤ i ∧ RpA (hd H3 (D :: (C.O ++ oA r))) acc accd ∧ RepE (C.add D) (wipe σ ws) H3 (wipeG r ws) ∧
    (∀ a o, (∀ k, (a, k) ∉ sh C r) → H1 a = some o → H3 a = some o) ∧ Same (hd H1 (C.O ++ oA r)) (hd H3 (D :: (C.O ++ oA r))) ∧ lcGo tg tt te (er (wipeG r ws)) Q' (xs.drop i) accd,
    ⟨xs.length, [], [], by simp, Nat.zero_le _, upd_same, Nat.le_refl _, .nil, RD, fun a o _ e => same_new nD _ _ e, new_in nD, by simpa using qx'⟩, ?_⟩
  rintro i m H3 ⟨acc, accd, rfl, hil, eD, al, ra, R3, gk, sm, q3⟩
  -- addresses that data of the block don't name
  have memO : ∀ {r2 : DEnv}, (∀ a, a ∈ oA r2 ↔ a ∈ oA r) → ∀ a, a ∈ (C.add D).O ++ oA r2 ↔ a ∈ D :: (C.O ++ oA r) := fun {r2} h a => by
    show a ∈ (D :: C.O) ++ oA r2 ↔ _
    rw [List.cons_append, List.mem_cons, List.mem_cons, List.mem_append, List.mem_append, h a]
  by_cases hlt : i < xs.length
  · have ex : xs[i]? = some xs[i] := by simp [hlt]
    obtain ⟨jg, jy⟩ := J0.go i xs[i] H3 (D :: (C.O ++ oA r)) sm (fun a ha => R3.domA a ((memO (fun a => (oAw a).symm) a).mpr ha)) ex
    rw [List.drop_eq_getElem_cons hlt] at q3
    refine .inr ⟨jg, fun H' => ∃ acc accd, H' D = some (.lst acc) ∧ acc.length ≤ i + 1 ∧ RpA (hd H' (D :: (C.O ++ oA r))) acc accd ∧ RepE (C.add D) (wipe σ ws) H' (wipeG r ws) ∧
      (∀ a o, (∀ k, (a, k) ∉ sh C r) → H1 a = some o → H' a = some o) ∧ Same (hd H1 (C.O ++ oA r)) (hd H' (D :: (C.O ++ oA r))) ∧ lcGo tg tt te (er (wipeG r ws)) Q' (xs.drop (i + 1)) accd,
      fun H' ⟨acc, accd, h1, h2, h3, h4, h5, h6, h7⟩ => ⟨xs.length - (i + 1), by omega, acc, accd, rfl, hlt, h1, h2, h3, h4, h5, h6, h7⟩, fun x H4 y => ?_⟩
    obtain ⟨s1, rp⟩ := jy x H4 y
    have R4 := R3.grow (Gr.of_same R3 s1)
    refine ⟨C.add D, ⟨rfl, rfl⟩, wipeG r ws, xs[i], _, R4, rp.up (hd_sub fun a ha => (memO (fun a => (oAw a).symm) a).mp ha), q3, fun σ5 r5 R5 ag e5 d5 q5 => ⟨wipe_agree ag sub, ?_⟩⟩
    -- the slots of the turn
    have in5 : ∀ (j : Nat) (a : Addr) (o : MO), r5[j]? = some (some (.m a o)) ↔ r[j]? = some (some (.m a o)) := fun j a o => by
      by_cases hj : j ∈ tg.slots
      · obtain ⟨z, hz⟩ := d5 j hj
        constructor
        · intro h; rw [hz] at h; cases h
        · intro h; exact absurd (sub j hj) (noM_get nm h)
      · rw [e5 j hj]
        constructor
        · intro h; exact (wipeG_some h).1
        · intro h; exact inr j a o h
    have oA5 : ∀ a, a ∈ oA r5 ↔ a ∈ oA r := fun a => by
      constructor
      · intro h
        obtain ⟨j, o, e⟩ := mem_oA.mp h
        exact mem_oA.mpr ⟨j, o, (in5 j a o).mp e⟩
      · intro h
        obtain ⟨j, o, e⟩ := mem_oA.mp h
        exact mem_oA.mpr ⟨j, o, (in5 j a o).mpr e⟩
    have sh5 : ∀ s, s ∈ sh C r ↔ s ∈ sh (C.add D) r5 := fun s => by
      constructor
      · intro h
        rcases List.mem_append.mp h with h | h
        · exact List.mem_append_left _ h
        · obtain ⟨e, j, q⟩ := mem_sA.mp h
          exact List.mem_append_right _ (mem_sA.mpr ⟨e, j, (in5 _ _ _).mpr q⟩)
      · intro h
        rcases List.mem_append.mp h with h | h
        · exact List.mem_append_left _ h
        · obtain ⟨e, j, q⟩ := mem_sA.mp h
          exact List.mem_append_right _ (mem_sA.mpr ⟨e, j, (in5 _ _ _).mp q⟩)
    have nD5 : ∀ k, (D, k) ∉ sh (C.add D) r5 := fun k z => frD (R1.shO ((sh5 _).mpr z))
    have nA : D ∉ oA (wipeG r ws) := fun z => frD (List.mem_append_right _ ((oAw D).mpr z))
    -- what stands at any time of the turn
    have step : ∀ {H5 H6 : Hp}, Gr (C.add D) r5 H5 H6 → RepE (C.add D) σ5 H5 r5 → Same (hd H5 (D :: (C.O ++ oA r))) (hd H6 (D :: (C.O ++ oA r))) := fun {H5 H6} g6 R5 b o e => by
      obtain ⟨e1, e2⟩ := hd_some e
      rw [hd_out e1]
      exact g6.1 b o (fun k z => e1 ((memO oA5 b).mp (R5.shO z))) e2
    have back : ∀ {H5 : Hp}, RepE (C.add D) σ5 H5 r5 → RepE (C.add D) (wipe σ ws) H5 (wipeG r ws) := fun {H5} R6 => by
      refine R6.weak (by rw [wipe_length]; exact R.lenS) (by rw [wipeG_len]; exact R.len) (fun j y e => ?_) fun j y w e q => ?_
      · by_cases hj : j ∈ tg.slots
        · exact absurd (sub j hj) (wipeG_some e).2
        · rw [e5 j hj]; exact e
      · have hj : j ∉ tg.slots := fun z => (wipeG_some e).2 (sub j z)
        rw [← ag.2 j hj]
        exact q
    have s14 : Same (hd H3 (D :: (C.O ++ oA r))) (hd H4 (D :: (C.O ++ oA r))) := same_hd s1
    refine ⟨C.add D, ⟨rfl, rfl⟩, r5, _, R5, q5, fun b H6 g6 q6 => ?_⟩
    have R6 := R5.grow g6
    have d6 : H6 D = some (.lst acc) := g6.1 D _ nD5 (s1 _ _ eD)
    cases b with
    | false =>
      rw [if_neg Bool.false_ne_true] at q6
      refine iteF ⟨acc, accd, d6, by omega, (ra.up s14).up (step g6 R5), back R6, fun a o hn e => g6.1 a o (fun k z => hn k ((sh5 _).mpr z)) (s1 _ _ (gk a o hn e)), fun a o e => step g6 R5 a o (s14 a o (sm a o e)), q6⟩
    | true =>
      rw [if_pos rfl] at q6
      refine iteT ⟨C.add D, ⟨rfl, rfl⟩, r5, _, R6, q6, fun y H7 dy g7 rp7 q7 => ?_⟩
      have R7 := R6.grow g7
      have d7 : H7 D = some (.lst acc) := g7.1 D _ nD5 d6
      have keepD : ∀ {b : Addr} {o : HO}, hd H7 (D :: (C.O ++ oA r)) b = some o → hd (upd H7 D (.lst (acc ++ [y]))) (D :: (C.O ++ oA r)) b = some o := fun {b o} e => by
        obtain ⟨e1, e2⟩ := hd_some e
        have hne : b ≠ D := fun z => e1 (by rw [z]; exact List.mem_cons_self)
        rw [hd_out e1, upd_ne hne]
        exact e2
      refine ⟨acc, d7, by rw [sizeLine_eq] at hl ⊢; omega, acc ++ [y], accd ++ [dy], upd_same, by rw [List.length_append]; simp; omega, ?_, (back R7).updO h0 d7 nS nA, fun a o hn e => ?_, fun a o e => ?_, q7⟩
      · refine RpA.up (RpA.append (((ra.up s14).up (step g6 R5)).up (step g7 R6)) (.cons (rp7.up (hd_sub fun a ha => (memO oA5 a).mpr ha)) .nil)) fun b o e => keepD e
      · have e7 := g7.1 a o (fun k z => hn k ((sh5 _).mpr z)) (g6.1 a o (fun k z => hn k ((sh5 _).mpr z)) (s1 _ _ (gk a o hn e)))
        have hne : a ≠ D := ne_of_none e nD
        rw [upd_ne hne]
        exact e7
      · exact keepD (step g7 R6 a o (step g6 R5 a o (s14 a o (sm a o e))))
  · have e : i = xs.length := by omega
    subst e
    rw [List.drop_length] at q3
    refine .inl ⟨J0.stop H3 _ sm, k D H3 acc accd ⟨fun a o hn e => gk a o hn (g.1 a o hn e), fun s hs => R3.shI s ((shw s).mp hs)⟩ nH eD (by omega) ra q3⟩
section
variable {X : Cx} {C : Cfg} {elt tgE iter : Expr} {ifs : List Expr} {scope : Scope} {own : List (Str × Nat)} {pos : Pos} {tg : Tg} {it : TID} {tt : TTD} {te : TD}
structure LcOk (X : Cx) (C : Cfg) (elt tgE iter : Expr) (ifs : List Expr) (scope : Scope) (own : List (Str × Nat)) (tg : Tg) (it : TID) (tt : TTD) (te : TD) : Prop where
  hc : X.calm = true
  hN : X.N.Nodup
  sub : ∀ i ∈ tg.slots, i ∈ own.map (·.2)
  hi : PDI X C tgE iter it
  ok : BlkOk X.N X.env.scope scope own
  hg : BlkAll X scope fun B => ∀ C2 : Cfg, C2.n = C.n → C2.K = C.K → PG B tgE (upG C2 tg)
  ht : BlkAll X scope fun B => ∀ C2 : Cfg, C2.n = C.n → C2.K = C.K → PTs B ifs (upT C2 tt)
  he : BlkAll X scope fun B => ∀ C2 : Cfg, C2.n = C.n → C2.K = C.K → PE B elt (up C2 te)
  hs : ∀ x, foldedSetIterable iter X.env x = pure x
theorem LcOk.g (h : LcOk X C elt tgE iter ifs scope own tg it tt te) : BlkAll X scope fun B => PG B tgE (gEx C tg) := fun s H Ca cl fp => ⟨fun pins s' σ H' v w Q I r ⟨C2, ⟨h1, h2⟩, hw⟩ => (h.hg s H Ca cl fp C2 h1 h2).run pins s' σ H' v w Q I r hw⟩
theorem LcOk.t (h : LcOk X C elt tgE iter ifs scope own tg it tt te) : BlkAll X scope fun B => PTs B ifs (tEx C tt) := fun s H Ca cl fp => ⟨fun pins s' σ H' Q I ⟨C2, ⟨h1, h2⟩, hw⟩ => (h.ht s H Ca cl fp C2 h1 h2).run pins s' σ H' Q I hw⟩
theorem LcOk.e (h : LcOk X C elt tgE iter ifs scope own tg it tt te) : BlkAll X scope fun B => PE B elt (eEx C te) := fun s H Ca cl fp => ⟨fun pins s' σ H' Q I ⟨C2, ⟨h1, h2⟩, hw⟩ => (h.he s H Ca cl fp C2 h1 h2).run pins s' σ H' Q I hw⟩
theorem pf_lc (h : LcOk X C elt tgE iter ifs scope own tg it tt te) : PF X C (.ListComp elt [⟨tgE, iter, ifs, 0⟩] scope pos) (fLc tg it tt te (own.map (·.2))) :=
  PE_imp (pe_lc h.hc h.hN h.hi h.ok h.g h.t h.e h.hs) fun σ H Q w => lc_read h.sub w
/-- y = [.. for ..] -/
theorem psd_setLcF (i : Nat) {y : Str} {py spos : Pos} (hn : C.n = X.N.length) (h : LcOk X C elt tgE iter ifs scope own tg it tt te) (hy : X.N[i]? = some y) (hyl : X.env.scope.names.lookup y = some .local)
    (hsw : swapsWith (.ListComp elt [⟨tgE, iter, ifs, 0⟩] scope pos) (some (.Name y py)) spos.line X.env = pure true) : PSD X C (.Assign [.Name y py] (.ListComp elt [⟨tgE, iter, ifs, 0⟩] scope pos) spos) (sSetF i (fLc tg it tt te (own.map (·.2)))) :=
  PS_imp (ps_setLc h.hc h.hN hy hyl hsw h.hi h.ok h.g h.t h.e h.hs) fun D σ H ⟨r, D', R, q, k⟩ => lc_read h.sub ⟨r, _, R, q, fun a H' vs xs g na ea l rp qx => k.1 _ H' _ (R.new g (o := .lst xs) (by rw [hn]; exact (List.getElem?_eq_some_iff.mp hy).1) na ⟨vs, ea, l, rp⟩) (by rw [er_set]; exact qx)⟩
theorem psd_setLc (i : Nat) {y : Str} {py spos : Pos} (hn : C.n = X.N.length) (h : LcOk X C elt tgE iter ifs scope own tg it tt te) (hy : X.N[i]? = some y) (hyl : X.env.scope.names.lookup y = some .local)
    (hsw : swapsWith (.ListComp elt [⟨tgE, iter, ifs, 0⟩] scope pos) (some (.Name y py)) spos.line X.env = pure true) : PSD X C (.Assign [.Name y py] (.ListComp elt [⟨tgE, iter, ifs, 0⟩] scope pos) spos) (sSet i (dLst (fLc tg it tt te (own.map (·.2))))) :=
  PS_imp (ps_setLc h.hc h.hN hy hyl hsw h.hi h.ok h.g h.t h.e h.hs) fun D σ H ⟨r, D', R, q, k⟩ => lc_read h.sub ⟨r, _, R, q, fun a H' vs xs g na ea l rp qx => set_d_nx R g (by rw [hn]; exact (List.getElem?_eq_some_iff.mp hy).1) (RpA.put ea (R.fresh na) l rp) k.1 qx⟩
end
end DP

end
section
set_option Elab.async false
set_option linter.all false
set_option maxRecDepth 100000
set_option autoImplicit false
set_option maxHeartbeats 4000000
namespace DP
open PySem PySem.Spec PyProof.Rows L2
/-! ### operators and built-ins by their kinds of arguments -/
theorem OpD.imp {X : Cx} {f : Value → Value → Sem Value} {r r' : R2D} (h : OpD X f r) (q : ∀ x y Q, r' x y Q → r x y Q) : OpD X f r' := fun pins s σ H x y v u Q I rx ry w => by
  obtain ⟨O, dx, dy, Q', dm, hx, hy, hr, k⟩ := w
  exact h pins s σ H x y v u Q I rx ry ⟨O, dx, dy, Q', dm, hx, hy, q _ _ _ hr, k⟩
theorem CallD.imp {X : Cx} {f : Value} {r r' : RC} (h : CallD X f r) (q : ∀ x Q, r' x Q → r x Q) : CallD X f r' := fun pins s σ H vs us Q I rv w => by
  obtain ⟨O, ds, Q', dm, hx, hr, k⟩ := w
  exact h pins s σ H vs us Q I rv ⟨O, ds, Q', dm, hx, q _ _ hr, k⟩
theorem CallF.imp {X : Cx} {f : Value} {r r' : RF} (h : CallF X f r) (q : ∀ x Q, r' x Q → r x Q) : CallF X f r' := fun pins s σ H vs us Q I rv w => by
  obtain ⟨O, ds, Q', dm, hx, hr, k⟩ := w
  exact h pins s σ H vs us Q I rv ⟨O, ds, Q', dm, hx, q _ _ hr, k⟩
def subW : R2D
  | .int i, .int j, Q => Q (.int (i - j))
  | _, _, _ => False
def modW : R2D
  | .int i, .int j, Q => 0 < j ∧ Q (.int (i % j))
  | _, _, _ => False
def fdivW : R2D
  | .int i, .int j, Q => (0 < j ∧ j < 1073741824) ∧ Q (.int (i / j))
  | _, _, _ => False
def powW : R2D
  | .int i, .int j, Q => (0 ≤ j ∧ j ≤ 1000000 ∧ i.natAbs < 2 ^ 64) ∧ Q (.int (i ^ j.toNat))
  | _, _, _ => False
def binW : Operator → R2D
  | .Add => rAdd
  | .Sub => subW
  | .Mult => rMul
  | .Mod => modW
  | .FloorDiv => fdivW
  | .Pow => powW
  | _ => fun _ _ _ => False
theorem int2 {r : Int → Int → (PyData → Prop) → Prop} {x y : PyData} {Q : PyData → Prop} {f : R2D} (hf : ∀ i j, f (.int i) (.int j) Q = r i j Q) (hn : ∀ x y, (∀ i, x ≠ .int i) ∨ (∀ j, y ≠ .int j) → f x y Q = False) (h : f x y Q) : ∃ i j, x = .int i ∧ y = .int j ∧ r i j Q := by
  by_cases hx : ∃ i, x = .int i
  · by_cases hy : ∃ j, y = .int j
    · obtain ⟨i, rfl⟩ := hx
      obtain ⟨j, rfl⟩ := hy
      rw [hf] at h
      exact ⟨i, j, rfl, rfl, h⟩
    · rw [hn _ _ (.inr fun j e => hy ⟨j, e⟩)] at h; exact h.elim
  · rw [hn _ _ (.inl fun j e => hx ⟨j, e⟩)] at h; exact h.elim
theorem bin_ok {X : Cx} (o : Operator) (h : o = .Add ∨ o = .Sub ∨ o = .Mult ∨ o = .Mod ∨ o = .FloorDiv ∨ o = .Pow) : OpD X (binaryOp o) (binW o) := by
  rcases h with rfl | rfl | rfl | rfl | rfl | rfl
  · exact opd_add
  · refine opd_sub.imp fun x y Q h => ?_
    have h : subW x y Q := h
    unfold subW at h
    split at h
    · exact ⟨_, _, rfl, rfl, trivial, h⟩
    · exact h.elim
  · exact opd_mul
  · refine opd_mod.imp fun x y Q h => ?_
    have h : modW x y Q := h
    unfold modW at h
    split at h
    · exact ⟨_, _, rfl, rfl, h.1, h.2⟩
    · exact h.elim
  · refine opd_fdiv.imp fun x y Q h => ?_
    have h : fdivW x y Q := h
    unfold fdivW at h
    split at h
    · exact ⟨_, _, rfl, rfl, h.1, h.2⟩
    · exact h.elim
  · refine opd_pow.imp fun x y Q h => ?_
    have h : powW x y Q := h
    unfold powW at h
    split at h
    · exact ⟨_, _, rfl, rfl, h.1, h.2⟩
    · exact h.elim
def ltW : R2D
  | .int i, .int j, Q => Q (.bool (decide (i < j)))
  | x, y, Q => rOrd (fun x y => PySem.W.dataLt x y) x y Q
def leW : R2D
  | .int i, .int j, Q => Q (.bool (decide (i ≤ j)))
  | x, y, Q => rOrd (fun x y => !PySem.W.dataLt y x) x y Q
def gtW : R2D
  | .int i, .int j, Q => Q (.bool (decide (j < i)))
  | x, y, Q => rOrd (fun x y => PySem.W.dataLt y x) x y Q
def geW : R2D
  | .int i, .int j, Q => Q (.bool (decide (j ≤ i)))
  | x, y, Q => rOrd (fun x y => !PySem.W.dataLt x y) x y Q
def eqW : R2D
  | .int i, .int j, Q => Q (.bool (decide (i = j)))
  | x, y, Q => rEqq x y Q
def neW : R2D
  | .int i, .int j, Q => Q (.bool (!decide (i = j)))
  | x, y, Q => rNeq x y Q
def inW (neg : Bool) : R2D
  | x, .list xs, Q => dOk x = true ∧ PyData.plainAll xs = true ∧ Q (.bool (if neg = true then !inD x xs else inD x xs))
  | x, .tuple xs, Q => dOk x = true ∧ PyData.plainAll xs = true ∧ Q (.bool (if neg = true then !inD x xs else inD x xs))
  | _, _, _ => False
def isW (neg : Bool) : R2D := fun x y Q => match isV x y with
  | some k => Q (.bool (if neg = true then !k else k))
  | none => False
def cmpW : CmpOp → R2D
  | .Lt => ltW
  | .LtE => leW
  | .Gt => gtW
  | .GtE => geW
  | .Eq => eqW
  | .NotEq => neW
  | .In => inW false
  | .NotIn => inW true
  | .Is => isW false
  | .IsNot => isW true
theorem ordInt {g : PyData → PyData → Bool} {i j : Int} {b : Bool} {Q : PyData → Prop} (e : g (.int i) (.int j) = b) (h : Q (.bool b)) : rOrd g (.int i) (.int j) Q := ⟨by simp [PySem.W.alike], by simp, by simp [PyData.depth], by rw [e]; exact h⟩
theorem not_lt_le (i j : Int) : (!decide (i < j)) = decide (j ≤ i) := by
  by_cases h : i < j
  · rw [decide_eq_true h, decide_eq_false (by omega)]; rfl
  · rw [decide_eq_false h, decide_eq_true (by omega)]; rfl
theorem cmp_ok {X : Cx} (hu : X.A.units + 64 < cLine) (o : CmpOp) : OpD X (compareOp o) (cmpW o) := by
  cases o with
  | Lt =>
    refine (opd_lt hu).imp fun x y Q h => ?_
    have h : ltW x y Q := h
    unfold ltW at h
    split at h
    · exact ordInt (PySem.W.dataLt_int _ _) h
    · exact h
  | LtE =>
    refine (opd_le hu).imp fun x y Q h => ?_
    have h : leW x y Q := h
    unfold leW at h
    split at h
    · exact ordInt (by rw [PySem.W.dataLt_int, not_lt_le]) h
    · exact h
  | Gt =>
    refine (opd_gt hu).imp fun x y Q h => ?_
    have h : gtW x y Q := h
    unfold gtW at h
    split at h
    · exact ordInt (PySem.W.dataLt_int _ _) h
    · exact h
  | GtE =>
    refine (opd_ge hu).imp fun x y Q h => ?_
    have h : geW x y Q := h
    unfold geW at h
    split at h
    · exact ordInt (by rw [PySem.W.dataLt_int, not_lt_le]) h
    · exact h
  | Eq =>
    refine (opd_eq hu).imp fun x y Q h => ?_
    have h : eqW x y Q := h
    unfold eqW at h
    split at h
    · refine ⟨rfl, rfl, ?_⟩
      have e : ∀ i j : Int, PyData.eqv (.int i) (.int j) = decide (i = j) := fun i j => by
        rw [PyData.eqv]
        by_cases h : i = j
        · subst h; simp
        · simp [h]
      rw [e]
      exact h
    · exact h
  | NotEq =>
    refine (opd_ne hu).imp fun x y Q h => ?_
    have h : neW x y Q := h
    unfold neW at h
    split at h
    · refine ⟨rfl, rfl, ?_⟩
      have e : ∀ i j : Int, PyData.eqv (.int i) (.int j) = decide (i = j) := fun i j => by
        rw [PyData.eqv]
        by_cases h : i = j
        · subst h; simp
        · simp [h]
      rw [e]
      exact h
    · exact h
  | In =>
    refine (opd_in hu).imp fun x y Q h => ?_
    have h : inW false x y Q := h
    unfold inW at h
    split at h
    · exact ⟨h.1, _, .inl rfl, h.2.1, h.2.2⟩
    · exact ⟨h.1, _, .inr rfl, h.2.1, h.2.2⟩
    · exact h.elim
  | NotIn =>
    refine (opd_notIn hu).imp fun x y Q h => ?_
    have h : inW true x y Q := h
    unfold inW at h
    split at h
    · exact ⟨h.1, _, .inl rfl, h.2.1, h.2.2⟩
    · exact ⟨h.1, _, .inr rfl, h.2.1, h.2.2⟩
    · exact h.elim
  | Is =>
    refine opd_is.imp fun x y Q h => ?_
    have h : isW false x y Q := h
    unfold isW at h
    split at h
    · exact ⟨_, by assumption, h⟩
    · exact h.elim
  | IsNot =>
    refine opd_isnot.imp fun x y Q h => ?_
    have h : isW true x y Q := h
    unfold isW at h
    split at h
    · exact ⟨_, by assumption, h⟩
    · exact h.elim
/-! built-ins -/
inductive BI where
  | len | tuple | all | any | sum | int | max | min
  deriving DecidableEq
def BI.name : BI → Str
  | .len => "len"
  | .tuple => "tuple"
  | .all => "all"
  | .any => "any"
  | .sum => "sum"
  | .int => "int"
  | .max => "max"
  | .min => "min"
def intsOf : List PyData → Option (List Int)
  | [] => some []
  | .int i :: xs => (intsOf xs).map (i :: ·)
  | _ :: _ => none
theorem intsOf_eq : ∀ {xs : List PyData} {ns : List Int}, intsOf xs = some ns → xs = ns.map PyData.int
  | [], ns, h => by cases h; rfl
  | x :: xs, ns, h => by
    cases x with
    | int i =>
      unfold intsOf at h
      cases q : intsOf xs with
      | none => rw [q] at h; cases h
      | some ms =>
        rw [q] at h
        cases h
        rw [List.map_cons, ← intsOf_eq q]
    | _ => cases h
def fits (y : PyData) : Bool := match y with
  | .str x => Nat.blt x.length 9223372036854775808
  | .list xs => Nat.blt xs.length 9223372036854775808
  | .tuple xs => Nat.blt xs.length 9223372036854775808
  | _ => true
theorem blt63 {n : Nat} (h : Nat.blt n 9223372036854775808 = true) : (n : Int) < 2 ^ 63 := by
  have h1 : n < 9223372036854775808 := by
    rw [Nat.blt_eq] at h
    exact h
  omega
theorem fits_ok {y : PyData} (h : fits y = true) : y.fits63 := by
  cases y with
  | str x => exact blt63 h
  | list x => exact blt63 h
  | tuple x => exact blt63 h
  | _ => trivial
def truW (f : List PyData → Bool) (ys : List PyData) (Q : PyData → Prop) : Prop := PyData.plainAll ys = true ∧ ys.all fits = true ∧ Q (.bool (f ys))
def biW : BI → RC
  | .len, [d], Q => (match lenD d with
    | some n => Q (.int n)
    | none => False)
  | .tuple, [.list ys], Q => Q (.tuple ys)
  | .tuple, [.tuple ys], Q => Q (.tuple ys)
  | .all, [.list ys], Q => truW (fun ys => ys.all PyData.truthy) ys Q
  | .all, [.tuple ys], Q => truW (fun ys => ys.all PyData.truthy) ys Q
  | .any, [.list ys], Q => truW (fun ys => ys.any PyData.truthy) ys Q
  | .any, [.tuple ys], Q => truW (fun ys => ys.any PyData.truthy) ys Q
  | .sum, [.list ys], Q => (match intsOf ys with
    | some ns => Q (.int ns.sum)
    | none => False)
  | .int, [.int i], Q => Q (.int i)
  | .int, [.bool b], Q => Q (.int (if b = true then 1 else 0))
  | .max, [.int i, .int j], Q => Q (.int (if j > i then j else i))
  | .min, [.int i, .int j], Q => Q (.int (if j < i then j else i))
  | _, _, _ => False
theorem tru_ok {f : List PyData → Bool} {ys : List PyData} {xs : List PyData} {Q : PyData → Prop} (e : xs = [.list ys] ∨ xs = [.tuple ys]) (h : truW f ys Q) : rTruth f xs Q := ⟨ys, e, h.1, fun y hy => fits_ok (List.all_eq_true.mp h.2.1 y hy), h.2.2⟩
theorem bi_ok {X : Cx} {C : Cfg} (hc : X.calm = true) (f : BI) {e : Expr} {es : List Expr} {t : TAD} {p pos : Pos} (hm : X.mg f.name = none) (hg : Gl X f.name) (ha : PDA X C (e :: es) t) (he : starEach (e :: es) X.env = (false, eval e X.env) :: starEach es X.env) (hpl : (backTo pos (starEach es X.env)).any (·.1) = false) :
    PD X C (.Call (.Name f.name p) (e :: es) [] pos) (dCall (biW f) t) := by
  cases f with
  | len =>
    refine pd_callB (bid := "len") (cd_len.imp fun xs Q h => ?_) hm (by decide +kernel) ha hg (by decide) (by decide) he hpl
    unfold biW at h
    split at h <;> first | exact h.elim | skip
    all_goals first | (cases ‹BI.len = _›; done) | skip
    rename_i d _ 
    split at h
    · exact ⟨_, _, rfl, by assumption, h⟩
    · exact h.elim
  | tuple =>
    refine pd_callTy (T := "tuple") (cd_tuple.imp fun xs Q h => ?_) hm (by decide +kernel) ha hg (by decide) (by decide) he hpl
    match xs, h with
    | [.list ys], h => exact ⟨ys, .inl rfl, h⟩
    | [.tuple ys], h => exact ⟨ys, .inr rfl, h⟩
  | all =>
    refine pd_callB (bid := "all") ((cd_all hc).imp fun xs Q h => ?_) hm (by decide +kernel) ha hg (by decide) (by decide) he hpl
    match xs, h with
    | [.list ys], h => exact tru_ok (.inl rfl) h
    | [.tuple ys], h => exact tru_ok (.inr rfl) h
  | any =>
    refine pd_callB (bid := "any") ((cd_any hc).imp fun xs Q h => ?_) hm (by decide +kernel) ha hg (by decide) (by decide) he hpl
    match xs, h with
    | [.list ys], h => exact tru_ok (.inl rfl) h
    | [.tuple ys], h => exact tru_ok (.inr rfl) h
  | sum =>
    refine pd_callB (bid := "sum") ((cd_sum hc).imp fun xs Q h => ?_) hm (by decide +kernel) ha hg (by decide) (by decide) he hpl
    match xs, h with
    | [.list ys], h =>
      have h : (match intsOf ys with
        | some ns => Q (.int ns.sum)
        | none => False) := h
      cases q : intsOf ys with
      | none => rw [q] at h; exact h.elim
      | some ns =>
        rw [q] at h
        exact ⟨ns, by rw [← intsOf_eq q], h⟩
  | int =>
    refine pd_callTy (T := "int") (cd_int.imp fun xs Q h => ?_) hm (by decide +kernel) ha hg (by decide) (by decide) he hpl
    match xs, h with
    | [.int i], h => exact .inl ⟨i, rfl, h⟩
    | [.bool b], h => exact .inr ⟨b, rfl, h⟩
  | max =>
    refine pd_callB (bid := "max") ((cd_max2 hc).imp fun xs Q h => ?_) hm (by decide +kernel) ha hg (by decide) (by decide) he hpl
    match xs, h with
    | [.int i, .int j], h => exact ⟨i, j, rfl, h⟩
  | min =>
    refine pd_callB (bid := "min") ((cd_min2 hc).imp fun xs Q h => ?_) hm (by decide +kernel) ha hg (by decide) (by decide) he hpl
    match xs, h with
    | [.int i, .int j], h => exact ⟨i, j, rfl, h⟩
end DP

end
section
set_option Elab.async false
set_option linter.all false
set_option maxRecDepth 100000
set_option autoImplicit false
set_option maxHeartbeats 4000000
namespace DP
open PySem PySem.Spec PyProof.Rows L2
/-! ### truths -/
def boolD (Q : Bool → Prop) : PyData → Prop
  | .bool k => Q k
  | _ => False
theorem boolD_get {Q : Bool → Prop} {x : PyData} (h : boolD Q x) : ∃ k, x = .bool k ∧ Q k := by
  cases x with
  | bool k => exact ⟨k, rfl, h⟩
  | _ => exact h.elim
def eB (t : TD) : TTD := fun r Q => t r (boolD Q)
section
variable {X : Cx} {C : Cfg} {e a b c : Expr} {es rest : List Expr} {pos : Pos} {ta tb tc : TD} {r r' : R2D} {tA tB' : TTD}
theorem test_goB {t : TD} {u : TE} (h : ∀ σ H Q, up C t σ H Q → u σ H Q) {σ : L2.St} {H : Hp} {Q : Bool → Hp → Prop} (w : upT C (eB t) σ H Q) : tTest u σ H Q := by
  obtain ⟨ρ, Q', R, q, k⟩ := w
  refine h _ _ _ ⟨ρ, _, R, q, fun v H' x g rp qx => ?_⟩
  obtain ⟨b, rfl, qb⟩ := boolD_get qx
  exact ⟨b, rp_bl rp, k b H' g qb⟩
theorem ptB_of {t : TD} (h : PD X C e t) (he : ∀ whole, isTrue e X.env whole = (do let v ← whole; standAt e.pos; holding [v] (truthy v))) : PDT X C e (eB t) :=
  PT_imp (pt_val h he) fun _ _ _ w => test_goB (fun _ _ _ z => z) w
theorem ptB_cmp {op : CmpOp} (ho : OpD X (compareOp op) r) (ha : PD X C a ta) (hb : PD X C b tb) (hm : behindInMarks op b = false) : PDT X C (.Compare a [op] [b] pos) (eB (dOp r ta tb)) :=
  PT_imp (pt_cmpR ho ha hb hm) fun _ _ _ w => test_goB (fun _ _ _ => op_go) w
def eChain (r r' : R2D) (ta tb tc : TD) : TD := fun e Q => ta e fun x => tb e fun y => r x y fun z => boolD (fun k => if k = true then tc e fun w => r' y w Q else Q (.bool false)) z
theorem chain_goB {σ : L2.St} {H : Hp} {Q : VK} (h : up C (eChain r r' ta tb tc) σ H Q) : tChain (upR r) (upR r') (up C ta) (up C tb) (up C tc) σ H Q := by
  obtain ⟨ρ, Q', R, q, k⟩ := h
  refine ⟨ρ, _, R, q, fun v H1 x g1 rp1 q1 => ⟨ρ, _, R.grow g1, q1, fun w H2 y g2 rp2 q2 => ?_⟩⟩
  have R2 := (R.grow g1).grow g2
  refine ⟨C.O ++ oA ρ, x, y, _, R2.domA, rp1.up (g2.hd (R.grow g1)), rp2, q2, fun z H3 dz sm rpz qz => ?_⟩
  obtain ⟨b, rfl, qb⟩ := boolD_get qz
  refine ⟨b, rp_bl rpz, ?_⟩
  have g3 : Gr C ρ H2 H3 := Gr.of_same R2 sm
  have R3 := R2.grow g3
  cases b with
  | false =>
    rw [if_neg Bool.false_ne_true] at qb ⊢
    exact k _ H3 _ ((g1.trans g2).trans g3) (.bl false) qb
  | true =>
    rw [if_pos rfl] at qb ⊢
    refine ⟨ρ, _, R3, qb, fun w' H4 y' g4 rp4 q4 => ⟨C.O ++ oA ρ, y, y', Q', (R3.grow g4).domA, (rp2.up (g3.hd R2)).up (g4.hd R3), rp4, q4, fun z' H5 dz' sm5 rp5 q5 => k z' H5 dz' ((((g1.trans g2).trans g3).trans g4).then_same sm5) rp5 q5⟩⟩
theorem pdB_chain {op op' : CmpOp} (ho : OpD X (compareOp op) r) (ho' : OpD X (compareOp op') r') (ha : PD X C a ta) (hb : PD X C b tb) (hc : PD X C c tc) (hm : lastMarks [op, op'] [b, c] = false) : PD X C (.Compare a [op, op'] [b, c] pos) (eChain r r' ta tb tc) :=
  PE_imp (pe_chain ho ho' ha hb hc (hm := hm)) fun _ _ _ => chain_goB
theorem ptB_chain {op op' : CmpOp} (ho : OpD X (compareOp op) r) (ho' : OpD X (compareOp op') r') (ha : PD X C a ta) (hb : PD X C b tb) (hc : PD X C c tc) (hm : lastMarks [op, op'] [b, c] = false) : PDT X C (.Compare a [op, op'] [b, c] pos) (eB (eChain r r' ta tb tc)) :=
  PT_imp (pt_chain ho ho' ha hb hc (hm := hm)) fun _ _ _ w => test_goB (fun _ _ _ => chain_goB) w
def eAnd (ta tb : TD) : TD := fun r Q => ta r (boolD fun k => if k = true then tb r Q else Q (.bool false))
def eOr (ta tb : TD) : TD := fun r Q => ta r (boolD fun k => if k = true then Q (.bool true) else tb r Q)
def eNot (ta : TD) : TD := fun r Q => ta r (boolD fun k => Q (.bool (!k)))
theorem pdB_and (ha : PD X C a ta) (hb : PD X C (.BoolOp .And (b :: rest) pos) tb) : PD X C (.BoolOp .And (a :: b :: rest) pos) (eAnd ta tb) :=
  PE_imp (pe_and ha hb) fun σ H Q ⟨ρ, Q', R, q, k⟩ => ⟨ρ, _, R, q, fun v H1 x g1 rp q1 => by
    obtain ⟨c, rfl, qc⟩ := boolD_get q1
    refine ⟨c, rp_bl rp, ?_⟩
    cases c with
    | true => rw [if_pos rfl] at qc ⊢; exact ⟨ρ, Q', R.grow g1, qc, fun w H2 y g2 rp2 q2 => k w H2 y (g1.trans g2) rp2 q2⟩
    | false => rw [if_neg Bool.false_ne_true] at qc ⊢; exact k _ H1 _ g1 (.bl false) qc⟩
theorem pdB_or (ha : PD X C a ta) (hb : PD X C (.BoolOp .Or (b :: rest) pos) tb) : PD X C (.BoolOp .Or (a :: b :: rest) pos) (eOr ta tb) :=
  PE_imp (pe_or ha hb) fun σ H Q ⟨ρ, Q', R, q, k⟩ => ⟨ρ, _, R, q, fun v H1 x g1 rp q1 => by
    obtain ⟨c, rfl, qc⟩ := boolD_get q1
    refine ⟨c, rp_bl rp, ?_⟩
    cases c with
    | true => rw [if_pos rfl] at qc ⊢; exact k _ H1 _ g1 (.bl true) qc
    | false => rw [if_neg Bool.false_ne_true] at qc ⊢; exact ⟨ρ, Q', R.grow g1, qc, fun w H2 y g2 rp2 q2 => k w H2 y (g1.trans g2) rp2 q2⟩⟩
theorem pdB_not (ha : PD X C a ta) : PD X C (.UnaryOp .Not a pos) (eNot ta) :=
  PE_imp (pe_not ha) fun σ H Q ⟨ρ, Q', R, q, k⟩ => ⟨ρ, _, R, q, fun v H1 x g1 rp q1 => by
    obtain ⟨c, rfl, q1⟩ := boolD_get q1
    exact ⟨c, rp_bl rp, k _ H1 _ g1 (.bl _) q1⟩⟩
/-- -x -/
def intD (Q : Int → Prop) : PyData → Prop
  | .int i => Q i
  | _ => False
def eNeg (t : TD) : TD := fun r Q => t r (intD fun i => Q (.int (-i)))
theorem pdB_neg (ha : PD X C a ta) : PD X C (.UnaryOp .USub a pos) (eNeg ta) :=
  PE_imp (pe_un un_neg ha) fun σ H Q ⟨ρ, Q', R, q, k⟩ => ⟨ρ, _, R, q, fun v H1 x g1 rp q1 => by
    cases x with
    | int i => exact ⟨i, rp_int rp, k _ H1 _ g1 (.int _) q1⟩
    | _ => exact (show False from q1).elim⟩
/-- x[i] -/
def ixW : R2D
  | .list xs, .int i, Q => (match atD xs i with
    | some d => Q d
    | none => False)
  | .tuple xs, .int i, Q => (match atD xs i with
    | some d => Q d
    | none => False)
  | _, _, _ => False
theorem ixdW : IxR X (upR ixW) := by
  intro value slice pins s σ H x y v u Q I rx ry w hs
  obtain ⟨O, dx, dy, Q', dm, hx, hy, q, k⟩ := w
  refine ixd value slice pins s σ H x y v u Q I rx ry ⟨O, dx, dy, Q', dm, hx, hy, ?_, k⟩ hs
  unfold ixW at q
  split at q
  · split at q
    · exact ⟨_, _, _, rfl, .inl rfl, by assumption, q⟩
    · exact q.elim
  · split at q
    · exact ⟨_, _, _, rfl, .inr rfl, by assumption, q⟩
    · exact q.elim
  · exact q.elim
theorem pdB_ix (ha : PD X C a ta) (hb : PD X C b tb) (hs : PlainIx b) : PD X C (.Subscript a b pos) (dOp ixW ta tb) := PE_imp (pe_ix ixdW ha hb hs) fun _ _ _ => op_go
/-- parts of slices -/
def oInt (t : TD) : TOD := fun r Q => t r (intD fun i => Q (some i))
theorem pdoB_some (h : PD X C e ta) : PDO X C (some e) (oInt ta) := PO_imp (po_some h) fun σ H Q ⟨r, Q', R, q, k⟩ => ⟨r, _, R, q, fun v H1 x g rp qx => by
  cases x with
  | int i => exact ⟨i, rp_int rp, k _ H1 g qx⟩
  | _ => exact (show False from qx).elim⟩
/-- list(x), sorted(x) -/
def lstW : RF
  | [.list ys], Q => Q ys
  | [.tuple ys], Q => Q ys
  | _, _ => False
def srtW : RF
  | [.list ys], Q => SortOk ys ∧ Q (sortD ys)
  | _, _ => False
theorem pfB_list {p : Pos} {t : TAD} (hm : X.mg "list" = none) (hg : Gl X "list") (ha : PDA X C (e :: es) t) (he : starEach (e :: es) X.env = (false, eval e X.env) :: starEach es X.env) (hpl : (backTo pos (starEach es X.env)).any (·.1) = false) : PF X C (.Call (.Name "list" p) (e :: es) [] pos) (fCall lstW t) :=
  pf_callTy (T := "list") (cf_list.imp fun xs Q h => by
    unfold lstW at h
    split at h
    · exact ⟨_, .inl rfl, h⟩
    · exact ⟨_, .inr rfl, h⟩
    · exact h.elim) hm (by decide +kernel) ha hg (by decide) (by decide) he hpl
theorem pfB_sorted {p : Pos} {t : TAD} (hu : X.A.units + 64 < cLine) (hm : X.mg "sorted" = none) (hg : Gl X "sorted") (ha : PDA X C (e :: es) t) (he : starEach (e :: es) X.env = (false, eval e X.env) :: starEach es X.env) (hpl : (backTo pos (starEach es X.env)).any (·.1) = false) : PF X C (.Call (.Name "sorted" p) (e :: es) [] pos) (fCall srtW t) :=
  pf_callB (bid := "sorted") ((cf_sorted hu).imp fun xs Q h => by
    unfold srtW at h
    split at h
    · exact ⟨_, rfl, h.1, h.2⟩
    · exact h.elim) hm (by decide +kernel) ha hg (by decide) (by decide) he hpl
end
/-! ### the script -/
def atZ (ns : List Int) (i : Int) : Option Int := (ixN ns.length i).bind fun j => ns[j]?
def sLen (i : Nat) : TD := fun r Q => match r[i]? with
  | some (some (.scr ns)) => Q (.int ns.length)
  | _ => False
def sIx (i : Nat) (t : TD) : TD := fun r Q => match r[i]? with
  | some (some (.scr ns)) => t r (intD fun k => match atZ ns k with
    | some x => Q (.int x)
    | none => False)
  | _ => False
section
variable {X : Cx} {C : Cfg} {b : Expr} {es : List Expr} {pos p : Pos} {tb : TD}
theorem pd_slen (i : Nat) {x : Str} {p2 : Pos} (hK : C.K = X.K) (hm : X.mg "len" = none) (hg : Gl X "len") (hN : X.N[i]? = some x) (hv : Vis X.env.scope x) (hd' : (x == ("__debug__" : Str)) = false) (hcd : (x == ("__classdict__" : Str)) = false) : PD X C (.Call (.Name "len" p) [.Name x p2] [] pos) (sLen i) :=
  PE_imp (pe_callB call_len_seq hg hm (by decide +kernel) (pa_cons (pe_var hN hv hd' hcd) pa_nil rfl) (by decide) (by decide) rfl rfl) fun σ H Q ⟨r, Q', R, w, k⟩ => by
    unfold sLen at w
    split at w
    · rename_i ns e
      obtain ⟨a, q⟩ := er_scr e
      obtain ⟨v, e2, rfl, h⟩ := R.slot i _ q
      refine ⟨_, e2, a, _, rfl, .inl (by rw [← hK]; exact h.sq), ?_⟩
      rw [List.length_map]
      exact k _ H _ (Gr.refl R) (.int _) w
    · exact w.elim
theorem pd_six (i : Nat) {x : Str} {p2 : Pos} (hK : C.K = X.K) (hN : X.N[i]? = some x) (hv : Vis X.env.scope x) (hd' : (x == ("__debug__" : Str)) = false) (hcd : (x == ("__classdict__" : Str)) = false) (hb : PD X C b tb) (hs : PlainIx b) : PD X C (.Subscript (.Name x p2) b pos) (sIx i tb) :=
  PE_imp (pe_ix ix_list (pe_var hN hv hd' hcd) hb hs) fun σ H Q ⟨r, Q', R, w, k⟩ => by
    unfold sIx at w
    split at w
    · rename_i ns e
      obtain ⟨a, q⟩ := er_scr e
      obtain ⟨v, e2, rfl, h⟩ := R.slot i _ q
      refine ⟨_, e2, r, _, R, w, fun u H1 y g1 rp q1 => ?_⟩
      cases y with
      | int j =>
        have q1 : (match atZ ns j with
          | some x => Q' (.int x)
          | none => False) := q1
        cases e3 : atZ ns j with
        | none => rw [e3] at q1; exact q1.elim
        | some z =>
          rw [e3] at q1
          have h1 : ScrOk C.K H1 a ns := ((R.grow g1).slot i _ q).elim fun v' hv' => hv'.2.2
          refine ⟨a, ns.map V.int, j, .int z, rfl, rp_int rp, by rw [← hK]; exact h1.sq, ?_, k _ H1 _ g1 (.int _) q1⟩
          unfold atZ at e3
          unfold atI
          rw [List.length_map]
          cases e4 : ixN ns.length j with
          | none => rw [e4] at e3; cases e3
          | some m =>
            rw [e4] at e3
            have e3 : ns[m]? = some z := e3
            show (ns.map V.int)[m]? = _
            rw [List.getElem?_map, e3]
            rfl
      | _ => exact (show False from q1).elim
    · exact w.elim
end
/-! ### the syntax -/
mutual
inductive DE where
  | var (i : Nat)
  | c (x : PyData)
  | tup (a : DA)
  | lst (a : DA)
  | dict0
  | bin (o : Operator) (a b : DE)
  | neg (a : DE)
  | cmp (o : CmpOp) (a b : DE)
  | chain (o o' : CmpOp) (a b c : DE)
  | and (a b : DE)
  | or (a b : DE)
  | not (a : DE)
  | ite (c : DT) (a b : DE)
  | bi (f : BI) (a : DA)
  | list (a : DA)
  | sorted (a : DA)
  | isi (T : String) (a : DE)
  | ix (a b : DE)
  | sl (a : DE) (lo hi : DO)
  | rev (a : DE)
  | call (f : Nat) (n : Nat) (a : DX)
  | lc (elt : DE) (tg : Tg) (it : DI) (cd : DT) (ws : List Nat)
  | slen (i : Nat)
  | six (i : Nat) (b : DE)
inductive DA where
  | nil
  | cons (e : DE) (r : DA)
inductive DX where
  | nil
  | e (e : DE) (r : DX)
  | s (i : Nat) (r : DX)
inductive DO where
  | none
  | some (e : DE)
inductive DT where
  | tt
  | e (e : DE)
  | and (a b : DT)
  | or (a b : DT)
  | not (a : DT)
inductive DI where
  | seq (e : DE)
  | rng1 (a : DE)
  | rng2 (a b : DE)
  | enum (a : DE)
  | zip (a b : DE)
end
def tTT : TTD := fun _ Q => Q true
section
variable (F : Nat → FW)
mutual
def wpE : DE → (Str → Prop) → TD
  | .var i, _ => dVar i
  | .c x, _ => dC x
  | .tup a, E => dTup (wpA a E)
  | .lst a, E => dLst (fLst (wpA a E))
  | .dict0, _ => dC (.dict [])
  | .bin o a b, E => dOp (binW o) (wpE a E) (wpE b E)
  | .neg a, E => eNeg (wpE a E)
  | .cmp o a b, E => dOp (cmpW o) (wpE a E) (wpE b E)
  | .chain o o' a b c, E => eChain (cmpW o) (cmpW o') (wpE a E) (wpE b E) (wpE c E)
  | .and a b, E => eAnd (wpE a E) (wpE b E)
  | .or a b, E => eOr (wpE a E) (wpE b E)
  | .not a, E => eNot (wpE a E)
  | .ite c a b, E => dIf (wpT c E) (wpE a E) (wpE b E)
  | .bi f a, E => dCall (biW f) (wpA a E)
  | .list a, E => dLst (fCall lstW (wpA a E))
  | .sorted a, E => dLst (fCall srtW (wpA a E))
  | .isi T a, E => dIsi T (wpE a E)
  | .ix a b, E => dOp ixW (wpE a E) (wpE b E)
  | .sl a lo hi, E => dSl (wpE a E) (wpO lo E) (wpO hi E)
  | .rev a, E => dRev (wpE a E)
  | .call f n a, E => dCallF n (F f) E (wpX a E)
  | .lc elt tg it cd ws, E => dLst (fLc tg (wpI it E) (wpT cd fun _ => False) (wpE elt fun _ => False) ws)
  | .slen i, _ => sLen i
  | .six i b, E => sIx i (wpE b E)
def wpA : DA → (Str → Prop) → TAD
  | .nil, _ => dNil
  | .cons e r, E => dCons (wpE e E) (wpA r E)
def wpX : DX → (Str → Prop) → TXD
  | .nil, _ => xNil
  | .e e r, E => xE (wpE e E) (wpX r E)
  | .s i r, E => xS i (wpX r E)
def wpO : DO → (Str → Prop) → TOD
  | .none, _ => oNone
  | .some e, E => oInt (wpE e E)
def wpT : DT → (Str → Prop) → TTD
  | .tt, _ => tTT
  | .e e, E => eB (wpE e E)
  | .and a b, E => dAnd (wpT a E) (wpT b E)
  | .or a b, E => dOr (wpT a E) (wpT b E)
  | .not a, E => dNot (wpT a E)
def wpI : DI → (Str → Prop) → TID
  | .seq e, E => iSeq (wpE e E)
  | .rng1 a, E => iRange1 (dCons (wpE a E) dNil)
  | .rng2 a b, E => iRange2 (dCons (wpE a E) (dCons (wpE b E) dNil))
  | .enum a, E => iEnu (dCons (wpE a E) dNil)
  | .zip a b, E => iZip2 (dCons (wpE a E) (dCons (wpE b E) dNil))
end
/-- a new list that is to be changed -/
def wpF : DE → (Str → Prop) → TAD
  | .lst a, E => fLst (wpA F a E)
  | .list a, E => fCall lstW (wpA F a E)
  | .sorted a, E => fCall srtW (wpA F a E)
  | .call f n a, E => fCallF n (F f) E (wpX F a E)
  | .lc elt tg it cd ws, E => fLc tg (wpI F it E) (wpT F cd fun _ => False) (wpE F elt fun _ => False) ws
  | _, _ => fun _ _ => False
end
end DP

end
section
set_option Elab.async false
set_option linter.all false
set_option maxRecDepth 100000
set_option autoImplicit false
set_option maxHeartbeats 4000000
namespace DP
open PySem PySem.Spec PyProof.Rows L2
/-! ### from the model's syntax -/
structure Sig where
  bis : List Str
  consts : List (Str × PyData)
  funs : List (Str × (Nat × Nat))
  excs : List Str
  scr : List Str
def okN (x : Str) : Bool := !(x == ("__debug__" : Str)) && !(x == ("__classdict__" : Str)) && !(x == ("__name__" : Str))
def findIx : List Str → Str → Option Nat
  | [], _ => none
  | y :: ys, x => if y = x then some 0 else (findIx ys x).map (· + 1)
theorem findIx_get : ∀ {N : List Str} {x : Str} {i : Nat}, findIx N x = some i → N[i]? = some x
  | [], _, _, h => by cases h
  | y :: ys, x, i, h => by
    unfold findIx at h
    split at h
    · rename_i e
      cases h
      subst e
      rfl
    · cases q : findIx ys x with
      | none => rw [q] at h; cases h
      | some j =>
        rw [q] at h
        cases h
        simpa using findIx_get q
def visB (sc : Scope) (x : Str) : Bool := match sc.names.lookup x with
  | some .local => true
  | some .cell => true
  | some .free => true
  | _ => false
def locB (sc : Scope) (x : Str) : Bool := match sc.names.lookup x with
  | some .local => true
  | some .cell => true
  | _ => false
def glB (sc : Scope) (x : Str) : Bool := match sc.names.lookup x with
  | some .globalImplicit => true
  | _ => false
theorem visB_ok {sc : Scope} {x : Str} (h : visB sc x = true) : Vis sc x := by
  unfold visB at h
  split at h
  · exact .inl (by assumption)
  · exact .inr (.inl (by assumption))
  · exact .inr (.inr (by assumption))
  · cases h
theorem locB_ok {sc : Scope} {x : Str} (h : locB sc x = true) : Loc sc x := by
  unfold locB at h
  split at h
  · exact .inl (by assumption)
  · exact .inr (by assumption)
  · cases h
theorem glB_ok {X : Cx} {sc : Scope} {x : Str} (e : X.env.scope = sc) (h : glB sc x = true) : Gl X x := by
  unfold glB at h
  split at h
  · show X.env.scope.names.lookup x = _
    rw [e]
    assumption
  · cases h
def slotOf (N : List Str) (sc : Scope) (x : Str) : Option Nat := if visB sc x && okN x then findIx N x else none
def opOk : Operator → Bool
  | .Add => true
  | .Sub => true
  | .Mult => true
  | .Mod => true
  | .FloorDiv => true
  | .Pow => true
  | _ => false
theorem opOk_ok {o : Operator} (h : opOk o = true) : o = .Add ∨ o = .Sub ∨ o = .Mult ∨ o = .Mod ∨ o = .FloorDiv ∨ o = .Pow := by
  cases o <;> first | (cases h; done) | simp
def setB : Expr → Bool
  | .Set .. => true
  | _ => false
theorem set_marks {op : CmpOp} {e : Expr} (h : setB e = false) : behindInMarks op e = false := by
  cases e <;> first | rfl | (cases h)
def sliceB : Expr → Bool
  | .Slice .. => true
  | _ => false
theorem slice_plain {e : Expr} (h : sliceB e = false) : PlainIx e := fun o i => by
  cases e <;> first | rfl | (cases h)
def starB : Expr → Bool
  | .Starred .. => true
  | _ => false
theorem star_one {e : Expr} {es : List Expr} {env : Env} (h : starB e = false) : starEach (e :: es) env = (false, eval e env) :: starEach es env := by
  cases e <;> first | rfl | (cases h)
theorem star_all {env : Env} {pos : Pos} : ∀ {es : List Expr}, es.any starB = false → (backTo pos (starEach es env)).any (·.1) = false
  | [], _ => rfl
  | e :: es, h => by
    rw [List.any_cons, Bool.or_eq_false_iff] at h
    rw [star_one h.1]
    show (false || (backTo pos (starEach es env)).any (·.1)) = false
    rw [star_all h.2]
    rfl
def biAll : List BI := [.len, .tuple, .all, .any, .sum, .int, .max, .min]
def biOf (x : Str) : Option BI := biAll.find? fun f => decide (f.name = x)
theorem biOf_ok {x : Str} {f : BI} (h : biOf x = some f) : f.name = x := by
  have q := List.find?_some (p := fun f : BI => decide (f.name = x)) h
  exact of_decide_eq_true q
def tyOf (x : Str) : Option String := if x = "int" then some "int" else if x = "bool" then some "bool" else if x = "str" then some "str" else if x = "list" then some "list" else if x = "tuple" then some "tuple" else none
theorem tyOf_ok {x : Str} {T : String} (h : tyOf x = some T) : bootBuiltins x = some (.type T) ∧ T ∈ ["int", "bool", "str", "list", "tuple"] := by
  unfold tyOf at h
  split at h
  · rename_i e; cases h; subst e; exact ⟨by decide +kernel, by decide⟩
  · split at h
    · rename_i e; cases h; subst e; exact ⟨by decide +kernel, by decide⟩
    · split at h
      · rename_i e; cases h; subst e; exact ⟨by decide +kernel, by decide⟩
      · split at h
        · rename_i e; cases h; subst e; exact ⟨by decide +kernel, by decide⟩
        · split at h
          · rename_i e; cases h; subst e; exact ⟨by decide +kernel, by decide⟩
          · cases h
def isM1 : Expr → Bool
  | .UnaryOp .USub (.Constant (.int i) _ _) _ => decide (i = 1)
  | _ => false
theorem isM1_ok {e : Expr} (h : isM1 e = true) : ∃ k p1 p2, e = .UnaryOp .USub (.Constant (.int 1) k p1) p2 := by
  unfold isM1 at h
  split at h
  · rename_i i k p1 p2
    have e : i = 1 := of_decide_eq_true h
    subst e
    exact ⟨k, p1, p2, rfl⟩
  · cases h
/-- a target -/
def compTg (N : List Str) (st : Str → Bool) : Expr → Option Tg
  | .Name x _ => if st x then (findIx N x).map .one else none
  | .Tuple [.Name x _, .Name y _] _ _ => if st x && st y then (match findIx N x, findIx N y with
    | some i, some j => some (.two i j)
    | _, _ => none) else none
  | .Tuple [.Name x _, .Name y _, .Name z _] _ _ => if st x && st y && st z then (match findIx N x, findIx N y, findIx N z with
    | some i, some j, some k => some (.three i j k)
    | _, _, _ => none) else none
  | _ => none
/-- the names of a comprehension's own -/
def ownOf (N : List Str) (scope : Scope) : List (Str × Nat) := scope.names.filterMap fun p => match p.2 with
  | .local => (findIx N p.1).map fun i => (p.1, i)
  | .cell => (findIx N p.1).map fun i => (p.1, i)
  | _ => none
/-- the script's name -/
def scrArg (G : Sig) (N : List Str) (sc : Scope) : List Expr → Option Nat
  | [.Name x _] => if G.scr.contains x then slotOf N sc x else none
  | _ => none
mutual
def compE : Nat → Sig → List Str → Scope → Expr → Option DE
  | 0, _, _, _, _ => none
  | _ + 1, G, N, sc, .Name x _ => (match slotOf N sc x with
    | some i => some (.var i)
    | none => if glB sc x && okN x then (G.consts.lookup x).map .c else none)
  | _ + 1, _, _, _, .Constant (.int i) _ _ => some (.c (.int i))
  | _ + 1, _, _, _, .Constant (.bool i) _ _ => some (.c (.bool i))
  | _ + 1, _, _, _, .Constant (.str i) _ _ => some (.c (.str i))
  | _ + 1, _, _, _, .Constant .none _ _ => some (.c .none)
  | n + 1, G, N, sc, .Tuple es _ _ => (compA n G N sc es).map .tup
  | n + 1, G, N, sc, .List es _ => (compA n G N sc es).map .lst
  | _ + 1, _, _, _, .Dict [] [] _ => some .dict0
  | n + 1, G, N, sc, .BinOp a o b _ => if opOk o then (match compE n G N sc a, compE n G N sc b with
    | some x, some y => some (.bin o x y)
    | _, _ => none) else none
  | n + 1, G, N, sc, .UnaryOp .USub a _ => (compE n G N sc a).map .neg
  | n + 1, G, N, sc, .UnaryOp .Not a _ => (compE n G N sc a).map .not
  | n + 1, G, N, sc, .Compare a [o] [b] _ => if setB b then none else (match compE n G N sc a, compE n G N sc b with
    | some x, some y => some (.cmp o x y)
    | _, _ => none)
  | n + 1, G, N, sc, .Compare a [o, o'] [b, c] _ => if setB c then none else (match compE n G N sc a, compE n G N sc b, compE n G N sc c with
    | some x, some y, some z => some (.chain o o' x y z)
    | _, _, _ => none)
  | n + 1, G, N, sc, .BoolOp op es _ => compB n G N sc op es
  | n + 1, G, N, sc, .IfExp c a b _ => (match compT n G N sc c, compE n G N sc a, compE n G N sc b with
    | some x, some y, some z => some (.ite x y z)
    | _, _, _ => none)
  | n + 1, G, N, sc, .Call (.Name f _) args [] _ => if glB sc f && okN f && !args.any starB && !args.isEmpty then
      (match G.funs.lookup f with
      | some k => (compX n G N sc args).map (.call k.1 k.2)
      | none => if G.bis.contains f then
          if f = "len" && (scrArg G N sc args).isSome then (scrArg G N sc args).map .slen else
          (match biOf f with
          | some g => (compA n G N sc args).map (.bi g)
          | none => if f = "list" then (compA n G N sc args).map .list
            else if f = "sorted" then (compA n G N sc args).map .sorted
            else if f = "isinstance" then compIs n G N sc args
            else none) else none) else none
  | n + 1, G, N, sc, .Subscript a b _ => compSub n G N sc a b
  | n + 1, G, N, sc, .ListComp elt gs scope _ => (match gs with
    | [⟨tg, iter, ifs, as⟩] => if as = 0 then compL n G N sc elt tg iter ifs scope else none
    | _ => none)
  | _ + 1, _, _, _, _ => none
def compSub : Nat → Sig → List Str → Scope → Expr → Expr → Option DE
  | 0, _, _, _, _, _ => none
  | n + 1, G, N, sc, a, .Slice lo hi st _ => (match st with
    | none => (match compE n G N sc a, compO n G N sc lo, compO n G N sc hi with
      | some x, some y, some z => some (.sl x y z)
      | _, _, _ => none)
    | some e => if isM1 e && lo.isNone && hi.isNone then (compE n G N sc a).map .rev else none)
  | n + 1, G, N, sc, a, b => (match scrArg G N sc [a] with
    | some i => (compE n G N sc b).map (.six i)
    | none => (match compE n G N sc a, compE n G N sc b with
      | some x, some y => some (.ix x y)
      | _, _ => none))
def compL : Nat → Sig → List Str → Scope → Expr → Expr → Expr → List Expr → Scope → Option DE
  | 0, _, _, _, _, _, _, _, _ => none
  | n + 1, G, N, sc, elt, tg, iter, ifs, scope => if blkC N sc scope (ownOf N scope) && !setB iter then
      (match compTg N (locB scope) tg, compI n G N sc tg iter, compC n G N (relS scope sc) ifs, compE n G N (relS scope sc) elt with
      | some t, some i, some c, some d => if t.slots.all fun k => ((ownOf N scope).map (·.2)).contains k then some (.lc d t i c ((ownOf N scope).map (·.2))) else none
      | _, _, _, _ => none) else none
def compIs : Nat → Sig → List Str → Scope → List Expr → Option DE
  | n + 1, G, N, sc, [a, .Name T _] => if glB sc T && okN T && G.bis.contains T then (match tyOf T, compE n G N sc a with
    | some t, some x => some (.isi t x)
    | _, _ => none) else none
  | _, _, _, _, _ => none
def compA : Nat → Sig → List Str → Scope → List Expr → Option DA
  | 0, _, _, _, _ => none
  | _ + 1, _, _, _, [] => some .nil
  | n + 1, G, N, sc, e :: es => if starB e then none else (match compE n G N sc e, compA n G N sc es with
    | some x, some y => some (.cons x y)
    | _, _ => none)
def compX : Nat → Sig → List Str → Scope → List Expr → Option DX
  | 0, _, _, _, _ => none
  | _ + 1, _, _, _, [] => some .nil
  | n + 1, G, N, sc, .Name x p :: es => (match slotOf N sc x, compX n G N sc es with
    | some i, some y => some (.s i y)
    | _, _ => none)
  | n + 1, G, N, sc, e :: es => if starB e then none else (match compE n G N sc e, compX n G N sc es with
    | some x, some y => some (.e x y)
    | _, _ => none)
def compO : Nat → Sig → List Str → Scope → Option Expr → Option DO
  | 0, _, _, _, _ => none
  | _ + 1, _, _, _, none => some .none
  | n + 1, G, N, sc, some e => (compE n G N sc e).map .some
def compB : Nat → Sig → List Str → Scope → BoolOp → List Expr → Option DE
  | 0, _, _, _, _, _ => none
  | _ + 1, _, _, _, _, [] => none
  | n + 1, G, N, sc, _, [a] => compE n G N sc a
  | n + 1, G, N, sc, op, a :: b :: r => (match compE n G N sc a, compB n G N sc op (b :: r) with
    | some x, some y => some (match op with
      | .And => .and x y
      | .Or => .or x y)
    | _, _ => none)
def compT : Nat → Sig → List Str → Scope → Expr → Option DT
  | 0, _, _, _, _ => none
  | n + 1, G, N, sc, .BoolOp op es _ => compW n G N sc op es
  | n + 1, G, N, sc, .UnaryOp .Not a _ => (compT n G N sc a).map .not
  | _ + 1, _, _, _, .IfExp .. => none
  | n + 1, G, N, sc, e => (compE n G N sc e).map .e
def compW : Nat → Sig → List Str → Scope → BoolOp → List Expr → Option DT
  | 0, _, _, _, _, _ => none
  | _ + 1, _, _, _, _, [] => none
  | n + 1, G, N, sc, _, [a] => compT n G N sc a
  | n + 1, G, N, sc, op, a :: b :: r => (match compT n G N sc a, compW n G N sc op (b :: r) with
    | some x, some y => some (match op with
      | .And => .and x y
      | .Or => .or x y)
    | _, _ => none)
def compC : Nat → Sig → List Str → Scope → List Expr → Option DT
  | 0, _, _, _, _ => none
  | _ + 1, _, _, _, [] => some .tt
  | n + 1, G, N, sc, [c] => compT n G N sc c
  | _ + 1, _, _, _, _ => none
def compI : Nat → Sig → List Str → Scope → Expr → Expr → Option DI
  | 0, _, _, _, _, _ => none
  | n + 1, G, N, sc, tg, .Call (.Name f p) args [] pos => if glB sc f && okN f && !args.any starB && G.bis.contains f && (f = "range" || f = "enumerate" || f = "zip") then compR n G N sc tg f args
      else (compE n G N sc (.Call (.Name f p) args [] pos)).map .seq
  | n + 1, G, N, sc, _, e => (compE n G N sc e).map .seq
def compR : Nat → Sig → List Str → Scope → Expr → Str → List Expr → Option DI
  | n + 1, G, N, sc, tg, f, [a] => if f = "range" then (compE n G N sc a).map .rng1 else (match tg with
    | .Tuple .. => if f = "enumerate" then (compE n G N sc a).map .enum else none
    | _ => none)
  | n + 1, G, N, sc, tg, f, [a, b] => (match compE n G N sc a, compE n G N sc b with
    | some x, some y => if f = "range" then some (.rng2 x y) else (match tg with
      | .Tuple .. => if f = "zip" then some (.zip x y) else none
      | _ => none)
    | _, _ => none)
  | _, _, _, _, _, _, _ => none
end
end DP

end
section
set_option Elab.async false
set_option linter.all false
set_option maxRecDepth 100000
set_option autoImplicit false
set_option maxHeartbeats 4000000
namespace DP
open PySem PySem.Spec PyProof.Rows L2
/-! ### the reading is kept: expressions -/
structure Gd (G : Sig) (F : Nat → FW) (N : List Str) (sc : Scope) (X : Cx) : Prop where
  hN : X.N = N
  nd : N.Nodup
  hsc : X.env.scope = sc
  calm : X.calm = true
  un : X.A.units + 64 < cLine
  bis : ∀ b ∈ G.bis, X.mg b = none
  cst : ∀ x d, G.consts.lookup x = some d → ∃ v u, X.mg x = some u ∧ RelV v u ∧ ∀ H, Rp H v d
  fns : ∀ f id n, G.funs.lookup f = some (id, n) → ∃ k fa fd ps, ps.length = n ∧ FnOk X.prog X.w X.K X.mg X.base (L2.CX X.prog X.w) k fa fd ps (spOf X.K X.mg n (F id)) ∧ Room k X.A ∧ X.mg f = some (.ref fa) ∧ PySem.W.keepIn X.K (.ref fa) = true ∧ Binds X.K fd ps []
  exc : ∀ c ∈ G.excs, ∃ Ca, X.mg c = some (.ref Ca) ∧ PySem.W.excIn X.K Ca [.type "ValueError", .type "Exception", .type "BaseException", .type "object"] "ValueError.__new__" = true ∧ PySem.W.keepIn X.K (.ref Ca) = true ∧ PySem.W.subIn X.K (.ref Ca) (.type "BaseException") = some true ∧ PySem.W.typeIn X.K (.ref Ca) = some (.type "type")
section
variable {G : Sig} {F : Nat → FW} {N : List Str} {sc : Scope} {X : Cx}
theorem Gd.blk (g : Gd G F N sc X) (s : Shared) (H : Hp) (scope : Scope) (Ca : Addr) (cl : List (Str × Addr)) (fp : List Addr) : Gd G F N (relS scope sc) (X.blk s H scope (compEnvC scope cl Ca X.env) fp) where
  hN := g.hN
  nd := g.nd
  hsc := by
    have e : (compEnvC scope cl Ca X.env).scope = relS scope X.env.scope := rfl
    rw [← g.hsc]
    exact e
  calm := g.calm
  un := g.un
  bis := g.bis
  cst := g.cst
  fns := g.fns
  exc := g.exc
theorem okN_get {x : Str} (h : okN x = true) : (x == ("__debug__" : Str)) = false ∧ (x == ("__classdict__" : Str)) = false ∧ x ≠ "__name__" := by
  unfold okN at h
  simp only [Bool.and_eq_true, Bool.not_eq_true'] at h
  refine ⟨h.1.1, h.1.2, fun e => ?_⟩
  rw [e] at h
  exact absurd h.2 (by decide)
theorem slotOf_get {x : Str} {i : Nat} (g : Gd G F N sc X) (h : slotOf N sc x = some i) : X.N[i]? = some x ∧ Vis X.env.scope x ∧ (x == ("__debug__" : Str)) = false ∧ (x == ("__classdict__" : Str)) = false := by
  unfold slotOf at h
  split at h
  · rename_i q
    rw [Bool.and_eq_true] at q
    obtain ⟨h1, h2, _⟩ := okN_get q.2
    exact ⟨by rw [g.hN]; exact findIx_get h, by rw [g.hsc]; exact visB_ok q.1, h1, h2⟩
  · cases h
theorem Gd.call {C : Cfg} {E : Str → Prop} {f : Str} {k : Nat × Nat} (g : Gd G F N sc X) (hK : C.K = X.K) (tk : Takes X (wOf X.mg C E)) (h : G.funs.lookup f = some k) : CallOk X C f k.2 (F k.1) E := ⟨hK, tk, g.fns f k.1 k.2 h⟩
end
/-- targets -/
theorem tg_ok {C : Cfg} {X : Cx} {N : List Str} {st : Str → Bool} {tgE : Expr} {tg : Tg} (hN : X.N = N) (nd : N.Nodup) (hn : C.n = N.length) (hK : C.K = X.K) (hc : X.calm = true) (hst : ∀ x, st x = true → Loc X.env.scope x ∧ (X.fn x = true ∨ X.env.scope.names.lookup x = some .local)) (h : compTg N st tgE = some tg) : PG X tgE (upG C tg) := by
  have hn' : C.n = X.N.length := by rw [hN]; exact hn
  have nd' : X.N.Nodup := by rw [hN]; exact nd
  unfold compTg at h
  split at h
  · rename_i x p
    split at h
    · rename_i hx
      cases q : findIx N x with
      | none => rw [q] at h; cases h
      | some i =>
        rw [q] at h
        cases h
        exact pdg_one nd' hn' ⟨by rw [hN]; exact findIx_get q, (hst x hx).1, (hst x hx).2⟩
    · cases h
  · rename_i x p1 y p2 k p
    split at h
    · rename_i hx
      rw [Bool.and_eq_true] at hx
      split at h
      · rename_i i j q1 q2
        cases h
        exact pdg_two nd' hn' hK hc ⟨by rw [hN]; exact findIx_get q1, (hst x hx.1).1, (hst x hx.1).2⟩ ⟨by rw [hN]; exact findIx_get q2, (hst y hx.2).1, (hst y hx.2).2⟩
      · cases h
    · cases h
  · rename_i x p1 y p2 z p3 k p
    split at h
    · rename_i hx
      rw [Bool.and_eq_true, Bool.and_eq_true] at hx
      split at h
      · rename_i i j l q1 q2 q3
        cases h
        exact pdg_three nd' hn' hK hc ⟨by rw [hN]; exact findIx_get q1, (hst x hx.1.1).1, (hst x hx.1.1).2⟩ ⟨by rw [hN]; exact findIx_get q2, (hst y hx.1.2).1, (hst y hx.1.2).2⟩ ⟨by rw [hN]; exact findIx_get q3, (hst z hx.2).1, (hst z hx.2).2⟩
      · cases h
    · cases h
  · cases h
theorem folded_plain {e : Expr} {env : Env} (h : setB e = false) : ∀ x, foldedSetIterable e env x = pure x := fun x => by
  cases e <;> first | rfl | (cases h)
structure SoundAt (G : Sig) (F : Nat → FW) (n : Nat) : Prop where
  e : ∀ N sc e d, compE n G N sc e = some d → ∀ (X : Cx) (C : Cfg) (E : Str → Prop), Gd G F N sc X → C.n = N.length → C.K = X.K → Takes X (wOf X.mg C E) → PD X C e (wpE F d E)
  a : ∀ N sc es d, compA n G N sc es = some d → ∀ (X : Cx) (C : Cfg) (E : Str → Prop), Gd G F N sc X → C.n = N.length → C.K = X.K → Takes X (wOf X.mg C E) → PDA X C es (wpA F d E)
  x : ∀ N sc es d, compX n G N sc es = some d → ∀ (X : Cx) (C : Cfg) (E : Str → Prop), Gd G F N sc X → C.n = N.length → C.K = X.K → Takes X (wOf X.mg C E) → PDX X C es (wpX F d E)
  o : ∀ N sc e d, compO n G N sc e = some d → ∀ (X : Cx) (C : Cfg) (E : Str → Prop), Gd G F N sc X → C.n = N.length → C.K = X.K → Takes X (wOf X.mg C E) → PDO X C e (wpO F d E)
  t : ∀ N sc e d, compT n G N sc e = some d → ∀ (X : Cx) (C : Cfg) (E : Str → Prop), Gd G F N sc X → C.n = N.length → C.K = X.K → Takes X (wOf X.mg C E) → PDT X C e (wpT F d E)
  b : ∀ N sc op es d, compB n G N sc op es = some d → ∀ (X : Cx) (C : Cfg) (E : Str → Prop) (pos : Pos), Gd G F N sc X → C.n = N.length → C.K = X.K → Takes X (wOf X.mg C E) → PD X C (.BoolOp op es pos) (wpE F d E)
  w : ∀ N sc op es d, compW n G N sc op es = some d → ∀ (X : Cx) (C : Cfg) (E : Str → Prop) (pos : Pos), Gd G F N sc X → C.n = N.length → C.K = X.K → Takes X (wOf X.mg C E) → PDW X C (.BoolOp op es pos) (wpT F d E)
  c : ∀ N sc es d, compC n G N sc es = some d → ∀ (X : Cx) (C : Cfg) (E : Str → Prop), Gd G F N sc X → C.n = N.length → C.K = X.K → Takes X (wOf X.mg C E) → PTs X es (upT C (wpT F d E))
  i : ∀ N sc tg e d, compI n G N sc tg e = some d → ∀ (X : Cx) (C : Cfg) (E : Str → Prop), Gd G F N sc X → C.n = N.length → C.K = X.K → Takes X (wOf X.mg C E) → PDI X C tg e (wpI F d E)
  l : ∀ N sc elt tg iter ifs scope d, compL n G N sc elt tg iter ifs scope = some d → ∀ (X : Cx) (C : Cfg) (E : Str → Prop), Gd G F N sc X → C.n = N.length → C.K = X.K → Takes X (wOf X.mg C E) →
    ∃ elt' tg' it' cd' own, d = .lc elt' tg' it' cd' (own.map (·.2)) ∧ LcOk X C elt tg iter ifs scope own tg' (wpI F it' E) (wpT F cd' fun _ => False) (wpE F elt' fun _ => False)
  r : ∀ N sc tg f es d, compR n G N sc tg f es = some d → ∀ (X : Cx) (C : Cfg) (E : Str → Prop) (p pos : Pos), Gd G F N sc X → C.n = N.length → C.K = X.K → Takes X (wOf X.mg C E) → (f = "range" ∨ f = "enumerate" ∨ f = "zip") → es.any starB = false → X.mg f = none → Gl X f → PDI X C tg (.Call (.Name f p) es [] pos) (wpI F d E)
  u : ∀ N sc a b d, compSub n G N sc a b = some d → ∀ (X : Cx) (C : Cfg) (E : Str → Prop) (pos : Pos), Gd G F N sc X → C.n = N.length → C.K = X.K → Takes X (wOf X.mg C E) → PD X C (.Subscript a b pos) (wpE F d E)
  k : ∀ N sc a os bs p d, compE n G N sc (.Compare a os bs p) = some d → ∀ (X : Cx) (C : Cfg) (E : Str → Prop), Gd G F N sc X → C.n = N.length → C.K = X.K → Takes X (wOf X.mg C E) → PDT X C (.Compare a os bs p) (eB (wpE F d E))
  is : ∀ N sc es d, compIs n G N sc es = some d → ∀ (X : Cx) (C : Cfg) (E : Str → Prop) (p pos : Pos), Gd G F N sc X → C.n = N.length → C.K = X.K → Takes X (wOf X.mg C E) → X.mg "isinstance" = none → Gl X "isinstance" → PD X C (.Call (.Name "isinstance" p) es [] pos) (wpE F d E)
theorem takesF {X : Cx} {mg : Str → Option Value} {C : Cfg} : Takes X (wOf mg C fun _ => False) := takes0.imp fun _ _ _ _ h => by
  obtain ⟨_, _, _, _, _, _, z⟩ := h
  exact z
theorem pair2 {α β : Type} {x : Option α} {y : Option β} {γ : Type} {f : α → β → Option γ} {z : γ} (h : (match x, y with
    | some a, some b => f a b
    | _, _ => none) = some z) : ∃ a b, x = some a ∧ y = some b ∧ f a b = some z := by
  cases x with
  | none => cases h
  | some a =>
    cases y with
    | none => cases h
    | some b => exact ⟨a, b, rfl, rfl, h⟩
theorem map1 {α γ : Type} {x : Option α} {f : α → γ} {z : γ} (h : x.map f = some z) : ∃ a, x = some a ∧ z = f a := by
  cases x with
  | none => cases h
  | some a => exact ⟨a, rfl, (Option.some.inj h).symm⟩
theorem PD_imp {X : Cx} {C : Cfg} {e : Expr} {t u : TD} (h : PD X C e t) (q : ∀ r Q, u r Q → t r Q) : PD X C e u := PE_imp h fun σ H Q ⟨r, Q', R, w, k⟩ => ⟨r, Q', R, q _ _ w, k⟩
theorem PDI_imp {X : Cx} {C : Cfg} {tg e : Expr} {t u : TID} (h : PDI X C tg e t) (q : ∀ r Q, u r Q → t r Q) : PDI X C tg e u := PI_imp h fun σ H Q ⟨r, Q', R, w, k⟩ => ⟨r, Q', R, q _ _ w, k⟩
end DP

end
section
set_option Elab.async false
set_option linter.all false
set_option maxRecDepth 100000
set_option autoImplicit false
set_option maxHeartbeats 8000000
namespace DP
open PySem PySem.Spec PyProof.Rows L2
section
variable {G : Sig} {F : Nat → FW} {n : Nat}
theorem contains_mem {l : List Str} {x : Str} (h : l.contains x = true) : x ∈ l := List.contains_iff_mem.mp h
theorem step_a (S : SoundAt G F n) : ∀ N sc es d, compA (n + 1) G N sc es = some d → ∀ (X : Cx) (C : Cfg) (E : Str → Prop), Gd G F N sc X → C.n = N.length → C.K = X.K → Takes X (wOf X.mg C E) → PDA X C es (wpA F d E) := by
  intro N sc es d h X C E g hn hK tk
  cases es with
  | nil =>
    simp only [compA] at h
    cases h
    exact pda_nil
  | cons e es =>
    simp only [compA] at h
    split at h
    · cases h
    · rename_i hs
      split at h
      · rename_i x y h1 h2
        cases h
        exact pda_cons (S.e _ _ _ _ h1 X C E g hn hK tk) (S.a _ _ _ _ h2 X C E g hn hK tk) (star_one (by simpa using hs))
      · cases h
theorem step_x (S : SoundAt G F n) : ∀ N sc es d, compX (n + 1) G N sc es = some d → ∀ (X : Cx) (C : Cfg) (E : Str → Prop), Gd G F N sc X → C.n = N.length → C.K = X.K → Takes X (wOf X.mg C E) → PDX X C es (wpX F d E) := by
  intro N sc es d h X C E g hn hK tk
  unfold compX at h
  split at h
  · cases h
  · cases h
    exact pdx_nil
  · rename_i hm
    cases hm
    split at h
    · rename_i i y h1 h2
      cases h
      obtain ⟨q1, q2, q3, q4⟩ := slotOf_get g h1
      exact pdx_s i q1 q2 q3 q4 (S.x _ _ _ _ h2 X C E g hn hK tk) (star_one rfl)
    · cases h
  · rename_i hm
    cases hm
    split at h
    · cases h
    · rename_i hs
      split at h
      · rename_i x y h1 h2
        cases h
        exact pdx_e (S.e _ _ _ _ h1 X C E g hn hK tk) (S.x _ _ _ _ h2 X C E g hn hK tk) (star_one (by simpa using hs))
      · cases h
theorem step_o (S : SoundAt G F n) : ∀ N sc e d, compO (n + 1) G N sc e = some d → ∀ (X : Cx) (C : Cfg) (E : Str → Prop), Gd G F N sc X → C.n = N.length → C.K = X.K → Takes X (wOf X.mg C E) → PDO X C e (wpO F d E) := by
  intro N sc e d h X C E g hn hK tk
  cases e with
  | none =>
    simp only [compO] at h
    cases h
    exact pdo_none
  | some e =>
    simp only [compO] at h
    obtain ⟨x, h1, rfl⟩ := map1 h
    exact pdoB_some (S.e _ _ _ _ h1 X C E g hn hK tk)
theorem step_b (S : SoundAt G F n) : ∀ N sc op es d, compB (n + 1) G N sc op es = some d → ∀ (X : Cx) (C : Cfg) (E : Str → Prop) (pos : Pos), Gd G F N sc X → C.n = N.length → C.K = X.K → Takes X (wOf X.mg C E) → PD X C (.BoolOp op es pos) (wpE F d E) := by
  intro N sc op es d h X C E pos g hn hK tk
  cases es with
  | nil => simp only [compB] at h; cases h
  | cons a es =>
    cases es with
    | nil =>
      simp only [compB] at h
      exact pd_one (S.e _ _ _ _ h X C E g hn hK tk)
    | cons b r =>
      simp only [compB] at h
      split at h
      · rename_i x y h1 h2
        cases op with
        | And =>
          cases h
          exact pdB_and (S.e _ _ _ _ h1 X C E g hn hK tk) (S.b _ _ _ _ _ h2 X C E pos g hn hK tk)
        | Or =>
          cases h
          exact pdB_or (S.e _ _ _ _ h1 X C E g hn hK tk) (S.b _ _ _ _ _ h2 X C E pos g hn hK tk)
      · cases h
theorem step_w (S : SoundAt G F n) : ∀ N sc op es d, compW (n + 1) G N sc op es = some d → ∀ (X : Cx) (C : Cfg) (E : Str → Prop) (pos : Pos), Gd G F N sc X → C.n = N.length → C.K = X.K → Takes X (wOf X.mg C E) → PDW X C (.BoolOp op es pos) (wpT F d E) := by
  intro N sc op es d h X C E pos g hn hK tk
  cases es with
  | nil => simp only [compW] at h; cases h
  | cons a es =>
    cases es with
    | nil =>
      simp only [compW] at h
      cases op with
      | And => exact pdw_and1 (S.t _ _ _ _ h X C E g hn hK tk)
      | Or => exact pdw_or1 (S.t _ _ _ _ h X C E g hn hK tk)
    | cons b r =>
      simp only [compW] at h
      split at h
      · rename_i x y h1 h2
        cases op with
        | And =>
          cases h
          exact pdw_and (S.t _ _ _ _ h1 X C E g hn hK tk) (S.w _ _ _ _ _ h2 X C E pos g hn hK tk)
        | Or =>
          cases h
          exact pdw_or (S.t _ _ _ _ h1 X C E g hn hK tk) (S.w _ _ _ _ _ h2 X C E pos g hn hK tk)
      · cases h
theorem step_c (S : SoundAt G F n) : ∀ N sc es d, compC (n + 1) G N sc es = some d → ∀ (X : Cx) (C : Cfg) (E : Str → Prop), Gd G F N sc X → C.n = N.length → C.K = X.K → Takes X (wOf X.mg C E) → PTs X es (upT C (wpT F d E)) := by
  intro N sc es d h X C E g hn hK tk
  cases es with
  | nil =>
    simp only [compC] at h
    cases h
    exact ⟨fun pins s σ H Q I ⟨r, Q', R, q, k⟩ => pts_nil.run pins s σ H Q I (k true H (Gr.refl R) q)⟩
  | cons c es =>
    cases es with
    | nil =>
      simp only [compC] at h
      exact pts_one (S.t _ _ _ _ h X C E g hn hK tk)
    | cons _ _ => simp only [compC] at h; cases h
/-- a comparison as a test -/
theorem cmp_test (S : SoundAt G F n) {N : List Str} {sc : Scope} {a : Expr} {os : List CmpOp} {bs : List Expr} {p : Pos} {x : DE} (h : compE (n + 1) G N sc (.Compare a os bs p) = some x) (X : Cx) (C : Cfg) (E : Str → Prop) (g : Gd G F N sc X) (hn : C.n = N.length) (hK : C.K = X.K) (tk : Takes X (wOf X.mg C E)) : PDT X C (.Compare a os bs p) (eB (wpE F x E)) := by
  match os, bs, h with
  | [o], [b], h =>
    simp only [compE] at h
    split at h
    · cases h
    · rename_i hs
      split at h
      · rename_i x y h1 h2
        cases h
        exact ptB_cmp (cmp_ok g.un _) (S.e _ _ _ _ h1 X C E g hn hK tk) (S.e _ _ _ _ h2 X C E g hn hK tk) (set_marks (by simpa using hs))
      · cases h
  | [o, o'], [b, c], h =>
    simp only [compE] at h
    split at h
    · cases h
    · rename_i hs
      split at h
      · rename_i x y z h1 h2 h3
        cases h
        exact ptB_chain (cmp_ok g.un _) (cmp_ok g.un _) (S.e _ _ _ _ h1 X C E g hn hK tk) (S.e _ _ _ _ h2 X C E g hn hK tk) (S.e _ _ _ _ h3 X C E g hn hK tk) (set_marks (by simpa using hs))
      · cases h
  | [], _, h => simp [compE] at h
  | [_], [], h => simp [compE] at h
  | [_], _ :: _ :: _, h => simp [compE] at h
  | [_, _], [], h => simp [compE] at h
  | [_, _], [_], h => simp [compE] at h
  | [_, _], _ :: _ :: _ :: _, h => simp [compE] at h
  | _ :: _ :: _ :: _, _, h => simp [compE] at h
end
end DP

end
section
set_option Elab.async false
set_option linter.all false
set_option maxRecDepth 100000
set_option autoImplicit false
set_option maxHeartbeats 8000000
namespace DP
open PySem PySem.Spec PyProof.Rows L2
section
variable {G : Sig} {F : Nat → FW} {n : Nat}
def plainT : Expr → Bool
  | .BoolOp .. => false
  | .UnaryOp .Not _ _ => false
  | .IfExp .. => false
  | .Compare .. => false
  | _ => true
theorem plainT_is {e : Expr} {env : Env} (h : plainT e = true) : ∀ whole, isTrue e env whole = (do let v ← whole; standAt e.pos; holding [v] (truthy v)) := fun whole => by
  cases e with
  | UnaryOp op a p => cases op <;> first | rfl | (cases h)
  | _ => first | rfl | (cases h)
theorem step_t (S : SoundAt G F n) : ∀ N sc e d, compT (n + 1) G N sc e = some d → ∀ (X : Cx) (C : Cfg) (E : Str → Prop), Gd G F N sc X → C.n = N.length → C.K = X.K → Takes X (wOf X.mg C E) → PDT X C e (wpT F d E) := by
  intro N sc e d h X C E g hn hK tk
  by_cases hp : plainT e = true
  · have h' : (compE n G N sc e).map DT.e = some d := by
      rw [← h]
      cases e with
      | UnaryOp op a p => cases op <;> first | (simp only [compT]; done) | (cases hp; done)
      | _ => first | (simp only [compT]; done) | (cases hp; done)
    obtain ⟨x, h1, rfl⟩ := map1 h'
    exact ptB_of (S.e _ _ _ _ h1 X C E g hn hK tk) (plainT_is hp)
  · cases e with
    | BoolOp op es p =>
      simp only [compT] at h
      exact (S.w _ _ _ _ _ h X C E p g hn hK tk).t
    | UnaryOp op a p =>
      cases op with
      | Not =>
        simp only [compT] at h
        obtain ⟨x, h1, rfl⟩ := map1 h
        exact pdt_not (S.t _ _ _ _ h1 X C E g hn hK tk)
      | _ => exact absurd rfl hp
    | IfExp => simp only [compT] at h; cases h
    | Compare a os bs p =>
      simp only [compT] at h
      obtain ⟨x, h1, rfl⟩ := map1 h
      exact S.k _ _ _ _ _ _ _ h1 X C E g hn hK tk
    | _ => exact absurd rfl hp
theorem step_r (S : SoundAt G F n) : ∀ N sc tg f es d, compR (n + 1) G N sc tg f es = some d → ∀ (X : Cx) (C : Cfg) (E : Str → Prop) (p pos : Pos), Gd G F N sc X → C.n = N.length → C.K = X.K → Takes X (wOf X.mg C E) → (f = "range" ∨ f = "enumerate" ∨ f = "zip") → es.any starB = false → X.mg f = none → Gl X f → PDI X C tg (.Call (.Name f p) es [] pos) (wpI F d E) := by
  intro N sc tg f es d h X C E p pos g hn hK tk hf hs hm hg
  cases es with
  | nil => simp only [compR] at h; cases h
  | cons a es =>
    cases es with
    | nil =>
      have s1 : starB a = false := by simpa using hs
      simp only [compR] at h
      split at h
      · rename_i e
        subst e
        obtain ⟨x, h1, rfl⟩ := map1 h
        exact pdi_range1 hm hg (pda_cons (S.e _ _ _ _ h1 X C E g hn hK tk) pda_nil (star_one s1)) (star_one s1)
      · split at h
        · split at h
          · rename_i e
            subst e
            obtain ⟨x, h1, rfl⟩ := map1 h
            exact pdi_enum hm hg (pda_cons (S.e _ _ _ _ h1 X C E g hn hK tk) pda_nil (star_one s1)) (star_one s1)
          · cases h
        · cases h
    | cons b es =>
      cases es with
      | nil =>
        have s1 : starB a = false ∧ starB b = false := by simpa using hs
        simp only [compR] at h
        split at h
        · rename_i x y h1 h2
          have pa := pda_cons (S.e _ _ _ _ h1 X C E g hn hK tk) (pda_cons (S.e _ _ _ _ h2 X C E g hn hK tk) pda_nil (star_one s1.2)) (star_one s1.1)
          split at h
          · rename_i e
            subst e
            cases h
            refine pdi_range2 hm hg pa ?_ (star_one s1.2)
            rw [star_one s1.1, star_one s1.2] <;> rfl
          · split at h
            · split at h
              · rename_i e
                subst e
                cases h
                refine pdi_zip hm hg pa (star_one s1.1) ?_
                rw [star_one s1.2]
                rfl
              · cases h
            · cases h
        · cases h
      | cons _ _ => simp only [compR] at h; cases h
theorem step_i (S : SoundAt G F n) : ∀ N sc tg e d, compI (n + 1) G N sc tg e = some d → ∀ (X : Cx) (C : Cfg) (E : Str → Prop), Gd G F N sc X → C.n = N.length → C.K = X.K → Takes X (wOf X.mg C E) → PDI X C tg e (wpI F d E) := by
  intro N sc tg e d h X C E g hn hK tk
  unfold compI at h
  split at h
  · cases h
  · rename_i hm
    cases hm
    split at h
    · rename_i hc
      simp only [Bool.and_eq_true, Bool.or_eq_true, Bool.not_eq_true', decide_eq_true_eq] at hc
      obtain ⟨⟨⟨⟨h1, h2⟩, h3⟩, h4⟩, h5⟩ := hc
      refine S.r _ _ _ _ _ _ h X C E _ _ g hn hK tk ?_ h3 (g.bis _ (contains_mem h4)) (glB_ok g.hsc h1)
      rcases h5 with (h5 | h5) | h5
      · exact .inl h5
      · exact .inr (.inl h5)
      · exact .inr (.inr h5)
    · obtain ⟨x, h1, rfl⟩ := map1 h
      exact pdi_seq (S.e _ _ _ _ h1 X C E g hn hK tk)
  · rename_i hq _
    cases hq
    obtain ⟨x, h1, rfl⟩ := map1 h
    exact pdi_seq (S.e _ _ _ _ h1 X C E g hn hK tk)
theorem comp_star {m : Nat} {G : Sig} {N : List Str} {sc : Scope} {e : Expr} {d : DE} (he : compE m G N sc e = some d) : starB e = false := by
  cases e with
  | Starred => cases m <;> simp [compE] at he
  | _ => rfl
theorem step_is (S : SoundAt G F n) : ∀ N sc es d, compIs (n + 1) G N sc es = some d → ∀ (X : Cx) (C : Cfg) (E : Str → Prop) (p pos : Pos), Gd G F N sc X → C.n = N.length → C.K = X.K → Takes X (wOf X.mg C E) → X.mg "isinstance" = none → Gl X "isinstance" → PD X C (.Call (.Name "isinstance" p) es [] pos) (wpE F d E) := by
  intro N sc es d h X C E p pos g hn hK tk hm hg
  unfold compIs at h
  split at h
  · rename_i hq
    cases hq
    split at h
    · rename_i hc
      simp only [Bool.and_eq_true] at hc
      obtain ⟨⟨h1, h2⟩, h3⟩ := hc
      split at h
      · rename_i t x q1 q2
        cases h
        obtain ⟨hb, hT⟩ := tyOf_ok q1
        obtain ⟨n1, n2, n3⟩ := okN_get h2
        exact pd_isi hm (g.bis _ (contains_mem h3)) hb (S.e _ _ _ _ q2 X C E g hn hK tk) hT hg (glB_ok g.hsc h1) n3 n1 (star_one (comp_star q2)) (by rfl) (by rfl)
      · cases h
    · cases h
  · cases h
theorem step_l (S : SoundAt G F n) : ∀ N sc elt tg iter ifs scope d, compL (n + 1) G N sc elt tg iter ifs scope = some d → ∀ (X : Cx) (C : Cfg) (E : Str → Prop), Gd G F N sc X → C.n = N.length → C.K = X.K → Takes X (wOf X.mg C E) →
    ∃ elt' tg' it' cd' own, d = .lc elt' tg' it' cd' (own.map (·.2)) ∧ LcOk X C elt tg iter ifs scope own tg' (wpI F it' E) (wpT F cd' fun _ => False) (wpE F elt' fun _ => False) := by
  intro N sc elt tg iter ifs scope d h X C E g hn hK tk
  simp only [compL] at h
  split at h
  · rename_i hc
    rw [Bool.and_eq_true, Bool.not_eq_true'] at hc
    split at h
    · rename_i t i c d' h1 h2 h3 h4
      split at h
      · rename_i hs
        cases h
        refine ⟨d', t, i, c, ownOf N scope, rfl, g.calm, by rw [g.hN]; exact g.nd, fun k hk => ?_, S.i _ _ _ _ _ h2 X C E g hn hK tk, by rw [g.hN, g.hsc]; exact blkOk_by hc.1, fun s H Ca cl fp C2 e1 e2 => ?_, fun s H Ca cl fp C2 e1 e2 => ?_, fun s H Ca cl fp C2 e1 e2 => ?_, folded_plain hc.2⟩
        · have q := List.all_eq_true.mp hs k hk
          exact List.contains_iff_mem.mp q
        · refine tg_ok (N := N) (st := locB scope) g.hN g.nd (by rw [e1]; exact hn) (by rw [e2]; exact hK) g.calm (fun x hx => ?_) h1
          have q := locB_ok hx
          have keep : ∀ {k : NameKind}, k ≠ .free → scope.names.lookup x = some k → (compEnvC scope cl Ca X.env).scope.names.lookup x = some k := fun {k} hk e => lookup_relS_keep (sc := X.env.scope) hk e
          rcases q with q | q
          · exact ⟨.inl (keep (by decide) q), .inr (keep (by decide) q)⟩
          · refine ⟨.inr (keep (by decide) q), .inl ?_⟩
            show (scope.names.lookup x == some .cell) = true
            rw [q]
            rfl
        · exact S.c _ _ _ _ h3 _ C2 _ (g.blk s H scope Ca cl fp) (by rw [e1]; exact hn) (by rw [e2]; exact hK) takesF
        · exact S.e _ _ _ _ h4 _ C2 _ (g.blk s H scope Ca cl fp) (by rw [e1]; exact hn) (by rw [e2]; exact hK) takesF
      · cases h
    · cases h
  · cases h
end
end DP

end
section
set_option Elab.async false
set_option linter.all false
set_option maxRecDepth 100000
set_option autoImplicit false
set_option maxHeartbeats 8000000
namespace DP
open PySem PySem.Spec PyProof.Rows L2
section
variable {G : Sig} {F : Nat → FW} {n : Nat}
theorem step_call (S : SoundAt G F n) {N : List Str} {sc : Scope} {f : Str} {args : List Expr} {p pos : Pos} {d : DE} (h : compE (n + 1) G N sc (.Call (.Name f p) args [] pos) = some d) (X : Cx) (C : Cfg) (E : Str → Prop) (g : Gd G F N sc X) (hn : C.n = N.length) (hK : C.K = X.K) (tk : Takes X (wOf X.mg C E)) : PD X C (.Call (.Name f p) args [] pos) (wpE F d E) := by
  simp only [compE] at h
  split at h
  · rename_i hc
    simp only [Bool.and_eq_true, Bool.not_eq_true'] at hc
    obtain ⟨⟨⟨h1, h2⟩, h3⟩, h4⟩ := hc
    have hg : Gl X f := glB_ok g.hsc h1
    obtain ⟨n1, n2, n3⟩ := okN_get h2
    cases args with
    | nil => cases h4
    | cons e es =>
      rw [List.any_cons, Bool.or_eq_false_iff] at h3
      have s1 : starEach (e :: es) X.env = (false, eval e X.env) :: starEach es X.env := star_one h3.1
      have s2 : (backTo pos (starEach es X.env)).any (·.1) = false := star_all h3.2
      split at h
      · rename_i k hk
        obtain ⟨x, q1, rfl⟩ := map1 h
        exact pd_callF (g.call hK tk hk) hg (S.x _ _ _ _ q1 X C E g hn hK tk) n1 s1 s2
      · split at h
        · rename_i hb
          have hm := g.bis _ (contains_mem hb)
          split at h
          · rename_i hl
            rw [Bool.and_eq_true, decide_eq_true_eq] at hl
            obtain ⟨ef, _⟩ := hl
            subst ef
            obtain ⟨i, q1, rfl⟩ := map1 h
            unfold scrArg at q1
            split at q1
            · rename_i y p2 hq
              split at q1
              · obtain ⟨q1, q2, q3, q4⟩ := slotOf_get g q1
                cases hq
                exact pd_slen i hK hm hg q1 q2 q3 q4
              · cases q1
            · cases q1
          split at h
          · rename_i b hbi
            obtain ⟨x, q1, rfl⟩ := map1 h
            have eb := biOf_ok hbi
            subst eb
            exact bi_ok g.calm b hm hg (S.a _ _ _ _ q1 X C E g hn hK tk) s1 s2
          · split at h
            · rename_i ef
              subst ef
              obtain ⟨x, q1, rfl⟩ := map1 h
              exact (pfB_list hm hg (S.a _ _ _ _ q1 X C E g hn hK tk) s1 s2).d
            · split at h
              · rename_i ef
                subst ef
                obtain ⟨x, q1, rfl⟩ := map1 h
                exact (pfB_sorted g.un hm hg (S.a _ _ _ _ q1 X C E g hn hK tk) s1 s2).d
              · split at h
                · rename_i ef
                  subst ef
                  exact S.is _ _ _ _ h X C E p pos g hn hK tk hm hg
                · cases h
        · cases h
  · cases h
theorem step_u (S : SoundAt G F n) : ∀ N sc a b d, compSub (n + 1) G N sc a b = some d → ∀ (X : Cx) (C : Cfg) (E : Str → Prop) (pos : Pos), Gd G F N sc X → C.n = N.length → C.K = X.K → Takes X (wOf X.mg C E) → PD X C (.Subscript a b pos) (wpE F d E) := by
  intro N sc a b d h X C E pos g hn hK tk
  cases b with
  | Slice lo hi st p2 =>
    simp only [compSub] at h
    split at h
    · split at h
      · rename_i x y z h1 h2 h3
        cases h
        exact pd_slice (S.e _ _ _ _ h1 X C E g hn hK tk) (S.o _ _ _ _ h2 X C E g hn hK tk) (S.o _ _ _ _ h3 X C E g hn hK tk)
      · cases h
    · split at h
      · rename_i hc
        simp only [Bool.and_eq_true, Option.isNone_iff_eq_none] at hc
        obtain ⟨⟨h1, rfl⟩, rfl⟩ := hc
        obtain ⟨k, p1, p3, rfl⟩ := isM1_ok h1
        obtain ⟨x, q1, rfl⟩ := map1 h
        exact pd_rev (S.e _ _ _ _ q1 X C E g hn hK tk)
      · cases h
  | _ =>
    simp only [compSub] at h
    split at h
    · rename_i i hi
      obtain ⟨y, q1, rfl⟩ := map1 h
      unfold scrArg at hi
      split at hi
      · rename_i x p2 hq
        cases hq
        split at hi
        · obtain ⟨n1, n2, n3, n4⟩ := slotOf_get g hi
          exact pd_six i hK n1 n2 n3 n4 (S.e _ _ _ _ q1 X C E g hn hK tk) (slice_plain rfl)
        · cases hi
      · cases hi
    · split at h
      · rename_i x y h1 h2
        cases h
        exact pdB_ix (S.e _ _ _ _ h1 X C E g hn hK tk) (S.e _ _ _ _ h2 X C E g hn hK tk) (slice_plain rfl)
      · cases h
theorem step_e (S : SoundAt G F n) : ∀ N sc e d, compE (n + 1) G N sc e = some d → ∀ (X : Cx) (C : Cfg) (E : Str → Prop), Gd G F N sc X → C.n = N.length → C.K = X.K → Takes X (wOf X.mg C E) → PD X C e (wpE F d E) := by
  intro N sc e d h X C E g hn hK tk
  cases e with
  | Name x p =>
    simp only [compE] at h
    split at h
    · rename_i i hi
      cases h
      obtain ⟨q1, q2, q3, q4⟩ := slotOf_get g hi
      exact pd_var i q1 q2 q3 q4
    · split at h
      · rename_i hc
        rw [Bool.and_eq_true] at hc
        obtain ⟨y, q1, rfl⟩ := map1 h
        obtain ⟨v, u, m1, m2, m3⟩ := g.cst x y q1
        obtain ⟨n1, _, _⟩ := okN_get hc.2
        exact PE_imp (pe_glob (glB_ok g.hsc hc.1) m1 m2 n1) fun σ H Q ⟨r, Q', R, q, k⟩ => k _ H _ (Gr.refl R) (m3 _) q
      · cases h
  | Constant c j p =>
    cases c with
    | int i => simp only [compE] at h; cases h; exact pd_int
    | bool i => simp only [compE] at h; cases h; exact pd_bl
    | str i => simp only [compE] at h; cases h; exact pd_str
    | none => simp only [compE] at h; cases h; exact pd_non
    | _ => simp only [compE] at h; cases h
  | Tuple es k p =>
    simp only [compE] at h
    obtain ⟨x, q1, rfl⟩ := map1 h
    exact pd_tup (S.a _ _ _ _ q1 X C E g hn hK tk)
  | List es p =>
    simp only [compE] at h
    obtain ⟨x, q1, rfl⟩ := map1 h
    exact (pf_lst (S.a _ _ _ _ q1 X C E g hn hK tk)).d
  | Dict ks vs p =>
    cases ks with
    | nil =>
      cases vs with
      | nil => simp only [compE] at h; cases h; exact pd_dict0
      | cons _ _ => simp only [compE] at h; cases h
    | cons _ _ => simp only [compE] at h; cases h
  | BinOp a o b p =>
    simp only [compE] at h
    split at h
    · rename_i ho
      split at h
      · rename_i x y h1 h2
        cases h
        exact pd_op (bin_ok o (opOk_ok ho)) (S.e _ _ _ _ h1 X C E g hn hK tk) (S.e _ _ _ _ h2 X C E g hn hK tk)
      · cases h
    · cases h
  | UnaryOp o a p =>
    cases o with
    | USub =>
      simp only [compE] at h
      obtain ⟨x, q1, rfl⟩ := map1 h
      exact pdB_neg (S.e _ _ _ _ q1 X C E g hn hK tk)
    | Not =>
      simp only [compE] at h
      obtain ⟨x, q1, rfl⟩ := map1 h
      exact pdB_not (S.e _ _ _ _ q1 X C E g hn hK tk)
    | _ => simp only [compE] at h; cases h
  | Compare a os bs p =>
    cases os with
    | nil => simp [compE] at h
    | cons o os =>
      cases os with
      | nil =>
        cases bs with
        | nil => simp [compE] at h
        | cons b bs =>
          cases bs with
          | nil =>
            simp only [compE] at h
            split at h
            · cases h
            · rename_i hs
              split at h
              · rename_i x y h1 h2
                cases h
                exact pd_cmp (cmp_ok g.un _) (S.e _ _ _ _ h1 X C E g hn hK tk) (S.e _ _ _ _ h2 X C E g hn hK tk) (set_marks (by simpa using hs))
              · cases h
          | cons _ _ => simp [compE] at h
      | cons o' os =>
        cases os with
        | nil =>
          cases bs with
          | nil => simp [compE] at h
          | cons b bs =>
            cases bs with
            | nil => simp [compE] at h
            | cons c bs =>
              cases bs with
              | nil =>
                simp only [compE] at h
                split at h
                · cases h
                · rename_i hs
                  split at h
                  · rename_i x y z h1 h2 h3
                    cases h
                    exact pdB_chain (cmp_ok g.un _) (cmp_ok g.un _) (S.e _ _ _ _ h1 X C E g hn hK tk) (S.e _ _ _ _ h2 X C E g hn hK tk) (S.e _ _ _ _ h3 X C E g hn hK tk) (set_marks (by simpa using hs))
                  · cases h
              | cons _ _ => simp [compE] at h
        | cons _ _ => simp [compE] at h
  | BoolOp op es p =>
    simp only [compE] at h
    exact S.b _ _ _ _ _ h X C E p g hn hK tk
  | IfExp c a b p =>
    simp only [compE] at h
    split at h
    · rename_i x y z h1 h2 h3
      cases h
      exact pd_ifExp (S.t _ _ _ _ h1 X C E g hn hK tk) (S.e _ _ _ _ h2 X C E g hn hK tk) (S.e _ _ _ _ h3 X C E g hn hK tk)
    · cases h
  | Call fn args kws p =>
    cases fn with
    | Name f q =>
      cases kws with
      | nil => exact step_call S h X C E g hn hK tk
      | cons _ _ => simp only [compE] at h; cases h
    | _ => simp only [compE] at h; cases h
  | Subscript a b p =>
    simp only [compE] at h
    exact S.u _ _ _ _ _ h X C E p g hn hK tk
  | ListComp elt gens scope p =>
    simp only [compE] at h
    split at h
    · split at h
      · rename_i ha
        subst ha
        obtain ⟨e', t', i', c', own, rfl, ok⟩ := S.l _ _ _ _ _ _ _ _ h X C E g hn hK tk
        exact (pf_lc ok).d
      · cases h
    · cases h
  | _ => simp only [compE] at h; cases h
theorem sound (G : Sig) (F : Nat → FW) : ∀ n, SoundAt G F n
  | 0 => ⟨fun _ _ _ _ h => by simp [compE] at h, fun _ _ _ _ h => by simp [compA] at h, fun _ _ _ _ h => by simp [compX] at h, fun _ _ _ _ h => by simp [compO] at h, fun _ _ _ _ h => by simp [compT] at h, fun _ _ _ _ _ h => by simp [compB] at h, fun _ _ _ _ _ h => by simp [compW] at h, fun _ _ _ _ h => by simp [compC] at h,
    fun _ _ _ _ _ h => by simp [compI] at h, fun _ _ _ _ _ _ _ _ h => by simp [compL] at h, fun _ _ _ _ _ _ h => by simp [compR] at h, fun _ _ _ _ _ h => by simp [compSub] at h, fun _ _ _ _ _ _ _ h => by simp [compE] at h, fun _ _ _ _ h => by simp [compIs] at h⟩
  | n + 1 => by
    have S := sound G F n
    exact ⟨step_e S, step_a S, step_x S, step_o S, step_t S, step_b S, step_w S, step_c S, step_i S, step_l S, step_r S, step_u S, fun N sc a os bs p d h X C E g hn hK tk => cmp_test S h X C E g hn hK tk, step_is S⟩
end
end DP

end
section
set_option Elab.async false
set_option linter.all false
set_option maxRecDepth 100000
set_option autoImplicit false
set_option maxHeartbeats 8000000
namespace DP
open PySem PySem.Spec PyProof.Rows L2
/-! ### statements -/
mutual
inductive DS where
  | set (i : Nat) (e : DE)
  | setF (i : Nat) (e : DE)
  | setS (i : Nat) (f : Nat) (n : Nat) (a : DX)
  | unp (tg : Tg) (e : DE)
  | app (i : Nat) (e : DE)
  | ext (i : Nat) (e : DE)
  | ret (e : DE)
  | retF (e : DE)
  | retC (f : Nat) (n : Nat) (a : DX)
  | retO (i : Nat)
  | retN
  | ite (c : DT) (a b : DSs)
  | for_ (tg : Tg) (it : DI) (body : DSs)
  | while_ (c : DT) (body : DSs)
  | exp (e : DE)
  | raise (c : Str)
  | cont
  | pass
  | frz (is : List Nat) (s : DS)
inductive DSs where
  | nil
  | cons (s : DS) (r : DSs)
end
def sFrzs (is : List Nat) (t : TSD) : TSD := is.foldr sFrz t
def sUnp (tg : Tg) (te : TD) : TSD := fun D r => te r fun x => bindT tg x r D.nx
section
variable (F : Nat → FW)
mutual
def wpS : DS → (Str → Prop) → TSD
  | .set i e, E => sSet i (wpE F e E)
  | .setF i e, E => sSetF i (wpF F e E)
  | .setS i f n a, E => sSetS i n (F f) E (wpX F a E)
  | .unp tg e, E => sUnp tg (wpE F e E)
  | .app i e, E => sApp i (wpE F e E)
  | .ext i e, E => sExt i (wpE F e E)
  | .ret e, E => sRet (wpE F e E)
  | .retF e, E => sRetF (wpF F e E)
  | .retC f n a, E => sRetC n (F f) E (wpX F a E)
  | .retO i, _ => sRetO i
  | .retN, _ => sRetN
  | .ite c a b, E => sIf (wpT F c E) (wpSs a E) (wpSs b E)
  | .for_ tg it body, E => sFor tg (wpI F it E) (wpSs body E)
  | .while_ c body, E => sWhile (wpT F c E) (wpSs body E)
  | .exp e, E => sDrop (wpE F e E)
  | .raise c, E => sRaise E c
  | .cont, _ => sCont
  | .pass, _ => sNext
  | .frz is s, E => sFrzs is (wpS s E)
def wpSs : DSs → (Str → Prop) → TSD
  | .nil, _ => sNext
  | .cons s r, E => sSeq (wpS s E) (wpSs r E)
end
end
/-! ### from the model's syntax -/
structure Hint where
  own : List Str
  sts : List Str
mutual
def namesE : Nat → Expr → List Str
  | 0, _ => []
  | _ + 1, .Name x _ => [x]
  | n + 1, .Tuple es _ _ => namesEs n es
  | n + 1, .List es _ => namesEs n es
  | n + 1, .BinOp a _ b _ => namesE n a ++ namesE n b
  | n + 1, .UnaryOp _ a _ => namesE n a
  | n + 1, .Compare a _ bs _ => namesE n a ++ namesEs n bs
  | n + 1, .BoolOp _ es _ => namesEs n es
  | n + 1, .IfExp c a b _ => namesE n c ++ (namesE n a ++ namesE n b)
  | n + 1, .Call f args _ _ => namesE n f ++ namesEs n args
  | n + 1, .Attribute a _ _ => namesE n a
  | n + 1, .Subscript a b _ => namesE n a ++ namesE n b
  | n + 1, .Slice lo hi st _ => namesO n lo ++ (namesO n hi ++ namesO n st)
  | n + 1, .ListComp elt gs _ _ => namesE n elt ++ namesG n gs
  | _ + 1, _ => []
def namesEs : Nat → List Expr → List Str
  | 0, _ => []
  | _ + 1, [] => []
  | n + 1, e :: es => namesE n e ++ namesEs n es
def namesO : Nat → Option Expr → List Str
  | 0, _ => []
  | _ + 1, none => []
  | n + 1, some e => namesE n e
def namesG : Nat → List Comprehension → List Str
  | 0, _ => []
  | _ + 1, [] => []
  | n + 1, ⟨_, i, ifs, _⟩ :: gs => namesE n i ++ (namesEs n ifs ++ namesG n gs)
end
/-- the owned lists that an expression reads -/
def frzOf (h : Hint) (N : List Str) (e : Expr) : List Nat := ((namesE 30 e).filter fun x => h.own.contains x).eraseDups.filterMap (findIx N)
def withFrz (is : List Nat) (s : DS) : DS := match is with
  | [] => s
  | _ => .frz is s
def compF (n : Nat) (G : Sig) (N : List Str) (sc : Scope) : Expr → Option DE
  | .List es _ => (compA n G N sc es).map .lst
  | .ListComp elt gs scope _ => (match gs with
    | [⟨tg, iter, ifs, as⟩] => if as = 0 then compL n G N sc elt tg iter ifs scope else none
    | _ => none)
  | .Call (.Name f _) args [] _ => if glB sc f && okN f && !args.any starB && !args.isEmpty then
      (match G.funs.lookup f with
      | some k => (compX n G N sc args).map (.call k.1 k.2)
      | none => if G.bis.contains f then (if f = "list" then (compA n G N sc args).map .list else if f = "sorted" then (compA n G N sc args).map .sorted else none) else none) else none
  | _ => none
/-- a call of a def -/
def compCall (n : Nat) (G : Sig) (N : List Str) (sc : Scope) : Expr → Option (Nat × Nat × DX)
  | .Call (.Name f _) args [] _ => if glB sc f && okN f && !args.any starB && !args.isEmpty then
      (match G.funs.lookup f, compX n G N sc args with
      | some k, some a => some (k.1, k.2, a)
      | _, _ => none) else none
  | _ => none
def lcB : Expr → Bool
  | .ListComp .. => true
  | .SetComp .. => true
  | .DictComp .. => true
  | _ => false
def tupB' : Expr → Bool
  | .Tuple .. => true
  | _ => false
def compSet (n : Nat) (G : Sig) (N : List Str) (sc : Scope) (h : Hint) (x : Str) (e : Expr) : Option DS := if locB sc x && okN x then (match findIx N x with
  | some i => if h.sts.contains x then (compCall n G N sc e).map fun c => .setS i c.1 c.2.1 c.2.2
    else if h.own.contains x then (compF n G N sc e).map fun d => withFrz (frzOf h N e) (.setF i d)
    else (compE n G N sc e).map fun d => withFrz (frzOf h N e) (.set i d)
  | none => none) else none
def compRet (n : Nat) (G : Sig) (N : List Str) (sc : Scope) (h : Hint) (e : Expr) : Option DS := match e with
  | .Name x _ => if h.own.contains x then (slotOf N sc x).map .retO else (compE n G N sc e).map .ret
  | _ => (match compCall n G N sc e with
    | some c => some (withFrz (frzOf h N e) (.retC c.1 c.2.1 c.2.2))
    | none => (match compF n G N sc e with
      | some d => some (withFrz (frzOf h N e) (.retF d))
      | none => (compE n G N sc e).map fun d => withFrz (frzOf h N e) (.ret d)))
def compM (n : Nat) (G : Sig) (N : List Str) (sc : Scope) (h : Hint) (x : Str) (m : Str) (e : Expr) (ap cp : Pos) : Option DS := if starB e || !(ap.endLine == cp.line) then none else (match slotOf N sc x, compE n G N sc e with
  | some i, some d => if m = "append" then some (.app i d) else if m = "extend" then some (.ext i d) else none
  | _, _ => none)
def compP (n : Nat) (G : Sig) (N : List Str) (sc : Scope) (h : Hint) (x y : Str) (lx ly : Nat) (a b : Expr) : Option DS :=
  if locB sc x && locB sc y && !decide (x = y) && !starB a && !starB b && (!([a, b].all (constantsAlone 8)) || [a, b].all (foldedForSure 8)) then (match findIx N x, findIx N y, compE n G N sc a, compE n G N sc b with
    | some i, some j, some d, some d' => some (withFrz (frzOf h N a ++ frzOf h N b) (.unp (.two i j) (.tup (.cons d (.cons d' .nil)))))
    | _, _, _, _ => none) else none
def compU (n : Nat) (G : Sig) (N : List Str) (sc : Scope) (h : Hint) (ts : List Expr) (k : Nat) (p : Pos) (e : Expr) : Option DS := match e with
  | .Tuple [a, b] _ _ => (match ts with
    | [.Name x px, .Name y py] => compP n G N sc h x y px.line py.line a b
    | _ => none)
  | e => if tupB' e then none else (match compTg N (locB sc) (.Tuple ts k p), compE n G N sc e with
    | some t, some d => some (withFrz (frzOf h N e) (.unp t d))
    | _, _ => none)
mutual
def compS : Nat → Sig → List Str → Scope → Hint → Stmt → Option DS
  | 0, _, _, _, _, _ => none
  | n + 1, G, N, sc, h, .Assign [.Name x _] e _ => compSet n G N sc h x e
  | n + 1, G, N, sc, h, .Assign [.Tuple ts k p] e _ => compU n G N sc h ts k p e
  | n + 1, G, N, sc, h, .Expr (.Call (.Attribute (.Name x _) m ap) [e] [] cp) _ => compM n G N sc h x m e ap cp
  | _ + 1, _, _, _, _, .Expr (.Constant (.str _) _ _) _ => some .pass
  | n + 1, G, N, sc, h, .Expr e _ => if lcB e then none else (compE n G N sc e).map fun d => withFrz (frzOf h N e) (.exp d)
  | _ + 1, _, _, _, _, .Return none _ => some .retN
  | n + 1, G, N, sc, h, .Return (some e) _ => compRet n G N sc h e
  | n + 1, G, N, sc, h, .If c a b _ => (match compT n G N sc c, compSs n G N sc h a, compSs n G N sc h b with
    | some x, some y, some z => some (withFrz (frzOf h N c) (.ite x y z))
    | _, _, _ => none)
  | n + 1, G, N, sc, h, .For tg it body [] _ => if setB it then none else (match compTg N (locB sc) tg, compI n G N sc tg it, compSs n G N sc h body with
    | some x, some y, some z => some (withFrz (frzOf h N it) (.for_ x y z))
    | _, _, _ => none)
  | n + 1, G, N, sc, h, .While c body [] _ => (match compT n G N sc c, compSs n G N sc h body with
    | some x, some y => some (withFrz (frzOf h N c) (.while_ x y))
    | _, _ => none)
  | _ + 1, G, _, sc, _, .Raise (some (.Call (.Name c _) [.Constant (.str _) _ _] [] _)) none _ => if glB sc c && okN c && G.excs.contains c then some (.raise c) else none
  | _ + 1, _, _, _, _, .Pass _ => some .pass
  | _ + 1, _, _, _, _, .Continue _ => some .cont
  | _ + 1, _, _, _, _, _ => none
def compSs : Nat → Sig → List Str → Scope → Hint → List Stmt → Option DSs
  | 0, _, _, _, _, _ => none
  | _ + 1, _, _, _, _, [] => some .nil
  | n + 1, G, N, sc, h, s :: r => (match compS n G N sc h s, compSs n G N sc h r with
    | some x, some y => some (.cons x y)
    | _, _ => none)
end
/-! ### the reading is kept -/
section
variable {G : Sig} {F : Nat → FW} {n : Nat} {N : List Str} {sc : Scope} {X : Cx} {C : Cfg} {E : Str → Prop}
theorem frzs_ok {st : Stmt} {t : TSD} (h : PSD X C st t) : ∀ is : List Nat, PSD X C st (sFrzs is t)
  | [] => h
  | i :: is => psd_frz i (frzs_ok h is)
theorem withFrz_ok {st : Stmt} {s : DS} (is : List Nat) (h : PSD X C st (wpS F s E)) : PSD X C st (wpS F (withFrz is s) E) := by
  unfold withFrz
  split
  · exact h
  · exact frzs_ok h _
/-- what stands at a def's body besides -/
structure Top (X : Cx) : Prop where
  fn : ∀ x, X.fn x = true
  hp : PassesOwn (model X.prog X.w) X.A X.env X.xe
theorem soundF {e : Expr} {d : DE} (h : compF n G N sc e = some d) (g : Gd G F N sc X) (hn : C.n = N.length) (hK : C.K = X.K) (tk : Takes X (wOf X.mg C E)) : PF X C e (wpF F d E) := by
  have S := sound G F n
  cases e with
  | List es p =>
    simp only [compF] at h
    obtain ⟨x, q1, rfl⟩ := map1 h
    exact pf_lst (S.a _ _ _ _ q1 X C E g hn hK tk)
  | ListComp elt gs scope p =>
    simp only [compF] at h
    split at h
    · split at h
      · rename_i ha
        subst ha
        obtain ⟨e', t', i', c', own, rfl, ok⟩ := S.l _ _ _ _ _ _ _ _ h X C E g hn hK tk
        exact pf_lc ok
      · cases h
    · cases h
  | Call fn args kws p =>
    cases fn with
    | Name f q =>
      cases kws with
      | cons _ _ => simp only [compF] at h; cases h
      | nil =>
        simp only [compF] at h
        split at h
        · rename_i hc
          simp only [Bool.and_eq_true, Bool.not_eq_true'] at hc
          obtain ⟨⟨⟨h1, h2⟩, h3⟩, h4⟩ := hc
          have hg : Gl X f := glB_ok g.hsc h1
          obtain ⟨n1, n2, n3⟩ := okN_get h2
          cases args with
          | nil => cases h4
          | cons e es =>
            rw [List.any_cons, Bool.or_eq_false_iff] at h3
            have s1 : starEach (e :: es) X.env = (false, eval e X.env) :: starEach es X.env := star_one h3.1
            have s2 : (backTo p (starEach es X.env)).any (·.1) = false := star_all h3.2
            split at h
            · rename_i k hk
              obtain ⟨x, q1, rfl⟩ := map1 h
              exact pf_callF (g.call hK tk hk) hg (S.x _ _ _ _ q1 X C E g hn hK tk) n1 s1 s2
            · split at h
              · rename_i hb
                have hm := g.bis _ (contains_mem hb)
                split at h
                · rename_i ef
                  subst ef
                  obtain ⟨x, q1, rfl⟩ := map1 h
                  exact pfB_list hm hg (S.a _ _ _ _ q1 X C E g hn hK tk) s1 s2
                · split at h
                  · rename_i ef
                    subst ef
                    obtain ⟨x, q1, rfl⟩ := map1 h
                    exact pfB_sorted g.un hm hg (S.a _ _ _ _ q1 X C E g hn hK tk) s1 s2
                  · cases h
              · cases h
        · cases h
    | _ => simp only [compF] at h; cases h
  | _ => simp only [compF] at h; cases h
theorem swaps_plain {e : Expr} {t : Option Expr} {l : Nat} {env : Env} (h : lcB e = false) : swapsWith e t l env = pure false := by
  cases e <;> first | rfl | (cases h)
theorem swaps_lc {elt : Expr} {gs : List Comprehension} {scope : Scope} {pos py : Pos} {y : Str} {l : Nat} {env : Env} : swapsWith (.ListComp elt gs scope pos) (some (.Name y py)) l env = pure (env.blockKind == .function && env.kindOf y == some .local && py.line == pos.line && !(scope.names.any fun (n, k) => n == y && (k == .local || k == .cell))) := rfl
theorem sound_call {e : Expr} {c : Nat × Nat × DX} (h : compCall n G N sc e = some c) (g : Gd G F N sc X) (hn : C.n = N.length) (hK : C.K = X.K) (tk : Takes X (wOf X.mg C E)) :
    ∃ (f : Str) (p pos : Pos) (a : Expr) (as : List Expr), e = .Call (.Name f p) (a :: as) [] pos ∧ CallOk X C f c.2.1 (F c.1) E ∧ Gl X f ∧ PDX X C (a :: as) (wpX F c.2.2 E) ∧ (f == ("__debug__" : Str)) = false ∧ starEach (a :: as) X.env = (false, eval a X.env) :: starEach as X.env ∧ (backTo pos (starEach as X.env)).any (·.1) = false := by
  have S := sound G F n
  unfold compCall at h
  split at h
  · rename_i f p args pos
    split at h
    · rename_i hc
      simp only [Bool.and_eq_true, Bool.not_eq_true'] at hc
      obtain ⟨⟨⟨h1, h2⟩, h3⟩, h4⟩ := hc
      split at h
      · rename_i k a q1 q2
        cases h
        cases args with
        | nil => cases h4
        | cons e es =>
          rw [List.any_cons, Bool.or_eq_false_iff] at h3
          exact ⟨f, p, pos, e, es, rfl, g.call hK tk q1, glB_ok g.hsc h1, S.x _ _ _ _ q2 X C E g hn hK tk, (okN_get h2).1, star_one h3.1, star_all h3.2⟩
      · cases h
    · cases h
  · cases h
theorem sound_set {h : Hint} {x : Str} {e : Expr} {d : DS} {px pos : Pos} (hd : compSet n G N sc h x e = some d) (g : Gd G F N sc X) (tp : Top X) (hn : C.n = N.length) (hK : C.K = X.K) (tk : Takes X (wOf X.mg C E)) : PSD X C (.Assign [.Name x px] e pos) (wpS F d E) := by
  have S := sound G F n
  have nd : X.N.Nodup := by rw [g.hN]; exact g.nd
  have hn' : C.n = X.N.length := by rw [g.hN]; exact hn
  unfold compSet at hd
  split at hd
  · rename_i hl
    rw [Bool.and_eq_true] at hl
    have hx : Loc X.env.scope x := by rw [g.hsc]; exact locB_ok hl.1
    split at hd
    · rename_i i hi
      have hi' : X.N[i]? = some x := by rw [g.hN]; exact findIx_get hi
      split at hd
      · obtain ⟨c, q1, rfl⟩ := map1 hd
        obtain ⟨f, p, pos', a, as, rfl, co, hg, ha, n1, s1, s2⟩ := sound_call q1 g hn hK tk
        exact psd_setS i nd hn' hi' hx (.inl (tp.fn x)) co hg ha n1 s1 s2
      · split at hd
        · obtain ⟨d', q1, rfl⟩ := map1 hd
          refine withFrz_ok _ ?_
          have pf := soundF (F := F) (C := C) (E := E) q1 g hn hK tk
          by_cases hb : lcB e = false
          · exact psd_setF i nd hn' pf hi' hx (swaps_plain hb) (.inl (tp.fn x))
          · cases e with
            | ListComp elt gs scope p =>
              simp only [compF] at q1
              split at q1
              · split at q1
                · rename_i ha
                  subst ha
                  obtain ⟨e', t', i', c', own, rfl, ok⟩ := S.l _ _ _ _ _ _ _ _ q1 X C E g hn hK tk
                  rename_i tg iter ifs
                  cases hsw : (X.env.blockKind == .function && X.env.kindOf x == some .local && px.line == p.line && !(scope.names.any fun (n, k) => n == x && (k == .local || k == .cell))) with
                  | false => exact psd_setF i nd hn' pf hi' hx (by rw [swaps_lc, hsw]) (.inl (tp.fn x))
                  | true =>
                    have hs : swapsWith (.ListComp elt [⟨tg, iter, ifs, 0⟩] scope p) (some (.Name x px)) pos.line X.env = pure true := by rw [swaps_lc, hsw]
                    simp only [Bool.and_eq_true, beq_iff_eq] at hsw
                    exact psd_setLcF i hn' ok hi' hsw.1.1.2 hs
                · cases q1
              · cases q1
            | _ => first | exact absurd rfl hb | (simp only [compF] at q1; cases q1; done)
        · obtain ⟨d', q1, rfl⟩ := map1 hd
          refine withFrz_ok _ ?_
          have pe := S.e _ _ _ _ q1 X C E g hn hK tk
          by_cases hb : lcB e = false
          · exact psd_set i nd hn' pe hi' hx (swaps_plain hb) (.inl (tp.fn x))
          · cases e with
            | ListComp elt gs scope p =>
              cases n with
              | zero => simp only [compE] at q1; cases q1
              | succ m =>
              have S' := sound G F m
              simp only [compE] at q1
              split at q1
              · split at q1
                · rename_i ha
                  subst ha
                  obtain ⟨e', t', i', c', own, rfl, ok⟩ := S'.l _ _ _ _ _ _ _ _ q1 X C E g hn hK tk
                  rename_i tg iter ifs
                  cases hsw : (X.env.blockKind == .function && X.env.kindOf x == some .local && px.line == p.line && !(scope.names.any fun (n, k) => n == x && (k == .local || k == .cell))) with
                  | false => exact psd_set i nd hn' pe hi' hx (by rw [swaps_lc, hsw]) (.inl (tp.fn x))
                  | true =>
                    have hs : swapsWith (.ListComp elt [⟨tg, iter, ifs, 0⟩] scope p) (some (.Name x px)) pos.line X.env = pure true := by rw [swaps_lc, hsw]
                    simp only [Bool.and_eq_true, beq_iff_eq] at hsw
                    exact psd_setLc i hn' ok hi' hsw.1.1.2 hs
                · cases q1
              · cases q1
            | SetComp => cases n <;> (simp only [compE] at q1; cases q1)
            | DictComp => cases n <;> (simp only [compE] at q1; cases q1)
            | _ => exact absurd rfl hb
    · cases hd
  · cases hd
theorem sound_ret {h : Hint} {e : Expr} {d : DS} {pos : Pos} (hd : compRet n G N sc h e = some d) (g : Gd G F N sc X) (hn : C.n = N.length) (hK : C.K = X.K) (tk : Takes X (wOf X.mg C E)) : PSD X C (.Return (some e) pos) (wpS F d E) := by
  have S := sound G F n
  unfold compRet at hd
  split at hd
  · split at hd
    · obtain ⟨i, q1, rfl⟩ := map1 hd
      obtain ⟨q1, q2, q3, q4⟩ := slotOf_get g q1
      exact psd_retO i q1 q2 q3 q4
    · obtain ⟨d', q1, rfl⟩ := map1 hd
      exact psd_ret (S.e _ _ _ _ q1 X C E g hn hK tk)
  · split at hd
    · rename_i c q1
      cases hd
      obtain ⟨f, p, pos', a, as, rfl, co, hg, ha, n1, s1, s2⟩ := sound_call q1 g hn hK tk
      exact withFrz_ok _ (psd_retC co hg ha n1 s1 s2)
    · split at hd
      · rename_i d' q1
        cases hd
        exact withFrz_ok _ (psd_retF (soundF q1 g hn hK tk))
      · obtain ⟨d', q1, rfl⟩ := map1 hd
        exact withFrz_ok _ (psd_ret (S.e _ _ _ _ q1 X C E g hn hK tk))
theorem sound_m {h : Hint} {x m : Str} {e : Expr} {d : DS} {p apos cpos pos : Pos} (hd : compM n G N sc h x m e apos cpos = some d) (g : Gd G F N sc X) (hn : C.n = N.length) (hK : C.K = X.K) (tk : Takes X (wOf X.mg C E)) : PSD X C (.Expr (.Call (.Attribute (.Name x p) m apos) [e] [] cpos) pos) (wpS F d E) := by
  have S := sound G F n
  unfold compM at hd
  split at hd
  · cases hd
  · rename_i hs0
    rw [Bool.not_eq_true, Bool.or_eq_false_iff, Bool.not_eq_false'] at hs0
    obtain ⟨hs, hline⟩ := hs0
    split at hd
    · rename_i i d' q1 q2
      obtain ⟨n1, n2, n3, n4⟩ := slotOf_get g q1
      have st : starEach [e] X.env = (false, eval e X.env) :: starEach [] X.env := star_one hs
      have few : ((((backTo cpos (starEach [e] X.env)).all fun x => !x.1) && (backToKw cpos (keywordEach [] X.env)).all fun x => x.1.isSome) && decide (([e].length + ([] : List Keyword).length + if ([] : List Keyword).isEmpty = true then 0 else 1) < 30)) = true := by
        rw [st]
        rfl
      split at hd
      · rename_i em
        subst em
        cases hd
        exact psd_app i (S.e _ _ _ _ q2 X C E g hn hK tk) n1 n2 n3 n4 (fun a b => pe_bm PySem.F.plainAttrs_list PySem.F.slot_list_append PySem.F.type_list_append mt_append a b (hfew := few) (hline := hline) (hs := st)) rfl st
      · split at hd
        · rename_i em
          subst em
          cases hd
          exact psd_ext i (S.e _ _ _ _ q2 X C E g hn hK tk) n1 n2 n3 n4 (fun a b => pe_bm PySem.F.plainAttrs_list PySem.F.slot_list_extend PySem.F.type_list_extend mt_extR a b (hfew := few) (hline := hline) (hs := st)) rfl st
        · cases hd
    · cases hd
theorem psd_unp {tg : Tg} {te : TD} {ts : List Expr} {k : Nat} {e : Expr} {p pos : Pos} (he : PD X C e te) (hg : PG X (.Tuple ts k p) (upG C tg)) (h1 : tupB' e = false) : PSD X C (.Assign [.Tuple ts k p] e pos) (sUnp tg te) := by
  have hs : swapsWithSole [.Tuple ts k p] e pos.line X.env = pure false := by
    show swapsWith e (some (.Tuple ts k p)) pos.line X.env = pure false
    cases e <;> rfl
  have hw : swappedStores [.Tuple ts k p] e X.env = pure none := by
    cases e <;> first | rfl | (cases h1)
  refine PS_imp (ps_asg he hg hs hw (by rfl)) fun D σ H ⟨r, D', R, q, k⟩ => ⟨r, _, R, q, fun v H' x g rp qx => ⟨r, x, D'.nx, R.grow g, rp, qx, fun σ' r' R' _ _ _ q' => k.1 σ' H' r' R' q'⟩⟩
/-- x, y = a, b -/
theorem swaps_two {x y : Str} {a b : Expr} {px py p p2 : Pos} {k k2 : Nat} {env : Env} (hne : x ≠ y) (s1 : starB a = false) (s2 : starB b = false) (hcon : (!([a, b].all (constantsAlone 8)) || [a, b].all (foldedForSure 8)) = true) :
    swappedStores [.Tuple [.Name x px, .Name y py] k p] (.Tuple [a, b] k2 p2) env = pure none ∨ (env.kindOf x = some .local ∧ env.kindOf y = some .local ∧ swappedStores [.Tuple [.Name x px, .Name y py] k p] (.Tuple [a, b] k2 p2) env = pure (some [x, y])) := by
  have e : ∀ c : Expr, starB c = false → (match c with | .Starred .. => true | _ => false) = false := fun c h => by cases c <;> first | rfl | (cases h)
  have stars : ([a, b].any fun | .Starred .. => true | _ => false) = false := by
    simp only [List.any_cons, List.any_nil, Bool.or_false]
    rw [e a s1, e b s2]
    rfl
  have hl : ∀ q : Pos, (Expr.Name x q).pos.line = q.line := fun _ => rfl
  unfold swappedStores
  simp only [stars, List.length_cons, List.length_nil, List.head?_cons, Option.map_some, Option.getD_some, List.filterMap_cons, List.filterMap_nil]
  cases hb : (env.blockKind != .function) with
  | true => exact .inl rfl
  | false =>
    cases hf : [a, b].all (foldedForSure 8) with
    | true =>
      left
      by_cases c1 : (env.kindOf x == some .local && px.line == (Expr.Name x px).pos.line) = true <;> by_cases c2 : (env.kindOf y == some .local && py.line == (Expr.Name x px).pos.line) = true <;> simp [c1, c2, hne, List.eraseDups_cons] <;> rfl
    | false =>
      have hc : [a, b].all (constantsAlone 8) = false := by
        rw [hf, Bool.or_false, Bool.not_eq_true'] at hcon
        exact hcon
      by_cases c1 : (env.kindOf x == some .local && px.line == (Expr.Name x px).pos.line) = true
      · by_cases c2 : (env.kindOf y == some .local && py.line == (Expr.Name x px).pos.line) = true
        · right
          refine ⟨?_, ?_, ?_⟩
          · rw [Bool.and_eq_true] at c1; simpa using c1.1
          · rw [Bool.and_eq_true] at c2; simpa using c2.1
          · have h1 : ¬ (constantsAlone 8 a = true ∧ constantsAlone 8 b = true) := fun ⟨k1, k2⟩ => by simp [k1, k2] at hc
            have h2 : ¬ (foldedForSure 8 a = true ∧ foldedForSure 8 b = true) := fun ⟨k1, k2⟩ => by simp [k1, k2] at hf
            simp [c1, c2, hne, Ne.symm hne, List.eraseDups_cons, e a s1, e b s2, h1, h2]
            rintro (h | h)
            · cases a <;> first | (cases h; done) | (cases s1; done)
            · cases b <;> first | (cases h; done) | (cases s2; done)
        · left
          simp [c1, c2]
      · left
        by_cases c2 : (env.kindOf y == some .local && py.line == (Expr.Name x px).pos.line) = true <;> simp [c1, c2] <;> rfl
theorem psd_par {x y : Str} {i j : Nat} {a b : Expr} {tA : TAD} {px py p p2 pos : Pos} {k k2 : Nat} (hc : X.calm = true) (hK : C.K = X.K) (hN : X.N.Nodup) (hn : C.n = X.N.length) (sx : StoreOk X i x) (sy : StoreOk X j y) (hne : x ≠ y) (pa : PDA X C [a, b] tA) (s1 : starB a = false) (s2 : starB b = false)
    (hcon : (!([a, b].all (constantsAlone 8)) || [a, b].all (foldedForSure 8)) = true) : PSD X C (.Assign [.Tuple [.Name x px, .Name y py] k p] (.Tuple [a, b] k2 p2) pos) (sUnp (.two i j) (dTup tA)) := by
  have hs : swapsWithSole [.Tuple [.Name x px, .Name y py] k p] (.Tuple [a, b] k2 p2) pos.line X.env = pure false := rfl
  have hi' : i < C.n := by rw [hn]; exact (List.getElem?_eq_some_iff.mp sx.hi).1
  have hj' : j < C.n := by rw [hn]; exact (List.getElem?_eq_some_iff.mp sy.hi).1
  have hij : i ≠ j := fun e => by
    have h1 := sx.hi
    rw [e, sy.hi] at h1
    exact hne (Option.some.inj h1).symm
  rcases swaps_two (p := p) (p2 := p2) (k := k) (k2 := k2) (px := px) (py := py) (env := X.env) hne s1 s2 hcon with hw | ⟨lx, ly, hw⟩
  · exact PS_imp (ps_asg (pd_tup pa) (pdg_two hN hn hK hc sx sy) hs hw (by rfl)) fun D σ H ⟨r, D', R, q, k⟩ => ⟨r, _, R, q, fun v H' x g rp qx => ⟨r, x, D'.nx, R.grow g, rp, qx, fun σ' r' R' _ _ _ q' => k.1 σ' H' r' R' q'⟩⟩
  · exact PS_imp (ps_par hc hN sx.hi sy.hi hij lx ly pa hw hs) fun D σ H ⟨r, D', R, q, k⟩ => ⟨r, _, R, q, fun vs H' xs g rp qx => by
      obtain ⟨dx, dy, ex, q⟩ := bind2_get qx.2
      rcases ex with ex | ex
      · cases ex
        obtain ⟨v1, v2, rfl, r1, r2⟩ := rpa2 rp
        obtain ⟨R2, g1, g2, g3⟩ := set2_all (R.grow g) hi' hj' r1 r2
        exact ⟨v1, v2, rfl, k.1 _ H' _ R2 (by rw [er_set, er_set]; exact q)⟩
      · cases ex⟩
theorem sound_u {h : Hint} {ts : List Expr} {e : Expr} {d : DS} {k : Nat} {p pos : Pos} (hd : compU n G N sc h ts k p e = some d) (g : Gd G F N sc X) (tp : Top X) (hn : C.n = N.length) (hK : C.K = X.K) (tk : Takes X (wOf X.mg C E)) : PSD X C (.Assign [.Tuple ts k p] e pos) (wpS F d E) := by
  have S := sound G F n
  have nd : X.N.Nodup := by rw [g.hN]; exact g.nd
  have hn' : C.n = X.N.length := by rw [g.hN]; exact hn
  have st : ∀ x, locB sc x = true → Loc X.env.scope x ∧ (X.fn x = true ∨ X.env.scope.names.lookup x = some .local) := fun x hx => ⟨by rw [g.hsc]; exact locB_ok hx, .inl (tp.fn x)⟩
  unfold compU at hd
  split at hd
  · rename_i a b k2 p2
    split at hd
    · rename_i x px y py
      unfold compP at hd
      split at hd
      · rename_i hcs
        simp only [Bool.and_eq_true, Bool.not_eq_true'] at hcs
        obtain ⟨⟨⟨⟨⟨lx, ly⟩, ne⟩, s1⟩, s2⟩, hcon⟩ := hcs
        split at hd
        · rename_i i j d1 d2 q1 q2 q3 q4
          cases hd
          refine withFrz_ok _ (psd_par g.calm hK nd hn' ⟨by rw [g.hN]; exact findIx_get q1, (st _ lx).1, (st _ lx).2⟩ ⟨by rw [g.hN]; exact findIx_get q2, (st _ ly).1, (st _ ly).2⟩ (by simpa using ne) (pda_cons (S.e _ _ _ _ q3 X C E g hn hK tk) (pda_cons (S.e _ _ _ _ q4 X C E g hn hK tk) pda_nil (star_one s2)) (star_one s1)) s1 s2 hcon)
        · cases hd
      · cases hd
    · cases hd
  · split at hd
    · cases hd
    · rename_i ht
      split at hd
      · rename_i t d' q1 q2
        cases hd
        exact withFrz_ok _ (psd_unp (S.e _ _ _ _ q2 X C E g hn hK tk) (tg_ok g.hN g.nd hn hK g.calm st q1) (by simpa using ht))
      · cases hd
end
structure SoundS (G : Sig) (F : Nat → FW) (h : Hint) (n : Nat) : Prop where
  s : ∀ N sc st d, compS n G N sc h st = some d → ∀ (X : Cx) (C : Cfg) (E : Str → Prop), Gd G F N sc X → Top X → C.n = N.length → C.K = X.K → Takes X (wOf X.mg C E) → PSD X C st (wpS F d E)
  ss : ∀ N sc st d, compSs n G N sc h st = some d → ∀ (X : Cx) (C : Cfg) (E : Str → Prop), Gd G F N sc X → Top X → C.n = N.length → C.K = X.K → Takes X (wOf X.mg C E) → PSDs X C st (wpSs F d E)
theorem soundS (G : Sig) (F : Nat → FW) (h : Hint) : ∀ n, SoundS G F h n
  | 0 => ⟨fun _ _ _ _ q => by simp [compS] at q, fun _ _ _ _ q => by simp [compSs] at q⟩
  | n + 1 => by
    have T := soundS G F h n
    have S := sound G F n
    refine ⟨?_, ?_⟩
    · intro N sc st d hd X C E g tp hn hK tk
      unfold compS at hd
      split at hd <;> first | (cases hd; done) | skip
      · rename_i hq; cases hq
        exact sound_set hd g tp hn hK tk
      · rename_i hq; cases hq
        exact sound_u hd g tp hn hK tk
      · rename_i hq; cases hq
        exact sound_m hd g hn hK tk
      · rename_i hq; cases hq; cases hd
        exact psd_doc
      · rename_i hq; cases hq
        split at hd
        · cases hd
        · rename_i hb
          obtain ⟨d', q1, rfl⟩ := map1 hd
          exact withFrz_ok _ (psd_expr (S.e _ _ _ _ q1 X C E g hn hK tk) (swaps_plain (by simpa using hb)))
      · rename_i hq; cases hq; cases hd
        exact psd_retN
      · rename_i hq; cases hq
        exact sound_ret hd g hn hK tk
      · rename_i hq; cases hq
        split at hd
        · rename_i x y z q1 q2 q3
          cases hd
          exact withFrz_ok _ (psd_if (S.t _ _ _ _ q1 X C E g hn hK tk) (T.ss _ _ _ _ q2 X C E g tp hn hK tk) (T.ss _ _ _ _ q3 X C E g tp hn hK tk))
        · cases hd
      · rename_i hq; cases hq
        split at hd
        · cases hd
        · rename_i hb
          split at hd
          · rename_i x y z q1 q2 q3
            cases hd
            refine withFrz_ok _ (psd_for tk tp.hp g.calm (S.i _ _ _ _ _ q2 X C E g hn hK tk) (fun C2 e1 e2 => tg_ok g.hN g.nd (by rw [e1]; exact hn) (by rw [e2]; exact hK) g.calm (fun x hx => ⟨by rw [g.hsc]; exact locB_ok hx, .inl (tp.fn x)⟩) q1)
              (fun C2 e1 e2 tk2 => T.ss _ _ _ _ q3 X C2 E g tp (by rw [e1]; exact hn) (by rw [e2]; exact hK) tk2) (folded_plain (by simpa using hb)))
          · cases hd
      · rename_i hq; cases hq
        split at hd
        · rename_i x y q1 q2
          cases hd
          exact withFrz_ok _ (psd_while tp.hp (S.t _ _ _ _ q1 X C E g hn hK tk) (T.ss _ _ _ _ q2 X C E g tp hn hK tk))
        · cases hd
      · rename_i hq; cases hq
        split at hd
        · rename_i hc
          simp only [Bool.and_eq_true] at hc
          cases hd
          obtain ⟨Ca, m1, m2, m3, m4, m5⟩ := g.exc _ (contains_mem hc.2)
          exact psd_raise tk g.calm m2 m1 m3 m4 m5 (glB_ok g.hsc hc.1.1) (okN_get hc.1.2).1
        · cases hd
      · rename_i hq; cases hq; cases hd
        exact psd_pass
      · rename_i hq; cases hq; cases hd
        exact psd_cont
    · intro N sc st d hd X C E g tp hn hK tk
      cases st with
      | nil =>
        simp only [compSs] at hd
        cases hd
        exact psds_nil
      | cons s r =>
        simp only [compSs] at hd
        split at hd
        · rename_i x y q1 q2
          cases hd
          exact psds_cons (T.s _ _ _ _ q1 X C E g tp hn hK tk) (T.ss _ _ _ _ q2 X C E g tp hn hK tk)
        · cases hd
end DP

end
section
set_option Elab.async false
set_option linter.all false
set_option maxRecDepth 100000
set_option autoImplicit false
set_option maxHeartbeats 8000000
namespace DP
open PySem PySem.Spec PyProof.Rows L2
/-! ### the table of defs -/
inductive FDef where
  | def_ (N : Nat) (body : DSs)
  | prim (lvl : Nat) (φ : FW)
abbrev Tab := Nat → Option FDef
def fdW (F : Nat → FW) (k : Nat) : Option FDef → FW
  | some (.def_ N body) => fun args Q E => wpSs F body E { nx := fun _ => Q (.d .none), rt := Q } (s0 N args)
  | some (.prim l φ) => fun args Q E => l ≤ k ∧ φ args Q E
  | none => fun _ _ _ => False
def wpFn (T : Tab) : Nat → Nat → FW
  | 0, _ => fun _ _ _ => False
  | k + 1, f => fdW (wpFn T k) (k + 1) (T f)
section
variable (P : Program) (w : World) (K : PySem.W.Frag) (mg : Str → Option Value) (base : Heap) (G : Sig) (T : Tab)
/-- a def as the text has it -/
structure DefOk (f : Str) (n Nn : Nat) (body : DSs) : Prop where
  ex : ∃ (fa : Addr) (fd : FuncData) (params : Arguments) (st : List Stmt) (scope : Scope) (N ps : List Str) (h : Hint) (fuel : Nat),
    mg f = some (.ref fa) ∧ FunD K f f params st scope [] [] fa fd ∧ FnScope N ps scope ∧ ps.length = n ∧ N.length = Nn ∧ compSs fuel G N scope h st = some body ∧ Binds K fd ps []
structure PrimOk (f : Str) (n lvl : Nat) (φ : FW) : Prop where
  ex : ∃ (fa : Addr) (fd : FuncData) (ps : List Str), mg f = some (.ref fa) ∧ PySem.W.keepIn K (.ref fa) = true ∧ ps.length = n ∧ Binds K fd ps [] ∧ ∀ k, lvl ≤ k → FnOk P w K mg base (L2.CX P w) k fa fd ps (spOf K mg n φ)
structure TabOk : Prop where
  fn : ∀ f id n, G.funs.lookup f = some (id, n) → (∃ N body, T id = some (.def_ N body) ∧ DefOk K mg G f n N body) ∨ ∃ l φ, T id = some (.prim l φ) ∧ PrimOk P w K mg base f n l φ
  bis : ∀ b ∈ G.bis, mg b = none
  cst : ∀ x d, G.consts.lookup x = some d → ∃ v u, mg x = some u ∧ RelV v u ∧ ∀ H, Rp H v d
  exc : ∀ c ∈ G.excs, ∃ Ca, mg c = some (.ref Ca) ∧ PySem.W.excIn K Ca [.type "ValueError", .type "Exception", .type "BaseException", .type "object"] "ValueError.__new__" = true ∧ PySem.W.keepIn K (.ref Ca) = true ∧ PySem.W.subIn K (.ref Ca) (.type "BaseException") = some true ∧ PySem.W.typeIn K (.ref Ca) = some (.type "type")
end
section
variable {P : Program} {w : World} {K : PySem.W.Frag} {mg : Str → Option Value} {base : Heap} {G : Sig} {T : Tab}
theorem fn_false {fa : Addr} {fd : FuncData} {ps : List Str} {k n : Nat} {φ : FW} (hl : ps.length = n) (h : ∀ a Q E, ¬ φ a Q E) : FnOk P w K mg base (L2.CX P w) k fa fd ps (spOf K mg n φ) :=
  ⟨fun vs H Q E q => by rw [hl]; exact q.1, fun A outer s H args us vs Q E hr e0 hb r hsp => by
    obtain ⟨_, O, S, ds, Q', E', _, _, _, z, _⟩ := hsp
    exact (h _ _ _ z).elim⟩
/-- every def keeps its reading -/
theorem fns_ok (t : TabOk P w K mg base G T) : ∀ (k : Nat) (f : Str) (id n : Nat), G.funs.lookup f = some (id, n) →
    ∃ fa fd ps, ps.length = n ∧ FnOk P w K mg base (L2.CX P w) k fa fd ps (spOf K mg n (wpFn T k id)) ∧ mg f = some (.ref fa) ∧ PySem.W.keepIn K (.ref fa) = true ∧ Binds K fd ps []
  | 0, f, id, n, h => by
    rcases t.fn f id n h with ⟨N, body, _, ⟨fa, fd, params, st, scope, N', ps, hi, fuel, m, F, S, l1, l2, hc, hb⟩⟩ | ⟨l, φ, _, ⟨fa, fd, ps, m, kp, l1, hb, _⟩⟩
    · exact ⟨fa, fd, ps, l1, fn_false l1 (fun _ _ _ z => z), m, F.kp, hb⟩
    · exact ⟨fa, fd, ps, l1, fn_false l1 (fun _ _ _ z => z), m, kp, hb⟩
  | k + 1, f, id, n, h => by
    have ih := fns_ok t k
    rcases t.fn f id n h with ⟨N, body, e, ⟨fa, fd, params, st, scope, N', ps, hi, fuel, m, F, S, l1, l2, hc, hb⟩⟩ | ⟨l, φ, e, ⟨fa, fd, ps, m, kp, l1, hb, hF⟩⟩
    · refine ⟨fa, fd, ps, l1, ?_, m, F.kp, hb⟩
      have q := fn_deep (P := P) (w := w) (mg := mg) (base := base) (k := k) (tb := fun E => wpSs (wpFn T k) body E) F S fun cdv A outer s H E C E' hr hn hK tk => by
        refine (soundS G (wpFn T k) hi fuel).ss N' scope st body hc _ C E' ⟨rfl, S.nd, rfl, rfl, hr.units, t.bis, t.cst, fun f id n hf => ?_, t.exc⟩ ⟨fun _ => rfl, passes_of rfl⟩ hn hK tk
        obtain ⟨fa, fd, ps, q1, q2, q3, q4, q5⟩ := ih f id n hf
        exact ⟨k, fa, fd, ps, q1, q2, hr, q3, q4, q5⟩
      rw [l1] at q
      refine q.imp fun vs H Q E hsp => ?_
      have ew : wpFn T (k + 1) id = fun args Q E => wpSs (wpFn T k) body E { nx := fun _ => Q (.d .none), rt := Q } (s0 N args) := by
        show fdW (wpFn T k) (k + 1) (T id) = _
        rw [e]
        rfl
      rw [ew] at hsp
      subst l2
      exact hsp
    · by_cases hk : l ≤ k + 1
      · refine ⟨fa, fd, ps, l1, ?_, m, kp, hb⟩
        refine (hF (k + 1) hk).imp fun vs H Q E hsp => ?_
        have ew : wpFn T (k + 1) id = fun args Q E => l ≤ k + 1 ∧ φ args Q E := by
          show fdW (wpFn T k) (k + 1) (T id) = _
          rw [e]
          rfl
        rw [ew] at hsp
        obtain ⟨h1, O, S, ds, Q', E', a1, a2, a3, a4, a5⟩ := hsp
        exact ⟨h1, O, S, ds, Q', E', a1, a2, a3, a4.2, a5⟩
      · refine ⟨fa, fd, ps, l1, fn_false l1 (fun a Q E z => ?_), m, kp, hb⟩
        have ew : wpFn T (k + 1) id = fun args Q E => l ≤ k + 1 ∧ φ args Q E := by
          show fdW (wpFn T k) (k + 1) (T id) = _
          rw [e]
          rfl
        rw [ew] at z
        exact hk z.1
/-- nothing is let out -/
theorem FnOk.to0 {fa : Addr} {fd : FuncData} {ps : List Str} {k : Nat} {sp : Sp} (F : FnOk P w K mg base (L2.CX P w) k fa fd ps sp) : FnOk P w K mg base CX0 k fa fd ps (fun vs H Q _ => sp vs H Q fun _ _ _ => False) :=
  ⟨fun vs H Q E q => F.len vs H Q _ q, fun A outer s H args us vs Q E hr e0 hb r hsp => codeAny_mono (F.run A outer s H args us vs Q _ hr e0 hb r hsp) fun re s' q => by
    cases re with
    | ok fl =>
      cases fl with
      | ret u => exact q
      | next => exact (show False from q)
      | brk => exact (show False from q)
      | cont => exact (show False from q)
    | error e =>
      obtain ⟨_, _, _, _, _, _, _, _, _, _, _, _, z⟩ := (show L2.CX P w outer H s (fun _ _ _ => False) e s' from q)
      exact z.elim⟩
/-- the law's promise -/
def spLaw (K : PySem.W.Frag) (mg : Str → Option Value) (φ : FW) : Sp := fun vs H Q _ => spOf K mg 1 φ vs H Q fun _ _ _ => False
theorem law_sp {φ : FW} {n : Nat} (hφ : ∀ ns : List Int, ns.length ≤ n → φ [.scr ns] (fun rv => rv = .d (.bool true)) fun _ => False) (H : Hp) (a : Addr) (ns : List Int) (hl : ns.length ≤ n) (hO : Only H) (hS : SqL K H a (ns.map V.int)) : spLaw K mg φ [.ref a] H (fun v _ => v = .bl true) fun _ _ _ => False := by
  have sc : ScrOk K H a ns := by
    rcases hS with (h | ⟨o, h⟩) | h
    · rcases hO a with z | ⟨o, xs, z⟩
      · rw [z] at h; cases h
      · rw [z] at h; cases h
    · exact .inl ⟨o, h⟩
    · exact .inr h
  refine ⟨rfl, [], [], [.scr a ns], fun rv => rv = .d (.bool true), fun _ => False, .cons ⟨rfl, sc⟩ .nil, fun _ z => absurd z (by simp), fun _ z => absurd z (by simp), hφ ns hl, fun v H' rv o rt e => ?_, fun c Ca H' _ _ z => z.elim⟩
  subst e
  exact rp_bl rt
end
/-! ### facts by checks -/
def fnScB (N ps : List Str) (sc : Scope) : Bool :=
  decide (sc.kind = .function) && !sc.isCoroutine && !sc.isGenerator && decide N.Nodup && decide (N.take ps.length = ps) && (ps.all fun x => locB sc x) && sc.names.all fun y => !decide (y.2 = .free)
theorem fnSc_by {N ps : List Str} {sc : Scope} (h : fnScB N ps sc = true) : FnScope N ps sc := by
  unfold fnScB at h
  simp only [Bool.and_eq_true, Bool.not_eq_true', decide_eq_true_eq, List.all_eq_true, decide_eq_false_iff_not] at h
  obtain ⟨⟨⟨⟨⟨⟨h1, h2⟩, h3⟩, h4⟩, h5⟩, h6⟩, h7⟩ := h
  exact ⟨h1, h2, h3, h4, h5, fun x hx => locB_ok (h6 x hx), h7⟩
end DP

end
section
set_option Elab.async false
set_option linter.all false
set_option maxRecDepth 100000
set_option autoImplicit false
set_option maxHeartbeats 8000000
namespace DP
open PySem PySem.Spec PyProof.Rows L2
/-! ### a draw -/
/-- some number below m -/
def takeW : FW
  | [.m .st, .d (.int m)], Q, _ => (0 < m ∧ m < 1073741824) ∧ ∀ j : Int, 0 ≤ j → j < m → Q (.d (.int j))
  | _, _, _ => False
theorem takeW_get {ds : List DV} {Q : RV → Prop} {E : Str → Prop} (h : takeW (ds.map DV.er) Q E) : ∃ a m, ds = [.m a .st, .d (.int m)] ∧ (0 < m ∧ m < 1073741824) ∧ ∀ j : Int, 0 ≤ j → j < m → Q (.d (.int j)) := by
  match ds, h with
  | [.m a .st, .d (.int m)], h => exact ⟨a, m, rfl, h.1, h.2⟩
def takeAt (s m f x : Str) (p0 p1 p2 p3 p4 p5 p6 p7 p8 p9 p10 p11 p12 p13 p14 p15 p16 p17 p18 p19 p20 p21 p22 p23 p24 p25 p26 p27 p28 p29 p30 p31 p32 p33 p34 p35 p36 p37 p38 p39 p40 p41 p42 p43 p44 p45 p46 p47 p48 p49 p50 p51 p52 p53 p54 p55 p56 p57 p58 p59 p60 p61 p62 p63 p64 p65 p66 p67 p68 p69 p70 : Pos) : List Stmt := [.If (.Subscript (.Name s p0) (.Constant (.int 1) 0 p1) p2) [.Assign [(.Name f p3)] (.BinOp (.Subscript (.Name s p4) (.Constant (.int 0) 0 p5) p6) .Mod (.Name m p7) p8) p9, .Assign [(.Subscript (.Name s p10) (.Constant (.int 0) 0 p11) p12)] (.BinOp (.Subscript (.Name s p13) (.Constant (.int 0) 0 p14) p15) .FloorDiv (.Name m p16) p17) p18, .Return (some (.Name f p19)) p20] [] p21,
  .Assign [(.Subscript (.Name s p22) (.Constant (.int 0) 0 p23) p24)] (.BinOp (.BinOp (.BinOp (.Subscript (.Name s p25) (.Constant (.int 0) 0 p26) p27) .Mult (.Constant (.int 48271) 0 p28) p29) .Add (.Constant (.int 29) 0 p30) p31) .Mod (.Constant (.int 2147483647) 0 p32) p33) p34,
  .Assign [(.Name x p35)] (.BinOp (.BinOp (.BinOp (.BinOp (.Subscript (.Name s p36) (.Constant (.int 0) 0 p37) p38) .Mult (.Subscript (.Name s p39) (.Constant (.int 0) 0 p40) p41) p42) .Add (.BinOp (.Constant (.int 39373) 0 p43) .Mult (.Subscript (.Name s p44) (.Constant (.int 0) 0 p45) p46) p47) p48) .Add (.Constant (.int 7) 0 p49) p50) .Mod (.Constant (.int 2147483629) 0 p51) p52) p53,
  .Assign [(.Name x p54)] (.BinOp (.BinOp (.BinOp (.Name x p55) .Mult (.Name x p56) p57) .Add (.BinOp (.Constant (.int 16807) 0 p58) .Mult (.Name x p59) p60) p61) .Mod (.Constant (.int 2147483587) 0 p62) p63) p64,
  .Return (some (.BinOp (.BinOp (.Name x p65) .FloorDiv (.Constant (.int 8) 0 p66) p67) .Mod (.Name m p68) p69)) p70]
theorem args_take {K : PySem.W.Frag} {H : Hp} {O : List Addr} {S : List (Addr × SK)} {vs : List V} {a : Addr} {n : Int} (h : ArgsD K H O S vs [.m a .st, .d (.int n)]) : vs = [.ref a, .int n] ∧ (a, SK.dr) ∈ S := by
  cases h with
  | cons h1 h2 =>
    cases h2 with
    | cons h3 h4 =>
      cases h4
      have e1 := h1.1
      have e3 := rp_int (show Rp (hd H O) _ (.int n) from h3)
      exact ⟨by rw [e1, e3], h1.2⟩
theorem take_ok {P : Program} {w : World} {K : PySem.W.Frag} {mg : Str → Option Value} {base : Heap} {y qual : Str} {params : Arguments} {scope : Scope} {fa : Addr} {fd : FuncData} {s m f x : Str} {p0 p1 p2 p3 p4 p5 p6 p7 p8 p9 p10 p11 p12 p13 p14 p15 p16 p17 p18 p19 p20 p21 p22 p23 p24 p25 p26 p27 p28 p29 p30 p31 p32 p33 p34 p35 p36 p37 p38 p39 p40 p41 p42 p43 p44 p45 p46 p47 p48 p49 p50 p51 p52 p53 p54 p55 p56 p57 p58 p59 p60 p61 p62 p63 p64 p65 p66 p67 p68 p69 p70 : Pos} {k : Nat}
    (F : FunD K y qual params (takeAt s m f x p0 p1 p2 p3 p4 p5 p6 p7 p8 p9 p10 p11 p12 p13 p14 p15 p16 p17 p18 p19 p20 p21 p22 p23 p24 p25 p26 p27 p28 p29 p30 p31 p32 p33 p34 p35 p36 p37 p38 p39 p40 p41 p42 p43 p44 p45 p46 p47 p48 p49 p50 p51 p52 p53 p54 p55 p56 p57 p58 p59 p60 p61 p62 p63 p64 p65 p66 p67 p68 p69 p70) scope [] [] fa fd) (S : FnScope [s, m, f, x] [s, m] scope) (lf : Loc scope f) (lx : Loc scope x) (os : okN s = true) (om : okN m = true) (of : okN f = true) (ox : okN x = true) :
    FnOk P w K mg base (L2.CX P w) (k + 1) fa fd [s, m] (spOf K mg 2 takeW) := by
  refine F.ok S (fun vs H Q E h => h.1) fun cdv A outer sh H vs Q E hr hsp => ?_
  obtain ⟨hl, O, Sh, ds, Q', E', ha, dm, hs, hφ, hQ, hE⟩ := hsp
  obtain ⟨a, n, rfl, ⟨hm0, hm1⟩, hφ⟩ := takeW_get hφ
  obtain ⟨rfl, hv1⟩ := args_take ha
  obtain ⟨z, b, e0, z0, z1⟩ := (show StOk H a from (hs _ hv1).1)
  have nd := S.nd
  have vs0 : Vis scope s := (S.par s (by simp)).elim .inl fun h => .inr (.inl h)
  have vm0 : Vis scope m := (S.par m (by simp)).elim .inl fun h => .inr (.inl h)
  have vf0 : Vis scope f := lf.elim .inl fun h => .inr (.inl h)
  have vx0 : Vis scope x := lx.elim .inl fun h => .inr (.inl h)
  obtain ⟨s1, s2, _⟩ := okN_get os
  obtain ⟨m1, m2, _⟩ := okN_get om
  obtain ⟨f1, f2, _⟩ := okN_get of
  obtain ⟨x1, x2, _⟩ := okN_get ox
  have out : ∀ (y : Int) (b' : Bool), 0 ≤ y → (b' = false → y < 2147483647) → Out ⟨K, 0, O, H, Sh⟩ (upd H a (.lst [.int y, .bl b'])) := fun y b' h0 h1 => by
    refine ⟨fun c o hn e => ?_, fun s' h' => ?_, fun c hc => ?_⟩
    · have e' : H c = some o := e
      rw [upd_ne (fun q => hn SK.dr (by rw [q]; exact hv1))]
      exact e'
    · obtain ⟨c, t⟩ := s'
      by_cases hc : c = a
      · subst hc
        cases t with
        | dr => exact ⟨y, b', upd_same, h0, h1⟩
        | tab q =>
          obtain ⟨ps, h2, _⟩ := (show LamX.TabS H c q from (hs _ h').1)
          rw [e0] at h2
          cases h2
      · exact (hs _ h').1.upd e0 (fun φ q => by cases q) hc
    · by_cases h : c = a
      · rw [h, upd_same]; simp
      · rw [upd_ne h]; exact dm c hc
  have fin : ∀ (j y : Int) (b' : Bool), 0 ≤ y → (b' = false → y < 2147483647) → 0 ≤ j → j < n → Q (.int j) (upd H a (.lst [.int y, .bl b'])) := fun j y b' h0 h1 h2 h3 => hQ _ _ (.d (.int j)) (out y b' h0 h1) (.int j) (hφ j h2 h3)
  generalize hX : cxOf (L2.CX P w) P w K mg base [s, m, f, x] qual scope fa cdv A outer sh H E = X
  have hN0 : X.N[0]? = some s := by rw [← hX]; rfl
  have hN1 : X.N[1]? = some m := by rw [← hX]; rfl
  have hN2 : X.N[2]? = some f := by rw [← hX]; rfl
  have hN3 : X.N[3]? = some x := by rw [← hX]; rfl
  have hNN : X.N.Nodup := by rw [← hX]; exact nd
  have hsc : X.env.scope = scope := by rw [← hX]; rfl
  have hfn : ∀ y, X.fn y = true := fun y => by rw [← hX]; rfl
  rw [← hsc] at vs0 vm0 vf0 vx0 lf lx
  have ixs : ∀ (c : Int) (q1 q2 q3 : Pos), PE X (.Subscript (.Name s q1) (.Constant (.int c) 0 q2) q3) (tOp (fun x y H Q => ∃ p xs i v, x = .ref p ∧ y = .int i ∧ SqL X.K H p xs ∧ atI xs i = some v ∧ Q v H) (tVar 0) (tC (.int c))) := fun c q1 q2 q3 => pe_ix ix_list (pe_var hN0 vs0 s1 s2) pe_int (fun _ _ => rfl)
  have vm : ∀ q, PE X (.Name m q) (tVar 1) := fun q => pe_var hN1 vm0 m1 m2
  have vf : ∀ q, PE X (.Name f q) (tVar 2) := fun q => pe_var hN2 vf0 f1 f2
  have vx : ∀ q, PE X (.Name x q) (tVar 3) := fun q => pe_var hN3 vx0 x1 x2
  have vs : ∀ q, PE X (.Name s q) (tVar 0) := fun q => pe_var hN0 vs0 s1 s2
  refine ⟨_, pss_cons (ps_if (pt_val (ixs 1 _ _ _)) (pss_cons (ps_set hNN hN2 lf (pe_op op_mod (ixs 0 _ _ _) (vm _)) rfl (.inl (hfn _))) (pss_cons (ps_asg (pe_op op_fdiv (ixs 0 _ _ _) (vm _)) (pg_sub (vs _) pe_int set_list) rfl rfl rfl) (pss_one (ps_ret (vf _))))) pss_nil)
    (pss_cons (ps_asg (pe_op op_mod (pe_op op_add (pe_op op_mul (ixs 0 _ _ _) pe_int) pe_int) pe_int) (pg_sub (vs _) pe_int set_list) rfl rfl rfl)
    (pss_cons (ps_set hNN hN3 lx (pe_op op_mod (pe_op op_add (pe_op op_add (pe_op op_mul (ixs 0 _ _ _) (ixs 0 _ _ _)) (pe_op op_mul pe_int (ixs 0 _ _ _))) pe_int) pe_int) rfl (.inl (hfn _)))
    (pss_cons (ps_set hNN hN3 lx (pe_op op_mod (pe_op op_add (pe_op op_mul (vx _) (vx _)) (pe_op op_mul pe_int (vx _))) pe_int) rfl (.inl (hfn _)))
    (pss_one (ps_ret (pe_op op_mod (pe_op op_fdiv (vx _) pe_int) (vm _))))))), ?_⟩
  have st : ∀ (y : Int) (b' : Bool) (H' : Hp), H' a = some (.lst [.int y, .bl b']) → SqL X.K H' a [.int y, .bl b'] := fun y b' H' h => .inl (.inl h)
  refine ⟨.ref a, rfl, a, [.int z, .bl b], 1, .bl b, rfl, rfl, st _ _ _ e0, rfl, b, rfl, ?_⟩
  cases b with
  | true =>
    refine iteT ?_
    refine ⟨.ref a, rfl, a, [.int z, .bl true], 0, .int z, rfl, rfl, st _ _ _ e0, rfl, .int n, rfl, z, n, rfl, rfl, hm0, ?_⟩
    refine ⟨.ref a, rfl, a, [.int z, .bl true], 0, .int z, rfl, rfl, st _ _ _ e0, rfl, .int n, rfl, z, n, rfl, rfl, ⟨hm0, hm1⟩, ?_⟩
    refine ⟨.ref a, rfl, a, [.int z, .bl true], 0, 0, rfl, rfl, e0, rfl, ?_⟩
    refine ⟨.int (z % n), rfl, ?_⟩
    exact fin (z % n) (z / n) true (Int.ediv_nonneg z0 (by omega)) (fun h => nomatch h) (Int.emod_nonneg _ (by omega)) (Int.emod_lt_of_pos _ hm0)
  | false =>
    refine iteF ?_
    have z1 := z1 rfl
    have b1 : CMul z 48271 := .inr ⟨by omega, by omega⟩
    refine ⟨.ref a, rfl, a, [.int z, .bl false], 0, .int z, rfl, rfl, st _ _ _ e0, rfl, z, 48271, rfl, rfl, b1, z * 48271, 29, rfl, rfl, z * 48271 + 29, 2147483647, rfl, rfl, (by decide : (0 : Int) < 2147483647), ?_⟩
    refine ⟨.ref a, rfl, a, [.int z, .bl false], 0, 0, rfl, rfl, e0, rfl, ?_⟩
    have u0 : 0 ≤ ((z * 48271 + 29) % 2147483647) := Int.emod_nonneg _ (by decide)
    have u1 : ((z * 48271 + 29) % 2147483647) < 2147483647 := Int.emod_lt_of_pos _ (by decide)
    have e1 : upd H a (.lst [.int ((z * 48271 + 29) % 2147483647), .bl false]) a = some (.lst [.int ((z * 48271 + 29) % 2147483647), .bl false]) := upd_same
    have b2 : CMul ((z * 48271 + 29) % 2147483647) ((z * 48271 + 29) % 2147483647) := .inl ⟨by omega, by omega⟩
    have b3 : CMul 39373 ((z * 48271 + 29) % 2147483647) := .inl ⟨by omega, by omega⟩
    refine ⟨.ref a, rfl, a, [.int ((z * 48271 + 29) % 2147483647), .bl false], 0, .int ((z * 48271 + 29) % 2147483647), rfl, rfl, st _ _ _ e1, rfl, .ref a, rfl, a, [.int ((z * 48271 + 29) % 2147483647), .bl false], 0, .int ((z * 48271 + 29) % 2147483647), rfl, rfl, st _ _ _ e1, rfl, ((z * 48271 + 29) % 2147483647), ((z * 48271 + 29) % 2147483647), rfl, rfl, b2, ?_⟩
    refine ⟨.ref a, rfl, a, [.int ((z * 48271 + 29) % 2147483647), .bl false], 0, .int ((z * 48271 + 29) % 2147483647), rfl, rfl, st _ _ _ e1, rfl, 39373, ((z * 48271 + 29) % 2147483647), rfl, rfl, b3, ((z * 48271 + 29) % 2147483647) * ((z * 48271 + 29) % 2147483647), 39373 * ((z * 48271 + 29) % 2147483647), rfl, rfl, ((z * 48271 + 29) % 2147483647) * ((z * 48271 + 29) % 2147483647) + 39373 * ((z * 48271 + 29) % 2147483647), 7, rfl, rfl, ((z * 48271 + 29) % 2147483647) * ((z * 48271 + 29) % 2147483647) + 39373 * ((z * 48271 + 29) % 2147483647) + 7, 2147483629, rfl, rfl, (by decide : (0 : Int) < 2147483629), ?_⟩
    have q0 : 0 ≤ ((((z * 48271 + 29) % 2147483647) * ((z * 48271 + 29) % 2147483647) + 39373 * ((z * 48271 + 29) % 2147483647) + 7) % 2147483629) := Int.emod_nonneg _ (by decide)
    have q1 : ((((z * 48271 + 29) % 2147483647) * ((z * 48271 + 29) % 2147483647) + 39373 * ((z * 48271 + 29) % 2147483647) + 7) % 2147483629) < 2147483629 := Int.emod_lt_of_pos _ (by decide)
    have b4 : CMul ((((z * 48271 + 29) % 2147483647) * ((z * 48271 + 29) % 2147483647) + 39373 * ((z * 48271 + 29) % 2147483647) + 7) % 2147483629) ((((z * 48271 + 29) % 2147483647) * ((z * 48271 + 29) % 2147483647) + 39373 * ((z * 48271 + 29) % 2147483647) + 7) % 2147483629) := .inl ⟨by omega, by omega⟩
    have b5 : CMul 16807 ((((z * 48271 + 29) % 2147483647) * ((z * 48271 + 29) % 2147483647) + 39373 * ((z * 48271 + 29) % 2147483647) + 7) % 2147483629) := .inl ⟨by omega, by omega⟩
    refine ⟨.int ((((z * 48271 + 29) % 2147483647) * ((z * 48271 + 29) % 2147483647) + 39373 * ((z * 48271 + 29) % 2147483647) + 7) % 2147483629), rfl, .int ((((z * 48271 + 29) % 2147483647) * ((z * 48271 + 29) % 2147483647) + 39373 * ((z * 48271 + 29) % 2147483647) + 7) % 2147483629), rfl, ((((z * 48271 + 29) % 2147483647) * ((z * 48271 + 29) % 2147483647) + 39373 * ((z * 48271 + 29) % 2147483647) + 7) % 2147483629), ((((z * 48271 + 29) % 2147483647) * ((z * 48271 + 29) % 2147483647) + 39373 * ((z * 48271 + 29) % 2147483647) + 7) % 2147483629), rfl, rfl, b4, .int ((((z * 48271 + 29) % 2147483647) * ((z * 48271 + 29) % 2147483647) + 39373 * ((z * 48271 + 29) % 2147483647) + 7) % 2147483629), rfl, 16807, ((((z * 48271 + 29) % 2147483647) * ((z * 48271 + 29) % 2147483647) + 39373 * ((z * 48271 + 29) % 2147483647) + 7) % 2147483629), rfl, rfl, b5, ((((z * 48271 + 29) % 2147483647) * ((z * 48271 + 29) % 2147483647) + 39373 * ((z * 48271 + 29) % 2147483647) + 7) % 2147483629) * ((((z * 48271 + 29) % 2147483647) * ((z * 48271 + 29) % 2147483647) + 39373 * ((z * 48271 + 29) % 2147483647) + 7) % 2147483629), 16807 * ((((z * 48271 + 29) % 2147483647) * ((z * 48271 + 29) % 2147483647) + 39373 * ((z * 48271 + 29) % 2147483647) + 7) % 2147483629), rfl, rfl, ((((z * 48271 + 29) % 2147483647) * ((z * 48271 + 29) % 2147483647) + 39373 * ((z * 48271 + 29) % 2147483647) + 7) % 2147483629) * ((((z * 48271 + 29) % 2147483647) * ((z * 48271 + 29) % 2147483647) + 39373 * ((z * 48271 + 29) % 2147483647) + 7) % 2147483629) + 16807 * ((((z * 48271 + 29) % 2147483647) * ((z * 48271 + 29) % 2147483647) + 39373 * ((z * 48271 + 29) % 2147483647) + 7) % 2147483629), 2147483587, rfl, rfl, (by decide : (0 : Int) < 2147483587), ?_⟩
    refine ⟨.int ((((((z * 48271 + 29) % 2147483647) * ((z * 48271 + 29) % 2147483647) + 39373 * ((z * 48271 + 29) % 2147483647) + 7) % 2147483629) * ((((z * 48271 + 29) % 2147483647) * ((z * 48271 + 29) % 2147483647) + 39373 * ((z * 48271 + 29) % 2147483647) + 7) % 2147483629) + 16807 * ((((z * 48271 + 29) % 2147483647) * ((z * 48271 + 29) % 2147483647) + 39373 * ((z * 48271 + 29) % 2147483647) + 7) % 2147483629)) % 2147483587), rfl, ((((((z * 48271 + 29) % 2147483647) * ((z * 48271 + 29) % 2147483647) + 39373 * ((z * 48271 + 29) % 2147483647) + 7) % 2147483629) * ((((z * 48271 + 29) % 2147483647) * ((z * 48271 + 29) % 2147483647) + 39373 * ((z * 48271 + 29) % 2147483647) + 7) % 2147483629) + 16807 * ((((z * 48271 + 29) % 2147483647) * ((z * 48271 + 29) % 2147483647) + 39373 * ((z * 48271 + 29) % 2147483647) + 7) % 2147483629)) % 2147483587), 8, rfl, rfl, ⟨by decide, by decide⟩, .int n, rfl, ((((((z * 48271 + 29) % 2147483647) * ((z * 48271 + 29) % 2147483647) + 39373 * ((z * 48271 + 29) % 2147483647) + 7) % 2147483629) * ((((z * 48271 + 29) % 2147483647) * ((z * 48271 + 29) % 2147483647) + 39373 * ((z * 48271 + 29) % 2147483647) + 7) % 2147483629) + 16807 * ((((z * 48271 + 29) % 2147483647) * ((z * 48271 + 29) % 2147483647) + 39373 * ((z * 48271 + 29) % 2147483647) + 7) % 2147483629)) % 2147483587) / 8, n, rfl, rfl, hm0, ?_⟩
    exact fin (((((((z * 48271 + 29) % 2147483647) * ((z * 48271 + 29) % 2147483647) + 39373 * ((z * 48271 + 29) % 2147483647) + 7) % 2147483629) * ((((z * 48271 + 29) % 2147483647) * ((z * 48271 + 29) % 2147483647) + 39373 * ((z * 48271 + 29) % 2147483647) + 7) % 2147483629) + 16807 * ((((z * 48271 + 29) % 2147483647) * ((z * 48271 + 29) % 2147483647) + 39373 * ((z * 48271 + 29) % 2147483647) + 7) % 2147483629)) % 2147483587) / 8 % n) ((z * 48271 + 29) % 2147483647) false u0 (fun _ => u1) (Int.emod_nonneg _ (by omega)) (Int.emod_lt_of_pos _ hm0)
end DP

end
section
set_option Elab.async false
set_option linter.all false
set_option maxRecDepth 100000
set_option autoImplicit false
set_option maxHeartbeats 8000000
namespace DP
open PySem PySem.Spec PyProof.Rows L2
section
variable {P : Program} {w : World} {K : PySem.W.Frag} {mg : Str → Option Value} {base : Heap} {G : Sig} {T : Tab}
/-- the law's own def -/
theorem fn_law (t : TabOk P w K mg base G T) {k id n : Nat} {f : Str} {fa : Addr} {fd : FuncData} {params : Arguments} {st : List Stmt} {scope : Scope} {N ps : List Str} {hi : Hint} {fuel : Nat} {body : DSs} (e : T id = some (.def_ N.length body)) (F : FunD K f f params st scope [] [] fa fd) (S : FnScope N ps scope) (l1 : ps.length = n) (hc : compSs fuel G N scope hi st = some body) :
    FnOk P w K mg base (L2.CX P w) (k + 1) fa fd ps (spOf K mg n (wpFn T (k + 1) id)) := by
  have ih := fns_ok t k
  have q := fn_deep (P := P) (w := w) (mg := mg) (base := base) (k := k) (tb := fun E => wpSs (wpFn T k) body E) F S fun cdv A outer s H E C E' hr hn hK tk => by
    refine (soundS G (wpFn T k) hi fuel).ss N scope st body hc _ C E' ⟨rfl, S.nd, rfl, rfl, hr.units, t.bis, t.cst, fun f id n hf => ?_, t.exc⟩ ⟨fun _ => rfl, passes_of rfl⟩ hn hK tk
    obtain ⟨fa, fd, ps, q1, q2, q3, q4, q5⟩ := ih f id n hf
    exact ⟨k, fa, fd, ps, q1, q2, hr, q3, q4, q5⟩
  rw [l1] at q
  refine q.imp fun vs H Q E hsp => ?_
  have ew : wpFn T (k + 1) id = fun args Q E => wpSs (wpFn T k) body E { nx := fun _ => Q (.d .none), rt := Q } (s0 N.length args) := by
    show fdW (wpFn T k) (k + 1) (T id) = _
    rw [e]
    rfl
  rw [ew] at hsp
  exact hsp
end
/-- all of a list -/
inductive Al {α : Type} (P : α → Prop) : List α → Prop
  | nil : Al P []
  | cons {a : α} {l : List α} : P a → Al P l → Al P (a :: l)
theorem Al.get {α : Type} {P : α → Prop} {l : List α} (h : Al P l) {a : α} (m : a ∈ l) : P a := by
  induction h with
  | nil => cases m
  | cons p _ ih =>
    cases m with
    | head => exact p
    | tail _ m => exact ih m
theorem lk_mem {β : Type} {x : Str} {y : β} : ∀ {l : List (Str × β)}, l.lookup x = some y → (x, y) ∈ l
  | [], h => by cases h
  | (a, b) :: l, h => by
    rw [List.lookup_cons] at h
    cases e : (x == a) with
    | true =>
      rw [e] at h
      cases h
      rw [eq_of_beq e]
      exact .head _
    | false =>
      rw [e] at h
      exact .tail _ (lk_mem h)
end DP

end
section
set_option linter.all false
set_option autoImplicit false
namespace MA
/-! rows of numbers modulo p: plain Lean -/
abbrev Rw := List Int
def at_ (v : Rw) (i : Nat) : Int := v.getD i 0
def Row (p : Int) (n : Nat) (v : Rw) : Prop := v.length = n ∧ ∀ x ∈ v, 0 ≤ x ∧ x < p
def addm (p : Int) (v : Rw) (k : Int) (w : Rw) : Rw := List.zipWith (fun x y => (x + k * y) % p) v w
def zr (n : Nat) : Rw := List.replicate n 0
def hx (v : Rw) : Nat := v.findIdx fun x => decide (x ≠ 0)
def Pr (p : Int) : Prop := p = 2 ∨ p = 3 ∨ p = 5
theorem Pr.pos {p : Int} (h : Pr p) : 0 < p := by unfold Pr at h; omega
section arith
variable {p : Int}
theorem m1 (x y : Int) : (x % p + y) % p = (x + y) % p := by rw [Int.emod_add_emod]
theorem m2 (x k y : Int) : (x + k * (y % p)) % p = (x + k * y) % p := by
  have e : x + k * (y % p) = (x + k * y) + p * (-(k * (y / p))) := by rw [Int.emod_def]; grind
  rw [e, Int.add_mul_emod_self_left]
theorem m3 (x k y : Int) : (x + (k % p) * y) % p = (x + k * y) % p := by
  have e : x + (k % p) * y = (x + k * y) + p * (-((k / p) * y)) := by rw [Int.emod_def]; grind
  rw [e, Int.add_mul_emod_self_left]
theorem m4 (x k y : Int) : (x + (-(k % p)) * y) % p = (x + (-k) * y) % p := by
  have e : x + (-(k % p)) * y = (x + (-k) * y) + p * (((k / p) * y)) := by rw [Int.emod_def]; grind
  rw [e, Int.add_mul_emod_self_left]
theorem m5 (k y : Int) : (k * (y % p)) % p = (k * y) % p := by
  have := m2 (p := p) 0 k y
  simpa using this
theorem inv_ex (hp : Pr p) {x : Int} (h0 : 0 < x) (h1 : x < p) : ∃ m, 0 ≤ m ∧ m < p ∧ m * x % p = 1 := by
  rcases hp with rfl | rfl | rfl
  · have : x = 1 := by omega
    subst this; exact ⟨1, by decide⟩
  · have : x = 1 ∨ x = 2 := by omega
    rcases this with rfl | rfl
    · exact ⟨1, by decide⟩
    · exact ⟨2, by decide⟩
  · have : x = 1 ∨ x = 2 ∨ x = 3 ∨ x = 4 := by omega
    rcases this with rfl | rfl | rfl | rfl
    · exact ⟨1, by decide⟩
    · exact ⟨3, by decide⟩
    · exact ⟨2, by decide⟩
    · exact ⟨4, by decide⟩
end arith
/-! ### rows by places -/
section rows
variable {p : Int} {n : Nat} {u v w : Rw}
theorem Row.ln (h : Row p n v) : v.length = n := h.1
theorem at_out {i : Nat} (h : v.length ≤ i) : at_ v i = 0 := by
  unfold at_
  rw [List.getD_eq_getElem?_getD, List.getElem?_eq_none h]
  rfl
theorem Row.lim (h : Row p n v) (hp : 0 < p) (i : Nat) : 0 ≤ at_ v i ∧ at_ v i < p := by
  by_cases hi : i < v.length
  · unfold at_
    rw [List.getD_eq_getElem?_getD, List.getElem?_eq_getElem hi]
    exact h.2 _ (List.getElem_mem hi)
  · rw [at_out (by omega)]
    omega
theorem Row.md (h : Row p n v) (hp : 0 < p) (i : Nat) : at_ v i % p = at_ v i := Int.emod_eq_of_lt (h.lim hp i).1 (h.lim hp i).2
theorem ext_at (hv : v.length = n) (hw : w.length = n) (h : ∀ i, i < n → at_ v i = at_ w i) : v = w := by
  refine List.ext_getElem (by omega) fun i h1 h2 => ?_
  have q := h i (by omega)
  unfold at_ at q
  rw [List.getD_eq_getElem?_getD, List.getD_eq_getElem?_getD, List.getElem?_eq_getElem h1, List.getElem?_eq_getElem h2] at q
  exact q
theorem len_addm {k : Int} (hv : v.length = n) (hw : w.length = n) : (addm p v k w).length = n := by
  unfold addm
  rw [List.length_zipWith, hv, hw, Nat.min_self]
theorem at_addm {k : Int} (hv : v.length = n) (hw : w.length = n) (i : Nat) : at_ (addm p v k w) i = (at_ v i + k * at_ w i) % p := by
  by_cases hi : i < n
  · unfold at_ addm
    rw [List.getD_eq_getElem?_getD, List.getD_eq_getElem?_getD, List.getD_eq_getElem?_getD, List.getElem?_zipWith, List.getElem?_eq_getElem (by omega : i < v.length), List.getElem?_eq_getElem (by omega : i < w.length)]
    rfl
  · rw [at_out (by rw [len_addm hv hw]; omega), at_out (by omega : v.length ≤ i), at_out (by omega : w.length ≤ i)]
    simp
theorem row_of_lim (hl : v.length = n) (h : ∀ i, i < n → 0 ≤ at_ v i ∧ at_ v i < p) : Row p n v := by
  refine ⟨hl, fun x hx => ?_⟩
  obtain ⟨i, hi, e⟩ := List.mem_iff_getElem.mp hx
  have q := h i (by omega)
  unfold at_ at q
  rw [List.getD_eq_getElem?_getD, List.getElem?_eq_getElem hi, e] at q
  exact q
theorem Row.addm (hp : 0 < p) {k : Int} (hv : Row p n v) (hw : Row p n w) : Row p n (addm p v k w) := by
  refine row_of_lim (len_addm hv.1 hw.1) fun i _ => ?_
  rw [at_addm hv.1 hw.1]
  exact ⟨Int.emod_nonneg _ (by omega), Int.emod_lt_of_pos _ hp⟩
theorem zr_len : (zr n).length = n := List.length_replicate
theorem at_zr (i : Nat) : at_ (zr n) i = 0 := by
  unfold at_ zr
  rw [List.getD_eq_getElem?_getD]
  by_cases hi : i < n
  · rw [List.getElem?_replicate, if_pos hi]; rfl
  · rw [List.getElem?_replicate, if_neg hi]; rfl
theorem Row.zr (hp : 0 < p) : Row p n (zr n) := row_of_lim zr_len fun i _ => by rw [at_zr]; omega
theorem addm_zero_k (hp : 0 < p) (hv : Row p n v) (hw : Row p n w) : MA.addm p v 0 w = v := by
  refine ext_at (len_addm hv.1 hw.1) hv.1 fun i _ => ?_
  rw [at_addm hv.1 hw.1, Int.zero_mul, Int.add_zero, hv.md hp]
theorem addm_zr (hp : 0 < p) {k : Int} (hv : Row p n v) : MA.addm p v k (MA.zr n) = v := by
  refine ext_at (len_addm hv.1 zr_len) hv.1 fun i _ => ?_
  rw [at_addm hv.1 zr_len, at_zr, Int.mul_zero, Int.add_zero, hv.md hp]
theorem zr_addm_one (hp : 0 < p) (hv : Row p n v) : MA.addm p (MA.zr n) 1 v = v := by
  refine ext_at (len_addm zr_len hv.1) hv.1 fun i _ => ?_
  rw [at_addm zr_len hv.1, at_zr, Int.zero_add, Int.one_mul, hv.md hp]
/-- v + k (w + c a) = (v + k w) + (k c) a -/
theorem addm_assoc {k c : Int} (hu : u.length = n) (hv : v.length = n) (hw : w.length = n) : MA.addm p u k (MA.addm p v c w) = MA.addm p (MA.addm p u k v) (k * c) w := by
  refine ext_at (len_addm hu (len_addm hv hw)) (len_addm (len_addm hu hv) hw) fun i _ => ?_
  rw [at_addm hu (len_addm hv hw), at_addm hv hw, at_addm (len_addm hu hv) hw, at_addm hu hv, m1, m2]
  congr 1
  grind
theorem addm_right {k c : Int} (hu : u.length = n) (hv : v.length = n) (hw : w.length = n) : MA.addm p (MA.addm p u k v) c w = MA.addm p (MA.addm p u c w) k v := by
  refine ext_at (len_addm (len_addm hu hv) hw) (len_addm (len_addm hu hw) hv) fun i _ => ?_
  rw [at_addm (len_addm hu hv) hw, at_addm hu hv, at_addm (len_addm hu hw) hv, at_addm hu hw, m1, m1]
  congr 1
  grind
/-- (v + k w) - k w = v -/
theorem addm_back (hp : 0 < p) {k : Int} (hv : Row p n v) (hw : Row p n w) : MA.addm p (MA.addm p v k w) (-k) w = v := by
  refine ext_at (len_addm (len_addm hv.1 hw.1) hw.1) hv.1 fun i _ => ?_
  rw [at_addm (len_addm hv.1 hw.1) hw.1, at_addm hv.1 hw.1, m1]
  have e : at_ v i + k * at_ w i + -k * at_ w i = at_ v i := by grind
  rw [e, hv.md hp]
/-! heads -/
theorem hx_le : hx v ≤ v.length := List.findIdx_le_length
theorem at_before {i : Nat} (h : i < hx v) : at_ v i = 0 := by
  have hi : i < v.length := Nat.lt_of_lt_of_le h hx_le
  have q := List.not_of_lt_findIdx h
  unfold at_
  rw [List.getD_eq_getElem?_getD, List.getElem?_eq_getElem hi]
  simpa using q
theorem at_hx (h : hx v < v.length) : at_ v (hx v) ≠ 0 := by
  have q := List.findIdx_getElem (w := h)
  unfold at_
  rw [List.getD_eq_getElem?_getD, List.getElem?_eq_getElem h]
  simpa [hx] using q
theorem hx_eq {i : Nat} (h1 : ∀ j, j < i → at_ v j = 0) (h2 : at_ v i ≠ 0) : hx v = i := by
  have hi : i < v.length := by
    by_cases q : i < v.length
    · exact q
    · exact absurd (at_out (by omega)) h2
  rcases Nat.lt_trichotomy (hx v) i with q | q | q
  · exact absurd (h1 _ q) (at_hx (by omega))
  · exact q
  · exact absurd (at_before q) h2
theorem zr_of_hx (hl : v.length = n) (h : ¬ hx v < n) : v = zr n := by
  have e : hx v = n := by have := hx_le (v := v); omega
  exact ext_at hl zr_len fun i hi => by rw [at_zr]; exact at_before (by omega)
theorem hx_zr : hx (zr n) = n := by
  have h1 := hx_le (v := zr n)
  rw [zr_len] at h1
  rcases Nat.lt_or_ge (hx (zr n)) n with q | q
  · exact absurd (at_zr _) (at_hx (by rw [zr_len]; exact q))
  · omega
theorem hx_lt_iff (hl : v.length = n) : hx v < n ↔ v ≠ zr n := by
  constructor
  · intro h e
    rw [e, hx_zr] at h
    omega
  · intro h
    by_cases q : hx v < n
    · exact q
    · exact absurd (zr_of_hx hl q) h
end rows
/-! ### what rows span -/
inductive Span (p : Int) (n : Nat) (A : List Rw) : Rw → Prop
  | zero : Span p n A (zr n)
  | add {v a : Rw} (k : Int) : Span p n A v → a ∈ A → Span p n A (addm p v k a)
section span
variable {p : Int} {n : Nat} {A B : List Rw} {u v w : Rw}
theorem Span.row (hp : 0 < p) (hA : ∀ a ∈ A, Row p n a) (h : Span p n A v) : Row p n v := by
  induction h with
  | zero => exact Row.zr hp
  | add k _ ha ih => exact ih.addm hp (hA _ ha)
theorem Span.mem (hp : 0 < p) (hA : ∀ a ∈ A, Row p n a) (h : v ∈ A) : Span p n A v := by
  have q := Span.add 1 (Span.zero (p := p) (n := n)) h
  rwa [zr_addm_one hp (hA _ h)] at q
theorem Span.plus (hp : 0 < p) (hA : ∀ a ∈ A, Row p n a) {k : Int} (hv : Span p n A v) (hw : Span p n A w) : Span p n A (addm p v k w) := by
  induction hw with
  | zero => rw [addm_zr hp (hv.row hp hA)]; exact hv
  | add c h1 ha ih =>
    rw [addm_assoc (hv.row hp hA).1 (h1.row hp hA).1 (hA _ ha).1]
    exact .add _ ih ha
theorem Span.mono (hp : 0 < p) (hB : ∀ a ∈ B, Row p n a) (h : ∀ a ∈ A, Span p n B a) (hv : Span p n A v) : Span p n B v := by
  induction hv with
  | zero => exact .zero
  | add k _ ha ih => exact ih.plus hp hB (h _ ha)
theorem Span.sub (hv : Span p n A v) (h : ∀ a ∈ A, a ∈ B) : Span p n B v := by
  induction hv with
  | zero => exact .zero
  | add k _ ha ih => exact .add k ih (h _ ha)
theorem span_nil (h : Span p n [] v) : v = zr n := by
  cases h with
  | zero => rfl
  | add _ _ ha => cases ha
/-- one row more -/
theorem span_snoc (hp : 0 < p) (hA : ∀ a ∈ A, Row p n a) (hw : Row p n w) (h : Span p n (A ++ [w]) v) : ∃ u k, Span p n A u ∧ v = addm p u k w := by
  induction h with
  | zero => exact ⟨zr n, 0, .zero, (addm_zero_k hp (Row.zr hp) hw).symm⟩
  | add c h1 ha ih =>
    obtain ⟨u, k, hu, rfl⟩ := ih
    rcases List.mem_append.mp ha with ha | ha
    · refine ⟨_, k, .add c hu ha, ?_⟩
      rw [addm_right (hu.row hp hA).1 hw.1 (hA _ ha).1]
    · have e := List.mem_singleton.mp ha
      subst e
      refine ⟨u, k + c, hu, ?_⟩
      have l := (hu.row hp hA).1
      refine ext_at (len_addm (len_addm l hw.1) hw.1) (len_addm l hw.1) fun i _ => ?_
      rw [at_addm (len_addm l hw.1) hw.1, at_addm l hw.1, at_addm l hw.1, m1]
      congr 1
      grind
end span
end MA

end
section
set_option linter.all false
set_option autoImplicit false
namespace MA
/-! ### reduced systems -/
structure Lead (p : Int) (n : Nat) (a : Rw) : Prop where
  row : Row p n a
  lt : hx a < n
  one : at_ a (hx a) = 1
def Apart (a b : Rw) : Prop := at_ a (hx b) = 0 ∧ at_ b (hx a) = 0
theorem Apart.symm {a b : Rw} (h : Apart a b) : Apart b a := ⟨h.2, h.1⟩
structure Sys (p : Int) (n : Nat) (A : List Rw) : Prop where
  lead : ∀ a ∈ A, Lead p n a
  ap : A.Pairwise Apart
def stp (p : Int) (v a : Rw) : Rw := addm p v (0 - at_ v (hx a)) a
def red (p : Int) (A : List Rw) (v : Rw) : Rw := A.foldl (stp p) v
section
variable {p : Int} {n : Nat} {A B : List Rw} {a b u v w : Rw}
theorem Sys.rows (h : Sys p n A) : ∀ a ∈ A, Row p n a := fun a ha => (h.lead a ha).row
theorem Sys.apart (h : Sys p n A) (ha : a ∈ A) (hb : b ∈ A) (hne : a ≠ b) : Apart a b := by
  obtain ⟨i, hi, rfl⟩ := List.mem_iff_getElem.mp ha
  obtain ⟨j, hj, rfl⟩ := List.mem_iff_getElem.mp hb
  rcases Nat.lt_trichotomy i j with q | q | q
  · exact List.pairwise_iff_getElem.mp h.ap i j hi hj q
  · subst q; exact absurd rfl hne
  · exact (List.pairwise_iff_getElem.mp h.ap j i hj hi q).symm
theorem not_apart_self (h : Lead p n a) : ¬ Apart a a := fun q => by
  have := q.1
  rw [h.one] at this
  omega
theorem Sys.nodup (h : Sys p n A) : A.Nodup := List.Pairwise.imp_of_mem (fun ha _ q e => not_apart_self (h.lead _ ha) (by subst e; exact q)) h.ap
theorem Sys.tail (h : Sys p n (a :: A)) : Sys p n A := ⟨fun b hb => h.lead b (.tail _ hb), (List.pairwise_cons.mp h.ap).2⟩
theorem Sys.head (h : Sys p n (a :: A)) : ∀ b ∈ A, Apart a b := (List.pairwise_cons.mp h.ap).1
theorem Row.stp (hp : 0 < p) (hv : Row p n v) (ha : Row p n a) : Row p n (stp p v a) := hv.addm hp ha
theorem Row.red (hp : 0 < p) : ∀ {A : List Rw} {v : Rw}, (∀ a ∈ A, Row p n a) → Row p n v → Row p n (red p A v)
  | [], _, _, hv => hv
  | a :: A, v, h, hv => Row.red hp (A := A) (fun b hb => h b (.tail _ hb)) (hv.stp hp (h a (.head _)))
theorem at_stp (hv : v.length = n) (ha : a.length = n) (i : Nat) : at_ (stp p v a) i = (at_ v i + (0 - at_ v (hx a)) * at_ a i) % p := at_addm hv ha i
/-- a step lets 0 at its own head -/
theorem stp_own (hv : v.length = n) (ha : Lead p n a) : at_ (stp p v a) (hx a) = 0 := by
  rw [at_stp hv ha.row.1, ha.one]
  have e : at_ v (hx a) + (0 - at_ v (hx a)) * 1 = 0 := by omega
  rw [e, Int.zero_emod]
theorem stp_off (hp : 0 < p) (hv : Row p n v) (ha : Row p n a) (h : at_ v (hx a) = 0) : stp p v a = v := by
  unfold stp
  rw [h]
  exact addm_zero_k hp hv ha
theorem stp_keep (hp : 0 < p) (hv : Row p n v) (ha : Row p n a) {i : Nat} (h : at_ a i = 0) : at_ (stp p v a) i = at_ v i := by
  rw [at_stp hv.1 ha.1, h, Int.mul_zero, Int.add_zero, hv.md hp]
theorem red_keep (hp : 0 < p) {i : Nat} : ∀ {A : List Rw} {v : Rw}, (∀ a ∈ A, Row p n a) → Row p n v → (∀ a ∈ A, at_ a i = 0) → at_ (red p A v) i = at_ v i
  | [], _, _, _, _ => rfl
  | a :: A, v, h, hv, h0 => by
    have ha := h a (.head _)
    show at_ (red p A (stp p v a)) i = _
    rw [red_keep hp (fun b hb => h b (.tail _ hb)) (hv.stp hp ha) (fun b hb => h0 b (.tail _ hb)), stp_keep hp hv ha (h0 a (.head _))]
/-- at all heads 0 -/
theorem red_heads (hp : 0 < p) : ∀ {A : List Rw} {v : Rw}, Sys p n A → Row p n v → ∀ a ∈ A, at_ (red p A v) (hx a) = 0
  | b :: A, v, h, hv, a, ha => by
    have hb := h.lead b (.head _)
    show at_ (red p A (stp p v b)) (hx a) = 0
    cases ha with
    | head => rw [red_keep hp h.tail.rows (hv.stp hp hb.row) (fun c hc => (h.head c hc).2), stp_own hv.1 hb]
    | tail _ ha => exact red_heads hp h.tail (hv.stp hp hb.row) a ha
theorem red_off (hp : 0 < p) : ∀ {A : List Rw} {v : Rw}, (∀ a ∈ A, Row p n a) → Row p n v → (∀ a ∈ A, at_ v (hx a) = 0) → red p A v = v
  | [], _, _, _, _ => rfl
  | a :: A, v, h, hv, h0 => by
    show red p A (stp p v a) = v
    rw [stp_off hp hv (h a (.head _)) (h0 a (.head _))]
    exact red_off hp (fun b hb => h b (.tail _ hb)) hv (fun b hb => h0 b (.tail _ hb))
theorem stp_lin (hv : v.length = n) (hw : w.length = n) (ha : a.length = n) (k : Int) : stp p (addm p v k w) a = addm p (stp p v a) k (stp p w a) := by
  refine ext_at (len_addm (len_addm hv hw) ha) (len_addm (len_addm hv ha) (len_addm hw ha)) fun i _ => ?_
  have l1 : (stp p v a).length = n := len_addm hv ha
  have l2 : (stp p w a).length = n := len_addm hw ha
  rw [at_stp (len_addm hv hw) ha, at_addm l1 l2, at_stp hv ha, at_stp hw ha, at_addm hv hw, at_addm hv hw, m1, m1, m2]
  have e : (0 - (at_ v (hx a) + k * at_ w (hx a)) % p) = -((at_ v (hx a) + k * at_ w (hx a)) % p) := by omega
  rw [e, m4]
  congr 1
  grind
theorem red_lin (hp : 0 < p) (k : Int) : ∀ {A : List Rw} {v w : Rw}, (∀ a ∈ A, Row p n a) → Row p n v → Row p n w → red p A (addm p v k w) = addm p (red p A v) k (red p A w)
  | [], _, _, _, _, _ => rfl
  | a :: A, v, w, h, hv, hw => by
    have ha := h a (.head _)
    show red p A (stp p (addm p v k w) a) = addm p (red p A (stp p v a)) k (red p A (stp p w a))
    rw [stp_lin hv.1 hw.1 ha.1, red_lin hp k (fun b hb => h b (.tail _ hb)) (hv.stp hp ha) (hw.stp hp ha)]
theorem red_zr (hp : 0 < p) (h : ∀ a ∈ A, Row p n a) : red p A (zr n) = zr n := red_off hp h (Row.zr hp) fun _ _ => at_zr _
theorem stp_self (ha : Lead p n a) : stp p a a = zr n := by
  refine ext_at (len_addm ha.row.1 ha.row.1) zr_len fun i _ => ?_
  rw [at_stp ha.row.1 ha.row.1, ha.one, at_zr]
  have e : at_ a i + (0 - 1) * at_ a i = 0 := by omega
  rw [e, Int.zero_emod]
theorem red_mem (hp : 0 < p) : ∀ {A : List Rw} {a : Rw}, Sys p n A → a ∈ A → red p A a = zr n
  | b :: A, a, h, ha => by
    show red p A (stp p a b) = zr n
    cases ha with
    | head => rw [stp_self (h.lead b (.head _))]; exact red_zr hp h.tail.rows
    | tail _ ha =>
      rw [stp_off hp (h.tail.rows a ha) (h.lead b (.head _)).row (h.head a ha).2]
      exact red_mem hp h.tail ha
/-- v = red v + what A spans -/
theorem red_diff (hp : 0 < p) : ∀ {A : List Rw} {v : Rw}, (∀ a ∈ A, Row p n a) → Row p n v → ∃ s, Span p n A s ∧ v = addm p (red p A v) 1 s
  | [], v, _, hv => ⟨zr n, .zero, (addm_zr hp hv).symm⟩
  | a :: A, v, h, hv => by
    have ha := h a (.head _)
    have hA : ∀ b ∈ A, Row p n b := fun b hb => h b (.tail _ hb)
    obtain ⟨s, hs, e⟩ := red_diff hp hA (hv.stp hp ha)
    have hs' : Span p n (a :: A) s := hs.sub fun b hb => .tail _ hb
    have rs := hs'.row hp h
    refine ⟨addm p s (at_ v (hx a)) a, .add _ hs' (.head _), ?_⟩
    have rr : Row p n (red p A (stp p v a)) := Row.red hp hA (hv.stp hp ha)
    have e2 : addm p (stp p v a) (at_ v (hx a)) a = v := by
      have := addm_back hp (k := 0 - at_ v (hx a)) hv ha
      have e3 : -(0 - at_ v (hx a)) = at_ v (hx a) := by omega
      rw [e3] at this
      exact this
    show v = addm p (red p A (stp p v a)) 1 (addm p s (at_ v (hx a)) a)
    rw [addm_assoc rr.1 rs.1 ha.1, ← e, Int.one_mul, e2]
theorem span_red (hp : 0 < p) (h : Sys p n A) (hv : Span p n A v) : red p A v = zr n := by
  induction hv with
  | zero => exact red_zr hp h.rows
  | add k h1 ha ih => rw [red_lin hp k h.rows (h1.row hp h.rows) (h.rows _ ha), ih, red_mem hp h ha, addm_zr hp (Row.zr hp)]
theorem red_span (hp : 0 < p) (h : ∀ a ∈ A, Row p n a) (hv : Row p n v) (e : red p A v = zr n) : Span p n A v := by
  obtain ⟨s, hs, e2⟩ := red_diff hp h hv
  rw [e, zr_addm_one hp (hs.row hp h)] at e2
  rw [e2]
  exact hs
theorem span_iff (hp : 0 < p) (h : Sys p n A) (hv : Row p n v) : Span p n A v ↔ red p A v = zr n := ⟨span_red hp h, red_span hp h.rows hv⟩
/-- what is spanned begins where a row begins -/
theorem red_first (hp : 0 < p) {i : Nat} : ∀ {A : List Rw} {v : Rw}, (∀ a ∈ A, Row p n a) → (∀ a ∈ A, hx a ≠ i) → Row p n v → (∀ j, j < i → at_ v j = 0) → at_ (red p A v) i = at_ v i
  | [], _, _, _, _, _ => rfl
  | a :: A, v, h, hi, hv, h0 => by
    have ha := h a (.head _)
    have hA : ∀ b ∈ A, Row p n b := fun b hb => h b (.tail _ hb)
    show at_ (red p A (stp p v a)) i = _
    rcases Nat.lt_trichotomy (hx a) i with q | q | q
    · rw [stp_off hp hv ha (h0 _ q)]
      exact red_first hp hA (fun b hb => hi b (.tail _ hb)) hv h0
    · exact absurd q (hi a (.head _))
    · have k : ∀ j, j ≤ i → at_ (stp p v a) j = at_ v j := fun j hj => stp_keep hp hv ha (at_before (by omega))
      rw [red_first hp hA (fun b hb => hi b (.tail _ hb)) (hv.stp hp ha) (fun j hj => by rw [k j (by omega)]; exact h0 j hj), k i (Nat.le_refl _)]
theorem span_head (hp : 0 < p) (h : Sys p n A) (hv : Span p n A v) (hne : v ≠ zr n) : ∃ a ∈ A, hx a = hx v := by
  have rv := hv.row hp h.rows
  have lt := (hx_lt_iff rv.1).mpr hne
  by_cases q : ∃ a ∈ A, hx a = hx v
  · exact q
  · have e := red_first hp (i := hx v) h.rows (fun a ha e => q ⟨a, ha, e⟩) rv (fun j hj => at_before hj)
    rw [span_red hp h hv, at_zr] at e
    exact absurd e.symm (at_hx (by rw [rv.1]; exact lt))
/-- the rows of a system, told by what it spans -/
structure Canon (p : Int) (n : Nat) (S : Rw → Prop) (a : Rw) : Prop where
  mem : S a
  lead : Lead p n a
  off : ∀ v, S v → v ≠ zr n → hx v ≠ hx a → at_ a (hx v) = 0
theorem Lead.ne (h : Lead p n a) : a ≠ zr n := (hx_lt_iff h.row.1).mp h.lt
theorem sys_canon (hp : 0 < p) (h : Sys p n A) : a ∈ A ↔ Canon p n (Span p n A) a := by
  constructor
  · intro ha
    refine ⟨.mem hp h.rows ha, h.lead a ha, fun v hv ne hn => ?_⟩
    obtain ⟨b, hb, e⟩ := span_head hp h hv ne
    rw [← e]
    have hab : a ≠ b := fun q => hn (by rw [q, e])
    exact (h.apart ha hb hab).1
  · intro c
    obtain ⟨b, hb, e⟩ := span_head hp h c.mem c.lead.ne
    have lb := h.lead b hb
    have hd : Span p n A (addm p a (-1) b) := c.mem.plus hp h.rows (.mem hp h.rows hb)
    have ra := c.lead.row
    have z : addm p a (-1) b = zr n := by
      rw [← span_red hp h hd, red_off hp h.rows (ra.addm hp lb.row)]
      intro d hd
      rw [at_addm ra.1 lb.row.1]
      by_cases q : d = b
      · rw [q, lb.one, e, c.lead.one]; rfl
      · have h1 : at_ b (hx d) = 0 := (h.apart hb hd (Ne.symm q)).1
        have h2 : at_ a (hx d) = 0 := c.off d (.mem hp h.rows hd) (h.lead d hd).ne (fun z => by
          rw [← e] at z
          have := (h.apart hd hb q).1
          rw [← z, (h.lead d hd).one] at this
          omega)
        rw [h1, h2]
        rfl
    have back : a = b := by
      have k := addm_back hp (k := -1) ra lb.row
      rw [z] at k
      have e1 : (- -1 : Int) = 1 := rfl
      rw [e1, zr_addm_one hp lb.row] at k
      exact k.symm
    rw [back]
    exact hb
theorem sys_same (hp : 0 < p) (h : Sys p n A) (h' : Sys p n B) (e : ∀ v, Span p n A v ↔ Span p n B v) : ∀ a, a ∈ A ↔ a ∈ B := fun a => by
  have q : Span p n A = Span p n B := funext fun v => propext (e v)
  rw [sys_canon hp h, sys_canon hp h', q]
theorem sys_perm (hp : 0 < p) (h : Sys p n A) (h' : Sys p n B) (e : ∀ v, Span p n A v ↔ Span p n B v) : A.Perm B := (List.perm_ext_iff_of_nodup h.nodup h'.nodup).mpr (sys_same hp h h' e)
theorem Sys.perm (h : Sys p n A) (e : A.Perm B) : Sys p n B := ⟨fun b hb => h.lead b (e.mem_iff.mpr hb), (e.pairwise_iff (fun q => Apart.symm q)).mp h.ap⟩
/-! ### parts: by heads -/
structure Part (p : Int) (n : Nat) (A : List Rw) : Prop where
  sys : Sys p n A
  up : A.Pairwise fun a b => hx a < hx b
theorem sorted_same : ∀ {A B : List Rw}, A.Pairwise (fun a b => hx a < hx b) → B.Pairwise (fun a b => hx a < hx b) → (∀ a, a ∈ A ↔ a ∈ B) → A = B
  | [], [], _, _, _ => rfl
  | [], b :: B, _, _, h => absurd ((h b).mpr (.head _)) (by simp)
  | a :: A, [], _, _, h => absurd ((h a).mp (.head _)) (by simp)
  | a :: A, b :: B, h1, h2, h => by
    have p1 := List.pairwise_cons.mp h1
    have p2 := List.pairwise_cons.mp h2
    have e : a = b := by
      have ma := (h a).mp (.head _)
      have mb := (h b).mpr (.head _)
      cases ma with
      | head => rfl
      | tail _ ma =>
        cases mb with
        | head => rfl
        | tail _ mb =>
          have := p1.1 b mb
          have := p2.1 a ma
          omega
    subst e
    congr 1
    refine sorted_same p1.2 p2.2 fun c => ⟨fun hc => ?_, fun hc => ?_⟩
    · have := (h c).mp (.tail _ hc)
      cases this with
      | head => have := p1.1 a hc; omega
      | tail _ q => exact q
    · have := (h c).mpr (.tail _ hc)
      cases this with
      | head => have := p2.1 a hc; omega
      | tail _ q => exact q
theorem part_same (hp : 0 < p) (h : Part p n A) (h' : Part p n B) (e : ∀ v, Span p n A v ↔ Span p n B v) : A = B := sorted_same h.up h'.up (sys_same hp h.sys h'.sys e)
theorem part_eq_iff (hp : 0 < p) (h : Part p n A) (h' : Part p n B) : A = B ↔ ∀ v, Span p n A v ↔ Span p n B v := ⟨fun e v => by rw [e], part_same hp h h'⟩
end
end MA

end
section
set_option linter.all false
set_option autoImplicit false
namespace MA
/-! ### reducing -/
def scal (p m : Int) (w : Rw) : Rw := w.map fun x => m * x % p
def rngI (n : Nat) : List Int := (List.range n).map fun (i : Nat) => (i : Int)
def invs (p x : Int) : List Int := (rngI p.toNat).filter fun m => decide (m * x % p = 1)
def inv (p x : Int) : Int := (invs p x).headD 0
def putIn (p : Int) (found : List Rw) (w : Rw) : List Rw :=
  if hx w < w.length then
    found.map (fun f => addm p f (0 - at_ f (hx w)) (scal p (inv p (at_ w (hx w))) w)) ++ [scal p (inv p (at_ w (hx w))) w]
  else found
def redStep (p : Int) (found : List Rw) (row : Rw) : List Rw := putIn p found (red p found row)
def redU (p : Int) (rows : List Rw) : List Rw := rows.foldl (redStep p) []
section
variable {p : Int} {n : Nat} {A B : List Rw} {a b u v w : Rw}
theorem inv_cons (hp : Pr p) {x : Int} (h0 : 0 < x) (h1 : x < p) : ∃ r, invs p x = inv p x :: r ∧ inv p x * x % p = 1 ∧ 0 ≤ inv p x ∧ inv p x < p := by
  obtain ⟨m, m0, m1, e⟩ := inv_ex hp h0 h1
  have mem : m ∈ invs p x := List.mem_filter.mpr ⟨List.mem_map.mpr ⟨m.toNat, List.mem_range.mpr (by omega), by omega⟩, by simpa using e⟩
  unfold inv
  cases q : invs p x with
  | nil => rw [q] at mem; cases mem
  | cons y r =>
    have my : y ∈ invs p x := by rw [q]; exact .head _
    have := List.mem_filter.mp my
    obtain ⟨i, hi, ei⟩ := List.mem_map.mp this.1
    have hi := List.mem_range.mp hi
    exact ⟨r, rfl, by simpa using this.2, by rw [List.headD_cons]; omega, by rw [List.headD_cons]; omega⟩
theorem at_scal {m : Int} (i : Nat) : at_ (scal p m w) i = m * at_ w i % p := by
  unfold at_ scal
  rw [List.getD_eq_getElem?_getD, List.getD_eq_getElem?_getD, List.getElem?_map]
  cases w[i]? with
  | none => simp
  | some x => rfl
theorem len_scal {m : Int} : (scal p m w).length = w.length := List.length_map _
theorem Row.scal (hp : 0 < p) {m : Int} (hw : Row p n w) : Row p n (scal p m w) := row_of_lim (by rw [len_scal]; exact hw.1) fun i _ => by
  rw [at_scal]
  exact ⟨Int.emod_nonneg _ (by omega), Int.emod_lt_of_pos _ hp⟩
theorem scal_eq (hp : 0 < p) {m : Int} (hw : Row p n w) : scal p m w = addm p (zr n) m w := by
  refine ext_at (by rw [len_scal]; exact hw.1) (len_addm zr_len hw.1) fun i _ => ?_
  rw [at_scal, at_addm zr_len hw.1, at_zr, Int.zero_add]
/-- a row with 1 ahead -/
theorem lead_scal (hp : Pr p) (hw : Row p n w) (h : hx w < n) : Lead p n (scal p (inv p (at_ w (hx w))) w) ∧ hx (scal p (inv p (at_ w (hx w))) w) = hx w := by
  have lim := hw.lim hp.pos (hx w)
  have nz := at_hx (v := w) (by rw [hw.1]; exact h)
  obtain ⟨r, _, e, _, _⟩ := inv_cons hp (x := at_ w (hx w)) (by omega) lim.2
  have hh : hx (scal p (inv p (at_ w (hx w))) w) = hx w := hx_eq (fun j hj => by rw [at_scal, at_before hj, Int.mul_zero, Int.zero_emod]) (by rw [at_scal, e]; decide)
  exact ⟨⟨hw.scal hp.pos, by rw [hh]; exact h, by rw [hh, at_scal, e]⟩, hh⟩
theorem scal_back (hp : Pr p) (hw : Row p n w) (h : hx w < n) : addm p (zr n) (at_ w (hx w)) (scal p (inv p (at_ w (hx w))) w) = w := by
  have lim := hw.lim hp.pos (hx w)
  have nz := at_hx (v := w) (by rw [hw.1]; exact h)
  obtain ⟨r, _, e, _, _⟩ := inv_cons hp (x := at_ w (hx w)) (by omega) lim.2
  refine ext_at (len_addm zr_len (by rw [len_scal]; exact hw.1)) hw.1 fun i _ => ?_
  rw [at_addm zr_len (by rw [len_scal]; exact hw.1), at_scal, at_zr, Int.zero_add, m5]
  have e2 : at_ w (hx w) * (inv p (at_ w (hx w)) * at_ w i) = 0 + (inv p (at_ w (hx w)) * at_ w (hx w)) * at_ w i := by grind
  rw [e2, ← m3, e, Int.zero_add, Int.one_mul, hw.md hp.pos]
/-- clearing a place by a row that is 0 at all heads -/
def clr (p : Int) (w f : Rw) : Rw := addm p f (0 - at_ f (hx w)) w
theorem lead_clr (hp : 0 < p) (hf : Lead p n a) (hw : Lead p n w) (h0 : at_ w (hx a) = 0) : Lead p n (clr p w a) ∧ hx (clr p w a) = hx a := by
  have l := hf.row.1
  have l2 := hw.row.1
  have e : ∀ i, i ≤ hx a → at_ (clr p w a) i = at_ a i := fun i hi => by
    unfold clr
    rw [at_addm l l2]
    rcases Nat.lt_trichotomy (hx w) (hx a) with q | q | q
    · rw [at_before q]
      have e : at_ a i + (0 - 0) * at_ w i = at_ a i := by grind
      rw [e, hf.row.md hp]
    · rw [← q] at h0
      rw [hw.one] at h0
      omega
    · rw [at_before (v := w) (by omega), Int.mul_zero, Int.add_zero, hf.row.md hp]
  have hh : hx (clr p w a) = hx a := hx_eq (fun j hj => by rw [e j (by omega)]; exact at_before hj) (by rw [e _ (Nat.le_refl _), hf.one]; decide)
  exact ⟨⟨hf.row.addm hp hw.row, by rw [hh]; exact hf.lt, by rw [hh, e _ (Nat.le_refl _), hf.one]⟩, hh⟩
theorem clr_own (hf : Row p n a) (hw : Lead p n w) : at_ (clr p w a) (hx w) = 0 := by
  unfold clr
  rw [at_addm hf.1 hw.row.1, hw.one]
  have e : at_ a (hx w) + (0 - at_ a (hx w)) * 1 = 0 := by omega
  rw [e, Int.zero_emod]
theorem clr_at (hp : 0 < p) (hf : Row p n a) (hw : Row p n w) {i : Nat} (h : at_ w i = 0) : at_ (clr p w a) i = at_ a i := by
  unfold clr
  rw [at_addm hf.1 hw.1, h, Int.mul_zero, Int.add_zero, hf.md hp]
theorem sys_put (hp : 0 < p) (hA : Sys p n A) (hw : Lead p n w) (h0 : ∀ a ∈ A, at_ w (hx a) = 0) : Sys p n (A.map (clr p w) ++ [w]) := by
  refine ⟨fun b hb => ?_, ?_⟩
  · rcases List.mem_append.mp hb with hb | hb
    · obtain ⟨a, ha, rfl⟩ := List.mem_map.mp hb
      exact (lead_clr hp (hA.lead a ha) hw (h0 a ha)).1
    · rw [List.mem_singleton.mp hb]
      exact hw
  · rw [List.pairwise_append]
    refine ⟨?_, List.pairwise_singleton _ _, fun b hb c hc => ?_⟩
    · rw [List.pairwise_map]
      refine List.Pairwise.imp_of_mem (fun {a b} ha hb q => ?_) hA.ap
      have la := lead_clr hp (hA.lead a ha) hw (h0 a ha)
      have lb := lead_clr hp (hA.lead b hb) hw (h0 b hb)
      refine ⟨?_, ?_⟩
      · rw [lb.2, clr_at hp (hA.rows a ha) hw.row (h0 b hb)]; exact q.1
      · rw [la.2, clr_at hp (hA.rows b hb) hw.row (h0 a ha)]; exact q.2
    · obtain ⟨a, ha, rfl⟩ := List.mem_map.mp hb
      rw [List.mem_singleton.mp hc]
      refine ⟨clr_own (hA.rows a ha) hw, ?_⟩
      rw [(lead_clr hp (hA.lead a ha) hw (h0 a ha)).2]
      exact h0 a ha
theorem span_put (hp : 0 < p) (hA : ∀ a ∈ A, Row p n a) (hw : Row p n w) : Span p n (A.map (clr p w) ++ [w]) v ↔ Span p n (A ++ [w]) v := by
  have r1 : ∀ a ∈ A.map (clr p w) ++ [w], Row p n a := fun b hb => by
    rcases List.mem_append.mp hb with hb | hb
    · obtain ⟨a, ha, rfl⟩ := List.mem_map.mp hb
      exact (hA a ha).addm hp hw
    · rw [List.mem_singleton.mp hb]; exact hw
  have r2 : ∀ a ∈ A ++ [w], Row p n a := fun b hb => by
    rcases List.mem_append.mp hb with hb | hb
    · exact hA b hb
    · rw [List.mem_singleton.mp hb]; exact hw
  have w1 : w ∈ A.map (clr p w) ++ [w] := List.mem_append.mpr (.inr (.head _))
  have w2 : w ∈ A ++ [w] := List.mem_append.mpr (.inr (.head _))
  constructor
  · refine Span.mono hp r2 fun b hb => ?_
    rcases List.mem_append.mp hb with hb | hb
    · obtain ⟨a, ha, rfl⟩ := List.mem_map.mp hb
      exact .add _ (.mem hp r2 (List.mem_append.mpr (.inl ha))) w2
    · rw [List.mem_singleton.mp hb]; exact .mem hp r2 w2
  · refine Span.mono hp r1 fun b hb => ?_
    rcases List.mem_append.mp hb with hb | hb
    · have k : Span p n (A.map (clr p w) ++ [w]) (clr p w b) := .mem hp r1 (List.mem_append.mpr (.inl (List.mem_map.mpr ⟨b, hb, rfl⟩)))
      have e : addm p (clr p w b) (-(0 - at_ b (hx w))) w = b := addm_back hp (hA b hb) hw
      rw [← e]
      exact .add _ k w1
    · rw [List.mem_singleton.mp hb]; exact .mem hp r1 w1
/-- a row of the span exchanged -/
theorem span_exch (hp : 0 < p) (hA : ∀ a ∈ A, Row p n a) (hv : Row p n v) (hw : Row p n w) (h1 : Span p n (A ++ [v]) w) (h2 : Span p n (A ++ [w]) v) : Span p n (A ++ [v]) u ↔ Span p n (A ++ [w]) u := by
  have r : ∀ x : Rw, Row p n x → ∀ a ∈ A ++ [x], Row p n a := fun x hx b hb => by
    rcases List.mem_append.mp hb with hb | hb
    · exact hA b hb
    · rw [List.mem_singleton.mp hb]; exact hx
  have k : ∀ x y : Rw, Row p n y → Span p n (A ++ [y]) x → ∀ a ∈ A ++ [x], Span p n (A ++ [y]) a := fun x y hy hx b hb => by
    rcases List.mem_append.mp hb with hb | hb
    · exact .mem hp (r y hy) (List.mem_append.mpr (.inl hb))
    · rw [List.mem_singleton.mp hb]; exact hx
  exact ⟨Span.mono hp (r w hw) (k v w hw h2), Span.mono hp (r v hv) (k w v hv h1)⟩
theorem redStep_ok (hp : Pr p) (hA : Sys p n A) (hv : Row p n v) : Sys p n (redStep p A v) ∧ (∀ u, Span p n (redStep p A v) u ↔ Span p n (A ++ [v]) u) ∧ (redStep p A v).length = A.length + (if red p A v = zr n then 0 else 1) := by
  have p0 := hp.pos
  have rw_ := Row.red p0 hA.rows hv
  obtain ⟨s, hs, es⟩ := red_diff p0 hA.rows hv
  unfold redStep putIn
  by_cases h : hx (red p A v) < n
  · rw [if_pos (by rw [rw_.1]; exact h)]
    obtain ⟨ld, hh⟩ := lead_scal hp rw_ h
    have h0 : ∀ a ∈ A, at_ (scal p (inv p (at_ (red p A v) (hx (red p A v)))) (red p A v)) (hx a) = 0 := fun a ha => by rw [at_scal, red_heads p0 hA hv a ha, Int.mul_zero, Int.zero_emod]
    have e : (fun f => addm p f (0 - at_ f (hx (red p A v))) (scal p (inv p (at_ (red p A v) (hx (red p A v)))) (red p A v))) = clr p (scal p (inv p (at_ (red p A v) (hx (red p A v)))) (red p A v)) := by
      funext f
      unfold clr
      rw [hh]
    rw [e]
    refine ⟨sys_put p0 hA ld h0, fun u => ?_, ?_⟩
    · rw [span_put p0 hA.rows ld.row]
      have rr : ∀ x : Rw, Row p n x → ∀ a ∈ A ++ [x], Row p n a := fun x hx b hb => by
        rcases List.mem_append.mp hb with hb | hb
        · exact hA.rows b hb
        · rw [List.mem_singleton.mp hb]; exact hx
      refine span_exch p0 hA.rows ld.row hv ?_ ?_
      · -- v from the scaled one
        have k1 : Span p n (A ++ [scal p (inv p (at_ (red p A v) (hx (red p A v)))) (red p A v)]) (red p A v) := by
          have q := Span.add (at_ (red p A v) (hx (red p A v))) (Span.zero (p := p) (n := n)) (List.mem_append.mpr (.inr (.head _)) : scal p (inv p (at_ (red p A v) (hx (red p A v)))) (red p A v) ∈ A ++ [scal p (inv p (at_ (red p A v) (hx (red p A v)))) (red p A v)])
          rwa [scal_back hp rw_ h] at q
        have q := k1.plus p0 (rr _ ld.row) (k := 1) (hs.sub fun b hb => List.mem_append.mpr (.inl hb))
        rwa [← es] at q
      · have hm : v ∈ A ++ [v] := List.mem_append.mpr (.inr (.head _))
        have k1 : Span p n (A ++ [v]) (red p A v) := by
          have q := (Span.mem p0 (rr v hv) hm).plus p0 (rr v hv) (k := -1) (hs.sub fun b hb => List.mem_append.mpr (.inl hb))
          have e2 : addm p (addm p (red p A v) 1 s) (-1) s = red p A v := addm_back p0 rw_ (hs.row p0 hA.rows)
          rw [← es] at e2
          rwa [e2] at q
        rw [scal_eq p0 rw_]
        exact Span.zero.plus p0 (rr v hv) k1
    · rw [List.length_append, List.length_map, if_neg ((hx_lt_iff rw_.1).mp h)]
      rfl
  · rw [if_neg (by rw [rw_.1]; exact h)]
    have z := zr_of_hx rw_.1 h
    refine ⟨hA, fun u => ?_, by rw [if_pos z]; rfl⟩
    have hv' := red_span p0 hA.rows hv z
    refine ⟨fun q => q.sub fun b hb => List.mem_append.mpr (.inl hb), Span.mono p0 hA.rows fun b hb => ?_⟩
    rcases List.mem_append.mp hb with hb | hb
    · exact .mem p0 hA.rows hb
    · rw [List.mem_singleton.mp hb]; exact hv'
theorem span_snoc_congr (hp : 0 < p) (hA : ∀ a ∈ A, Row p n a) (hB : ∀ a ∈ B, Row p n a) (hv : Row p n v) (h : ∀ u, Span p n A u ↔ Span p n B u) : Span p n (A ++ [v]) u ↔ Span p n (B ++ [v]) u := by
  have r : ∀ {X : List Rw}, (∀ a ∈ X, Row p n a) → ∀ a ∈ X ++ [v], Row p n a := fun hX b hb => by
    rcases List.mem_append.mp hb with hb | hb
    · exact hX b hb
    · rw [List.mem_singleton.mp hb]; exact hv
  have k : ∀ {X Y : List Rw}, (∀ a ∈ X, Row p n a) → (∀ a ∈ Y, Row p n a) → (∀ u, Span p n X u → Span p n Y u) → ∀ a ∈ X ++ [v], Span p n (Y ++ [v]) a := fun hX hY h b hb => by
    rcases List.mem_append.mp hb with hb | hb
    · exact (h b (.mem hp hX hb)).sub fun c hc => List.mem_append.mpr (.inl hc)
    · rw [List.mem_singleton.mp hb]; exact .mem hp (r hY) (List.mem_append.mpr (.inr (.head _)))
  exact ⟨Span.mono hp (r hB) (k hA hB fun u => (h u).mp), Span.mono hp (r hA) (k hB hA fun u => (h u).mpr)⟩
theorem redU_snoc : redU p (A ++ [v]) = redStep p (redU p A) v := by
  unfold redU
  rw [List.foldl_append]
  rfl
theorem snoc_ind {α : Type} {P : List α → Prop} (h0 : P []) (h1 : ∀ A v, P A → P (A ++ [v])) (A : List α) : P A := by
  have k : ∀ B : List α, P B.reverse := fun B => by
    induction B with
    | nil => exact h0
    | cons b B ih => rw [List.reverse_cons]; exact h1 _ _ ih
  have := k A.reverse
  rwa [List.reverse_reverse] at this
theorem redU_ok (hp : Pr p) : ∀ {A : List Rw}, (∀ a ∈ A, Row p n a) → Sys p n (redU p A) ∧ ∀ u, Span p n (redU p A) u ↔ Span p n A u := by
  intro A
  refine snoc_ind (P := fun A => (∀ a ∈ A, Row p n a) → Sys p n (redU p A) ∧ ∀ u, Span p n (redU p A) u ↔ Span p n A u) ?_ ?_ A
  · exact fun _ => ⟨⟨fun _ h => (List.not_mem_nil h).elim, List.Pairwise.nil⟩, fun _ => Iff.rfl⟩
  · intro A v ih h
    have hA : ∀ a ∈ A, Row p n a := fun a ha => h a (List.mem_append.mpr (.inl ha))
    have hv : Row p n v := h v (List.mem_append.mpr (.inr (.head _)))
    obtain ⟨s, e⟩ := ih hA
    obtain ⟨s2, e2, _⟩ := redStep_ok hp s hv
    rw [redU_snoc]
    exact ⟨s2, fun u => (e2 u).trans (span_snoc_congr hp.pos s.rows hA hv e)⟩
/-! ### sizes -/
def rk (p : Int) (A : List Rw) : Nat := (redU p A).length
theorem rk_snoc (hp : Pr p) (hA : ∀ a ∈ A, Row p n a) (hv : Row p n v) : (Span p n A v → rk p (A ++ [v]) = rk p A) ∧ (¬ Span p n A v → rk p (A ++ [v]) = rk p A + 1) := by
  obtain ⟨s, e⟩ := redU_ok hp hA
  obtain ⟨_, _, l⟩ := redStep_ok hp s hv
  have q : Span p n A v ↔ red p (redU p A) v = zr n := (e v).symm.trans (span_iff hp.pos s hv)
  unfold rk
  rw [redU_snoc, l]
  refine ⟨fun h => by rw [if_pos (q.mp h)]; rfl, fun h => by rw [if_neg fun z => h (q.mpr z)]⟩
theorem rk_congr (hp : Pr p) (hA : ∀ a ∈ A, Row p n a) (hB : ∀ a ∈ B, Row p n a) (h : ∀ u, Span p n A u ↔ Span p n B u) : rk p A = rk p B := by
  obtain ⟨s, e⟩ := redU_ok hp hA
  obtain ⟨s', e'⟩ := redU_ok hp hB
  exact (sys_perm hp.pos s s' fun u => (e u).trans ((h u).trans (e' u).symm)).length_eq
theorem rk_sys (hp : Pr p) (hA : Sys p n A) : rk p A = A.length := by
  obtain ⟨s, e⟩ := redU_ok hp hA.rows
  exact (sys_perm hp.pos s hA e).length_eq
end
end MA

end
section
set_option linter.all false
set_option autoImplicit false
namespace MA
/-! ### the order of rows -/
section
variable {p : Int} {n : Nat} {A B : List Rw} {a b u v w : Rw}
theorem lt_of_at {i : Nat} (hl : v.length = w.length) (h : ∀ j, j < i → at_ v j = at_ w j) (hi : at_ v i < at_ w i) : v < w := by
  have li : i < w.length := by
    by_cases q : i < w.length
    · exact q
    · rw [at_out (by omega : v.length ≤ i), at_out (by omega : w.length ≤ i)] at hi
      omega
  rw [List.lt_iff_exists]
  right
  refine ⟨i, by omega, li, fun j hj => ?_, ?_⟩
  · have q := h j hj
    unfold at_ at q
    rw [List.getD_eq_getElem?_getD, List.getD_eq_getElem?_getD, List.getElem?_eq_getElem (by omega : j < v.length), List.getElem?_eq_getElem (by omega : j < w.length)] at q
    exact q
  · have q := hi
    unfold at_ at q
    rw [List.getD_eq_getElem?_getD, List.getD_eq_getElem?_getD, List.getElem?_eq_getElem (by omega : i < v.length), List.getElem?_eq_getElem (by omega : i < w.length)] at q
    exact q
def leR (a b : Rw) : Bool := decide (a ≤ b)
def sortR (xs : List Rw) : List Rw := xs.mergeSort leR
theorem leR_trans (a b c : Rw) (h1 : leR a b = true) (h2 : leR b c = true) : leR a c = true := decide_eq_true (List.le_trans (of_decide_eq_true h1) (of_decide_eq_true h2))
theorem leR_total (a b : Rw) : (leR a b || leR b a) = true := by
  rcases List.le_total a b with h | h
  · have := decide_eq_true h; unfold leR; rw [this]; rfl
  · have := decide_eq_true h; unfold leR; rw [this]; simp
theorem sortR_perm (xs : List Rw) : (sortR xs).Perm xs := List.mergeSort_perm xs leR
theorem sortR_le (xs : List Rw) : (sortR xs).Pairwise fun a b => a ≤ b := (List.pairwise_mergeSort leR_trans leR_total xs).imp fun h => of_decide_eq_true h
theorem sortR_len (xs : List Rw) : (sortR xs).length = xs.length := (sortR_perm xs).length_eq
theorem sortR_mem {xs : List Rw} {x : Rw} : x ∈ sortR xs ↔ x ∈ xs := (sortR_perm xs).mem_iff
theorem lt_of_le_ne (h : v ≤ w) (hne : v ≠ w) : v < w := by
  rcases Classical.em (v < w) with q | q
  · exact q
  · exact absurd (List.le_antisymm h (List.not_lt.mp q)) hne
theorem sortR_lt {xs : List Rw} (h : xs.Nodup) : (sortR xs).Pairwise fun a b => a < b := by
  have hn : (sortR xs).Nodup := (sortR_perm xs).nodup_iff.mpr h
  have q := List.pairwise_and_iff.mpr ⟨sortR_le xs, hn⟩
  exact q.imp fun ⟨h1, h2⟩ => lt_of_le_ne h1 h2
theorem lt_same : ∀ {A B : List Rw}, A.Pairwise (fun a b => a < b) → B.Pairwise (fun a b => a < b) → (∀ a, a ∈ A ↔ a ∈ B) → A = B
  | [], [], _, _, _ => rfl
  | [], b :: B, _, _, h => absurd ((h b).mpr (.head _)) (by simp)
  | a :: A, [], _, _, h => absurd ((h a).mp (.head _)) (by simp)
  | a :: A, b :: B, h1, h2, h => by
    have p1 := List.pairwise_cons.mp h1
    have p2 := List.pairwise_cons.mp h2
    have e : a = b := by
      have ma := (h a).mp (.head _)
      have mb := (h b).mpr (.head _)
      cases ma with
      | head => rfl
      | tail _ ma =>
        cases mb with
        | head => rfl
        | tail _ mb => exact absurd (List.lt_trans (p1.1 b mb) (p2.1 a ma)) (List.lt_irrefl _)
    subst e
    congr 1
    refine lt_same p1.2 p2.2 fun c => ⟨fun hc => ?_, fun hc => ?_⟩
    · have := (h c).mp (.tail _ hc)
      cases this with
      | head => exact absurd (p1.1 a hc) (List.lt_irrefl _)
      | tail _ q => exact q
    · have := (h c).mpr (.tail _ hc)
      cases this with
      | head => exact absurd (p2.1 a hc) (List.lt_irrefl _)
      | tail _ q => exact q
/-- of a system the greater row begins sooner -/
theorem sys_lt (h : Sys p n A) (ha : a ∈ A) (hb : b ∈ A) (q : hx a < hx b) : b < a := by
  have la := h.lead a ha
  have lb := h.lead b hb
  have hne : a ≠ b := fun e => by rw [e] at q; omega
  refine lt_of_at (i := hx a) (by rw [la.row.1, lb.row.1]) (fun j hj => ?_) ?_
  · rw [at_before hj, at_before (by omega)]
  · rw [at_before q, la.one]; decide
theorem sys_hx_ne (h : Sys p n A) (ha : a ∈ A) (hb : b ∈ A) (hne : a ≠ b) : hx a ≠ hx b := fun e => by
  have q := (h.apart ha hb hne).1
  rw [← e, (h.lead a ha).one] at q
  omega
theorem sys_up (h : Sys p n A) (hs : A.Pairwise fun a b => b < a) : A.Pairwise fun a b => hx a < hx b := by
  refine List.Pairwise.imp_of_mem (fun {a b} ha hb q => ?_) hs
  rcases Nat.lt_trichotomy (hx a) (hx b) with k | k | k
  · exact k
  · have e : a = b := Classical.byContradiction fun hne => sys_hx_ne h ha hb hne k
    rw [e] at q
    exact absurd q (List.lt_irrefl _)
  · exact absurd (List.lt_trans q (sys_lt h hb ha k)) (List.lt_irrefl _)
def reducedM (p : Int) (rows : List Rw) : List Rw := (sortR (redU p rows)).reverse
theorem part_sort (h : Sys p n A) : Part p n (sortR A).reverse := by
  have hP : Sys p n (sortR A).reverse := h.perm ((sortR_perm A).symm.trans (List.reverse_perm _).symm)
  exact ⟨hP, sys_up hP (List.pairwise_reverse.mpr (sortR_lt h.nodup))⟩
theorem span_perm (e : A.Perm B) : Span p n A v ↔ Span p n B v := ⟨fun h => h.sub fun a ha => e.mem_iff.mp ha, fun h => h.sub fun a ha => e.mem_iff.mpr ha⟩
theorem reduced_ok (hp : Pr p) (hA : ∀ a ∈ A, Row p n a) : Part p n (reducedM p A) ∧ (∀ v, Span p n (reducedM p A) v ↔ Span p n A v) ∧ (reducedM p A).length = rk p A := by
  obtain ⟨s, e⟩ := redU_ok hp hA
  refine ⟨part_sort s, fun v => Iff.trans (span_perm ((List.reverse_perm _).trans (sortR_perm _))) (e v), ?_⟩
  unfold reducedM
  rw [List.length_reverse, sortR_len]
  rfl
/-- a part is what it reduces to -/
theorem reduced_part (hp : Pr p) (h : Part p n A) : reducedM p A = A := by
  obtain ⟨h1, h2, _⟩ := reduced_ok hp h.sys.rows
  exact part_same hp.pos h1 h h2
theorem reduced_eq (hp : Pr p) (hA : ∀ a ∈ A, Row p n a) (h : Part p n B) (e : ∀ v, Span p n A v ↔ Span p n B v) : reducedM p A = B := by
  obtain ⟨h1, h2, _⟩ := reduced_ok hp hA
  exact part_same hp.pos h1 h fun v => (h2 v).trans (e v)
theorem reduced_congr (hp : Pr p) (hA : ∀ a ∈ A, Row p n a) (hB : ∀ a ∈ B, Row p n a) (e : ∀ v, Span p n A v ↔ Span p n B v) : reducedM p A = reducedM p B := by
  obtain ⟨h1, h2, _⟩ := reduced_ok hp hB
  exact reduced_eq hp hA h1 fun v => (e v).trans (h2 v).symm
/-! ### all rows of a part -/
def widen (p : Int) (found : List Rw) (row : Rw) : List Rw := found.flatMap fun one => (rngI p.toNat).map fun m => addm p one m row
def rowsU (p : Int) (n : Nat) (A : List Rw) : List Rw := A.foldl (widen p) [zr n]
def rowsM (p : Int) (n : Nat) (A : List Rw) : List Rw := sortR (rowsU p n A)
theorem mem_rngI {n : Nat} {x : Int} : x ∈ rngI n ↔ 0 ≤ x ∧ x < n := by
  unfold rngI
  rw [List.mem_map]
  constructor
  · rintro ⟨i, hi, rfl⟩
    have := List.mem_range.mp hi
    omega
  · intro h
    exact ⟨x.toNat, List.mem_range.mpr (by omega), by omega⟩
theorem addm_mod {k : Int} (hv : v.length = n) (hw : w.length = n) : addm p v (k % p) w = addm p v k w := by
  refine ext_at (len_addm hv hw) (len_addm hv hw) fun i _ => ?_
  rw [at_addm hv hw, at_addm hv hw, m3]
theorem rowsU_snoc : rowsU p n (A ++ [v]) = widen p (rowsU p n A) v := by
  unfold rowsU
  rw [List.foldl_append]
  rfl
theorem mem_rowsU (hp : 0 < p) : ∀ {A : List Rw}, (∀ a ∈ A, Row p n a) → ∀ v, v ∈ rowsU p n A ↔ Span p n A v := by
  intro A
  refine snoc_ind (P := fun A => (∀ a ∈ A, Row p n a) → ∀ v, v ∈ rowsU p n A ↔ Span p n A v) ?_ ?_ A
  · intro _ v
    unfold rowsU
    rw [List.foldl_nil, List.mem_singleton]
    exact ⟨fun e => by rw [e]; exact .zero, span_nil⟩
  · intro A w ih h v
    have hA : ∀ a ∈ A, Row p n a := fun a ha => h a (List.mem_append.mpr (.inl ha))
    have hw : Row p n w := h w (List.mem_append.mpr (.inr (.head _)))
    rw [rowsU_snoc]
    unfold widen
    rw [List.mem_flatMap]
    constructor
    · rintro ⟨one, h1, h2⟩
      obtain ⟨m, _, rfl⟩ := List.mem_map.mp h2
      exact .add m (((ih hA one).mp h1).sub fun a ha => List.mem_append.mpr (.inl ha)) (List.mem_append.mpr (.inr (.head _)))
    · intro hs
      obtain ⟨u, k, hu, rfl⟩ := span_snoc hp hA hw hs
      refine ⟨u, (ih hA u).mpr hu, List.mem_map.mpr ⟨k % p, mem_rngI.mpr ⟨Int.emod_nonneg _ (by omega), ?_⟩, addm_mod (hu.row hp hA).1 hw.1⟩⟩
      have := Int.emod_lt_of_pos k hp
      omega
theorem span_at_zero (hp : 0 < p) (hA : ∀ a ∈ A, Row p n a) {i : Nat} (h : ∀ a ∈ A, at_ a i = 0) (hs : Span p n A v) : at_ v i = 0 := by
  induction hs with
  | zero => exact at_zr i
  | add k h1 ha ih => rw [at_addm (h1.row hp hA).1 (hA _ ha).1, ih, h _ ha, Int.mul_zero]; rfl
theorem addm_cancel (hp : 0 < p) {k : Int} (hu : Row p n u) (hv : Row p n v) (hw : Row p n w) (e : addm p u k w = addm p v k w) : u = v := by
  have := addm_back hp (k := k) hu hw
  rw [e, addm_back hp hv hw] at this
  exact this.symm
theorem rngI_nodup (n : Nat) : (rngI n).Nodup := by
  unfold rngI
  rw [List.nodup_iff_pairwise_ne, List.pairwise_map]
  exact (List.nodup_iff_pairwise_ne.mp List.nodup_range).imp fun h e => h (by omega)
theorem rngI_len (n : Nat) : (rngI n).length = n := by unfold rngI; rw [List.length_map, List.length_range]
theorem widen_len (found : List Rw) (row : Rw) : (widen p found row).length = found.length * p.toNat := by
  unfold widen
  induction found with
  | nil => simp
  | cons f r ih => rw [List.flatMap_cons, List.length_append, ih, List.length_map, rngI_len, List.length_cons, Nat.add_mul]; omega
theorem rowsU_len : ∀ A : List Rw, (rowsU p n A).length = p.toNat ^ A.length := by
  refine snoc_ind ?_ ?_
  · rfl
  · intro A v ih
    rw [rowsU_snoc, widen_len, ih, List.length_append, List.length_singleton, Nat.pow_succ]
theorem widen_nodup (hp : 0 < p) {found : List Rw} (hn : found.Nodup) (hf : ∀ f ∈ found, Row p n f ∧ at_ f (hx w) = 0) (hw : Lead p n w) : (widen p found w).Nodup := by
  have key : ∀ f ∈ found, ∀ k ∈ rngI p.toNat, at_ (addm p f k w) (hx w) = k := fun f h k hk => by
    rw [at_addm (hf f h).1.1 hw.row.1, (hf f h).2, hw.one, Int.mul_one, Int.zero_add]
    have := mem_rngI.mp hk
    exact Int.emod_eq_of_lt this.1 (by omega)
  unfold widen
  rw [List.nodup_iff_pairwise_ne, List.pairwise_flatMap]
  refine ⟨fun f h => ?_, ?_⟩
  · rw [List.pairwise_map]
    refine List.Pairwise.imp_of_mem (fun {k l} hk hl q e => q ?_) (List.nodup_iff_pairwise_ne.mp (rngI_nodup _))
    rw [← key f h k hk, e, key f h l hl]
  · refine List.Pairwise.imp_of_mem (fun {f g} h1 h2 q x hx' y hy' e => q ?_) (List.nodup_iff_pairwise_ne.mp hn)
    obtain ⟨k, hk, rfl⟩ := List.mem_map.mp hx'
    obtain ⟨l, hl, rfl⟩ := List.mem_map.mp hy'
    have ek : k = l := by rw [← key f h1 k hk, e, key g h2 l hl]
    subst ek
    exact addm_cancel hp (hf f h1).1 (hf g h2).1 hw.row e
theorem rowsU_nodup (hp : 0 < p) : ∀ {A : List Rw}, Sys p n A → (rowsU p n A).Nodup := by
  intro A
  refine snoc_ind (P := fun A => Sys p n A → (rowsU p n A).Nodup) ?_ ?_ A
  · intro _
    exact List.Pairwise.cons (fun _ h => (List.not_mem_nil h).elim) .nil
  · intro A w ih h
    have hA : Sys p n A := ⟨fun a ha => h.lead a (List.mem_append.mpr (.inl ha)), (List.pairwise_append.mp h.ap).1⟩
    have hw := h.lead w (List.mem_append.mpr (.inr (.head _)))
    rw [rowsU_snoc]
    refine widen_nodup hp (ih hA) (fun f hf => ?_) hw
    have hs := (mem_rowsU hp hA.rows f).mp hf
    exact ⟨hs.row hp hA.rows, span_at_zero hp hA.rows (fun a ha => ((List.pairwise_append.mp h.ap).2.2 a ha w (.head _)).1) hs⟩
theorem mem_rowsM (hp : 0 < p) (hA : ∀ a ∈ A, Row p n a) (v : Rw) : v ∈ rowsM p n A ↔ Span p n A v := sortR_mem.trans (mem_rowsU hp hA v)
theorem rowsM_lt (hp : 0 < p) (h : Sys p n A) : (rowsM p n A).Pairwise fun a b => a < b := sortR_lt (rowsU_nodup hp h)
theorem rowsM_len : (rowsM p n A).length = p.toNat ^ A.length := by unfold rowsM; rw [sortR_len, rowsU_len]
theorem span_rowsM (hp : 0 < p) (hA : ∀ a ∈ A, Row p n a) : Span p n (rowsM p n A) v ↔ Span p n A v :=
  ⟨Span.mono hp hA fun a ha => (mem_rowsM hp hA a).mp ha, Span.mono hp (fun a ha => ((mem_rowsM hp hA a).mp ha).row hp hA) fun a ha => .mem hp (fun a ha => ((mem_rowsM hp hA a).mp ha).row hp hA) ((mem_rowsM hp hA a).mpr (.mem hp hA ha))⟩
/-! ### joined and met -/
theorem rows_app (hA : ∀ a ∈ A, Row p n a) (hB : ∀ a ∈ B, Row p n a) : ∀ a ∈ A ++ B, Row p n a := fun a ha => (List.mem_append.mp ha).elim (hA a) (hB a)
theorem rows_snoc (hA : ∀ a ∈ A, Row p n a) (hv : Row p n v) : ∀ a ∈ A ++ [v], Row p n a := rows_app hA fun a ha => by rw [List.mem_singleton.mp ha]; exact hv
theorem span_app (hp : 0 < p) (hA : ∀ a ∈ A, Row p n a) (hB : ∀ a ∈ B, Row p n a) : Span p n (A ++ B) v ↔ ∃ a b, Span p n A a ∧ Span p n B b ∧ v = addm p a 1 b := by
  constructor
  · intro h
    induction h with
    | zero => exact ⟨_, _, .zero, .zero, (addm_zr hp (Row.zr hp)).symm⟩
    | add k _ hc ih =>
      obtain ⟨a, b, ha, hb, rfl⟩ := ih
      have la := (ha.row hp hA).1
      have lb := (hb.row hp hB).1
      rcases List.mem_append.mp hc with hc | hc
      · exact ⟨_, b, .add k ha hc, hb, addm_right la lb (hA _ hc).1⟩
      · refine ⟨a, _, ha, .add k hb hc, ?_⟩
        rw [addm_assoc la lb (hB _ hc).1, Int.one_mul]
  · rintro ⟨a, b, ha, hb, rfl⟩
    exact (ha.sub fun c hc => List.mem_append.mpr (.inl hc)).plus hp (rows_app hA hB) (hb.sub fun c hc => List.mem_append.mpr (.inr hc))
theorem span_snoc_mem (hp : 0 < p) (hA : ∀ a ∈ A, Row p n a) (hv : Span p n A v) : Span p n (A ++ [v]) u ↔ Span p n A u :=
  ⟨Span.mono hp hA fun a ha => (List.mem_append.mp ha).elim (.mem hp hA) fun h => by rw [List.mem_singleton.mp h]; exact hv, fun h => h.sub fun a ha => List.mem_append.mpr (.inl ha)⟩
theorem meet_dim (hp : Pr p) (hA : ∀ a ∈ A, Row p n a) : ∀ {B : List Rw}, (∀ b ∈ B, Row p n b) → ∃ M : List Rw, (∀ m ∈ M, Row p n m) ∧ (∀ v, Span p n M v ↔ Span p n A v ∧ Span p n B v) ∧ rk p M + rk p (A ++ B) = rk p A + rk p B := by
  have p0 := hp.pos
  intro B
  refine snoc_ind (P := fun B => (∀ b ∈ B, Row p n b) → ∃ M : List Rw, (∀ m ∈ M, Row p n m) ∧ (∀ v, Span p n M v ↔ Span p n A v ∧ Span p n B v) ∧ rk p M + rk p (A ++ B) = rk p A + rk p B) ?_ ?_ B
  · intro _
    refine ⟨[], fun _ h => (List.not_mem_nil h).elim, fun v => ⟨fun h => ⟨?_, h⟩, fun h => h.2⟩, ?_⟩
    · rw [span_nil h]; exact .zero
    · rw [List.append_nil]; show 0 + _ = _ + 0; omega
  · intro B b ih h
    have hB : ∀ a ∈ B, Row p n a := fun a ha => h a (List.mem_append.mpr (.inl ha))
    have hb : Row p n b := h b (List.mem_append.mpr (.inr (.head _)))
    obtain ⟨M, hM, eM, lM⟩ := ih hB
    have hAB := rows_app hA hB
    rw [← List.append_assoc]
    by_cases c1 : Span p n B b
    · have c1' : Span p n (A ++ B) b := c1.sub fun c hc => List.mem_append.mpr (.inr hc)
      refine ⟨M, hM, fun v => ?_, ?_⟩
      · rw [eM, span_snoc_mem p0 hB c1]
      · rw [(rk_snoc hp hAB hb).1 c1', (rk_snoc hp hB hb).1 c1]; exact lM
    · by_cases c2 : Span p n (A ++ B) b
      · obtain ⟨a, b', ha, hb', eb⟩ := (span_app p0 hA hB).mp c2
        have ra := ha.row p0 hA
        have rb' := hb'.row p0 hB
        have ea : addm p b (-1) b' = a := by rw [eb]; exact addm_back p0 ra rb'
        have na : ¬ Span p n B a := fun z => c1 (by rw [eb]; exact z.plus p0 hB hb')
        have nM : ¬ Span p n M a := fun z => na ((eM a).mp z).2
        have hBb := rows_snoc hB hb
        refine ⟨M ++ [a], rows_snoc hM ra, fun v => ⟨fun hv => ?_, fun hv => ?_⟩, ?_⟩
        · obtain ⟨u, k, hu, rfl⟩ := span_snoc p0 hM ra hv
          obtain ⟨u1, u2⟩ := (eM u).mp hu
          refine ⟨u1.plus p0 hA ha, ?_⟩
          have ka : Span p n (B ++ [b]) a := by
            rw [← ea]
            exact (Span.mem p0 hBb (List.mem_append.mpr (.inr (.head _)))).plus p0 hBb (hb'.sub fun c hc => List.mem_append.mpr (.inl hc))
          exact (u2.sub fun c hc => List.mem_append.mpr (.inl hc)).plus p0 hBb ka
        · obtain ⟨v1, v2⟩ := hv
          obtain ⟨u, k, hu, rfl⟩ := span_snoc p0 hB hb v2
          have ru := hu.row p0 hB
          have e1 : addm p (addm p u k b) (-k) a = addm p u k b' := by
            refine ext_at (len_addm (len_addm ru.1 hb.1) ra.1) (len_addm ru.1 rb'.1) fun i _ => ?_
            rw [at_addm (len_addm ru.1 hb.1) ra.1, at_addm ru.1 hb.1, at_addm ru.1 rb'.1, m1]
            have ei : at_ b i = (at_ a i + 1 * at_ b' i) % p := by
              have := at_addm (p := p) (k := 1) ra.1 rb'.1 i
              rw [← eb] at this
              exact this
            rw [ei]
            have e2 : at_ u i + k * ((at_ a i + 1 * at_ b' i) % p) + -k * at_ a i = (at_ u i + -k * at_ a i) + k * ((at_ a i + 1 * at_ b' i) % p) := by omega
            rw [e2, m2]
            congr 1
            grind
          have s1 : Span p n M (addm p (addm p u k b) (-k) a) := (eM _).mpr ⟨v1.plus p0 hA ha, by rw [e1]; exact hu.plus p0 hB hb'⟩
          have e3 : addm p (addm p (addm p u k b) (-k) a) (- -k) a = addm p u k b := addm_back p0 (ru.addm p0 hb) ra
          rw [← e3]
          exact .add _ (s1.sub fun c hc => List.mem_append.mpr (.inl hc)) (List.mem_append.mpr (.inr (.head _)))
        · rw [(rk_snoc hp hM ra).2 nM, (rk_snoc hp hAB hb).1 c2, (rk_snoc hp hB hb).2 c1]
          omega
      · refine ⟨M, hM, fun v => ⟨fun hv => ?_, fun hv => ?_⟩, ?_⟩
        · have := (eM v).mp hv
          exact ⟨this.1, this.2.sub fun c hc => List.mem_append.mpr (.inl hc)⟩
        · refine (eM v).mpr ⟨hv.1, ?_⟩
          obtain ⟨u, k, hu, rfl⟩ := span_snoc p0 hB hb hv.2
          have ru := hu.row p0 hB
          by_cases k0 : k % p = 0
          · rw [← addm_mod ru.1 hb.1, k0, addm_zero_k p0 ru hb]
            exact hu
          · exfalso
            have kl := Int.emod_lt_of_pos k p0
            have kn := Int.emod_nonneg k (by omega : p ≠ 0)
            obtain ⟨m, _, _, em⟩ := inv_ex hp (x := k % p) (by omega) kl
            apply c2
            have e1 : addm p (zr n) m (addm p (addm p u k b) (-1) u) = b := by
              refine ext_at (len_addm zr_len (len_addm (len_addm ru.1 hb.1) ru.1)) hb.1 fun i _ => ?_
              rw [at_addm zr_len (len_addm (len_addm ru.1 hb.1) ru.1), at_addm (len_addm ru.1 hb.1) ru.1, at_addm ru.1 hb.1, at_zr, m1, m2]
              have e2 : 0 + m * (at_ u i + k * at_ b i + -1 * at_ u i) = 0 + (m * k) * at_ b i := by grind
              rw [m5] at em
              rw [e2, ← m3, em, Int.zero_add, Int.one_mul, hb.md p0]
            rw [← e1]
            have hu' : Span p n (A ++ B) u := hu.sub fun c hc => List.mem_append.mpr (.inr hc)
            have hv' : Span p n (A ++ B) (addm p u k b) := hv.1.sub fun c hc => List.mem_append.mpr (.inl hc)
            exact Span.zero.plus p0 hAB (hv'.plus p0 hAB hu')
        · rw [(rk_snoc hp hAB hb).2 c2, (rk_snoc hp hB hb).2 c1]
          omega
end
end MA

end
section
set_option Elab.async false
set_option linter.all false
set_option maxRecDepth 100000
set_option autoImplicit false
set_option maxHeartbeats 8000000

namespace DB
open PySem DP
/-- _law_cell_at(_law_script, _law_k): 0=_law_script 1=_law_k -/
def b_law_cell_at_k11 : DSs :=
    (.cons (.ite (.e (.cmp .Lt (.var 1) (.slen 0)))
      (.cons (.ret (.six 0 (.var 1)))
    .nil)
      .nil)
    (.cons (.ret (.c (.int 0)))
    .nil))
/-- _law_state(_law_script, _law_k): 0=_law_script 1=_law_k 2=_law_cell -/
def b_law_state_k11 : DSs :=
    (.cons (.set 2 (.call 0 2 (.s 0 (.s 1 .nil))))
    (.cons (.ite (.e (.cmp .GtE (.var 2) (.bin .Pow (.c (.int 10)) (.c (.int 18)))))
      (.cons (.retF (.lst (.cons (.bin .Sub (.var 2) (.bin .Pow (.c (.int 10)) (.c (.int 18)))) (.cons (.c (.bool true)) .nil))))
    .nil)
      .nil)
    (.cons (.retF (.lst (.cons (.bin .Mod (.var 2) (.c (.int 2147483647))) (.cons (.c (.bool false)) .nil))))
    .nil)))
/-- is_whole(thing): 0=thing -/
def b_is_whole : DSs :=
    (.cons (.ret (.and (.isi "int" (.var 0)) (.not (.isi "bool" (.var 0)))))
    .nil)
/-- is_between(thing, least, most): 0=thing 1=least 2=most -/
def b_is_between : DSs :=
    (.cons (.ret (.and (.call 6 1 (.s 0 .nil)) (.chain .LtE .LtE (.var 1) (.var 0) (.var 2))))
    .nil)
/-- is_row(space, thing): 0=space 1=thing 2=number -/
def b_is_row : DSs :=
    (.cons (.ite (.or (.not (.e (.isi "tuple" (.var 1)))) (.e (.cmp .NotEq (.bi .len (.cons (.var 1) .nil)) (.ix (.var 0) (.c (.int 1))))))
      (.cons (.ret (.c (.bool false)))
    .nil)
      .nil)
    (.cons (.ret (.bi .all (.cons (.lc (.call 7 3 (.s 2 (.e (.c (.int 0)) (.e (.bin .Sub (.ix (.var 0) (.c (.int 0))) (.c (.int 1))) .nil)))) (.one 2) (.seq (.var 1)) .tt [2]) .nil)))
    .nil))
/-- head_of(row): 0=row 1=place 2=number -/
def b_head_of : DSs :=
    (.cons (.for_ (.two 1 2) (.enum (.var 0))
      (.cons (.ite (.e (.cmp .NotEq (.var 2) (.c (.int 0))))
      (.cons (.ret (.var 1))
    .nil)
      .nil)
    .nil))
    (.cons (.ret (.neg (.c (.int 1))))
    .nil))
/-- is_part(space, thing): 0=space 1=thing 2=last 3=row 4=other -/
def b_is_part : DSs :=
    (.cons (.ite (.not (.e (.isi "tuple" (.var 1))))
      (.cons (.ret (.c (.bool false)))
    .nil)
      .nil)
    (.cons (.set 2 (.neg (.c (.int 1))))
    (.cons (.for_ (.one 3) (.seq (.var 1))
      (.cons (.ite (.or (.not (.e (.call 9 2 (.s 0 (.s 3 .nil))))) (.or (.e (.cmp .LtE (.call 20 1 (.s 3 .nil)) (.var 2))) (.e (.cmp .NotEq (.ix (.var 3) (.call 20 1 (.s 3 .nil))) (.c (.int 1))))))
      (.cons (.ret (.c (.bool false)))
    .nil)
      .nil)
    (.cons (.set 2 (.call 20 1 (.s 3 .nil)))
    .nil)))
    (.cons (.for_ (.one 3) (.seq (.var 1))
      (.cons (.ite (.e (.cmp .NotEq (.lc (.var 4) (.one 4) (.seq (.var 1)) (.and (.e (.cmp .NotEq (.var 4) (.var 3))) (.e (.cmp .NotEq (.ix (.var 4) (.call 20 1 (.s 3 .nil))) (.c (.int 0))))) [4]) (.lst .nil)))
      (.cons (.ret (.c (.bool false)))
    .nil)
      .nil)
    .nil))
    (.cons (.ret (.c (.bool true)))
    .nil)))))
/-- need_part(space, thing): 0=space 1=thing -/
def b_need_part : DSs :=
    (.cons (.ite (.not (.e (.call 21 2 (.s 0 (.s 1 .nil)))))
      (.cons (.raise "NoPart")
    .nil)
      .nil)
    .nil)
/-- plus(space, one, many, other): 0=space 1=one 2=many 3=other 4=first 5=second -/
def b_plus : DSs :=
    (.cons (.ret (.bi .tuple (.cons (.lc (.bin .Mod (.bin .Add (.var 4) (.bin .Mult (.var 2) (.var 5))) (.ix (.var 0) (.c (.int 0)))) (.two 4 5) (.zip (.var 1) (.var 3)) .tt [4, 5]) .nil)))
    .nil)
/-- rows_in(space, part): 0=space 1=part 2=found 3=row 4=longer 5=one 6=many -/
def b_rows_in : DSs :=
    (.cons (.set 2 (.lst (.cons (.bin .Mult (.tup (.cons (.c (.int 0)) .nil)) (.ix (.var 0) (.c (.int 1)))) .nil)))
    (.cons (.for_ (.one 3) (.seq (.var 1))
      (.cons (.setF 4 (.lst .nil))
    (.cons (.for_ (.one 5) (.seq (.var 2))
      (.cons (.ext 4 (.lc (.call 27 4 (.s 0 (.s 5 (.s 6 (.s 3 .nil))))) (.one 6) (.rng1 (.ix (.var 0) (.c (.int 0)))) .tt [6]))
    .nil))
    (.cons (.frz [4] (.set 2 (.var 4)))
    .nil))))
    (.cons (.retF (.sorted (.cons (.var 2) .nil)))
    .nil)))
/-- rows_of(space, part): 0=space 1=part -/
def b_rows_of : DSs :=
    (.cons (.exp (.call 26 2 (.s 0 (.s 1 .nil))))
    (.cons (.retC 28 2 (.s 0 (.s 1 .nil)))
    .nil))
/-- need_row(space, thing): 0=space 1=thing -/
def b_need_row : DSs :=
    (.cons (.ite (.not (.e (.call 9 2 (.s 0 (.s 1 .nil)))))
      (.cons (.raise "NoRow")
    .nil)
      .nil)
    .nil)
/-- held(space, part, row): 0=space 1=part 2=row 3=one -/
def b_held : DSs :=
    (.cons (.for_ (.one 3) (.seq (.var 1))
      (.cons (.set 2 (.call 27 4 (.s 0 (.s 2 (.e (.bin .Sub (.c (.int 0)) (.ix (.var 2) (.call 20 1 (.s 3 .nil)))) (.s 3 .nil))))))
    .nil))
    (.cons (.ret (.cmp .Lt (.call 20 1 (.s 2 .nil)) (.c (.int 0))))
    .nil))
/-- holds(space, part, row): 0=space 1=part 2=row -/
def b_holds : DSs :=
    (.cons (.exp (.call 26 2 (.s 0 (.s 1 .nil))))
    (.cons (.exp (.call 30 2 (.s 0 (.s 2 .nil))))
    (.cons (.retC 31 3 (.s 0 (.s 1 (.s 2 .nil))))
    .nil)))
/-- reduced(space, rows): 0=space 1=rows 2=found 3=row 4=one 5=head 6=many 7=number -/
def b_reduced : DSs :=
    (.cons (.set 2 (.lst .nil))
    (.cons (.for_ (.one 3) (.seq (.var 1))
      (.cons (.for_ (.one 4) (.seq (.var 2))
      (.cons (.set 3 (.call 27 4 (.s 0 (.s 3 (.e (.bin .Sub (.c (.int 0)) (.ix (.var 3) (.call 20 1 (.s 4 .nil)))) (.s 4 .nil))))))
    .nil))
    (.cons (.set 5 (.call 20 1 (.s 3 .nil)))
    (.cons (.ite (.e (.cmp .GtE (.var 5) (.c (.int 0))))
      (.cons (.set 6 (.ix (.lc (.var 7) (.one 7) (.rng1 (.ix (.var 0) (.c (.int 0)))) (.e (.cmp .Eq (.bin .Mod (.bin .Mult (.var 7) (.ix (.var 3) (.var 5))) (.ix (.var 0) (.c (.int 0)))) (.c (.int 1)))) [7]) (.c (.int 0))))
    (.cons (.set 3 (.bi .tuple (.cons (.lc (.bin .Mod (.bin .Mult (.var 6) (.var 7)) (.ix (.var 0) (.c (.int 0)))) (.one 7) (.seq (.var 3)) .tt [7]) .nil)))
    (.cons (.set 2 (.bin .Add (.lc (.call 27 4 (.s 0 (.s 4 (.e (.bin .Sub (.c (.int 0)) (.ix (.var 4) (.var 5))) (.s 3 .nil))))) (.one 4) (.seq (.var 2)) .tt [4]) (.lst (.cons (.var 3) .nil))))
    .nil)))
      .nil)
    .nil))))
    (.cons (.ret (.bi .tuple (.cons (.rev (.sorted (.cons (.var 2) .nil))) .nil)))
    .nil)))
/-- spanned(space, rows): 0=space 1=rows 2=row -/
def b_spanned : DSs :=
    (.cons (.for_ (.one 2) (.seq (.var 1))
      (.cons (.exp (.call 30 2 (.s 0 (.s 2 .nil))))
    .nil))
    (.cons (.retC 35 2 (.s 0 (.s 1 .nil)))
    .nil))
/-- _law_space(_law_state_here, _law_most): 0=_law_state_here 1=_law_most 2=_law_some 3=_law_rows 4=_law_space_here -/
def b_law_space_k21 : DSs :=
    (.cons (.set 2 (.lst (.cons (.tup (.cons (.c (.int 2)) (.cons (.tup (.cons (.c (.int 2)) (.cons (.c (.int 1)) .nil))) .nil))) (.cons (.tup (.cons (.c (.int 4)) (.cons (.tup (.cons (.c (.int 2)) (.cons (.c (.int 2)) .nil))) .nil))) (.cons (.tup (.cons (.c (.int 8)) (.cons (.tup (.cons (.c (.int 2)) (.cons (.c (.int 3)) .nil))) .nil))) (.cons (.tup (.cons (.c (.int 16)) (.cons (.tup (.cons (.c (.int 2)) (.cons (.c (.int 4)) .nil))) .nil))) (.cons (.tup (.cons (.c (.int 32)) (.cons (.tup (.cons (.c (.int 2)) (.cons (.c (.int 5)) .nil))) .nil))) (.cons (.tup (.cons (.c (.int 64)) (.cons (.tup (.cons (.c (.int 2)) (.cons (.c (.int 6)) .nil))) .nil))) (.cons (.tup (.cons (.c (.int 3)) (.cons (.tup (.cons (.c (.int 3)) (.cons (.c (.int 1)) .nil))) .nil))) (.cons (.tup (.cons (.c (.int 9)) (.cons (.tup (.cons (.c (.int 3)) (.cons (.c (.int 2)) .nil))) .nil))) .nil))))))))))
    (.cons (.set 2 (.bin .Add (.var 2) (.lst (.cons (.tup (.cons (.c (.int 27)) (.cons (.tup (.cons (.c (.int 3)) (.cons (.c (.int 3)) .nil))) .nil))) (.cons (.tup (.cons (.c (.int 81)) (.cons (.tup (.cons (.c (.int 3)) (.cons (.c (.int 4)) .nil))) .nil))) (.cons (.tup (.cons (.c (.int 5)) (.cons (.tup (.cons (.c (.int 5)) (.cons (.c (.int 1)) .nil))) .nil))) (.cons (.tup (.cons (.c (.int 25)) (.cons (.tup (.cons (.c (.int 5)) (.cons (.c (.int 2)) .nil))) .nil))) (.cons (.tup (.cons (.c (.int 125)) (.cons (.tup (.cons (.c (.int 5)) (.cons (.c (.int 3)) .nil))) .nil))) .nil))))))))
    (.cons (.set 2 (.lc (.var 4) (.two 3 4) (.seq (.var 2)) (.e (.cmp .LtE (.var 3) (.var 1))) [3, 4]))
    (.cons (.ret (.ix (.var 2) (.call 2 2 (.s 0 (.e (.bi .len (.cons (.var 2) .nil)) .nil)))))
    .nil))))
/-- need_two(space, one, other): 0=space 1=one 2=other -/
def b_need_two : DSs :=
    (.cons (.exp (.call 26 2 (.s 0 (.s 1 .nil))))
    (.cons (.exp (.call 26 2 (.s 0 (.s 2 .nil))))
    .nil))
/-- joined(space, one, other): 0=space 1=one 2=other -/
def b_joined : DSs :=
    (.cons (.exp (.call 42 3 (.s 0 (.s 1 (.s 2 .nil)))))
    (.cons (.retC 35 2 (.s 0 (.e (.bin .Add (.var 1) (.var 2)) .nil)))
    .nil))
/-- common(space, one, other): 0=space 1=one 2=other 3=row -/
def b_common : DSs :=
    (.cons (.retF (.lc (.var 3) (.one 3) (.seq (.call 28 2 (.s 0 (.s 1 .nil)))) (.e (.call 31 3 (.s 0 (.s 2 (.s 3 .nil))))) [3]))
    .nil)
/-- met(space, one, other): 0=space 1=one 2=other -/
def b_met : DSs :=
    (.cons (.exp (.call 42 3 (.s 0 (.s 1 (.s 2 .nil)))))
    (.cons (.retC 35 2 (.s 0 (.e (.call 44 3 (.s 0 (.s 1 (.s 2 .nil)))) .nil)))
    .nil))
/-- _law_plus(_law_space_here, _law_one, _law_other, _law_often): 0=_law_space_here 1=_law_one 2=_law_other 3=_law_often 4=_law_first 5=_law_second -/
def b_law_plus_k21 : DSs :=
    (.cons (.ret (.bi .tuple (.cons (.lc (.bin .Mod (.bin .Add (.var 4) (.bin .Mult (.var 3) (.var 5))) (.ix (.var 0) (.c (.int 0)))) (.two 4 5) (.zip (.var 1) (.var 2)) .tt [4, 5]) .nil)))
    .nil)
/-- _law_reduced(_law_space_here, _law_rows): 0=_law_space_here 1=_law_rows 2=_law_rest 3=_law_found 4=_law_place 5=_law_fit 6=_law_often 7=_law_one 8=_law_row 9=_law_number -/
def b_law_reduced_k21 : DSs :=
    (.cons (.set 2 (.list (.cons (.var 1) .nil)))
    (.cons (.set 3 (.lst .nil))
    (.cons (.for_ (.one 4) (.rng1 (.ix (.var 0) (.c (.int 1))))
      (.cons (.set 5 (.lc (.var 8) (.one 8) (.seq (.var 2)) (.e (.cmp .NotEq (.ix (.var 8) (.var 4)) (.c (.int 0)))) [8]))
    (.cons (.ite (.e (.cmp .NotEq (.var 5) (.lst .nil)))
      (.cons (.set 6 (.ix (.lc (.var 9) (.one 9) (.rng1 (.ix (.var 0) (.c (.int 0)))) (.e (.cmp .Eq (.bin .Mod (.bin .Mult (.var 9) (.ix (.ix (.var 5) (.c (.int 0))) (.var 4))) (.ix (.var 0) (.c (.int 0)))) (.c (.int 1)))) [9]) (.c (.int 0))))
    (.cons (.set 7 (.bi .tuple (.cons (.lc (.bin .Mod (.bin .Mult (.var 6) (.var 9)) (.ix (.var 0) (.c (.int 0)))) (.one 9) (.seq (.ix (.var 5) (.c (.int 0)))) .tt [9]) .nil)))
    (.cons (.set 2 (.lc (.call 46 4 (.s 0 (.s 8 (.s 7 (.e (.neg (.ix (.var 8) (.var 4))) .nil))))) (.one 8) (.seq (.var 2)) .tt [8]))
    (.cons (.set 3 (.bin .Add (.lc (.call 46 4 (.s 0 (.s 8 (.s 7 (.e (.neg (.ix (.var 8) (.var 4))) .nil))))) (.one 8) (.seq (.var 3)) .tt [8]) (.lst (.cons (.var 7) .nil))))
    .nil))))
      .nil)
    .nil)))
    (.cons (.ret (.bi .tuple (.cons (.var 3) .nil)))
    .nil))))
/-- _law_row_of(_law_state_here, _law_space_here): 0=_law_state_here 1=_law_space_here 2=_law_place -/
def b_law_row_of_k21 : DSs :=
    (.cons (.ret (.bi .tuple (.cons (.lc (.call 2 2 (.s 0 (.e (.ix (.var 1) (.c (.int 0))) .nil))) (.one 2) (.rng1 (.ix (.var 1) (.c (.int 1)))) .tt [2]) .nil)))
    .nil)
/-- _law_part(_law_state_here, _law_space_here): 0=_law_state_here 1=_law_space_here 2=_law_many 3=_law_turn -/
def b_law_part_k21 : DSs :=
    (.cons (.set 2 (.call 2 2 (.s 0 (.e (.bin .Add (.ix (.var 1) (.c (.int 1))) (.c (.int 1))) .nil))))
    (.cons (.retC 47 2 (.s 1 (.e (.lc (.call 48 2 (.s 0 (.s 1 .nil))) (.one 3) (.rng1 (.var 2)) .tt [3]) .nil)))
    .nil))
/-- is_within(space, one, other): 0=space 1=one 2=other 3=row -/
def b_is_within : DSs :=
    (.cons (.ret (.bi .all (.cons (.lc (.call 31 3 (.s 0 (.s 2 (.s 3 .nil)))) (.one 3) (.seq (.var 1)) .tt [3]) .nil)))
    .nil)
/-- lies_in(space, one, other): 0=space 1=one 2=other -/
def b_lies_in : DSs :=
    (.cons (.exp (.call 42 3 (.s 0 (.s 1 (.s 2 .nil)))))
    (.cons (.retC 60 3 (.s 0 (.s 1 (.s 2 .nil))))
    .nil))
/-- first_beyond(space, one, other): 0=space 1=one 2=other 3=row -/
def b_first_beyond : DSs :=
    (.cons (.exp (.call 42 3 (.s 0 (.s 1 (.s 2 .nil)))))
    (.cons (.for_ (.one 3) (.seq (.call 28 2 (.s 0 (.s 1 .nil))))
      (.cons (.ite (.not (.e (.call 31 3 (.s 0 (.s 2 (.s 3 .nil))))))
      (.cons (.ret (.var 3))
    .nil)
      .nil)
    .nil))
    (.cons (.ret (.c .none))
    .nil)))
/-- _law_three_right(_law_space_here, _law_one, _law_other, _law_third, _law_row): 0=_law_space_here 1=_law_one 2=_law_other 3=_law_third 4=_law_row 5=_law_wide 6=_law_both 7=_law_line -/
def b_law_three_right_k23 : DSs :=
    (.cons (.ite (.e (.cmp .NotEq (.call 43 3 (.s 0 (.e (.call 43 3 (.s 0 (.s 1 (.s 2 .nil)))) (.s 3 .nil)))) (.call 43 3 (.s 0 (.s 1 (.e (.call 43 3 (.s 0 (.s 2 (.s 3 .nil)))) .nil))))))
      (.cons (.ret (.c (.bool false)))
    .nil)
      .nil)
    (.cons (.ite (.e (.cmp .NotEq (.call 45 3 (.s 0 (.e (.call 45 3 (.s 0 (.s 1 (.s 2 .nil)))) (.s 3 .nil)))) (.call 45 3 (.s 0 (.s 1 (.e (.call 45 3 (.s 0 (.s 2 (.s 3 .nil)))) .nil))))))
      (.cons (.ret (.c (.bool false)))
    .nil)
      .nil)
    (.cons (.set 5 (.call 43 3 (.s 0 (.s 1 (.s 3 .nil)))))
    (.cons (.ite (.e (.cmp .NotEq (.call 43 3 (.s 0 (.s 1 (.e (.call 45 3 (.s 0 (.s 2 (.s 5 .nil)))) .nil)))) (.call 45 3 (.s 0 (.e (.call 43 3 (.s 0 (.s 1 (.s 2 .nil)))) (.s 5 .nil))))))
      (.cons (.ret (.c (.bool false)))
    .nil)
      .nil)
    (.cons (.set 6 (.and (.call 32 3 (.s 0 (.s 1 (.s 4 .nil)))) (.call 32 3 (.s 0 (.s 2 (.s 4 .nil))))))
    (.cons (.ite (.e (.cmp .NotEq (.call 32 3 (.s 0 (.e (.call 45 3 (.s 0 (.s 1 (.s 2 .nil)))) (.s 4 .nil)))) (.var 6)))
      (.cons (.ret (.c (.bool false)))
    .nil)
      .nil)
    (.cons (.ret (.cmp .Eq (.call 29 2 (.s 0 (.e (.call 45 3 (.s 0 (.s 1 (.s 2 .nil)))) .nil))) (.lc (.var 7) (.one 7) (.seq (.call 29 2 (.s 0 (.s 1 .nil)))) (.e (.call 32 3 (.s 0 (.s 2 (.s 7 .nil))))) [7])))
    .nil)))))))
/-- _law_two_right(_law_space_here, _law_one, _law_other): 0=_law_space_here 1=_law_one 2=_law_other 3=_law_up 4=_law_down 5=_law_part_here 6=_law_lies 7=_law_row -/
def b_law_two_right_k23 : DSs :=
    (.cons (.unp (.two 3 4) (.tup (.cons (.call 43 3 (.s 0 (.s 1 (.s 2 .nil)))) (.cons (.call 45 3 (.s 0 (.s 1 (.s 2 .nil)))) .nil))))
    (.cons (.ite (.or (.e (.cmp .IsNot (.call 21 2 (.s 0 (.s 3 .nil))) (.c (.bool true)))) (.e (.cmp .IsNot (.call 21 2 (.s 0 (.s 4 .nil))) (.c (.bool true)))))
      (.cons (.ret (.c (.bool false)))
    .nil)
      .nil)
    (.cons (.ite (.or (.e (.cmp .NotEq (.bin .Add (.bi .len (.cons (.var 3) .nil)) (.bi .len (.cons (.var 4) .nil))) (.bin .Add (.bi .len (.cons (.var 1) .nil)) (.bi .len (.cons (.var 2) .nil))))) (.e (.cmp .NotEq (.var 3) (.call 36 2 (.s 0 (.e (.bin .Add (.list (.cons (.var 2) .nil)) (.list (.cons (.var 1) .nil))) .nil))))))
      (.cons (.ret (.c (.bool false)))
    .nil)
      .nil)
    (.cons (.ite (.or (.e (.cmp .NotEq (.var 3) (.call 43 3 (.s 0 (.s 2 (.s 1 .nil)))))) (.e (.cmp .NotEq (.var 4) (.call 45 3 (.s 0 (.s 2 (.s 1 .nil)))))))
      (.cons (.ret (.c (.bool false)))
    .nil)
      .nil)
    (.cons (.for_ (.one 5) (.seq (.tup (.cons (.var 1) (.cons (.var 2) .nil))))
      (.cons (.ite (.or (.not (.e (.call 61 3 (.s 0 (.s 5 (.s 3 .nil)))))) (.not (.e (.call 61 3 (.s 0 (.s 4 (.s 5 .nil)))))))
      (.cons (.ret (.c (.bool false)))
    .nil)
      .nil)
    (.cons (.ite (.or (.e (.cmp .NotEq (.call 43 3 (.s 0 (.s 5 (.s 4 .nil)))) (.var 5))) (.e (.cmp .NotEq (.call 45 3 (.s 0 (.s 5 (.s 3 .nil)))) (.var 5))))
      (.cons (.ret (.c (.bool false)))
    .nil)
      .nil)
    .nil)))
    (.cons (.set 6 (.call 61 3 (.s 0 (.s 1 (.s 2 .nil)))))
    (.cons (.ite (.or (.e (.cmp .NotEq (.var 6) (.cmp .Eq (.var 3) (.var 2)))) (.e (.cmp .NotEq (.var 6) (.cmp .Eq (.var 4) (.var 1)))))
      (.cons (.ret (.c (.bool false)))
    .nil)
      .nil)
    (.cons (.set 7 (.call 62 3 (.s 0 (.s 1 (.s 2 .nil)))))
    (.cons (.ite (.e (.cmp .Is (.var 7) (.c .none)))
      (.cons (.ret (.var 6))
    .nil)
      .nil)
    (.cons (.ret (.and (.not (.var 6)) (.and (.call 32 3 (.s 0 (.s 1 (.s 7 .nil)))) (.not (.call 32 3 (.s 0 (.s 2 (.s 7 .nil))))))))
    .nil))))))))))
/-- law(_law_script): 0=_law_script 1=_law_k 2=_law_state_here 3=_law_space_here 4=_law_one 5=_law_other 6=_law_third 7=_law_turn -/
def b_law_k23 : DSs :=
    (.cons (.for_ (.one 1) (.rng1 (.bi .max (.cons (.c (.int 1)) (.cons (.bi .min (.cons (.slen 0) (.cons (.c (.int 5)) .nil))) .nil))))
      (.cons (.setS 2 1 2 (.s 0 (.s 1 .nil)))
    (.cons (.set 3 (.call 41 2 (.s 2 (.e (.ix (.lst (.cons (.c (.int 27)) (.cons (.c (.int 125)) .nil))) (.bi .int (.cons (.cmp .Eq (.var 1) (.c (.int 0))) .nil))) .nil))))
    (.cons (.unp (.three 4 5 6) (.lc (.call 49 2 (.s 2 (.s 3 .nil))) (.one 7) (.rng1 (.c (.int 3))) .tt [7]))
    (.cons (.ite (.or (.not (.e (.call 66 3 (.s 3 (.s 4 (.s 5 .nil)))))) (.not (.e (.call 66 3 (.s 3 (.s 4 (.s 6 .nil)))))))
      (.cons (.ret (.c (.bool false)))
    .nil)
      .nil)
    (.cons (.ite (.not (.e (.call 65 5 (.s 3 (.s 4 (.s 5 (.s 6 (.e (.call 48 2 (.s 2 (.s 3 .nil))) .nil))))))))
      (.cons (.ret (.c (.bool false)))
    .nil)
      .nil)
    .nil))))))
    (.cons (.ret (.c (.bool true)))
    .nil))
abbrev law_cell_at_k11 : Nat := 0
abbrev law_state_k11 : Nat := 1
abbrev law_take : Nat := 2
abbrev is_whole : Nat := 6
abbrev is_between : Nat := 7
abbrev is_row : Nat := 9
abbrev head_of : Nat := 20
abbrev is_part : Nat := 21
abbrev need_part : Nat := 26
abbrev plus : Nat := 27
abbrev rows_in : Nat := 28
abbrev rows_of : Nat := 29
abbrev need_row : Nat := 30
abbrev held : Nat := 31
abbrev holds : Nat := 32
abbrev reduced : Nat := 35
abbrev spanned : Nat := 36
abbrev law_space_k21 : Nat := 41
abbrev need_two : Nat := 42
abbrev joined : Nat := 43
abbrev common : Nat := 44
abbrev met : Nat := 45
abbrev law_plus_k21 : Nat := 46
abbrev law_reduced_k21 : Nat := 47
abbrev law_row_of_k21 : Nat := 48
abbrev law_part_k21 : Nat := 49
abbrev is_within : Nat := 60
abbrev lies_in : Nat := 61
abbrev first_beyond : Nat := 62
abbrev law_three_right_k23 : Nat := 65
abbrev law_two_right_k23 : Nat := 66
abbrev law_k23 : Nat := 67
def Γ : Tab
  | 0 => some (.def_ 2 b_law_cell_at_k11)
  | 1 => some (.def_ 3 b_law_state_k11)
  | 2 => some (.prim 1 takeW)
  | 6 => some (.def_ 1 b_is_whole)
  | 7 => some (.def_ 3 b_is_between)
  | 9 => some (.def_ 3 b_is_row)
  | 20 => some (.def_ 3 b_head_of)
  | 21 => some (.def_ 5 b_is_part)
  | 26 => some (.def_ 2 b_need_part)
  | 27 => some (.def_ 6 b_plus)
  | 28 => some (.def_ 7 b_rows_in)
  | 29 => some (.def_ 2 b_rows_of)
  | 30 => some (.def_ 2 b_need_row)
  | 31 => some (.def_ 4 b_held)
  | 32 => some (.def_ 3 b_holds)
  | 35 => some (.def_ 8 b_reduced)
  | 36 => some (.def_ 3 b_spanned)
  | 41 => some (.def_ 5 b_law_space_k21)
  | 42 => some (.def_ 3 b_need_two)
  | 43 => some (.def_ 3 b_joined)
  | 44 => some (.def_ 4 b_common)
  | 45 => some (.def_ 3 b_met)
  | 46 => some (.def_ 6 b_law_plus_k21)
  | 47 => some (.def_ 10 b_law_reduced_k21)
  | 48 => some (.def_ 3 b_law_row_of_k21)
  | 49 => some (.def_ 4 b_law_part_k21)
  | 60 => some (.def_ 4 b_is_within)
  | 61 => some (.def_ 3 b_lies_in)
  | 62 => some (.def_ 4 b_first_beyond)
  | 65 => some (.def_ 8 b_law_three_right_k23)
  | 66 => some (.def_ 8 b_law_two_right_k23)
  | 67 => some (.def_ 8 b_law_k23)
  | _ => none
theorem g_law_cell_at_k11 : Γ law_cell_at_k11 = some (.def_ 2 b_law_cell_at_k11) := rfl
theorem g_law_state_k11 : Γ law_state_k11 = some (.def_ 3 b_law_state_k11) := rfl
theorem g_law_take : Γ law_take = some (.prim 1 takeW) := rfl
theorem g_is_whole : Γ is_whole = some (.def_ 1 b_is_whole) := rfl
theorem g_is_between : Γ is_between = some (.def_ 3 b_is_between) := rfl
theorem g_is_row : Γ is_row = some (.def_ 3 b_is_row) := rfl
theorem g_head_of : Γ head_of = some (.def_ 3 b_head_of) := rfl
theorem g_is_part : Γ is_part = some (.def_ 5 b_is_part) := rfl
theorem g_need_part : Γ need_part = some (.def_ 2 b_need_part) := rfl
theorem g_plus : Γ plus = some (.def_ 6 b_plus) := rfl
theorem g_rows_in : Γ rows_in = some (.def_ 7 b_rows_in) := rfl
theorem g_rows_of : Γ rows_of = some (.def_ 2 b_rows_of) := rfl
theorem g_need_row : Γ need_row = some (.def_ 2 b_need_row) := rfl
theorem g_held : Γ held = some (.def_ 4 b_held) := rfl
theorem g_holds : Γ holds = some (.def_ 3 b_holds) := rfl
theorem g_reduced : Γ reduced = some (.def_ 8 b_reduced) := rfl
theorem g_spanned : Γ spanned = some (.def_ 3 b_spanned) := rfl
theorem g_law_space_k21 : Γ law_space_k21 = some (.def_ 5 b_law_space_k21) := rfl
theorem g_need_two : Γ need_two = some (.def_ 3 b_need_two) := rfl
theorem g_joined : Γ joined = some (.def_ 3 b_joined) := rfl
theorem g_common : Γ common = some (.def_ 4 b_common) := rfl
theorem g_met : Γ met = some (.def_ 3 b_met) := rfl
theorem g_law_plus_k21 : Γ law_plus_k21 = some (.def_ 6 b_law_plus_k21) := rfl
theorem g_law_reduced_k21 : Γ law_reduced_k21 = some (.def_ 10 b_law_reduced_k21) := rfl
theorem g_law_row_of_k21 : Γ law_row_of_k21 = some (.def_ 3 b_law_row_of_k21) := rfl
theorem g_law_part_k21 : Γ law_part_k21 = some (.def_ 4 b_law_part_k21) := rfl
theorem g_is_within : Γ is_within = some (.def_ 4 b_is_within) := rfl
theorem g_lies_in : Γ lies_in = some (.def_ 3 b_lies_in) := rfl
theorem g_first_beyond : Γ first_beyond = some (.def_ 4 b_first_beyond) := rfl
theorem g_law_three_right_k23 : Γ law_three_right_k23 = some (.def_ 8 b_law_three_right_k23) := rfl
theorem g_law_two_right_k23 : Γ law_two_right_k23 = some (.def_ 8 b_law_two_right_k23) := rfl
theorem g_law_k23 : Γ law_k23 = some (.def_ 8 b_law_k23) := rfl
end DB

end
section
set_option Elab.async false
set_option linter.all false
set_option maxRecDepth 100000
set_option autoImplicit false
set_option maxHeartbeats 4000000
namespace ME
open PySem DP MA
/-! ### loops over data -/
theorem lcGo_one {α : Type} {i : Nat} {tt : TTD} {te : TD} {r : SEnv} {Q : List PyData → Prop} (g f : α → PyData) (c : α → Bool) : ∀ (l : List α) (acc : List PyData),
    (∀ x ∈ l, ∀ K : Bool → Prop, K (c x) → tt (r.set i (some (.d (g x)))) K) → (∀ x ∈ l, c x = true → ∀ K : PyData → Prop, K (f x) → te (r.set i (some (.d (g x)))) K) → Q (acc ++ (l.filter c).map f) → lcGo (.one i) tt te r Q (l.map g) acc
  | [], acc, _, _, h => by simpa [lcGo] using h
  | x :: l, acc, h1, h2, h => by
    show tt (r.set i (some (.d (g x)))) _
    refine h1 x (.head _) _ ?_
    have ih := fun acc => lcGo_one g f c l acc (tt := tt) (te := te) (r := r) (Q := Q) (i := i) (fun y hy => h1 y (.tail _ hy)) (fun y hy => h2 y (.tail _ hy))
    cases q : c x with
    | true =>
      rw [if_pos rfl]
      refine h2 x (.head _) q _ (ih _ ?_)
      rw [List.filter_cons, q] at h
      simpa using h
    | false =>
      rw [if_neg (by decide)]
      refine ih _ ?_
      rw [List.filter_cons, q] at h
      simpa using h
theorem lcGo_tt {α : Type} {i : Nat} {te : TD} {r : SEnv} {Q : List PyData → Prop} (g f : α → PyData) (l : List α) (h2 : ∀ x ∈ l, ∀ K : PyData → Prop, K (f x) → te (r.set i (some (.d (g x)))) K) (h : Q (l.map f)) : lcGo (.one i) tTT te r Q (l.map g) [] :=
  lcGo_one g f (fun _ => true) l [] (fun _ _ _ k => k) (fun x hx _ => h2 x hx) (by rw [List.filter_eq_self.mpr (fun _ _ => rfl)]; simpa using h)
theorem lcGo_two {α : Type} {i j : Nat} {te : TD} {r : SEnv} {Q : List PyData → Prop} (g g' f : α → PyData) : ∀ (l : List α) (acc : List PyData),
    (∀ x ∈ l, ∀ K : PyData → Prop, K (f x) → te ((r.set i (some (.d (g x)))).set j (some (.d (g' x)))) K) → Q (acc ++ l.map f) → lcGo (.two i j) tTT te r Q (l.map fun x => .tuple [g x, g' x]) acc
  | [], acc, _, h => by simpa [lcGo] using h
  | x :: l, acc, h2, h => by
    refine h2 x (.head _) _ ?_
    refine lcGo_two g g' f l _ (fun y hy => h2 y (.tail _ hy)) ?_
    simpa using h
theorem forGo_inv {α : Type} {tg : Tg} {body : TSD} {D : EndsD} (g : α → PyData) (I : List α → SEnv → Prop) (h0 : ∀ r, I [] r → D.nx r)
    (h1 : ∀ x l r (K : SEnv → Prop), (∀ r', I l r' → K r') → I (x :: l) r → bindT tg (g x) r fun r1 => body { D with nx := K, ct := K, bk := D.nx } r1) : ∀ l r, I l r → forGo tg body D (l.map g) r
  | [], r, h => h0 r h
  | x :: l, r, h => h1 x l r _ (fun r' h' => forGo_inv g I h0 h1 l r' h') h
/-! ### a def is called -/
theorem fn_go {k f N : Nat} {body : DSs} (e : DB.Γ f = some (.def_ N body)) {args : List SV} {Q : RV → Prop} {E : Str → Prop} (h : wpSs (wpFn DB.Γ k) body E { nx := fun _ => Q (.d .none), rt := Q } (s0 N args)) : wpFn DB.Γ (k + 1) f args Q E := by
  show fdW (wpFn DB.Γ k) (k + 1) (DB.Γ f) args Q E
  rw [e]
  exact h
/-! ### rows as data -/
abbrev rowD (v : Rw) : PyData := .tuple (v.map .int)
abbrev spD (p : Int) (n : Nat) : PyData := .tuple [.int p, .int n]
abbrev matT (A : List Rw) : PyData := .tuple (A.map rowD)
abbrev matL (A : List Rw) : PyData := .list (A.map rowD)
structure Sp (p : Int) (n : Nat) : Prop where
  pr : Pr p
  n0 : 1 ≤ n
  n6 : n ≤ 6
theorem Sp.p0 {p : Int} {n : Nat} (h : Sp p n) : 0 < p := h.pr.pos
theorem Sp.p5 {p : Int} {n : Nat} (h : Sp p n) : p ≤ 5 := by have := h.pr; unfold Pr at this; omega
theorem eqv_ints : ∀ v w : Rw, PyData.eqvAll (v.map .int) (w.map .int) = decide (v = w)
  | [], [] => by simp [PyData.eqvAll]
  | [], _ :: _ => by simp [PyData.eqvAll]
  | _ :: _, [] => by simp [PyData.eqvAll]
  | x :: v, y :: w => by
    rw [List.map_cons, List.map_cons, PyData.eqvAll, eqv_ints v w, PyData.eqv]
    by_cases h : x = y <;> by_cases h' : v = w <;> simp [h, h']
theorem eqv_row (v w : Rw) : PyData.eqv (rowD v) (rowD w) = decide (v = w) := by
  unfold rowD
  rw [PyData.eqv]
  exact eqv_ints v w
theorem eqv_rows : ∀ A B : List Rw, PyData.eqvAll (A.map rowD) (B.map rowD) = decide (A = B)
  | [], [] => by simp [PyData.eqvAll]
  | [], _ :: _ => by simp [PyData.eqvAll]
  | _ :: _, [] => by simp [PyData.eqvAll]
  | x :: v, y :: w => by
    rw [List.map_cons, List.map_cons, PyData.eqvAll, eqv_rows v w, eqv_row]
    by_cases h : x = y <;> by_cases h' : v = w <;> simp [h, h']
theorem eqv_matT (A B : List Rw) : PyData.eqv (matT A) (matT B) = decide (A = B) := by
  unfold matT
  rw [PyData.eqv]
  exact eqv_rows A B
theorem eqv_matL (A B : List Rw) : PyData.eqv (matL A) (matL B) = decide (A = B) := by
  unfold matL
  rw [PyData.eqv]
  exact eqv_rows A B
theorem plain_ints : ∀ v : Rw, PyData.plainAll (v.map .int) = true
  | [] => by simp [PyData.plainAll]
  | x :: v => by rw [List.map_cons, PyData.plainAll, plain_ints v]; simp [PyData.plain]
theorem plain_row (v : Rw) : (rowD v).plain = true := by unfold rowD; rw [PyData.plain]; exact plain_ints v
theorem plain_rows : ∀ A : List Rw, PyData.plainAll (A.map rowD) = true
  | [] => by simp [PyData.plainAll]
  | x :: v => by rw [List.map_cons, PyData.plainAll, plain_rows v, plain_row]; rfl
theorem depth_ints : ∀ v : Rw, PyData.depthAll (v.map .int) = 0
  | [] => by simp [PyData.depthAll]
  | x :: v => by rw [List.map_cons, PyData.depthAll, depth_ints v]; simp [PyData.depth]
theorem depth_row (v : Rw) : (rowD v).depth = 1 := by unfold rowD; rw [PyData.depth, depth_ints]
theorem depth_rows : ∀ A : List Rw, PyData.depthAll (A.map rowD) ≤ 1
  | [] => by simp [PyData.depthAll]
  | x :: v => by rw [List.map_cons, PyData.depthAll, depth_row]; have := depth_rows v; omega
theorem dOk_row (v : Rw) : dOk (rowD v) = true := by unfold dOk; rw [plain_row, depth_row]; rfl
theorem dOk_matT (A : List Rw) : dOk (matT A) = true := by
  unfold dOk matT
  rw [PyData.plain, plain_rows, PyData.depth]
  have := depth_rows A
  simp only [Bool.true_and, decide_eq_true_eq]
  omega
theorem dOk_matL (A : List Rw) : dOk (matL A) = true := by
  unfold dOk matL
  rw [PyData.plain, plain_rows, PyData.depth]
  have := depth_rows A
  simp only [Bool.true_and, decide_eq_true_eq]
  omega
theorem alike_ints : ∀ v w : Rw, PySem.W.alikeAll (v.map .int) (w.map .int) = true
  | [], _ => by rw [List.map_nil, PySem.W.alikeAll]
  | _ :: _, [] => by rw [List.map_cons, List.map_nil, PySem.W.alikeAll]
  | x :: v, y :: w => by rw [List.map_cons, List.map_cons, PySem.W.alikeAll, alike_ints v w, PySem.W.alike]; rfl
theorem le_row (v w : Rw) : PySem.W.dataLe false id (rowD v) (rowD w) = leR v w := by
  rw [PySem.W.dataLe_eq]
  show (!PySem.W.dataLt (rowD w) (rowD v)) = _
  have e : PySem.W.dataLt (rowD w) (rowD v) = decide (w < v) := by
    unfold rowD
    rw [PySem.W.dataLt_tuple]
    exact PySem.W.dataLt_ints w v
  rw [e]
  unfold leR
  by_cases h : w < v
  · have : ¬ v ≤ w := fun q => absurd h (List.not_lt.mpr q)
    simp [h, this]
  · have : v ≤ w := List.not_lt.mp h
    simp [h, this]
theorem sort_rows (A : List Rw) : sortD (A.map rowD) = (sortR A).map rowD := by
  unfold sortD sortR
  rw [List.map_mergeSort]
  intro a _ b _
  exact (le_row a b).symm
theorem sort_ok {n : Nat} {A : List Rw} (hn : 1 ≤ n) (h : ∀ a ∈ A, a.length = n) : SortOk (A.map rowD) := by
  refine ⟨fun d hd d' hd' => ?_, .inl (.inl fun d hd => ?_), fun d hd => ?_⟩
  · obtain ⟨a, _, rfl⟩ := List.mem_map.mp hd
    obtain ⟨b, _, rfl⟩ := List.mem_map.mp hd'
    unfold rowD
    rw [PySem.W.alike]
    exact alike_ints a b
  · obtain ⟨a, ha, rfl⟩ := List.mem_map.mp hd
    have := h a ha
    cases a with
    | nil => simp at this; omega
    | cons x a => exact ⟨.int x, a.map .int, rfl⟩
  · obtain ⟨a, _, rfl⟩ := List.mem_map.mp hd
    rw [depth_row]
    omega
/-! places -/
theorem atD_row {v : Rw} {i : Nat} (h : i < v.length) : atD (v.map .int) (i : Int) = some (.int (at_ v i)) := by
  unfold atD L2.ixN at_
  rw [List.length_map, if_pos (by omega), if_pos (by omega)]
  show (v.map PyData.int)[(i : Int).toNat]? = _
  rw [Int.toNat_natCast, List.getElem?_map, List.getElem?_eq_getElem h, List.getD_eq_getElem?_getD, List.getElem?_eq_getElem h]
  rfl
theorem atD_zero {x : PyData} {l : List PyData} : atD (x :: l) 0 = some x := by
  unfold atD L2.ixN
  rw [if_pos (by omega), if_pos (by simp)]
  rfl
theorem atD_one {x y : PyData} {l : List PyData} : atD (x :: y :: l) 1 = some y := by
  unfold atD L2.ixN
  rw [if_pos (by omega), if_pos (by simp; omega)]
  rfl
theorem small {n : Nat} (h : n ≤ 1000000) : n ≤ sizeLine := by rw [sizeLine_eq]; omega
end ME

end
section
set_option Elab.async false
set_option linter.all false
set_option maxRecDepth 100000
set_option autoImplicit false
set_option maxHeartbeats 4000000
namespace ME
open PySem DP MA
section
variable {k : Nat} {Q : RV → Prop} {E : Str → Prop} {p : Int} {n : Nat} {A B : List Rw} {u v w : Rw}
theorem is_whole_ok (x : PyData) (h : Q (.d (.bool (x.isInt && !x.isBool)))) : wpFn DB.Γ (k + 1) DB.is_whole [.d x] Q E := by
  refine fn_go DB.g_is_whole ?_
  simp only [DB.b_is_whole, wpSs, wpS, wpE, wpA, wpX, wpO, wpT, wpI, wpF, sSeq, sNext, sCont, sRet, sRetN, sRetF, oLst, sRetO, sIf, sDrop, sSet, sSetF, frz1, sFrz, sFrzs, sApp, sExt, sUnp, sRetC, sSetS, sRaise, sFor, xNil, xE, slotW, xS, rvD, rvL, rvS, dCallF, fCallF, dVar, dC, dLst, dNil, dCons, dTup, fLst, dOp, dAnd, dOr, dNot, dIf, dCall, fCall, dIsi, dRev, dSl, rSlD, rRevD, eB, boolD, eChain, eAnd, eOr, eNot, intD, eNeg, ixW, oInt, oNone, lstW, srtW, sLen, sIx, binW, cmpW, subW, modW, rAdd, rMul, powW, fdivW, ltW, leW, gtW, geW, eqW, neW, rEqq, rNeq, inW, isW, isV, biW, lenD, truW, iSeq, seqD, iRange1, iRange2, rng1, rng2, iEnu, enu1, iZip2, zip2, fLc, tTT, s0, List.map_cons, List.map_nil, List.length_cons, List.length_nil, List.replicate, List.cons_append, List.nil_append, List.getElem?_cons_zero, List.getElem?_cons_succ, List.set_cons_zero, List.set_cons_succ, List.foldr_cons, List.foldr_nil, Nat.zero_add, Nat.reduceAdd, Nat.reduceSub, List.getElem?_nil, true_and, and_true, eq_self, wipeG, Bool.false_eq_true, if_true, if_false, ↓reduceIte]
  have e1 : isT "int" x = x.isInt := rfl
  have e2 : isT "bool" x = x.isBool := rfl
  rw [e1, e2]
  cases q : x.isInt with
  | true => rw [q] at h; rw [if_pos rfl]; exact h
  | false => rw [q] at h; rw [if_neg (by decide)]; exact h
theorem is_between_ok (i lo hi : Int) (h : Q (.d (.bool (decide (lo ≤ i) && decide (i ≤ hi))))) : wpFn DB.Γ (k + 2) DB.is_between [.d (.int i), .d (.int lo), .d (.int hi)] Q E := by
  refine fn_go DB.g_is_between ?_
  simp only [DB.b_is_between, wpSs, wpS, wpE, wpA, wpX, wpO, wpT, wpI, wpF, sSeq, sNext, sCont, sRet, sRetN, sRetF, oLst, sRetO, sIf, sDrop, sSet, sSetF, frz1, sFrz, sFrzs, sApp, sExt, sUnp, sRetC, sSetS, sRaise, sFor, xNil, xE, slotW, xS, rvD, rvL, rvS, dCallF, fCallF, dVar, dC, dLst, dNil, dCons, dTup, fLst, dOp, dAnd, dOr, dNot, dIf, dCall, fCall, dIsi, dRev, dSl, rSlD, rRevD, eB, boolD, eChain, eAnd, eOr, eNot, intD, eNeg, ixW, oInt, oNone, lstW, srtW, sLen, sIx, binW, cmpW, subW, modW, rAdd, rMul, powW, fdivW, ltW, leW, gtW, geW, eqW, neW, rEqq, rNeq, inW, isW, isV, biW, lenD, truW, iSeq, seqD, iRange1, iRange2, rng1, rng2, iEnu, enu1, iZip2, zip2, fLc, tTT, s0, List.map_cons, List.map_nil, List.length_cons, List.length_nil, List.replicate, List.cons_append, List.nil_append, List.getElem?_cons_zero, List.getElem?_cons_succ, List.set_cons_zero, List.set_cons_succ, List.foldr_cons, List.foldr_nil, Nat.zero_add, Nat.reduceAdd, Nat.reduceSub, List.getElem?_nil, true_and, and_true, eq_self, wipeG, Bool.false_eq_true, if_true, if_false, ↓reduceIte]
  refine is_whole_ok _ ?_
  show (if decide (lo ≤ i) = true then Q (RV.d (PyData.bool (decide (i ≤ hi)))) else Q (RV.d (PyData.bool false)))
  by_cases c : lo ≤ i
  · rw [decide_eq_true c] at h ⊢; rw [if_pos rfl]; exact h
  · rw [decide_eq_false c] at h ⊢; rw [if_neg (by decide)]; exact h
theorem is_row_ok (hv : Row p n v) (h : Q (.d (.bool true))) : wpFn DB.Γ (k + 3) DB.is_row [.d (spD p n), .d (rowD v)] Q E := by
  refine fn_go DB.g_is_row ?_
  simp only [DB.b_is_row, spD, rowD, wpSs, wpS, wpE, wpA, wpX, wpO, wpT, wpI, wpF, sSeq, sNext, sCont, sRet, sRetN, sRetF, oLst, sRetO, sIf, sDrop, sSet, sSetF, frz1, sFrz, sFrzs, sApp, sExt, sUnp, sRetC, sSetS, sRaise, sFor, xNil, xE, slotW, xS, rvD, rvL, rvS, dCallF, fCallF, dVar, dC, dLst, dNil, dCons, dTup, fLst, dOp, dAnd, dOr, dNot, dIf, dCall, fCall, dIsi, dRev, dSl, rSlD, rRevD, eB, boolD, eChain, eAnd, eOr, eNot, intD, eNeg, ixW, oInt, oNone, lstW, srtW, sLen, sIx, binW, cmpW, subW, modW, rAdd, rMul, powW, fdivW, ltW, leW, gtW, geW, eqW, neW, rEqq, rNeq, inW, isW, isV, biW, lenD, truW, iSeq, seqD, iRange1, iRange2, rng1, rng2, iEnu, enu1, iZip2, zip2, fLc, tTT, s0, List.map_cons, List.map_nil, List.length_cons, List.length_nil, List.replicate, List.cons_append, List.nil_append, List.getElem?_cons_zero, List.getElem?_cons_succ, List.set_cons_zero, List.set_cons_succ, List.foldr_cons, List.foldr_nil, Nat.zero_add, Nat.reduceAdd, Nat.reduceSub, List.getElem?_nil, true_and, and_true, eq_self, wipeG, Bool.false_eq_true, if_true, if_false, ↓reduceIte, atD_one, atD_zero]
  have e1 : isT "tuple" (PyData.tuple (v.map .int)) = true := rfl
  rw [e1]
  have e2 : decide (((v.map PyData.int).length : Int) = (n : Int)) = true := by rw [List.length_map, hv.1]; simp
  simp only [e2, Bool.not_true, Bool.false_eq_true, if_false]
  refine ⟨rfl, lcGo_tt PyData.int (fun _ => .bool true) v (fun x hx K hK => ?_) ?_⟩
  · simp only [wpSs, wpS, wpE, wpA, wpX, wpO, wpT, wpI, wpF, sSeq, sNext, sCont, sRet, sRetN, sRetF, oLst, sRetO, sIf, sDrop, sSet, sSetF, frz1, sFrz, sFrzs, sApp, sExt, sUnp, sRetC, sSetS, sRaise, sFor, xNil, xE, slotW, xS, rvD, rvL, rvS, dCallF, fCallF, dVar, dC, dLst, dNil, dCons, dTup, fLst, dOp, dAnd, dOr, dNot, dIf, dCall, fCall, dIsi, dRev, dSl, rSlD, rRevD, eB, boolD, eChain, eAnd, eOr, eNot, intD, eNeg, ixW, oInt, oNone, lstW, srtW, sLen, sIx, binW, cmpW, subW, modW, rAdd, rMul, powW, fdivW, ltW, leW, gtW, geW, eqW, neW, rEqq, rNeq, inW, isW, isV, biW, lenD, truW, iSeq, seqD, iRange1, iRange2, rng1, rng2, iEnu, enu1, iZip2, zip2, fLc, tTT, s0, List.map_cons, List.map_nil, List.length_cons, List.length_nil, List.replicate, List.cons_append, List.nil_append, List.getElem?_cons_zero, List.getElem?_cons_succ, List.set_cons_zero, List.set_cons_succ, List.foldr_cons, List.foldr_nil, Nat.zero_add, Nat.reduceAdd, Nat.reduceSub, List.getElem?_nil, true_and, and_true, eq_self, wipeG, Bool.false_eq_true, if_true, if_false, ↓reduceIte, atD_zero]
    refine is_between_ok _ _ _ ?_
    have := hv.2 x hx
    have e : (decide (0 ≤ x) && decide (x ≤ p - 1)) = true := by simp; omega
    rw [e]
    exact hK
  · have e3 : (v.map fun _ => PyData.bool true).all PyData.truthy = true := by simp [PyData.truthy]
    have e4 : (v.map fun _ => PyData.bool true).all fits = true := by simp [fits]
    have e5 : ∀ l : Rw, PyData.plainAll (l.map fun _ => PyData.bool true) = true := fun l => by
      induction l with
      | nil => simp [PyData.plainAll]
      | cons a l ih => rw [List.map_cons, PyData.plainAll, ih]; simp [PyData.plain]
    rw [e3]
    exact ⟨e5 v, e4, h⟩
def headI (v : Rw) : Int := if hx v < v.length then (hx v : Int) else -1
theorem headI_lead (h : hx v < v.length) : headI v = (hx v : Int) := if_pos h
theorem enu_ints (v : Rw) : enuD (v.map .int) = v.zipIdx.map fun q => PyData.tuple [.int (q.2 : Int), .int q.1] := by
  unfold enuD
  rw [List.zipIdx_map, List.map_map]
  rfl
theorem head_of_ok (v : Rw) (h : Q (.d (.int (headI v)))) : wpFn DB.Γ (k + 1) DB.head_of [.d (rowD v)] Q E := by
  refine fn_go DB.g_head_of ?_
  simp only [DB.b_head_of, rowD, wpSs, wpS, wpE, wpA, wpX, wpO, wpT, wpI, wpF, sSeq, sNext, sCont, sRet, sRetN, sRetF, oLst, sRetO, sIf, sDrop, sSet, sSetF, frz1, sFrz, sFrzs, sApp, sExt, sUnp, sRetC, sSetS, sRaise, sFor, xNil, xE, slotW, xS, rvD, rvL, rvS, dCallF, fCallF, dVar, dC, dLst, dNil, dCons, dTup, fLst, dOp, dAnd, dOr, dNot, dIf, dCall, fCall, dIsi, dRev, dSl, rSlD, rRevD, eB, boolD, eChain, eAnd, eOr, eNot, intD, eNeg, ixW, oInt, oNone, lstW, srtW, sLen, sIx, binW, cmpW, subW, modW, rAdd, rMul, powW, fdivW, ltW, leW, gtW, geW, eqW, neW, rEqq, rNeq, inW, isW, isV, biW, lenD, truW, iSeq, seqD, iRange1, iRange2, rng1, rng2, iEnu, enu1, iZip2, zip2, fLc, tTT, s0, List.map_cons, List.map_nil, List.length_cons, List.length_nil, List.replicate, List.cons_append, List.nil_append, List.getElem?_cons_zero, List.getElem?_cons_succ, List.set_cons_zero, List.set_cons_succ, List.foldr_cons, List.foldr_nil, Nat.zero_add, Nat.reduceAdd, Nat.reduceSub, List.getElem?_nil, true_and, and_true, eq_self, wipeG, Bool.false_eq_true, if_true, if_false, ↓reduceIte]
  rw [enu_ints]
  refine forGo_inv (fun q : Int × Nat => PyData.tuple [.int (q.2 : Int), .int q.1]) (fun l r => ∃ a b j, r = [some (.d (.tuple (v.map .int))), a, b] ∧ l = (v.drop j).zipIdx j ∧ j ≤ v.length ∧ ∀ i, i < j → at_ v i = 0) ?_ ?_ _ _ ⟨_, _, 0, rfl, by rw [List.drop_zero], by omega, fun i hi => by omega⟩
  · rintro r ⟨a, b, j, rfl, hl, hj, h0⟩
    have hj' : j = v.length := by
      have := congrArg List.length hl
      simp at this
      omega
    have hh : ¬ hx v < v.length := fun q => at_hx q (h0 _ (by omega))
    have e : headI v = -1 := if_neg hh
    rw [e] at h
    exact h
  · rintro ⟨y, i⟩ l r K hK ⟨a, b, j, rfl, hl, hj, h0⟩
    have hj' : j < v.length := by
      have := congrArg List.length hl
      simp at this
      omega
    rw [List.drop_eq_getElem_cons hj', List.zipIdx_cons] at hl
    cases hl
    simp only [bindT, wpSs, wpS, wpE, wpA, wpX, wpO, wpT, wpI, wpF, sSeq, sNext, sCont, sRet, sRetN, sRetF, oLst, sRetO, sIf, sDrop, sSet, sSetF, frz1, sFrz, sFrzs, sApp, sExt, sUnp, sRetC, sSetS, sRaise, sFor, xNil, xE, slotW, xS, rvD, rvL, rvS, dCallF, fCallF, dVar, dC, dLst, dNil, dCons, dTup, fLst, dOp, dAnd, dOr, dNot, dIf, dCall, fCall, dIsi, dRev, dSl, rSlD, rRevD, eB, boolD, eChain, eAnd, eOr, eNot, intD, eNeg, ixW, oInt, oNone, lstW, srtW, sLen, sIx, binW, cmpW, subW, modW, rAdd, rMul, powW, fdivW, ltW, leW, gtW, geW, eqW, neW, rEqq, rNeq, inW, isW, isV, biW, lenD, truW, iSeq, seqD, iRange1, iRange2, rng1, rng2, iEnu, enu1, iZip2, zip2, fLc, tTT, s0, List.map_cons, List.map_nil, List.length_cons, List.length_nil, List.replicate, List.cons_append, List.nil_append, List.getElem?_cons_zero, List.getElem?_cons_succ, List.set_cons_zero, List.set_cons_succ, List.foldr_cons, List.foldr_nil, Nat.zero_add, Nat.reduceAdd, Nat.reduceSub, List.getElem?_nil, true_and, and_true, eq_self, wipeG, Bool.false_eq_true, if_true, if_false, ↓reduceIte]
    have ea : at_ v i = v[i] := by
      unfold at_
      rw [List.getD_eq_getElem?_getD, List.getElem?_eq_getElem hj']
      rfl
    by_cases c : v[i] = 0
    · rw [decide_eq_true c]
      simp only [Bool.not_true, Bool.false_eq_true, if_false]
      refine hK _ ⟨_, _, i + 1, rfl, rfl, hj', fun m hm => ?_⟩
      by_cases q : m = i
      · rw [q, ea, c]
      · exact h0 m (by omega)
    · rw [decide_eq_false c]
      simp only [Bool.not_false, if_true]
      have hh : hx v = i := hx_eq h0 (by rw [ea]; exact c)
      have e : headI v = (i : Int) := by
        have q := headI_lead (v := v) (by rw [hh]; exact hj')
        rw [q, hh]
      rw [e] at h
      exact h
theorem zip_ints : ∀ v w : Rw, zipD (v.map .int) (w.map .int) = (v.zip w).map fun q => PyData.tuple [.int q.1, .int q.2]
  | [], _ => rfl
  | _ :: _, [] => rfl
  | x :: v, y :: w => by
    have := zip_ints v w
    unfold zipD at this ⊢
    rw [List.map_cons, List.map_cons, List.zipWith_cons_cons, this]
    rfl
theorem cmul_small {i j : Int} (h0 : 0 ≤ j) (h1 : j ≤ 100) : L2.CMul i j := .inr ⟨by omega, by omega⟩
theorem cmul_small' {i j : Int} (h0 : -100 ≤ i) (h1 : i ≤ 100) : L2.CMul i j := .inl ⟨by omega, by omega⟩
theorem addm_zip (v w : Rw) (m : Int) : ((v.zip w).map fun q => PyData.int ((q.1 + m * q.2) % p)) = (addm p v m w).map .int := by
  unfold addm
  rw [← List.map_uncurry_zip_eq_zipWith, List.map_map]
  rfl
theorem plus_ok {m : Int} (s : Sp p n) (hw : ∀ x ∈ w, 0 ≤ x ∧ x < p) (h : Q (.d (rowD (addm p v m w)))) : wpFn DB.Γ (k + 1) DB.plus [.d (spD p n), .d (rowD v), .d (.int m), .d (rowD w)] Q E := by
  have p0 := s.p0
  have p5 := s.p5
  refine fn_go DB.g_plus ?_
  simp only [DB.b_plus, rowD, spD, wpSs, wpS, wpE, wpA, wpX, wpO, wpT, wpI, wpF, sSeq, sNext, sCont, sRet, sRetN, sRetF, oLst, sRetO, sIf, sDrop, sSet, sSetF, frz1, sFrz, sFrzs, sApp, sExt, sUnp, sRetC, sSetS, sRaise, sFor, xNil, xE, slotW, xS, rvD, rvL, rvS, dCallF, fCallF, dVar, dC, dLst, dNil, dCons, dTup, fLst, dOp, dAnd, dOr, dNot, dIf, dCall, fCall, dIsi, dRev, dSl, rSlD, rRevD, eB, boolD, eChain, eAnd, eOr, eNot, intD, eNeg, ixW, oInt, oNone, lstW, srtW, sLen, sIx, binW, cmpW, subW, modW, rAdd, rMul, powW, fdivW, ltW, leW, gtW, geW, eqW, neW, rEqq, rNeq, inW, isW, isV, biW, lenD, truW, iSeq, seqD, iRange1, iRange2, rng1, rng2, iEnu, enu1, iZip2, zip2, fLc, tTT, s0, List.map_cons, List.map_nil, List.length_cons, List.length_nil, List.replicate, List.cons_append, List.nil_append, List.getElem?_cons_zero, List.getElem?_cons_succ, List.set_cons_zero, List.set_cons_succ, List.foldr_cons, List.foldr_nil, Nat.zero_add, Nat.reduceAdd, Nat.reduceSub, List.getElem?_nil, true_and, and_true, eq_self, wipeG, Bool.false_eq_true, if_true, if_false, ↓reduceIte]
  refine ⟨rfl, ?_⟩
  rw [zip_ints]
  refine lcGo_two (fun q : Int × Int => PyData.int q.1) (fun q => .int q.2) (fun q => .int ((q.1 + m * q.2) % p)) _ _ (fun q hq K hK => ?_) ?_
  · simp only [wpSs, wpS, wpE, wpA, wpX, wpO, wpT, wpI, wpF, sSeq, sNext, sCont, sRet, sRetN, sRetF, oLst, sRetO, sIf, sDrop, sSet, sSetF, frz1, sFrz, sFrzs, sApp, sExt, sUnp, sRetC, sSetS, sRaise, sFor, xNil, xE, slotW, xS, rvD, rvL, rvS, dCallF, fCallF, dVar, dC, dLst, dNil, dCons, dTup, fLst, dOp, dAnd, dOr, dNot, dIf, dCall, fCall, dIsi, dRev, dSl, rSlD, rRevD, eB, boolD, eChain, eAnd, eOr, eNot, intD, eNeg, ixW, oInt, oNone, lstW, srtW, sLen, sIx, binW, cmpW, subW, modW, rAdd, rMul, powW, fdivW, ltW, leW, gtW, geW, eqW, neW, rEqq, rNeq, inW, isW, isV, biW, lenD, truW, iSeq, seqD, iRange1, iRange2, rng1, rng2, iEnu, enu1, iZip2, zip2, fLc, tTT, s0, List.map_cons, List.map_nil, List.length_cons, List.length_nil, List.replicate, List.cons_append, List.nil_append, List.getElem?_cons_zero, List.getElem?_cons_succ, List.set_cons_zero, List.set_cons_succ, List.foldr_cons, List.foldr_nil, Nat.zero_add, Nat.reduceAdd, Nat.reduceSub, List.getElem?_nil, true_and, and_true, eq_self, wipeG, Bool.false_eq_true, if_true, if_false, ↓reduceIte, atD_zero]
    have := hw q.2 (List.of_mem_zip hq).2
    exact ⟨cmul_small (by omega) (by omega), p0, hK⟩
  · rw [List.nil_append, addm_zip]
    exact h
end
end ME

end
section
set_option Elab.async false
set_option linter.all false
set_option maxRecDepth 100000
set_option autoImplicit false
set_option maxHeartbeats 4000000
namespace ME
open PySem DP MA
abbrev od (o : Option PyData) : Option SV := o.map SV.d
section
variable {k : Nat} {Q : RV → Prop} {E : Str → Prop} {p : Int} {n : Nat} {A B : List Rw} {a u v w : Rw}
theorem ix_head (hv : Row p n v) (ha : Lead p n a) : atD (v.map .int) (headI a) = some (.int (at_ v (hx a))) := by
  rw [headI_lead (by rw [ha.row.1]; exact ha.lt)]
  exact atD_row (by rw [hv.1]; exact ha.lt)
theorem lead_ok (h : Lead p n a) : headI a = (hx a : Int) := headI_lead (by rw [h.row.1]; exact h.lt)
theorem headI_neg (hv : Row p n v) : decide (headI v < 0) = decide (v = zr n) := by
  unfold headI
  rw [hv.1]
  by_cases h : hx v < n
  · have := (hx_lt_iff hv.1).mp h
    rw [if_pos h]
    simp [this]
  · have := zr_of_hx hv.1 h
    rw [if_neg h]
    simp [this]
theorem held_ok (s : Sp p n) (hA : Sys p n A) (hv : Row p n v) (h : Q (.d (.bool (decide (red p A v = zr n))))) : wpFn DB.Γ (k + 2) DB.held [.d (spD p n), .d (matT A), .d (rowD v)] Q E := by
  have p0 := s.p0
  refine fn_go DB.g_held ?_
  simp only [DB.b_held, spD, rowD, matT, wpSs, wpS, wpE, wpA, wpX, wpO, wpT, wpI, wpF, sSeq, sNext, sCont, sRet, sRetN, sRetF, oLst, sRetO, sIf, sDrop, sSet, sSetF, frz1, sFrz, sFrzs, sApp, sExt, sUnp, sRetC, sSetS, sRaise, sFor, xNil, xE, slotW, xS, rvD, rvL, rvS, dCallF, fCallF, dVar, dC, dLst, dNil, dCons, dTup, fLst, dOp, dAnd, dOr, dNot, dIf, dCall, fCall, dIsi, dRev, dSl, rSlD, rRevD, eB, boolD, eChain, eAnd, eOr, eNot, intD, eNeg, ixW, oInt, oNone, lstW, srtW, sLen, sIx, binW, cmpW, subW, modW, rAdd, rMul, powW, fdivW, ltW, leW, gtW, geW, eqW, neW, rEqq, rNeq, inW, isW, isV, biW, lenD, truW, iSeq, seqD, iRange1, iRange2, rng1, rng2, iEnu, enu1, iZip2, zip2, fLc, tTT, s0, List.map_cons, List.map_nil, List.length_cons, List.length_nil, List.replicate, List.cons_append, List.nil_append, List.getElem?_cons_zero, List.getElem?_cons_succ, List.set_cons_zero, List.set_cons_succ, List.foldr_cons, List.foldr_nil, Nat.zero_add, Nat.reduceAdd, Nat.reduceSub, List.getElem?_nil, true_and, and_true, eq_self, wipeG, Bool.false_eq_true, if_true, if_false, ↓reduceIte]
  refine forGo_inv rowD (fun l r => ∃ u o, r = [some (.d (spD p n)), some (.d (matT A)), some (.d (rowD u)), od o] ∧ Row p n u ∧ (∀ a ∈ l, Lead p n a) ∧ red p l u = red p A v) ?_ ?_ _ _ ⟨v, none, rfl, hv, hA.lead, rfl⟩
  · rintro r ⟨u, o, rfl, hu, _, e⟩
    have e : u = red p A v := e
    simp only [wpSs, wpS, wpE, wpA, wpX, wpO, wpT, wpI, wpF, sSeq, sNext, sCont, sRet, sRetN, sRetF, oLst, sRetO, sIf, sDrop, sSet, sSetF, frz1, sFrz, sFrzs, sApp, sExt, sUnp, sRetC, sSetS, sRaise, sFor, xNil, xE, slotW, xS, rvD, rvL, rvS, dCallF, fCallF, dVar, dC, dLst, dNil, dCons, dTup, fLst, dOp, dAnd, dOr, dNot, dIf, dCall, fCall, dIsi, dRev, dSl, rSlD, rRevD, eB, boolD, eChain, eAnd, eOr, eNot, intD, eNeg, ixW, oInt, oNone, lstW, srtW, sLen, sIx, binW, cmpW, subW, modW, rAdd, rMul, powW, fdivW, ltW, leW, gtW, geW, eqW, neW, rEqq, rNeq, inW, isW, isV, biW, lenD, truW, iSeq, seqD, iRange1, iRange2, rng1, rng2, iEnu, enu1, iZip2, zip2, fLc, tTT, s0, List.map_cons, List.map_nil, List.length_cons, List.length_nil, List.replicate, List.cons_append, List.nil_append, List.getElem?_cons_zero, List.getElem?_cons_succ, List.set_cons_zero, List.set_cons_succ, List.foldr_cons, List.foldr_nil, Nat.zero_add, Nat.reduceAdd, Nat.reduceSub, List.getElem?_nil, true_and, and_true, eq_self, wipeG, Bool.false_eq_true, if_true, if_false, ↓reduceIte]
    refine head_of_ok _ ?_
    simp only [wpSs, wpS, wpE, wpA, wpX, wpO, wpT, wpI, wpF, sSeq, sNext, sCont, sRet, sRetN, sRetF, oLst, sRetO, sIf, sDrop, sSet, sSetF, frz1, sFrz, sFrzs, sApp, sExt, sUnp, sRetC, sSetS, sRaise, sFor, xNil, xE, slotW, xS, rvD, rvL, rvS, dCallF, fCallF, dVar, dC, dLst, dNil, dCons, dTup, fLst, dOp, dAnd, dOr, dNot, dIf, dCall, fCall, dIsi, dRev, dSl, rSlD, rRevD, eB, boolD, eChain, eAnd, eOr, eNot, intD, eNeg, ixW, oInt, oNone, lstW, srtW, sLen, sIx, binW, cmpW, subW, modW, rAdd, rMul, powW, fdivW, ltW, leW, gtW, geW, eqW, neW, rEqq, rNeq, inW, isW, isV, biW, lenD, truW, iSeq, seqD, iRange1, iRange2, rng1, rng2, iEnu, enu1, iZip2, zip2, fLc, tTT, s0, List.map_cons, List.map_nil, List.length_cons, List.length_nil, List.replicate, List.cons_append, List.nil_append, List.getElem?_cons_zero, List.getElem?_cons_succ, List.set_cons_zero, List.set_cons_succ, List.foldr_cons, List.foldr_nil, Nat.zero_add, Nat.reduceAdd, Nat.reduceSub, List.getElem?_nil, true_and, and_true, eq_self, wipeG, Bool.false_eq_true, if_true, if_false, ↓reduceIte]
    rw [headI_neg hu, e]
    exact h
  · rintro x l r K hK ⟨u, o, rfl, hu, hl, e⟩
    have lx := hl x (.head _)
    simp only [bindT, wpSs, wpS, wpE, wpA, wpX, wpO, wpT, wpI, wpF, sSeq, sNext, sCont, sRet, sRetN, sRetF, oLst, sRetO, sIf, sDrop, sSet, sSetF, frz1, sFrz, sFrzs, sApp, sExt, sUnp, sRetC, sSetS, sRaise, sFor, xNil, xE, slotW, xS, rvD, rvL, rvS, dCallF, fCallF, dVar, dC, dLst, dNil, dCons, dTup, fLst, dOp, dAnd, dOr, dNot, dIf, dCall, fCall, dIsi, dRev, dSl, rSlD, rRevD, eB, boolD, eChain, eAnd, eOr, eNot, intD, eNeg, ixW, oInt, oNone, lstW, srtW, sLen, sIx, binW, cmpW, subW, modW, rAdd, rMul, powW, fdivW, ltW, leW, gtW, geW, eqW, neW, rEqq, rNeq, inW, isW, isV, biW, lenD, truW, iSeq, seqD, iRange1, iRange2, rng1, rng2, iEnu, enu1, iZip2, zip2, fLc, tTT, s0, List.map_cons, List.map_nil, List.length_cons, List.length_nil, List.replicate, List.cons_append, List.nil_append, List.getElem?_cons_zero, List.getElem?_cons_succ, List.set_cons_zero, List.set_cons_succ, List.foldr_cons, List.foldr_nil, Nat.zero_add, Nat.reduceAdd, Nat.reduceSub, List.getElem?_nil, true_and, and_true, eq_self, wipeG, Bool.false_eq_true, if_true, if_false, ↓reduceIte]
    refine head_of_ok _ ?_
    simp only [wpSs, wpS, wpE, wpA, wpX, wpO, wpT, wpI, wpF, sSeq, sNext, sCont, sRet, sRetN, sRetF, oLst, sRetO, sIf, sDrop, sSet, sSetF, frz1, sFrz, sFrzs, sApp, sExt, sUnp, sRetC, sSetS, sRaise, sFor, xNil, xE, slotW, xS, rvD, rvL, rvS, dCallF, fCallF, dVar, dC, dLst, dNil, dCons, dTup, fLst, dOp, dAnd, dOr, dNot, dIf, dCall, fCall, dIsi, dRev, dSl, rSlD, rRevD, eB, boolD, eChain, eAnd, eOr, eNot, intD, eNeg, ixW, oInt, oNone, lstW, srtW, sLen, sIx, binW, cmpW, subW, modW, rAdd, rMul, powW, fdivW, ltW, leW, gtW, geW, eqW, neW, rEqq, rNeq, inW, isW, isV, biW, lenD, truW, iSeq, seqD, iRange1, iRange2, rng1, rng2, iEnu, enu1, iZip2, zip2, fLc, tTT, s0, List.map_cons, List.map_nil, List.length_cons, List.length_nil, List.replicate, List.cons_append, List.nil_append, List.getElem?_cons_zero, List.getElem?_cons_succ, List.set_cons_zero, List.set_cons_succ, List.foldr_cons, List.foldr_nil, Nat.zero_add, Nat.reduceAdd, Nat.reduceSub, List.getElem?_nil, true_and, and_true, eq_self, wipeG, Bool.false_eq_true, if_true, if_false, ↓reduceIte, ix_head hu lx]
    refine plus_ok s lx.row.2 ?_
    simp only [wpSs, wpS, wpE, wpA, wpX, wpO, wpT, wpI, wpF, sSeq, sNext, sCont, sRet, sRetN, sRetF, oLst, sRetO, sIf, sDrop, sSet, sSetF, frz1, sFrz, sFrzs, sApp, sExt, sUnp, sRetC, sSetS, sRaise, sFor, xNil, xE, slotW, xS, rvD, rvL, rvS, dCallF, fCallF, dVar, dC, dLst, dNil, dCons, dTup, fLst, dOp, dAnd, dOr, dNot, dIf, dCall, fCall, dIsi, dRev, dSl, rSlD, rRevD, eB, boolD, eChain, eAnd, eOr, eNot, intD, eNeg, ixW, oInt, oNone, lstW, srtW, sLen, sIx, binW, cmpW, subW, modW, rAdd, rMul, powW, fdivW, ltW, leW, gtW, geW, eqW, neW, rEqq, rNeq, inW, isW, isV, biW, lenD, truW, iSeq, seqD, iRange1, iRange2, rng1, rng2, iEnu, enu1, iZip2, zip2, fLc, tTT, s0, List.map_cons, List.map_nil, List.length_cons, List.length_nil, List.replicate, List.cons_append, List.nil_append, List.getElem?_cons_zero, List.getElem?_cons_succ, List.set_cons_zero, List.set_cons_succ, List.foldr_cons, List.foldr_nil, Nat.zero_add, Nat.reduceAdd, Nat.reduceSub, List.getElem?_nil, true_and, and_true, eq_self, wipeG, Bool.false_eq_true, if_true, if_false, ↓reduceIte]
    exact hK _ ⟨_, some (rowD x), rfl, hu.addm p0 lx.row, fun b hb => hl b (.tail _ hb), e⟩
theorem need_row_ok (hv : Row p n v) (h : Q (.d .none)) : wpFn DB.Γ (k + 4) DB.need_row [.d (spD p n), .d (rowD v)] Q E := by
  refine fn_go DB.g_need_row ?_
  simp only [DB.b_need_row, wpSs, wpS, wpE, wpA, wpX, wpO, wpT, wpI, wpF, sSeq, sNext, sCont, sRet, sRetN, sRetF, oLst, sRetO, sIf, sDrop, sSet, sSetF, frz1, sFrz, sFrzs, sApp, sExt, sUnp, sRetC, sSetS, sRaise, sFor, xNil, xE, slotW, xS, rvD, rvL, rvS, dCallF, fCallF, dVar, dC, dLst, dNil, dCons, dTup, fLst, dOp, dAnd, dOr, dNot, dIf, dCall, fCall, dIsi, dRev, dSl, rSlD, rRevD, eB, boolD, eChain, eAnd, eOr, eNot, intD, eNeg, ixW, oInt, oNone, lstW, srtW, sLen, sIx, binW, cmpW, subW, modW, rAdd, rMul, powW, fdivW, ltW, leW, gtW, geW, eqW, neW, rEqq, rNeq, inW, isW, isV, biW, lenD, truW, iSeq, seqD, iRange1, iRange2, rng1, rng2, iEnu, enu1, iZip2, zip2, fLc, tTT, s0, List.map_cons, List.map_nil, List.length_cons, List.length_nil, List.replicate, List.cons_append, List.nil_append, List.getElem?_cons_zero, List.getElem?_cons_succ, List.set_cons_zero, List.set_cons_succ, List.foldr_cons, List.foldr_nil, Nat.zero_add, Nat.reduceAdd, Nat.reduceSub, List.getElem?_nil, true_and, and_true, eq_self, wipeG, Bool.false_eq_true, if_true, if_false, ↓reduceIte]
  refine is_row_ok hv ?_
  simp only [wpSs, wpS, wpE, wpA, wpX, wpO, wpT, wpI, wpF, sSeq, sNext, sCont, sRet, sRetN, sRetF, oLst, sRetO, sIf, sDrop, sSet, sSetF, frz1, sFrz, sFrzs, sApp, sExt, sUnp, sRetC, sSetS, sRaise, sFor, xNil, xE, slotW, xS, rvD, rvL, rvS, dCallF, fCallF, dVar, dC, dLst, dNil, dCons, dTup, fLst, dOp, dAnd, dOr, dNot, dIf, dCall, fCall, dIsi, dRev, dSl, rSlD, rRevD, eB, boolD, eChain, eAnd, eOr, eNot, intD, eNeg, ixW, oInt, oNone, lstW, srtW, sLen, sIx, binW, cmpW, subW, modW, rAdd, rMul, powW, fdivW, ltW, leW, gtW, geW, eqW, neW, rEqq, rNeq, inW, isW, isV, biW, lenD, truW, iSeq, seqD, iRange1, iRange2, rng1, rng2, iEnu, enu1, iZip2, zip2, fLc, tTT, s0, List.map_cons, List.map_nil, List.length_cons, List.length_nil, List.replicate, List.cons_append, List.nil_append, List.getElem?_cons_zero, List.getElem?_cons_succ, List.set_cons_zero, List.set_cons_succ, List.foldr_cons, List.foldr_nil, Nat.zero_add, Nat.reduceAdd, Nat.reduceSub, List.getElem?_nil, true_and, and_true, eq_self, wipeG, Bool.false_eq_true, if_true, if_false, ↓reduceIte, Bool.not_true]
  exact h
/-- what is_part asks of a part -/
theorem is_part_ok (hA : Part p n A) (h : Q (.d (.bool true))) : wpFn DB.Γ (k + 4) DB.is_part [.d (spD p n), .d (matT A)] Q E := by
  refine fn_go DB.g_is_part ?_
  simp only [DB.b_is_part, spD, rowD, matT, wpSs, wpS, wpE, wpA, wpX, wpO, wpT, wpI, wpF, sSeq, sNext, sCont, sRet, sRetN, sRetF, oLst, sRetO, sIf, sDrop, sSet, sSetF, frz1, sFrz, sFrzs, sApp, sExt, sUnp, sRetC, sSetS, sRaise, sFor, xNil, xE, slotW, xS, rvD, rvL, rvS, dCallF, fCallF, dVar, dC, dLst, dNil, dCons, dTup, fLst, dOp, dAnd, dOr, dNot, dIf, dCall, fCall, dIsi, dRev, dSl, rSlD, rRevD, eB, boolD, eChain, eAnd, eOr, eNot, intD, eNeg, ixW, oInt, oNone, lstW, srtW, sLen, sIx, binW, cmpW, subW, modW, rAdd, rMul, powW, fdivW, ltW, leW, gtW, geW, eqW, neW, rEqq, rNeq, inW, isW, isV, biW, lenD, truW, iSeq, seqD, iRange1, iRange2, rng1, rng2, iEnu, enu1, iZip2, zip2, fLc, tTT, s0, List.map_cons, List.map_nil, List.length_cons, List.length_nil, List.replicate, List.cons_append, List.nil_append, List.getElem?_cons_zero, List.getElem?_cons_succ, List.set_cons_zero, List.set_cons_succ, List.foldr_cons, List.foldr_nil, Nat.zero_add, Nat.reduceAdd, Nat.reduceSub, List.getElem?_nil, true_and, and_true, eq_self, wipeG, Bool.false_eq_true, if_true, if_false, ↓reduceIte]
  have e1 : isT "tuple" (PyData.tuple (A.map rowD)) = true := rfl
  simp only [e1, Bool.not_true, Bool.false_eq_true, if_false]
  refine forGo_inv rowD (fun l r => ∃ (last : Int) (o : Option PyData), r = [some (.d (spD p n)), some (.d (matT A)), some (.d (.int last)), od o, none] ∧ (∀ a ∈ l, Lead p n a ∧ last < (hx a : Int)) ∧ l.Pairwise fun a b => hx a < hx b) ?_ ?_ _ _ ⟨-1, none, rfl, fun a ha => ⟨hA.sys.lead a ha, by omega⟩, hA.up⟩
  · rintro r ⟨last, o, rfl, _, _⟩
    simp only [wpSs, wpS, wpE, wpA, wpX, wpO, wpT, wpI, wpF, sSeq, sNext, sCont, sRet, sRetN, sRetF, oLst, sRetO, sIf, sDrop, sSet, sSetF, frz1, sFrz, sFrzs, sApp, sExt, sUnp, sRetC, sSetS, sRaise, sFor, xNil, xE, slotW, xS, rvD, rvL, rvS, dCallF, fCallF, dVar, dC, dLst, dNil, dCons, dTup, fLst, dOp, dAnd, dOr, dNot, dIf, dCall, fCall, dIsi, dRev, dSl, rSlD, rRevD, eB, boolD, eChain, eAnd, eOr, eNot, intD, eNeg, ixW, oInt, oNone, lstW, srtW, sLen, sIx, binW, cmpW, subW, modW, rAdd, rMul, powW, fdivW, ltW, leW, gtW, geW, eqW, neW, rEqq, rNeq, inW, isW, isV, biW, lenD, truW, iSeq, seqD, iRange1, iRange2, rng1, rng2, iEnu, enu1, iZip2, zip2, fLc, tTT, s0, List.map_cons, List.map_nil, List.length_cons, List.length_nil, List.replicate, List.cons_append, List.nil_append, List.getElem?_cons_zero, List.getElem?_cons_succ, List.set_cons_zero, List.set_cons_succ, List.foldr_cons, List.foldr_nil, Nat.zero_add, Nat.reduceAdd, Nat.reduceSub, List.getElem?_nil, true_and, and_true, eq_self, wipeG, Bool.false_eq_true, if_true, if_false, ↓reduceIte]
    refine forGo_inv rowD (fun l r => ∃ o, r = [some (.d (spD p n)), some (.d (matT A)), some (.d (.int last)), od o, none] ∧ ∀ a ∈ l, a ∈ A) ?_ ?_ _ _ ⟨o, rfl, fun a ha => ha⟩
    · rintro r ⟨o, rfl, _⟩
      simp only [wpSs, wpS, wpE, wpA, wpX, wpO, wpT, wpI, wpF, sSeq, sNext, sCont, sRet, sRetN, sRetF, oLst, sRetO, sIf, sDrop, sSet, sSetF, frz1, sFrz, sFrzs, sApp, sExt, sUnp, sRetC, sSetS, sRaise, sFor, xNil, xE, slotW, xS, rvD, rvL, rvS, dCallF, fCallF, dVar, dC, dLst, dNil, dCons, dTup, fLst, dOp, dAnd, dOr, dNot, dIf, dCall, fCall, dIsi, dRev, dSl, rSlD, rRevD, eB, boolD, eChain, eAnd, eOr, eNot, intD, eNeg, ixW, oInt, oNone, lstW, srtW, sLen, sIx, binW, cmpW, subW, modW, rAdd, rMul, powW, fdivW, ltW, leW, gtW, geW, eqW, neW, rEqq, rNeq, inW, isW, isV, biW, lenD, truW, iSeq, seqD, iRange1, iRange2, rng1, rng2, iEnu, enu1, iZip2, zip2, fLc, tTT, s0, List.map_cons, List.map_nil, List.length_cons, List.length_nil, List.replicate, List.cons_append, List.nil_append, List.getElem?_cons_zero, List.getElem?_cons_succ, List.set_cons_zero, List.set_cons_succ, List.foldr_cons, List.foldr_nil, Nat.zero_add, Nat.reduceAdd, Nat.reduceSub, List.getElem?_nil, true_and, and_true, eq_self, wipeG, Bool.false_eq_true, if_true, if_false, ↓reduceIte]
      exact h
    · rintro x l r K hK ⟨o, rfl, hl⟩
      have hx' := hl x (.head _)
      have lx := hA.sys.lead x hx'
      simp only [bindT, wpSs, wpS, wpE, wpA, wpX, wpO, wpT, wpI, wpF, sSeq, sNext, sCont, sRet, sRetN, sRetF, oLst, sRetO, sIf, sDrop, sSet, sSetF, frz1, sFrz, sFrzs, sApp, sExt, sUnp, sRetC, sSetS, sRaise, sFor, xNil, xE, slotW, xS, rvD, rvL, rvS, dCallF, fCallF, dVar, dC, dLst, dNil, dCons, dTup, fLst, dOp, dAnd, dOr, dNot, dIf, dCall, fCall, dIsi, dRev, dSl, rSlD, rRevD, eB, boolD, eChain, eAnd, eOr, eNot, intD, eNeg, ixW, oInt, oNone, lstW, srtW, sLen, sIx, binW, cmpW, subW, modW, rAdd, rMul, powW, fdivW, ltW, leW, gtW, geW, eqW, neW, rEqq, rNeq, inW, isW, isV, biW, lenD, truW, iSeq, seqD, iRange1, iRange2, rng1, rng2, iEnu, enu1, iZip2, zip2, fLc, tTT, s0, List.map_cons, List.map_nil, List.length_cons, List.length_nil, List.replicate, List.cons_append, List.nil_append, List.getElem?_cons_zero, List.getElem?_cons_succ, List.set_cons_zero, List.set_cons_succ, List.foldr_cons, List.foldr_nil, Nat.zero_add, Nat.reduceAdd, Nat.reduceSub, List.getElem?_nil, true_and, and_true, eq_self, wipeG, Bool.false_eq_true, if_true, if_false, ↓reduceIte]
      refine ⟨rfl, lcGo_one rowD rowD (fun y => !decide (y = x) && !decide (at_ y (hx x) = 0)) A [] (fun y hy K hK => ?_) (fun y _ _ K hK => ?_) ?_⟩
      · have ly := hA.sys.lead y hy
        simp only [wpSs, wpS, wpE, wpA, wpX, wpO, wpT, wpI, wpF, sSeq, sNext, sCont, sRet, sRetN, sRetF, oLst, sRetO, sIf, sDrop, sSet, sSetF, frz1, sFrz, sFrzs, sApp, sExt, sUnp, sRetC, sSetS, sRaise, sFor, xNil, xE, slotW, xS, rvD, rvL, rvS, dCallF, fCallF, dVar, dC, dLst, dNil, dCons, dTup, fLst, dOp, dAnd, dOr, dNot, dIf, dCall, fCall, dIsi, dRev, dSl, rSlD, rRevD, eB, boolD, eChain, eAnd, eOr, eNot, intD, eNeg, ixW, oInt, oNone, lstW, srtW, sLen, sIx, binW, cmpW, subW, modW, rAdd, rMul, powW, fdivW, ltW, leW, gtW, geW, eqW, neW, rEqq, rNeq, inW, isW, isV, biW, lenD, truW, iSeq, seqD, iRange1, iRange2, rng1, rng2, iEnu, enu1, iZip2, zip2, fLc, tTT, s0, List.map_cons, List.map_nil, List.length_cons, List.length_nil, List.replicate, List.cons_append, List.nil_append, List.getElem?_cons_zero, List.getElem?_cons_succ, List.set_cons_zero, List.set_cons_succ, List.foldr_cons, List.foldr_nil, Nat.zero_add, Nat.reduceAdd, Nat.reduceSub, List.getElem?_nil, true_and, and_true, eq_self, wipeG, Bool.false_eq_true, if_true, if_false, ↓reduceIte]
        refine ⟨dOk_row y, dOk_row x, ?_⟩
        rw [eqv_row]
        by_cases c : y = x
        · rw [decide_eq_true c] at hK ⊢
          simp only [Bool.not_true, Bool.false_eq_true, if_false, Bool.false_and] at hK ⊢
          exact hK
        · rw [decide_eq_false c] at hK ⊢
          simp only [Bool.not_false, if_true, Bool.true_and] at hK ⊢
          refine head_of_ok _ ?_
          simp only [wpSs, wpS, wpE, wpA, wpX, wpO, wpT, wpI, wpF, sSeq, sNext, sCont, sRet, sRetN, sRetF, oLst, sRetO, sIf, sDrop, sSet, sSetF, frz1, sFrz, sFrzs, sApp, sExt, sUnp, sRetC, sSetS, sRaise, sFor, xNil, xE, slotW, xS, rvD, rvL, rvS, dCallF, fCallF, dVar, dC, dLst, dNil, dCons, dTup, fLst, dOp, dAnd, dOr, dNot, dIf, dCall, fCall, dIsi, dRev, dSl, rSlD, rRevD, eB, boolD, eChain, eAnd, eOr, eNot, intD, eNeg, ixW, oInt, oNone, lstW, srtW, sLen, sIx, binW, cmpW, subW, modW, rAdd, rMul, powW, fdivW, ltW, leW, gtW, geW, eqW, neW, rEqq, rNeq, inW, isW, isV, biW, lenD, truW, iSeq, seqD, iRange1, iRange2, rng1, rng2, iEnu, enu1, iZip2, zip2, fLc, tTT, s0, List.map_cons, List.map_nil, List.length_cons, List.length_nil, List.replicate, List.cons_append, List.nil_append, List.getElem?_cons_zero, List.getElem?_cons_succ, List.set_cons_zero, List.set_cons_succ, List.foldr_cons, List.foldr_nil, Nat.zero_add, Nat.reduceAdd, Nat.reduceSub, List.getElem?_nil, true_and, and_true, eq_self, wipeG, Bool.false_eq_true, if_true, if_false, ↓reduceIte, ix_head ly.row lx]
          exact hK
      · simp only [wpSs, wpS, wpE, wpA, wpX, wpO, wpT, wpI, wpF, sSeq, sNext, sCont, sRet, sRetN, sRetF, oLst, sRetO, sIf, sDrop, sSet, sSetF, frz1, sFrz, sFrzs, sApp, sExt, sUnp, sRetC, sSetS, sRaise, sFor, xNil, xE, slotW, xS, rvD, rvL, rvS, dCallF, fCallF, dVar, dC, dLst, dNil, dCons, dTup, fLst, dOp, dAnd, dOr, dNot, dIf, dCall, fCall, dIsi, dRev, dSl, rSlD, rRevD, eB, boolD, eChain, eAnd, eOr, eNot, intD, eNeg, ixW, oInt, oNone, lstW, srtW, sLen, sIx, binW, cmpW, subW, modW, rAdd, rMul, powW, fdivW, ltW, leW, gtW, geW, eqW, neW, rEqq, rNeq, inW, isW, isV, biW, lenD, truW, iSeq, seqD, iRange1, iRange2, rng1, rng2, iEnu, enu1, iZip2, zip2, fLc, tTT, s0, List.map_cons, List.map_nil, List.length_cons, List.length_nil, List.replicate, List.cons_append, List.nil_append, List.getElem?_cons_zero, List.getElem?_cons_succ, List.set_cons_zero, List.set_cons_succ, List.foldr_cons, List.foldr_nil, Nat.zero_add, Nat.reduceAdd, Nat.reduceSub, List.getElem?_nil, true_and, and_true, eq_self, wipeG, Bool.false_eq_true, if_true, if_false, ↓reduceIte]
        exact hK
      · have e : A.filter (fun y => !decide (y = x) && !decide (at_ y (hx x) = 0)) = [] := by
          rw [List.filter_eq_nil_iff]
          intro y hy
          by_cases c : y = x
          · simp [c]
          · simp [c, (hA.sys.apart hy hx' c).1]
        rw [e]
        simp only [List.append_nil, wpSs, wpS, wpE, wpA, wpX, wpO, wpT, wpI, wpF, sSeq, sNext, sCont, sRet, sRetN, sRetF, oLst, sRetO, sIf, sDrop, sSet, sSetF, frz1, sFrz, sFrzs, sApp, sExt, sUnp, sRetC, sSetS, sRaise, sFor, xNil, xE, slotW, xS, rvD, rvL, rvS, dCallF, fCallF, dVar, dC, dLst, dNil, dCons, dTup, fLst, dOp, dAnd, dOr, dNot, dIf, dCall, fCall, dIsi, dRev, dSl, rSlD, rRevD, eB, boolD, eChain, eAnd, eOr, eNot, intD, eNeg, ixW, oInt, oNone, lstW, srtW, sLen, sIx, binW, cmpW, subW, modW, rAdd, rMul, powW, fdivW, ltW, leW, gtW, geW, eqW, neW, rEqq, rNeq, inW, isW, isV, biW, lenD, truW, iSeq, seqD, iRange1, iRange2, rng1, rng2, iEnu, enu1, iZip2, zip2, fLc, tTT, s0, List.map_cons, List.map_nil, List.length_cons, List.length_nil, List.replicate, List.cons_append, List.nil_append, List.getElem?_cons_zero, List.getElem?_cons_succ, List.set_cons_zero, List.set_cons_succ, List.foldr_cons, List.foldr_nil, Nat.zero_add, Nat.reduceAdd, Nat.reduceSub, List.getElem?_nil, true_and, and_true, eq_self, wipeG, Bool.false_eq_true, if_true, if_false, ↓reduceIte]
        refine ⟨small (by omega), dOk_matL [], dOk_matL [], ?_⟩
        have e2 : (!PyData.eqv (matL []) (matL [])) = false := by rw [eqv_matL]; rfl
        show (if (!PyData.eqv (matL []) (matL [])) = true then _ else _)
        rw [e2]
        simp only [Bool.false_eq_true, if_false]
        exact hK _ ⟨some (rowD x), rfl, fun a ha => hl a (.tail _ ha)⟩
  · rintro x l r K hK ⟨last, o, rfl, hl, up⟩
    obtain ⟨lx, lt⟩ := hl x (.head _)
    simp only [bindT, wpSs, wpS, wpE, wpA, wpX, wpO, wpT, wpI, wpF, sSeq, sNext, sCont, sRet, sRetN, sRetF, oLst, sRetO, sIf, sDrop, sSet, sSetF, frz1, sFrz, sFrzs, sApp, sExt, sUnp, sRetC, sSetS, sRaise, sFor, xNil, xE, slotW, xS, rvD, rvL, rvS, dCallF, fCallF, dVar, dC, dLst, dNil, dCons, dTup, fLst, dOp, dAnd, dOr, dNot, dIf, dCall, fCall, dIsi, dRev, dSl, rSlD, rRevD, eB, boolD, eChain, eAnd, eOr, eNot, intD, eNeg, ixW, oInt, oNone, lstW, srtW, sLen, sIx, binW, cmpW, subW, modW, rAdd, rMul, powW, fdivW, ltW, leW, gtW, geW, eqW, neW, rEqq, rNeq, inW, isW, isV, biW, lenD, truW, iSeq, seqD, iRange1, iRange2, rng1, rng2, iEnu, enu1, iZip2, zip2, fLc, tTT, s0, List.map_cons, List.map_nil, List.length_cons, List.length_nil, List.replicate, List.cons_append, List.nil_append, List.getElem?_cons_zero, List.getElem?_cons_succ, List.set_cons_zero, List.set_cons_succ, List.foldr_cons, List.foldr_nil, Nat.zero_add, Nat.reduceAdd, Nat.reduceSub, List.getElem?_nil, true_and, and_true, eq_self, wipeG, Bool.false_eq_true, if_true, if_false, ↓reduceIte]
    refine is_row_ok lx.row ?_
    simp only [wpSs, wpS, wpE, wpA, wpX, wpO, wpT, wpI, wpF, sSeq, sNext, sCont, sRet, sRetN, sRetF, oLst, sRetO, sIf, sDrop, sSet, sSetF, frz1, sFrz, sFrzs, sApp, sExt, sUnp, sRetC, sSetS, sRaise, sFor, xNil, xE, slotW, xS, rvD, rvL, rvS, dCallF, fCallF, dVar, dC, dLst, dNil, dCons, dTup, fLst, dOp, dAnd, dOr, dNot, dIf, dCall, fCall, dIsi, dRev, dSl, rSlD, rRevD, eB, boolD, eChain, eAnd, eOr, eNot, intD, eNeg, ixW, oInt, oNone, lstW, srtW, sLen, sIx, binW, cmpW, subW, modW, rAdd, rMul, powW, fdivW, ltW, leW, gtW, geW, eqW, neW, rEqq, rNeq, inW, isW, isV, biW, lenD, truW, iSeq, seqD, iRange1, iRange2, rng1, rng2, iEnu, enu1, iZip2, zip2, fLc, tTT, s0, List.map_cons, List.map_nil, List.length_cons, List.length_nil, List.replicate, List.cons_append, List.nil_append, List.getElem?_cons_zero, List.getElem?_cons_succ, List.set_cons_zero, List.set_cons_succ, List.foldr_cons, List.foldr_nil, Nat.zero_add, Nat.reduceAdd, Nat.reduceSub, List.getElem?_nil, true_and, and_true, eq_self, wipeG, Bool.false_eq_true, if_true, if_false, ↓reduceIte, Bool.not_true]
    refine head_of_ok _ ?_
    simp only [wpSs, wpS, wpE, wpA, wpX, wpO, wpT, wpI, wpF, sSeq, sNext, sCont, sRet, sRetN, sRetF, oLst, sRetO, sIf, sDrop, sSet, sSetF, frz1, sFrz, sFrzs, sApp, sExt, sUnp, sRetC, sSetS, sRaise, sFor, xNil, xE, slotW, xS, rvD, rvL, rvS, dCallF, fCallF, dVar, dC, dLst, dNil, dCons, dTup, fLst, dOp, dAnd, dOr, dNot, dIf, dCall, fCall, dIsi, dRev, dSl, rSlD, rRevD, eB, boolD, eChain, eAnd, eOr, eNot, intD, eNeg, ixW, oInt, oNone, lstW, srtW, sLen, sIx, binW, cmpW, subW, modW, rAdd, rMul, powW, fdivW, ltW, leW, gtW, geW, eqW, neW, rEqq, rNeq, inW, isW, isV, biW, lenD, truW, iSeq, seqD, iRange1, iRange2, rng1, rng2, iEnu, enu1, iZip2, zip2, fLc, tTT, s0, List.map_cons, List.map_nil, List.length_cons, List.length_nil, List.replicate, List.cons_append, List.nil_append, List.getElem?_cons_zero, List.getElem?_cons_succ, List.set_cons_zero, List.set_cons_succ, List.foldr_cons, List.foldr_nil, Nat.zero_add, Nat.reduceAdd, Nat.reduceSub, List.getElem?_nil, true_and, and_true, eq_self, wipeG, Bool.false_eq_true, if_true, if_false, ↓reduceIte, lead_ok lx]
    rw [decide_eq_false (by omega)]
    simp only [Bool.false_eq_true, if_false]
    refine head_of_ok _ ?_
    simp only [wpSs, wpS, wpE, wpA, wpX, wpO, wpT, wpI, wpF, sSeq, sNext, sCont, sRet, sRetN, sRetF, oLst, sRetO, sIf, sDrop, sSet, sSetF, frz1, sFrz, sFrzs, sApp, sExt, sUnp, sRetC, sSetS, sRaise, sFor, xNil, xE, slotW, xS, rvD, rvL, rvS, dCallF, fCallF, dVar, dC, dLst, dNil, dCons, dTup, fLst, dOp, dAnd, dOr, dNot, dIf, dCall, fCall, dIsi, dRev, dSl, rSlD, rRevD, eB, boolD, eChain, eAnd, eOr, eNot, intD, eNeg, ixW, oInt, oNone, lstW, srtW, sLen, sIx, binW, cmpW, subW, modW, rAdd, rMul, powW, fdivW, ltW, leW, gtW, geW, eqW, neW, rEqq, rNeq, inW, isW, isV, biW, lenD, truW, iSeq, seqD, iRange1, iRange2, rng1, rng2, iEnu, enu1, iZip2, zip2, fLc, tTT, s0, List.map_cons, List.map_nil, List.length_cons, List.length_nil, List.replicate, List.cons_append, List.nil_append, List.getElem?_cons_zero, List.getElem?_cons_succ, List.set_cons_zero, List.set_cons_succ, List.foldr_cons, List.foldr_nil, Nat.zero_add, Nat.reduceAdd, Nat.reduceSub, List.getElem?_nil, true_and, and_true, eq_self, wipeG, Bool.false_eq_true, if_true, if_false, ↓reduceIte, ix_head lx.row lx, lx.one]
    refine head_of_ok _ ?_
    simp only [wpSs, wpS, wpE, wpA, wpX, wpO, wpT, wpI, wpF, sSeq, sNext, sCont, sRet, sRetN, sRetF, oLst, sRetO, sIf, sDrop, sSet, sSetF, frz1, sFrz, sFrzs, sApp, sExt, sUnp, sRetC, sSetS, sRaise, sFor, xNil, xE, slotW, xS, rvD, rvL, rvS, dCallF, fCallF, dVar, dC, dLst, dNil, dCons, dTup, fLst, dOp, dAnd, dOr, dNot, dIf, dCall, fCall, dIsi, dRev, dSl, rSlD, rRevD, eB, boolD, eChain, eAnd, eOr, eNot, intD, eNeg, ixW, oInt, oNone, lstW, srtW, sLen, sIx, binW, cmpW, subW, modW, rAdd, rMul, powW, fdivW, ltW, leW, gtW, geW, eqW, neW, rEqq, rNeq, inW, isW, isV, biW, lenD, truW, iSeq, seqD, iRange1, iRange2, rng1, rng2, iEnu, enu1, iZip2, zip2, fLc, tTT, s0, List.map_cons, List.map_nil, List.length_cons, List.length_nil, List.replicate, List.cons_append, List.nil_append, List.getElem?_cons_zero, List.getElem?_cons_succ, List.set_cons_zero, List.set_cons_succ, List.foldr_cons, List.foldr_nil, Nat.zero_add, Nat.reduceAdd, Nat.reduceSub, List.getElem?_nil, true_and, and_true, eq_self, wipeG, Bool.false_eq_true, if_true, if_false, ↓reduceIte, lead_ok lx]
    refine hK _ ⟨_, some (rowD x), rfl, fun b hb => ⟨(hl b (.tail _ hb)).1, ?_⟩, (List.pairwise_cons.mp up).2⟩
    have := (List.pairwise_cons.mp up).1 b hb
    omega
theorem need_part_ok (hA : Part p n A) (h : Q (.d .none)) : wpFn DB.Γ (k + 5) DB.need_part [.d (spD p n), .d (matT A)] Q E := by
  refine fn_go DB.g_need_part ?_
  simp only [DB.b_need_part, wpSs, wpS, wpE, wpA, wpX, wpO, wpT, wpI, wpF, sSeq, sNext, sCont, sRet, sRetN, sRetF, oLst, sRetO, sIf, sDrop, sSet, sSetF, frz1, sFrz, sFrzs, sApp, sExt, sUnp, sRetC, sSetS, sRaise, sFor, xNil, xE, slotW, xS, rvD, rvL, rvS, dCallF, fCallF, dVar, dC, dLst, dNil, dCons, dTup, fLst, dOp, dAnd, dOr, dNot, dIf, dCall, fCall, dIsi, dRev, dSl, rSlD, rRevD, eB, boolD, eChain, eAnd, eOr, eNot, intD, eNeg, ixW, oInt, oNone, lstW, srtW, sLen, sIx, binW, cmpW, subW, modW, rAdd, rMul, powW, fdivW, ltW, leW, gtW, geW, eqW, neW, rEqq, rNeq, inW, isW, isV, biW, lenD, truW, iSeq, seqD, iRange1, iRange2, rng1, rng2, iEnu, enu1, iZip2, zip2, fLc, tTT, s0, List.map_cons, List.map_nil, List.length_cons, List.length_nil, List.replicate, List.cons_append, List.nil_append, List.getElem?_cons_zero, List.getElem?_cons_succ, List.set_cons_zero, List.set_cons_succ, List.foldr_cons, List.foldr_nil, Nat.zero_add, Nat.reduceAdd, Nat.reduceSub, List.getElem?_nil, true_and, and_true, eq_self, wipeG, Bool.false_eq_true, if_true, if_false, ↓reduceIte]
  refine is_part_ok hA ?_
  simp only [wpSs, wpS, wpE, wpA, wpX, wpO, wpT, wpI, wpF, sSeq, sNext, sCont, sRet, sRetN, sRetF, oLst, sRetO, sIf, sDrop, sSet, sSetF, frz1, sFrz, sFrzs, sApp, sExt, sUnp, sRetC, sSetS, sRaise, sFor, xNil, xE, slotW, xS, rvD, rvL, rvS, dCallF, fCallF, dVar, dC, dLst, dNil, dCons, dTup, fLst, dOp, dAnd, dOr, dNot, dIf, dCall, fCall, dIsi, dRev, dSl, rSlD, rRevD, eB, boolD, eChain, eAnd, eOr, eNot, intD, eNeg, ixW, oInt, oNone, lstW, srtW, sLen, sIx, binW, cmpW, subW, modW, rAdd, rMul, powW, fdivW, ltW, leW, gtW, geW, eqW, neW, rEqq, rNeq, inW, isW, isV, biW, lenD, truW, iSeq, seqD, iRange1, iRange2, rng1, rng2, iEnu, enu1, iZip2, zip2, fLc, tTT, s0, List.map_cons, List.map_nil, List.length_cons, List.length_nil, List.replicate, List.cons_append, List.nil_append, List.getElem?_cons_zero, List.getElem?_cons_succ, List.set_cons_zero, List.set_cons_succ, List.foldr_cons, List.foldr_nil, Nat.zero_add, Nat.reduceAdd, Nat.reduceSub, List.getElem?_nil, true_and, and_true, eq_self, wipeG, Bool.false_eq_true, if_true, if_false, ↓reduceIte, Bool.not_true]
  exact h
theorem need_two_ok (hA : Part p n A) (hB : Part p n B) (h : Q (.d .none)) : wpFn DB.Γ (k + 6) DB.need_two [.d (spD p n), .d (matT A), .d (matT B)] Q E := by
  refine fn_go DB.g_need_two ?_
  simp only [DB.b_need_two, wpSs, wpS, wpE, wpA, wpX, wpO, wpT, wpI, wpF, sSeq, sNext, sCont, sRet, sRetN, sRetF, oLst, sRetO, sIf, sDrop, sSet, sSetF, frz1, sFrz, sFrzs, sApp, sExt, sUnp, sRetC, sSetS, sRaise, sFor, xNil, xE, slotW, xS, rvD, rvL, rvS, dCallF, fCallF, dVar, dC, dLst, dNil, dCons, dTup, fLst, dOp, dAnd, dOr, dNot, dIf, dCall, fCall, dIsi, dRev, dSl, rSlD, rRevD, eB, boolD, eChain, eAnd, eOr, eNot, intD, eNeg, ixW, oInt, oNone, lstW, srtW, sLen, sIx, binW, cmpW, subW, modW, rAdd, rMul, powW, fdivW, ltW, leW, gtW, geW, eqW, neW, rEqq, rNeq, inW, isW, isV, biW, lenD, truW, iSeq, seqD, iRange1, iRange2, rng1, rng2, iEnu, enu1, iZip2, zip2, fLc, tTT, s0, List.map_cons, List.map_nil, List.length_cons, List.length_nil, List.replicate, List.cons_append, List.nil_append, List.getElem?_cons_zero, List.getElem?_cons_succ, List.set_cons_zero, List.set_cons_succ, List.foldr_cons, List.foldr_nil, Nat.zero_add, Nat.reduceAdd, Nat.reduceSub, List.getElem?_nil, true_and, and_true, eq_self, wipeG, Bool.false_eq_true, if_true, if_false, ↓reduceIte]
  refine need_part_ok hA ?_
  simp only [wpSs, wpS, wpE, wpA, wpX, wpO, wpT, wpI, wpF, sSeq, sNext, sCont, sRet, sRetN, sRetF, oLst, sRetO, sIf, sDrop, sSet, sSetF, frz1, sFrz, sFrzs, sApp, sExt, sUnp, sRetC, sSetS, sRaise, sFor, xNil, xE, slotW, xS, rvD, rvL, rvS, dCallF, fCallF, dVar, dC, dLst, dNil, dCons, dTup, fLst, dOp, dAnd, dOr, dNot, dIf, dCall, fCall, dIsi, dRev, dSl, rSlD, rRevD, eB, boolD, eChain, eAnd, eOr, eNot, intD, eNeg, ixW, oInt, oNone, lstW, srtW, sLen, sIx, binW, cmpW, subW, modW, rAdd, rMul, powW, fdivW, ltW, leW, gtW, geW, eqW, neW, rEqq, rNeq, inW, isW, isV, biW, lenD, truW, iSeq, seqD, iRange1, iRange2, rng1, rng2, iEnu, enu1, iZip2, zip2, fLc, tTT, s0, List.map_cons, List.map_nil, List.length_cons, List.length_nil, List.replicate, List.cons_append, List.nil_append, List.getElem?_cons_zero, List.getElem?_cons_succ, List.set_cons_zero, List.set_cons_succ, List.foldr_cons, List.foldr_nil, Nat.zero_add, Nat.reduceAdd, Nat.reduceSub, List.getElem?_nil, true_and, and_true, eq_self, wipeG, Bool.false_eq_true, if_true, if_false, ↓reduceIte]
  refine need_part_ok hB ?_
  exact h
end
end ME

end
section
set_option Elab.async false
set_option linter.all false
set_option maxRecDepth 100000
set_option autoImplicit false
set_option maxHeartbeats 4000000
namespace ME
open PySem DP MA
section
variable {k : Nat} {Q : RV → Prop} {E : Str → Prop} {p : Int} {n : Nat} {A B : List Rw} {a u v w : Rw}
theorem rng_ints (m : Nat) : rngD 0 m = (rngI m).map .int := by
  unfold rngD rngI
  rw [List.map_map]
  refine List.map_congr_left fun i _ => ?_
  show PyData.int (0 + (i : Int)) = PyData.int (i : Int)
  rw [Int.zero_add]
theorem redStep_len (s : Sp p n) (hA : Sys p n A) (hv : Row p n v) : (redStep p A v).length ≤ A.length + 1 := by
  rw [(redStep_ok s.pr hA hv).2.2]
  split <;> omega
/-- rows as a list or as a tuple -/
def SeqOf (x : PyData) (A : List Rw) : Prop := x = matL A ∨ x = matT A
theorem SeqOf.it {x : PyData} (h : SeqOf x A) {K : List PyData → Prop} (q : K (A.map rowD)) : seqD K x := by
  rcases h with rfl | rfl <;> exact q
theorem reduced_ok' {x : PyData} (s : Sp p n) (hx0 : SeqOf x A) (hA : ∀ a ∈ A, Row p n a) (hl : A.length ≤ 100000) (h : Q (.d (matT (reducedM p A)))) : wpFn DB.Γ (k + 2) DB.reduced [.d (spD p n), .d x] Q E := by
  have p0 := s.p0
  have p5 := s.p5
  refine fn_go DB.g_reduced ?_
  simp only [DB.b_reduced, wpSs, wpS, wpE, wpA, wpX, wpO, wpT, wpI, wpF, sSeq, sNext, sCont, sRet, sRetN, sRetF, oLst, sRetO, sIf, sDrop, sSet, sSetF, frz1, sFrz, sFrzs, sApp, sExt, sUnp, sRetC, sSetS, sRaise, sFor, xNil, xE, slotW, xS, rvD, rvL, rvS, dCallF, fCallF, dVar, dC, dLst, dNil, dCons, dTup, fLst, dOp, dAnd, dOr, dNot, dIf, dCall, fCall, dIsi, dRev, dSl, rSlD, rRevD, eB, boolD, eChain, eAnd, eOr, eNot, intD, eNeg, ixW, oInt, oNone, lstW, srtW, sLen, sIx, binW, cmpW, subW, modW, rAdd, rMul, powW, fdivW, ltW, leW, gtW, geW, eqW, neW, rEqq, rNeq, inW, isW, isV, biW, lenD, truW, iSeq, seqD, iRange1, iRange2, rng1, rng2, iEnu, enu1, iZip2, zip2, fLc, tTT, s0, List.map_cons, List.map_nil, List.length_cons, List.length_nil, List.replicate, List.cons_append, List.nil_append, List.getElem?_cons_zero, List.getElem?_cons_succ, List.set_cons_zero, List.set_cons_succ, List.foldr_cons, List.foldr_nil, Nat.zero_add, Nat.reduceAdd, Nat.reduceSub, List.getElem?_nil, true_and, and_true, eq_self, wipeG, Bool.false_eq_true, if_true, if_false, ↓reduceIte]
  refine ⟨small (by omega), hx0.it ?_⟩
  refine forGo_inv rowD (fun l r => ∃ (found : List Rw) (o3 o4 o5 o6 : Option PyData), r = [some (.d (spD p n)), some (.d x), some (.d (matL found)), od o3, od o4, od o5, od o6, none] ∧ Sys p n found ∧ (∀ a ∈ l, Row p n a) ∧ l.foldl (redStep p) found = redU p A ∧ found.length + l.length ≤ A.length) ?_ ?_ _ _ ⟨[], none, none, none, none, rfl, ⟨fun _ h => (List.not_mem_nil h).elim, List.Pairwise.nil⟩, hA, rfl, by simp⟩
  · rintro r ⟨found, o3, o4, o5, o6, rfl, sy, _, e, _⟩
    have e : found = redU p A := e
    simp only [matL, wpSs, wpS, wpE, wpA, wpX, wpO, wpT, wpI, wpF, sSeq, sNext, sCont, sRet, sRetN, sRetF, oLst, sRetO, sIf, sDrop, sSet, sSetF, frz1, sFrz, sFrzs, sApp, sExt, sUnp, sRetC, sSetS, sRaise, sFor, xNil, xE, slotW, xS, rvD, rvL, rvS, dCallF, fCallF, dVar, dC, dLst, dNil, dCons, dTup, fLst, dOp, dAnd, dOr, dNot, dIf, dCall, fCall, dIsi, dRev, dSl, rSlD, rRevD, eB, boolD, eChain, eAnd, eOr, eNot, intD, eNeg, ixW, oInt, oNone, lstW, srtW, sLen, sIx, binW, cmpW, subW, modW, rAdd, rMul, powW, fdivW, ltW, leW, gtW, geW, eqW, neW, rEqq, rNeq, inW, isW, isV, biW, lenD, truW, iSeq, seqD, iRange1, iRange2, rng1, rng2, iEnu, enu1, iZip2, zip2, fLc, tTT, s0, List.map_cons, List.map_nil, List.length_cons, List.length_nil, List.replicate, List.cons_append, List.nil_append, List.getElem?_cons_zero, List.getElem?_cons_succ, List.set_cons_zero, List.set_cons_succ, List.foldr_cons, List.foldr_nil, Nat.zero_add, Nat.reduceAdd, Nat.reduceSub, List.getElem?_nil, true_and, and_true, eq_self, wipeG, Bool.false_eq_true, if_true, if_false, ↓reduceIte]
    refine ⟨sort_ok s.n0 fun a ha => (sy.rows a ha).1, ?_⟩
    rw [sort_rows, ← List.map_reverse]
    have e2 : (sortR found).reverse = reducedM p A := by rw [e]; rfl
    rw [e2]
    exact h
  · rintro row l r K hK ⟨found, o3, o4, o5, o6, rfl, sy, hl', e, len⟩
    have hrow := hl' row (.head _)
    have hl2 : ∀ b ∈ l, Row p n b := fun b hb => hl' b (.tail _ hb)
    simp only [bindT, matL, wpSs, wpS, wpE, wpA, wpX, wpO, wpT, wpI, wpF, sSeq, sNext, sCont, sRet, sRetN, sRetF, oLst, sRetO, sIf, sDrop, sSet, sSetF, frz1, sFrz, sFrzs, sApp, sExt, sUnp, sRetC, sSetS, sRaise, sFor, xNil, xE, slotW, xS, rvD, rvL, rvS, dCallF, fCallF, dVar, dC, dLst, dNil, dCons, dTup, fLst, dOp, dAnd, dOr, dNot, dIf, dCall, fCall, dIsi, dRev, dSl, rSlD, rRevD, eB, boolD, eChain, eAnd, eOr, eNot, intD, eNeg, ixW, oInt, oNone, lstW, srtW, sLen, sIx, binW, cmpW, subW, modW, rAdd, rMul, powW, fdivW, ltW, leW, gtW, geW, eqW, neW, rEqq, rNeq, inW, isW, isV, biW, lenD, truW, iSeq, seqD, iRange1, iRange2, rng1, rng2, iEnu, enu1, iZip2, zip2, fLc, tTT, s0, List.map_cons, List.map_nil, List.length_cons, List.length_nil, List.replicate, List.cons_append, List.nil_append, List.getElem?_cons_zero, List.getElem?_cons_succ, List.set_cons_zero, List.set_cons_succ, List.foldr_cons, List.foldr_nil, Nat.zero_add, Nat.reduceAdd, Nat.reduceSub, List.getElem?_nil, true_and, and_true, eq_self, wipeG, Bool.false_eq_true, if_true, if_false, ↓reduceIte]
    refine forGo_inv rowD (fun m r => ∃ (u : Rw) (o4 : Option PyData), r = [some (.d (spD p n)), some (.d x), some (.d (matL found)), some (.d (rowD u)), od o4, od o5, od o6, none] ∧ Row p n u ∧ (∀ a ∈ m, Lead p n a) ∧ red p m u = red p found row) ?_ ?_ _ _ ⟨row, o4, rfl, hrow, sy.lead, rfl⟩
    · rintro r ⟨u, o4, rfl, hu, _, eu⟩
      have eu : u = red p found row := eu
      simp only [wpSs, wpS, wpE, wpA, wpX, wpO, wpT, wpI, wpF, sSeq, sNext, sCont, sRet, sRetN, sRetF, oLst, sRetO, sIf, sDrop, sSet, sSetF, frz1, sFrz, sFrzs, sApp, sExt, sUnp, sRetC, sSetS, sRaise, sFor, xNil, xE, slotW, xS, rvD, rvL, rvS, dCallF, fCallF, dVar, dC, dLst, dNil, dCons, dTup, fLst, dOp, dAnd, dOr, dNot, dIf, dCall, fCall, dIsi, dRev, dSl, rSlD, rRevD, eB, boolD, eChain, eAnd, eOr, eNot, intD, eNeg, ixW, oInt, oNone, lstW, srtW, sLen, sIx, binW, cmpW, subW, modW, rAdd, rMul, powW, fdivW, ltW, leW, gtW, geW, eqW, neW, rEqq, rNeq, inW, isW, isV, biW, lenD, truW, iSeq, seqD, iRange1, iRange2, rng1, rng2, iEnu, enu1, iZip2, zip2, fLc, tTT, s0, List.map_cons, List.map_nil, List.length_cons, List.length_nil, List.replicate, List.cons_append, List.nil_append, List.getElem?_cons_zero, List.getElem?_cons_succ, List.set_cons_zero, List.set_cons_succ, List.foldr_cons, List.foldr_nil, Nat.zero_add, Nat.reduceAdd, Nat.reduceSub, List.getElem?_nil, true_and, and_true, eq_self, wipeG, Bool.false_eq_true, if_true, if_false, ↓reduceIte]
      refine head_of_ok _ ?_
      simp only [wpSs, wpS, wpE, wpA, wpX, wpO, wpT, wpI, wpF, sSeq, sNext, sCont, sRet, sRetN, sRetF, oLst, sRetO, sIf, sDrop, sSet, sSetF, frz1, sFrz, sFrzs, sApp, sExt, sUnp, sRetC, sSetS, sRaise, sFor, xNil, xE, slotW, xS, rvD, rvL, rvS, dCallF, fCallF, dVar, dC, dLst, dNil, dCons, dTup, fLst, dOp, dAnd, dOr, dNot, dIf, dCall, fCall, dIsi, dRev, dSl, rSlD, rRevD, eB, boolD, eChain, eAnd, eOr, eNot, intD, eNeg, ixW, oInt, oNone, lstW, srtW, sLen, sIx, binW, cmpW, subW, modW, rAdd, rMul, powW, fdivW, ltW, leW, gtW, geW, eqW, neW, rEqq, rNeq, inW, isW, isV, biW, lenD, truW, iSeq, seqD, iRange1, iRange2, rng1, rng2, iEnu, enu1, iZip2, zip2, fLc, tTT, s0, List.map_cons, List.map_nil, List.length_cons, List.length_nil, List.replicate, List.cons_append, List.nil_append, List.getElem?_cons_zero, List.getElem?_cons_succ, List.set_cons_zero, List.set_cons_succ, List.foldr_cons, List.foldr_nil, Nat.zero_add, Nat.reduceAdd, Nat.reduceSub, List.getElem?_nil, true_and, and_true, eq_self, wipeG, Bool.false_eq_true, if_true, if_false, ↓reduceIte]
      by_cases c : hx u < n
      · have lu : hx u < u.length := by rw [hu.1]; exact c
        rw [headI_lead lu, decide_eq_true (by omega)]
        simp only [wpSs, wpS, wpE, wpA, wpX, wpO, wpT, wpI, wpF, sSeq, sNext, sCont, sRet, sRetN, sRetF, oLst, sRetO, sIf, sDrop, sSet, sSetF, frz1, sFrz, sFrzs, sApp, sExt, sUnp, sRetC, sSetS, sRaise, sFor, xNil, xE, slotW, xS, rvD, rvL, rvS, dCallF, fCallF, dVar, dC, dLst, dNil, dCons, dTup, fLst, dOp, dAnd, dOr, dNot, dIf, dCall, fCall, dIsi, dRev, dSl, rSlD, rRevD, eB, boolD, eChain, eAnd, eOr, eNot, intD, eNeg, ixW, oInt, oNone, lstW, srtW, sLen, sIx, binW, cmpW, subW, modW, rAdd, rMul, powW, fdivW, ltW, leW, gtW, geW, eqW, neW, rEqq, rNeq, inW, isW, isV, biW, lenD, truW, iSeq, seqD, iRange1, iRange2, rng1, rng2, iEnu, enu1, iZip2, zip2, fLc, tTT, s0, List.map_cons, List.map_nil, List.length_cons, List.length_nil, List.replicate, List.cons_append, List.nil_append, List.getElem?_cons_zero, List.getElem?_cons_succ, List.set_cons_zero, List.set_cons_succ, List.foldr_cons, List.foldr_nil, Nat.zero_add, Nat.reduceAdd, Nat.reduceSub, List.getElem?_nil, true_and, and_true, eq_self, wipeG, Bool.false_eq_true, if_true, if_false, ↓reduceIte]
        obtain ⟨ld, hh⟩ := lead_scal s.pr hu c
        have lim := hu.lim p0 (hx u)
        have nz := at_hx lu
        obtain ⟨rest, ei, _, i0, i1⟩ := inv_cons s.pr (x := at_ u (hx u)) (by omega) lim.2
        simp only [atD_zero, wpSs, wpS, wpE, wpA, wpX, wpO, wpT, wpI, wpF, sSeq, sNext, sCont, sRet, sRetN, sRetF, oLst, sRetO, sIf, sDrop, sSet, sSetF, frz1, sFrz, sFrzs, sApp, sExt, sUnp, sRetC, sSetS, sRaise, sFor, xNil, xE, slotW, xS, rvD, rvL, rvS, dCallF, fCallF, dVar, dC, dLst, dNil, dCons, dTup, fLst, dOp, dAnd, dOr, dNot, dIf, dCall, fCall, dIsi, dRev, dSl, rSlD, rRevD, eB, boolD, eChain, eAnd, eOr, eNot, intD, eNeg, ixW, oInt, oNone, lstW, srtW, sLen, sIx, binW, cmpW, subW, modW, rAdd, rMul, powW, fdivW, ltW, leW, gtW, geW, eqW, neW, rEqq, rNeq, inW, isW, isV, biW, lenD, truW, iSeq, seqD, iRange1, iRange2, rng1, rng2, iEnu, enu1, iZip2, zip2, fLc, tTT, s0, List.map_cons, List.map_nil, List.length_cons, List.length_nil, List.replicate, List.cons_append, List.nil_append, List.getElem?_cons_zero, List.getElem?_cons_succ, List.set_cons_zero, List.set_cons_succ, List.foldr_cons, List.foldr_nil, Nat.zero_add, Nat.reduceAdd, Nat.reduceSub, List.getElem?_nil, true_and, and_true, eq_self, wipeG, Bool.false_eq_true, if_true, if_false, ↓reduceIte]
        refine ⟨by omega, by omega, rfl, ?_⟩
        rw [rng_ints]
        refine lcGo_one PyData.int PyData.int (fun m => decide (m * at_ u (hx u) % p = 1)) _ [] (fun y hy K hK => ?_) (fun y _ _ K hK => ?_) ?_
        · simp only [atD_zero, wpSs, wpS, wpE, wpA, wpX, wpO, wpT, wpI, wpF, sSeq, sNext, sCont, sRet, sRetN, sRetF, oLst, sRetO, sIf, sDrop, sSet, sSetF, frz1, sFrz, sFrzs, sApp, sExt, sUnp, sRetC, sSetS, sRaise, sFor, xNil, xE, slotW, xS, rvD, rvL, rvS, dCallF, fCallF, dVar, dC, dLst, dNil, dCons, dTup, fLst, dOp, dAnd, dOr, dNot, dIf, dCall, fCall, dIsi, dRev, dSl, rSlD, rRevD, eB, boolD, eChain, eAnd, eOr, eNot, intD, eNeg, ixW, oInt, oNone, lstW, srtW, sLen, sIx, binW, cmpW, subW, modW, rAdd, rMul, powW, fdivW, ltW, leW, gtW, geW, eqW, neW, rEqq, rNeq, inW, isW, isV, biW, lenD, truW, iSeq, seqD, iRange1, iRange2, rng1, rng2, iEnu, enu1, iZip2, zip2, fLc, tTT, s0, List.map_cons, List.map_nil, List.length_cons, List.length_nil, List.replicate, List.cons_append, List.nil_append, List.getElem?_cons_zero, List.getElem?_cons_succ, List.set_cons_zero, List.set_cons_succ, List.foldr_cons, List.foldr_nil, Nat.zero_add, Nat.reduceAdd, Nat.reduceSub, List.getElem?_nil, true_and, and_true, eq_self, wipeG, Bool.false_eq_true, if_true, if_false, ↓reduceIte, atD_row lu]
          exact ⟨cmul_small (by omega) (by omega), p0, hK⟩
        · simp only [wpSs, wpS, wpE, wpA, wpX, wpO, wpT, wpI, wpF, sSeq, sNext, sCont, sRet, sRetN, sRetF, oLst, sRetO, sIf, sDrop, sSet, sSetF, frz1, sFrz, sFrzs, sApp, sExt, sUnp, sRetC, sSetS, sRaise, sFor, xNil, xE, slotW, xS, rvD, rvL, rvS, dCallF, fCallF, dVar, dC, dLst, dNil, dCons, dTup, fLst, dOp, dAnd, dOr, dNot, dIf, dCall, fCall, dIsi, dRev, dSl, rSlD, rRevD, eB, boolD, eChain, eAnd, eOr, eNot, intD, eNeg, ixW, oInt, oNone, lstW, srtW, sLen, sIx, binW, cmpW, subW, modW, rAdd, rMul, powW, fdivW, ltW, leW, gtW, geW, eqW, neW, rEqq, rNeq, inW, isW, isV, biW, lenD, truW, iSeq, seqD, iRange1, iRange2, rng1, rng2, iEnu, enu1, iZip2, zip2, fLc, tTT, s0, List.map_cons, List.map_nil, List.length_cons, List.length_nil, List.replicate, List.cons_append, List.nil_append, List.getElem?_cons_zero, List.getElem?_cons_succ, List.set_cons_zero, List.set_cons_succ, List.foldr_cons, List.foldr_nil, Nat.zero_add, Nat.reduceAdd, Nat.reduceSub, List.getElem?_nil, true_and, and_true, eq_self, wipeG, Bool.false_eq_true, if_true, if_false, ↓reduceIte]
          exact hK
        · have e1 : (rngI p.toNat).filter (fun m => decide (m * at_ u (hx u) % p = 1)) = inv p (at_ u (hx u)) :: rest := ei
          rw [e1]
          simp only [atD_zero, wpSs, wpS, wpE, wpA, wpX, wpO, wpT, wpI, wpF, sSeq, sNext, sCont, sRet, sRetN, sRetF, oLst, sRetO, sIf, sDrop, sSet, sSetF, frz1, sFrz, sFrzs, sApp, sExt, sUnp, sRetC, sSetS, sRaise, sFor, xNil, xE, slotW, xS, rvD, rvL, rvS, dCallF, fCallF, dVar, dC, dLst, dNil, dCons, dTup, fLst, dOp, dAnd, dOr, dNot, dIf, dCall, fCall, dIsi, dRev, dSl, rSlD, rRevD, eB, boolD, eChain, eAnd, eOr, eNot, intD, eNeg, ixW, oInt, oNone, lstW, srtW, sLen, sIx, binW, cmpW, subW, modW, rAdd, rMul, powW, fdivW, ltW, leW, gtW, geW, eqW, neW, rEqq, rNeq, inW, isW, isV, biW, lenD, truW, iSeq, seqD, iRange1, iRange2, rng1, rng2, iEnu, enu1, iZip2, zip2, fLc, tTT, s0, List.map_cons, List.map_nil, List.length_cons, List.length_nil, List.replicate, List.cons_append, List.nil_append, List.getElem?_cons_zero, List.getElem?_cons_succ, List.set_cons_zero, List.set_cons_succ, List.foldr_cons, List.foldr_nil, Nat.zero_add, Nat.reduceAdd, Nat.reduceSub, List.getElem?_nil, true_and, and_true, eq_self, wipeG, Bool.false_eq_true, if_true, if_false, ↓reduceIte]
          refine ⟨rfl, lcGo_tt PyData.int (fun y => .int (inv p (at_ u (hx u)) * y % p)) u (fun y hy K hK => ?_) ?_⟩
          · simp only [atD_zero, wpSs, wpS, wpE, wpA, wpX, wpO, wpT, wpI, wpF, sSeq, sNext, sCont, sRet, sRetN, sRetF, oLst, sRetO, sIf, sDrop, sSet, sSetF, frz1, sFrz, sFrzs, sApp, sExt, sUnp, sRetC, sSetS, sRaise, sFor, xNil, xE, slotW, xS, rvD, rvL, rvS, dCallF, fCallF, dVar, dC, dLst, dNil, dCons, dTup, fLst, dOp, dAnd, dOr, dNot, dIf, dCall, fCall, dIsi, dRev, dSl, rSlD, rRevD, eB, boolD, eChain, eAnd, eOr, eNot, intD, eNeg, ixW, oInt, oNone, lstW, srtW, sLen, sIx, binW, cmpW, subW, modW, rAdd, rMul, powW, fdivW, ltW, leW, gtW, geW, eqW, neW, rEqq, rNeq, inW, isW, isV, biW, lenD, truW, iSeq, seqD, iRange1, iRange2, rng1, rng2, iEnu, enu1, iZip2, zip2, fLc, tTT, s0, List.map_cons, List.map_nil, List.length_cons, List.length_nil, List.replicate, List.cons_append, List.nil_append, List.getElem?_cons_zero, List.getElem?_cons_succ, List.set_cons_zero, List.set_cons_succ, List.foldr_cons, List.foldr_nil, Nat.zero_add, Nat.reduceAdd, Nat.reduceSub, List.getElem?_nil, true_and, and_true, eq_self, wipeG, Bool.false_eq_true, if_true, if_false, ↓reduceIte]
            exact ⟨cmul_small' (by omega) (by omega), p0, hK⟩
          · have e2 : (u.map fun y => PyData.int (inv p (at_ u (hx u)) * y % p)) = (scal p (inv p (at_ u (hx u))) u).map .int := by
              unfold scal
              rw [List.map_map]
              rfl
            rw [e2]
            generalize hw : scal p (inv p (at_ u (hx u))) u = w at *
            refine ⟨?_, lcGo_tt rowD (fun f => rowD (addm p f (0 - at_ f (hx u)) w)) found (fun f hf K hK => ?_) ?_⟩
            · cases o4 <;> rfl
            · have rf := sy.rows f hf
              simp only [wpSs, wpS, wpE, wpA, wpX, wpO, wpT, wpI, wpF, sSeq, sNext, sCont, sRet, sRetN, sRetF, oLst, sRetO, sIf, sDrop, sSet, sSetF, frz1, sFrz, sFrzs, sApp, sExt, sUnp, sRetC, sSetS, sRaise, sFor, xNil, xE, slotW, xS, rvD, rvL, rvS, dCallF, fCallF, dVar, dC, dLst, dNil, dCons, dTup, fLst, dOp, dAnd, dOr, dNot, dIf, dCall, fCall, dIsi, dRev, dSl, rSlD, rRevD, eB, boolD, eChain, eAnd, eOr, eNot, intD, eNeg, ixW, oInt, oNone, lstW, srtW, sLen, sIx, binW, cmpW, subW, modW, rAdd, rMul, powW, fdivW, ltW, leW, gtW, geW, eqW, neW, rEqq, rNeq, inW, isW, isV, biW, lenD, truW, iSeq, seqD, iRange1, iRange2, rng1, rng2, iEnu, enu1, iZip2, zip2, fLc, tTT, s0, List.map_cons, List.map_nil, List.length_cons, List.length_nil, List.replicate, List.cons_append, List.nil_append, List.getElem?_cons_zero, List.getElem?_cons_succ, List.set_cons_zero, List.set_cons_succ, List.foldr_cons, List.foldr_nil, Nat.zero_add, Nat.reduceAdd, Nat.reduceSub, List.getElem?_nil, true_and, and_true, eq_self, wipeG, Bool.false_eq_true, if_true, if_false, ↓reduceIte]
              rw [atD_row (by rw [rf.1]; exact c)]
              simp only [wpSs, wpS, wpE, wpA, wpX, wpO, wpT, wpI, wpF, sSeq, sNext, sCont, sRet, sRetN, sRetF, oLst, sRetO, sIf, sDrop, sSet, sSetF, frz1, sFrz, sFrzs, sApp, sExt, sUnp, sRetC, sSetS, sRaise, sFor, xNil, xE, slotW, xS, rvD, rvL, rvS, dCallF, fCallF, dVar, dC, dLst, dNil, dCons, dTup, fLst, dOp, dAnd, dOr, dNot, dIf, dCall, fCall, dIsi, dRev, dSl, rSlD, rRevD, eB, boolD, eChain, eAnd, eOr, eNot, intD, eNeg, ixW, oInt, oNone, lstW, srtW, sLen, sIx, binW, cmpW, subW, modW, rAdd, rMul, powW, fdivW, ltW, leW, gtW, geW, eqW, neW, rEqq, rNeq, inW, isW, isV, biW, lenD, truW, iSeq, seqD, iRange1, iRange2, rng1, rng2, iEnu, enu1, iZip2, zip2, fLc, tTT, s0, List.map_cons, List.map_nil, List.length_cons, List.length_nil, List.replicate, List.cons_append, List.nil_append, List.getElem?_cons_zero, List.getElem?_cons_succ, List.set_cons_zero, List.set_cons_succ, List.foldr_cons, List.foldr_nil, Nat.zero_add, Nat.reduceAdd, Nat.reduceSub, List.getElem?_nil, true_and, and_true, eq_self, wipeG, Bool.false_eq_true, if_true, if_false, ↓reduceIte]
              refine plus_ok s ld.row.2 ?_
              exact hK
            · simp only [wpSs, wpS, wpE, wpA, wpX, wpO, wpT, wpI, wpF, sSeq, sNext, sCont, sRet, sRetN, sRetF, oLst, sRetO, sIf, sDrop, sSet, sSetF, frz1, sFrz, sFrzs, sApp, sExt, sUnp, sRetC, sSetS, sRaise, sFor, xNil, xE, slotW, xS, rvD, rvL, rvS, dCallF, fCallF, dVar, dC, dLst, dNil, dCons, dTup, fLst, dOp, dAnd, dOr, dNot, dIf, dCall, fCall, dIsi, dRev, dSl, rSlD, rRevD, eB, boolD, eChain, eAnd, eOr, eNot, intD, eNeg, ixW, oInt, oNone, lstW, srtW, sLen, sIx, binW, cmpW, subW, modW, rAdd, rMul, powW, fdivW, ltW, leW, gtW, geW, eqW, neW, rEqq, rNeq, inW, isW, isV, biW, lenD, truW, iSeq, seqD, iRange1, iRange2, rng1, rng2, iEnu, enu1, iZip2, zip2, fLc, tTT, s0, List.map_cons, List.map_nil, List.length_cons, List.length_nil, List.replicate, List.cons_append, List.nil_append, List.getElem?_cons_zero, List.getElem?_cons_succ, List.set_cons_zero, List.set_cons_succ, List.foldr_cons, List.foldr_nil, Nat.zero_add, Nat.reduceAdd, Nat.reduceSub, List.getElem?_nil, true_and, and_true, eq_self, wipeG, Bool.false_eq_true, if_true, if_false, ↓reduceIte, List.length_map]
              have l1 : found.length + 1 ≤ A.length := by simp at len; omega
              refine ⟨small (by omega), small (by omega), ?_⟩
              have e3 : redStep p found row = found.map (fun f => addm p f (0 - at_ f (hx u)) w) ++ [w] := by
                unfold redStep MA.putIn
                rw [← eu, if_pos lu, hw]
              refine hK _ ⟨redStep p found row, some (rowD w), o4, some (.int (hx u)), some (.int (inv p (at_ u (hx u)))), ?_, (redStep_ok s.pr sy hrow).1, hl2, e, ?_⟩
              · rw [e3]
                simp only [matL, List.map_append, List.map_map, List.map_cons, List.map_nil, Option.map_some]
                rfl
              · have := redStep_len s sy hrow
                simp at len ⊢
                omega
      · have c' : ¬ hx u < u.length := by rw [hu.1]; exact c
        have e1 : headI u = -1 := if_neg c'
        rw [e1, decide_eq_false (by omega)]
        simp only [wpSs, wpS, wpE, wpA, wpX, wpO, wpT, wpI, wpF, sSeq, sNext, sCont, sRet, sRetN, sRetF, oLst, sRetO, sIf, sDrop, sSet, sSetF, frz1, sFrz, sFrzs, sApp, sExt, sUnp, sRetC, sSetS, sRaise, sFor, xNil, xE, slotW, xS, rvD, rvL, rvS, dCallF, fCallF, dVar, dC, dLst, dNil, dCons, dTup, fLst, dOp, dAnd, dOr, dNot, dIf, dCall, fCall, dIsi, dRev, dSl, rSlD, rRevD, eB, boolD, eChain, eAnd, eOr, eNot, intD, eNeg, ixW, oInt, oNone, lstW, srtW, sLen, sIx, binW, cmpW, subW, modW, rAdd, rMul, powW, fdivW, ltW, leW, gtW, geW, eqW, neW, rEqq, rNeq, inW, isW, isV, biW, lenD, truW, iSeq, seqD, iRange1, iRange2, rng1, rng2, iEnu, enu1, iZip2, zip2, fLc, tTT, s0, List.map_cons, List.map_nil, List.length_cons, List.length_nil, List.replicate, List.cons_append, List.nil_append, List.getElem?_cons_zero, List.getElem?_cons_succ, List.set_cons_zero, List.set_cons_succ, List.foldr_cons, List.foldr_nil, Nat.zero_add, Nat.reduceAdd, Nat.reduceSub, List.getElem?_nil, true_and, and_true, eq_self, wipeG, Bool.false_eq_true, if_true, if_false, ↓reduceIte]
        have e3 : redStep p found row = found := by
          unfold redStep MA.putIn
          rw [← eu, if_neg c']
        have e4 : l.foldl (redStep p) found = redU p A := by
          have : l.foldl (redStep p) (redStep p found row) = redU p A := e
          rwa [e3] at this
        exact hK _ ⟨found, some (rowD u), o4, some (.int (-1)), o6, rfl, sy, hl2, e4, by simp at len; omega⟩
    · rintro f m r K2 hK2 ⟨u, o4, rfl, hu, hm, eu⟩
      have lf := hm f (.head _)
      simp only [bindT, wpSs, wpS, wpE, wpA, wpX, wpO, wpT, wpI, wpF, sSeq, sNext, sCont, sRet, sRetN, sRetF, oLst, sRetO, sIf, sDrop, sSet, sSetF, frz1, sFrz, sFrzs, sApp, sExt, sUnp, sRetC, sSetS, sRaise, sFor, xNil, xE, slotW, xS, rvD, rvL, rvS, dCallF, fCallF, dVar, dC, dLst, dNil, dCons, dTup, fLst, dOp, dAnd, dOr, dNot, dIf, dCall, fCall, dIsi, dRev, dSl, rSlD, rRevD, eB, boolD, eChain, eAnd, eOr, eNot, intD, eNeg, ixW, oInt, oNone, lstW, srtW, sLen, sIx, binW, cmpW, subW, modW, rAdd, rMul, powW, fdivW, ltW, leW, gtW, geW, eqW, neW, rEqq, rNeq, inW, isW, isV, biW, lenD, truW, iSeq, seqD, iRange1, iRange2, rng1, rng2, iEnu, enu1, iZip2, zip2, fLc, tTT, s0, List.map_cons, List.map_nil, List.length_cons, List.length_nil, List.replicate, List.cons_append, List.nil_append, List.getElem?_cons_zero, List.getElem?_cons_succ, List.set_cons_zero, List.set_cons_succ, List.foldr_cons, List.foldr_nil, Nat.zero_add, Nat.reduceAdd, Nat.reduceSub, List.getElem?_nil, true_and, and_true, eq_self, wipeG, Bool.false_eq_true, if_true, if_false, ↓reduceIte]
      refine head_of_ok _ ?_
      simp only [wpSs, wpS, wpE, wpA, wpX, wpO, wpT, wpI, wpF, sSeq, sNext, sCont, sRet, sRetN, sRetF, oLst, sRetO, sIf, sDrop, sSet, sSetF, frz1, sFrz, sFrzs, sApp, sExt, sUnp, sRetC, sSetS, sRaise, sFor, xNil, xE, slotW, xS, rvD, rvL, rvS, dCallF, fCallF, dVar, dC, dLst, dNil, dCons, dTup, fLst, dOp, dAnd, dOr, dNot, dIf, dCall, fCall, dIsi, dRev, dSl, rSlD, rRevD, eB, boolD, eChain, eAnd, eOr, eNot, intD, eNeg, ixW, oInt, oNone, lstW, srtW, sLen, sIx, binW, cmpW, subW, modW, rAdd, rMul, powW, fdivW, ltW, leW, gtW, geW, eqW, neW, rEqq, rNeq, inW, isW, isV, biW, lenD, truW, iSeq, seqD, iRange1, iRange2, rng1, rng2, iEnu, enu1, iZip2, zip2, fLc, tTT, s0, List.map_cons, List.map_nil, List.length_cons, List.length_nil, List.replicate, List.cons_append, List.nil_append, List.getElem?_cons_zero, List.getElem?_cons_succ, List.set_cons_zero, List.set_cons_succ, List.foldr_cons, List.foldr_nil, Nat.zero_add, Nat.reduceAdd, Nat.reduceSub, List.getElem?_nil, true_and, and_true, eq_self, wipeG, Bool.false_eq_true, if_true, if_false, ↓reduceIte, ix_head hu lf]
      refine plus_ok s lf.row.2 ?_
      simp only [wpSs, wpS, wpE, wpA, wpX, wpO, wpT, wpI, wpF, sSeq, sNext, sCont, sRet, sRetN, sRetF, oLst, sRetO, sIf, sDrop, sSet, sSetF, frz1, sFrz, sFrzs, sApp, sExt, sUnp, sRetC, sSetS, sRaise, sFor, xNil, xE, slotW, xS, rvD, rvL, rvS, dCallF, fCallF, dVar, dC, dLst, dNil, dCons, dTup, fLst, dOp, dAnd, dOr, dNot, dIf, dCall, fCall, dIsi, dRev, dSl, rSlD, rRevD, eB, boolD, eChain, eAnd, eOr, eNot, intD, eNeg, ixW, oInt, oNone, lstW, srtW, sLen, sIx, binW, cmpW, subW, modW, rAdd, rMul, powW, fdivW, ltW, leW, gtW, geW, eqW, neW, rEqq, rNeq, inW, isW, isV, biW, lenD, truW, iSeq, seqD, iRange1, iRange2, rng1, rng2, iEnu, enu1, iZip2, zip2, fLc, tTT, s0, List.map_cons, List.map_nil, List.length_cons, List.length_nil, List.replicate, List.cons_append, List.nil_append, List.getElem?_cons_zero, List.getElem?_cons_succ, List.set_cons_zero, List.set_cons_succ, List.foldr_cons, List.foldr_nil, Nat.zero_add, Nat.reduceAdd, Nat.reduceSub, List.getElem?_nil, true_and, and_true, eq_self, wipeG, Bool.false_eq_true, if_true, if_false, ↓reduceIte]
      exact hK2 _ ⟨_, some (rowD f), rfl, hu.addm p0 lf.row, fun b hb => hm b (.tail _ hb), eu⟩
theorem spanned_ok {x : PyData} (s : Sp p n) (hx0 : SeqOf x A) (hA : ∀ a ∈ A, Row p n a) (hl : A.length ≤ 100000) (h : Q (.d (matT (reducedM p A)))) : wpFn DB.Γ (k + 5) DB.spanned [.d (spD p n), .d x] Q E := by
  refine fn_go DB.g_spanned ?_
  simp only [DB.b_spanned, wpSs, wpS, wpE, wpA, wpX, wpO, wpT, wpI, wpF, sSeq, sNext, sCont, sRet, sRetN, sRetF, oLst, sRetO, sIf, sDrop, sSet, sSetF, frz1, sFrz, sFrzs, sApp, sExt, sUnp, sRetC, sSetS, sRaise, sFor, xNil, xE, slotW, xS, rvD, rvL, rvS, dCallF, fCallF, dVar, dC, dLst, dNil, dCons, dTup, fLst, dOp, dAnd, dOr, dNot, dIf, dCall, fCall, dIsi, dRev, dSl, rSlD, rRevD, eB, boolD, eChain, eAnd, eOr, eNot, intD, eNeg, ixW, oInt, oNone, lstW, srtW, sLen, sIx, binW, cmpW, subW, modW, rAdd, rMul, powW, fdivW, ltW, leW, gtW, geW, eqW, neW, rEqq, rNeq, inW, isW, isV, biW, lenD, truW, iSeq, seqD, iRange1, iRange2, rng1, rng2, iEnu, enu1, iZip2, zip2, fLc, tTT, s0, List.map_cons, List.map_nil, List.length_cons, List.length_nil, List.replicate, List.cons_append, List.nil_append, List.getElem?_cons_zero, List.getElem?_cons_succ, List.set_cons_zero, List.set_cons_succ, List.foldr_cons, List.foldr_nil, Nat.zero_add, Nat.reduceAdd, Nat.reduceSub, List.getElem?_nil, true_and, and_true, eq_self, wipeG, Bool.false_eq_true, if_true, if_false, ↓reduceIte]
  refine hx0.it ?_
  refine forGo_inv rowD (fun l r => ∃ (o : Option PyData), r = [some (.d (spD p n)), some (.d x), od o] ∧ ∀ a ∈ l, Row p n a) ?_ ?_ _ _ ⟨none, rfl, hA⟩
  · rintro r ⟨o, rfl, _⟩
    simp only [wpSs, wpS, wpE, wpA, wpX, wpO, wpT, wpI, wpF, sSeq, sNext, sCont, sRet, sRetN, sRetF, oLst, sRetO, sIf, sDrop, sSet, sSetF, frz1, sFrz, sFrzs, sApp, sExt, sUnp, sRetC, sSetS, sRaise, sFor, xNil, xE, slotW, xS, rvD, rvL, rvS, dCallF, fCallF, dVar, dC, dLst, dNil, dCons, dTup, fLst, dOp, dAnd, dOr, dNot, dIf, dCall, fCall, dIsi, dRev, dSl, rSlD, rRevD, eB, boolD, eChain, eAnd, eOr, eNot, intD, eNeg, ixW, oInt, oNone, lstW, srtW, sLen, sIx, binW, cmpW, subW, modW, rAdd, rMul, powW, fdivW, ltW, leW, gtW, geW, eqW, neW, rEqq, rNeq, inW, isW, isV, biW, lenD, truW, iSeq, seqD, iRange1, iRange2, rng1, rng2, iEnu, enu1, iZip2, zip2, fLc, tTT, s0, List.map_cons, List.map_nil, List.length_cons, List.length_nil, List.replicate, List.cons_append, List.nil_append, List.getElem?_cons_zero, List.getElem?_cons_succ, List.set_cons_zero, List.set_cons_succ, List.foldr_cons, List.foldr_nil, Nat.zero_add, Nat.reduceAdd, Nat.reduceSub, List.getElem?_nil, true_and, and_true, eq_self, wipeG, Bool.false_eq_true, if_true, if_false, ↓reduceIte]
    exact reduced_ok' s hx0 hA hl h
  · rintro y l r K hK ⟨o, rfl, hl⟩
    simp only [bindT, wpSs, wpS, wpE, wpA, wpX, wpO, wpT, wpI, wpF, sSeq, sNext, sCont, sRet, sRetN, sRetF, oLst, sRetO, sIf, sDrop, sSet, sSetF, frz1, sFrz, sFrzs, sApp, sExt, sUnp, sRetC, sSetS, sRaise, sFor, xNil, xE, slotW, xS, rvD, rvL, rvS, dCallF, fCallF, dVar, dC, dLst, dNil, dCons, dTup, fLst, dOp, dAnd, dOr, dNot, dIf, dCall, fCall, dIsi, dRev, dSl, rSlD, rRevD, eB, boolD, eChain, eAnd, eOr, eNot, intD, eNeg, ixW, oInt, oNone, lstW, srtW, sLen, sIx, binW, cmpW, subW, modW, rAdd, rMul, powW, fdivW, ltW, leW, gtW, geW, eqW, neW, rEqq, rNeq, inW, isW, isV, biW, lenD, truW, iSeq, seqD, iRange1, iRange2, rng1, rng2, iEnu, enu1, iZip2, zip2, fLc, tTT, s0, List.map_cons, List.map_nil, List.length_cons, List.length_nil, List.replicate, List.cons_append, List.nil_append, List.getElem?_cons_zero, List.getElem?_cons_succ, List.set_cons_zero, List.set_cons_succ, List.foldr_cons, List.foldr_nil, Nat.zero_add, Nat.reduceAdd, Nat.reduceSub, List.getElem?_nil, true_and, and_true, eq_self, wipeG, Bool.false_eq_true, if_true, if_false, ↓reduceIte]
    refine need_row_ok (hl y (.head _)) ?_
    exact hK _ ⟨some (rowD y), rfl, fun b hb => hl b (.tail _ hb)⟩
end
end ME

end
section
set_option Elab.async false
set_option linter.all false
set_option maxRecDepth 100000
set_option autoImplicit false
set_option maxHeartbeats 4000000
namespace ME
open PySem DP MA
section
variable {k : Nat} {Q : RV → Prop} {E : Str → Prop} {p : Int} {n : Nat} {A B : List Rw} {a u v w : Rw}
theorem up_len : ∀ {l : List Rw} {m : Nat}, l.Pairwise (fun a b => hx a < hx b) → (∀ a ∈ l, m ≤ hx a ∧ hx a < n) → l.length ≤ n - m
  | [], _, _, _ => by simp
  | a :: l, m, h, hm => by
    have h1 := hm a (.head _)
    have := up_len (l := l) (m := hx a + 1) (List.pairwise_cons.mp h).2 fun b hb => ⟨(List.pairwise_cons.mp h).1 b hb, (hm b (.tail _ hb)).2⟩
    simp only [List.length_cons]
    omega
theorem part_len (h : Part p n A) : A.length ≤ n := by
  have := up_len (m := 0) h.up fun a ha => ⟨by omega, (h.sys.lead a ha).lt⟩
  omega
theorem pow_le (s : Sp p n) {m : Nat} (h : m ≤ 6) : p.toNat ^ m ≤ 15625 := by
  have h1 : p.toNat ≤ 5 := by have := s.p5; omega
  have h2 : p.toNat ^ m ≤ 5 ^ m := Nat.pow_le_pow_left h1 m
  have h3 : 5 ^ m ≤ 5 ^ 6 := Nat.pow_le_pow_right (by omega) h
  omega
theorem rowsU_few (s : Sp p n) (h : Part p n A) : (rowsU p n A).length ≤ 15625 := by
  rw [rowsU_len]
  have := part_len h
  have := s.n6
  exact pow_le s (by omega)
theorem rowsM_few (s : Sp p n) (h : Part p n A) : (rowsM p n A).length ≤ 15625 := by
  unfold rowsM
  rw [sortR_len]
  exact rowsU_few s h
theorem zr_flat : ∀ m : Nat, (List.replicate m [PyData.int 0]).flatten = (zr m).map .int
  | 0 => rfl
  | m + 1 => by
    rw [List.replicate_succ, List.flatten_cons, zr_flat m]
    rfl
theorem widen_few (s : Sp p n) : ∀ (l : List Rw) (found : List Rw), found.length * p.toNat ^ l.length = (l.foldl (widen p) found).length
  | [], found => by simp
  | a :: l, found => by
    rw [List.foldl_cons, ← widen_few s l, widen_len, List.length_cons, Nat.pow_succ, Nat.mul_assoc, Nat.mul_comm p.toNat]
theorem widen_grow (s : Sp p n) (l : List Rw) (found : List Rw) : found.length ≤ (l.foldl (widen p) found).length := by
  rw [← widen_few s]
  have p0 := s.p0
  have : 1 ≤ p.toNat ^ l.length := Nat.one_le_pow _ _ (by omega)
  exact Nat.le_mul_of_pos_right _ this
theorem rows_in_ok (s : Sp p n) (hA : Part p n A) (h : Q (.l ((rowsM p n A).map rowD))) : wpFn DB.Γ (k + 2) DB.rows_in [.d (spD p n), .d (matT A)] Q E := by
  have p0 := s.p0
  have p5 := s.p5
  have few := rowsU_few s hA
  refine fn_go DB.g_rows_in ?_
  simp only [DB.b_rows_in, spD, matT, wpSs, wpS, wpE, wpA, wpX, wpO, wpT, wpI, wpF, sSeq, sNext, sCont, sRet, sRetN, sRetF, oLst, sRetO, sIf, sDrop, sSet, sSetF, frz1, sFrz, sFrzs, sApp, sExt, sUnp, sRetC, sSetS, sRaise, sFor, xNil, xE, slotW, xS, rvD, rvL, rvS, dCallF, fCallF, dVar, dC, dLst, dNil, dCons, dTup, fLst, dOp, dAnd, dOr, dNot, dIf, dCall, fCall, dIsi, dRev, dSl, rSlD, rRevD, eB, boolD, eChain, eAnd, eOr, eNot, intD, eNeg, ixW, oInt, oNone, lstW, srtW, sLen, sIx, binW, cmpW, subW, modW, rAdd, rMul, powW, fdivW, ltW, leW, gtW, geW, eqW, neW, rEqq, rNeq, inW, isW, isV, biW, lenD, truW, iSeq, seqD, iRange1, iRange2, rng1, rng2, iEnu, enu1, iZip2, zip2, fLc, tTT, s0, List.map_cons, List.map_nil, List.length_cons, List.length_nil, List.replicate, List.cons_append, List.nil_append, List.getElem?_cons_zero, List.getElem?_cons_succ, List.set_cons_zero, List.set_cons_succ, List.foldr_cons, List.foldr_nil, Nat.zero_add, Nat.reduceAdd, Nat.reduceSub, List.getElem?_nil, true_and, and_true, eq_self, wipeG, Bool.false_eq_true, if_true, if_false, ↓reduceIte, atD_one]
  refine ⟨small (by omega), List.cons_ne_nil _ _, by omega, by omega, by have := s.n6; omega, ?_⟩
  rw [Int.toNat_natCast, zr_flat]
  refine ⟨small (by omega), ?_⟩
  refine forGo_inv rowD (fun l r => ∃ (found : List Rw) (o3 o4 o5 : Option PyData), r = [some (.d (spD p n)), some (.d (matT A)), some (.d (matL found)), od o3, od o4, od o5, none] ∧ (∀ a ∈ l, Row p n a) ∧ (∀ a ∈ found, Row p n a) ∧ l.foldl (widen p) found = rowsU p n A) ?_ ?_ _ _ ⟨[zr n], none, none, none, rfl, hA.sys.rows, fun a ha => by rw [List.mem_singleton.mp ha]; exact Row.zr p0, rfl⟩
  · rintro r ⟨found, o3, o4, o5, rfl, _, hf, e⟩
    have e : found = rowsU p n A := e
    simp only [matL, wpSs, wpS, wpE, wpA, wpX, wpO, wpT, wpI, wpF, sSeq, sNext, sCont, sRet, sRetN, sRetF, oLst, sRetO, sIf, sDrop, sSet, sSetF, frz1, sFrz, sFrzs, sApp, sExt, sUnp, sRetC, sSetS, sRaise, sFor, xNil, xE, slotW, xS, rvD, rvL, rvS, dCallF, fCallF, dVar, dC, dLst, dNil, dCons, dTup, fLst, dOp, dAnd, dOr, dNot, dIf, dCall, fCall, dIsi, dRev, dSl, rSlD, rRevD, eB, boolD, eChain, eAnd, eOr, eNot, intD, eNeg, ixW, oInt, oNone, lstW, srtW, sLen, sIx, binW, cmpW, subW, modW, rAdd, rMul, powW, fdivW, ltW, leW, gtW, geW, eqW, neW, rEqq, rNeq, inW, isW, isV, biW, lenD, truW, iSeq, seqD, iRange1, iRange2, rng1, rng2, iEnu, enu1, iZip2, zip2, fLc, tTT, s0, List.map_cons, List.map_nil, List.length_cons, List.length_nil, List.replicate, List.cons_append, List.nil_append, List.getElem?_cons_zero, List.getElem?_cons_succ, List.set_cons_zero, List.set_cons_succ, List.foldr_cons, List.foldr_nil, Nat.zero_add, Nat.reduceAdd, Nat.reduceSub, List.getElem?_nil, true_and, and_true, eq_self, wipeG, Bool.false_eq_true, if_true, if_false, ↓reduceIte]
    refine ⟨sort_ok s.n0 fun a ha => (hf a ha).1, ?_⟩
    rw [sort_rows, e]
    exact h
  · rintro row l r K hK ⟨found, o3, o4, o5, rfl, hl, hf, e⟩
    have hrow := hl row (.head _)
    have lw : (widen p found row).length ≤ 15625 := by
      have := widen_grow s l (widen p found row)
      have e' : l.foldl (widen p) (widen p found row) = rowsU p n A := e
      rw [e'] at this
      omega
    simp only [bindT, matL, wpSs, wpS, wpE, wpA, wpX, wpO, wpT, wpI, wpF, sSeq, sNext, sCont, sRet, sRetN, sRetF, oLst, sRetO, sIf, sDrop, sSet, sSetF, frz1, sFrz, sFrzs, sApp, sExt, sUnp, sRetC, sSetS, sRaise, sFor, xNil, xE, slotW, xS, rvD, rvL, rvS, dCallF, fCallF, dVar, dC, dLst, dNil, dCons, dTup, fLst, dOp, dAnd, dOr, dNot, dIf, dCall, fCall, dIsi, dRev, dSl, rSlD, rRevD, eB, boolD, eChain, eAnd, eOr, eNot, intD, eNeg, ixW, oInt, oNone, lstW, srtW, sLen, sIx, binW, cmpW, subW, modW, rAdd, rMul, powW, fdivW, ltW, leW, gtW, geW, eqW, neW, rEqq, rNeq, inW, isW, isV, biW, lenD, truW, iSeq, seqD, iRange1, iRange2, rng1, rng2, iEnu, enu1, iZip2, zip2, fLc, tTT, s0, List.map_cons, List.map_nil, List.length_cons, List.length_nil, List.replicate, List.cons_append, List.nil_append, List.getElem?_cons_zero, List.getElem?_cons_succ, List.set_cons_zero, List.set_cons_succ, List.foldr_cons, List.foldr_nil, Nat.zero_add, Nat.reduceAdd, Nat.reduceSub, List.getElem?_nil, true_and, and_true, eq_self, wipeG, Bool.false_eq_true, if_true, if_false, ↓reduceIte]
    refine ⟨small (by omega), ?_⟩
    refine forGo_inv rowD (fun m r => ∃ (acc : List Rw) (o5 : Option PyData), r = [some (.d (spD p n)), some (.d (matT A)), some (.d (matL found)), some (.d (rowD row)), some (.m (.lst (acc.map rowD))), od o5, none] ∧ (∀ a ∈ m, Row p n a) ∧ acc ++ widen p m row = widen p found row) ?_ ?_ _ _ ⟨[], o5, rfl, hf, rfl⟩
    · rintro r ⟨acc, o5, rfl, _, e2⟩
      have e2 : acc = widen p found row := by rw [← e2]; simp [widen]
      simp only [wpSs, wpS, wpE, wpA, wpX, wpO, wpT, wpI, wpF, sSeq, sNext, sCont, sRet, sRetN, sRetF, oLst, sRetO, sIf, sDrop, sSet, sSetF, frz1, sFrz, sFrzs, sApp, sExt, sUnp, sRetC, sSetS, sRaise, sFor, xNil, xE, slotW, xS, rvD, rvL, rvS, dCallF, fCallF, dVar, dC, dLst, dNil, dCons, dTup, fLst, dOp, dAnd, dOr, dNot, dIf, dCall, fCall, dIsi, dRev, dSl, rSlD, rRevD, eB, boolD, eChain, eAnd, eOr, eNot, intD, eNeg, ixW, oInt, oNone, lstW, srtW, sLen, sIx, binW, cmpW, subW, modW, rAdd, rMul, powW, fdivW, ltW, leW, gtW, geW, eqW, neW, rEqq, rNeq, inW, isW, isV, biW, lenD, truW, iSeq, seqD, iRange1, iRange2, rng1, rng2, iEnu, enu1, iZip2, zip2, fLc, tTT, s0, List.map_cons, List.map_nil, List.length_cons, List.length_nil, List.replicate, List.cons_append, List.nil_append, List.getElem?_cons_zero, List.getElem?_cons_succ, List.set_cons_zero, List.set_cons_succ, List.foldr_cons, List.foldr_nil, Nat.zero_add, Nat.reduceAdd, Nat.reduceSub, List.getElem?_nil, true_and, and_true, eq_self, wipeG, Bool.false_eq_true, if_true, if_false, ↓reduceIte]
      refine hK _ ⟨acc, some (rowD row), some (matL acc), o5, rfl, fun b hb => hl b (.tail _ hb), fun b hb => ?_, by rw [e2]; exact e⟩
      rw [e2] at hb
      unfold widen at hb
      obtain ⟨f, h1, h2⟩ := List.mem_flatMap.mp hb
      obtain ⟨m, _, rfl⟩ := List.mem_map.mp h2
      exact (hf f h1).addm p0 hrow
    · rintro f m r K2 hK2 ⟨acc, o5, rfl, hm, e2⟩
      have rf := hm f (.head _)
      simp only [bindT, wpSs, wpS, wpE, wpA, wpX, wpO, wpT, wpI, wpF, sSeq, sNext, sCont, sRet, sRetN, sRetF, oLst, sRetO, sIf, sDrop, sSet, sSetF, frz1, sFrz, sFrzs, sApp, sExt, sUnp, sRetC, sSetS, sRaise, sFor, xNil, xE, slotW, xS, rvD, rvL, rvS, dCallF, fCallF, dVar, dC, dLst, dNil, dCons, dTup, fLst, dOp, dAnd, dOr, dNot, dIf, dCall, fCall, dIsi, dRev, dSl, rSlD, rRevD, eB, boolD, eChain, eAnd, eOr, eNot, intD, eNeg, ixW, oInt, oNone, lstW, srtW, sLen, sIx, binW, cmpW, subW, modW, rAdd, rMul, powW, fdivW, ltW, leW, gtW, geW, eqW, neW, rEqq, rNeq, inW, isW, isV, biW, lenD, truW, iSeq, seqD, iRange1, iRange2, rng1, rng2, iEnu, enu1, iZip2, zip2, fLc, tTT, s0, List.map_cons, List.map_nil, List.length_cons, List.length_nil, List.replicate, List.cons_append, List.nil_append, List.getElem?_cons_zero, List.getElem?_cons_succ, List.set_cons_zero, List.set_cons_succ, List.foldr_cons, List.foldr_nil, Nat.zero_add, Nat.reduceAdd, Nat.reduceSub, List.getElem?_nil, true_and, and_true, eq_self, wipeG, Bool.false_eq_true, if_true, if_false, ↓reduceIte, atD_zero]
      refine ⟨by omega, by omega, rfl, ?_⟩
      rw [rng_ints]
      refine lcGo_tt PyData.int (fun c => rowD (addm p f c row)) _ (fun c hc K hK => ?_) ?_
      · simp only [wpSs, wpS, wpE, wpA, wpX, wpO, wpT, wpI, wpF, sSeq, sNext, sCont, sRet, sRetN, sRetF, oLst, sRetO, sIf, sDrop, sSet, sSetF, frz1, sFrz, sFrzs, sApp, sExt, sUnp, sRetC, sSetS, sRaise, sFor, xNil, xE, slotW, xS, rvD, rvL, rvS, dCallF, fCallF, dVar, dC, dLst, dNil, dCons, dTup, fLst, dOp, dAnd, dOr, dNot, dIf, dCall, fCall, dIsi, dRev, dSl, rSlD, rRevD, eB, boolD, eChain, eAnd, eOr, eNot, intD, eNeg, ixW, oInt, oNone, lstW, srtW, sLen, sIx, binW, cmpW, subW, modW, rAdd, rMul, powW, fdivW, ltW, leW, gtW, geW, eqW, neW, rEqq, rNeq, inW, isW, isV, biW, lenD, truW, iSeq, seqD, iRange1, iRange2, rng1, rng2, iEnu, enu1, iZip2, zip2, fLc, tTT, s0, List.map_cons, List.map_nil, List.length_cons, List.length_nil, List.replicate, List.cons_append, List.nil_append, List.getElem?_cons_zero, List.getElem?_cons_succ, List.set_cons_zero, List.set_cons_succ, List.foldr_cons, List.foldr_nil, Nat.zero_add, Nat.reduceAdd, Nat.reduceSub, List.getElem?_nil, true_and, and_true, eq_self, wipeG, Bool.false_eq_true, if_true, if_false, ↓reduceIte]
        exact plus_ok s hrow.2 hK
      · have e3 : ((rngI p.toNat).map fun c => rowD (addm p f c row)) = ((rngI p.toNat).map fun c => addm p f c row).map rowD := by rw [List.map_map]; rfl
        rw [e3, ← List.map_append]
        have e4 : (acc ++ (rngI p.toNat).map fun c => addm p f c row) ++ widen p m row = widen p found row := by
          rw [← e2]
          simp [widen]
        refine ⟨small ?_, hK2 _ ⟨_, some (rowD f), rfl, fun b hb => hm b (.tail _ hb), e4⟩⟩
        have := congrArg List.length e4
        simp only [List.length_append, List.length_map] at this ⊢
        omega
theorem rows_of_ok (s : Sp p n) (hA : Part p n A) (h : Q (.l ((rowsM p n A).map rowD))) : wpFn DB.Γ (k + 6) DB.rows_of [.d (spD p n), .d (matT A)] Q E := by
  refine fn_go DB.g_rows_of ?_
  simp only [DB.b_rows_of, wpSs, wpS, wpE, wpA, wpX, wpO, wpT, wpI, wpF, sSeq, sNext, sCont, sRet, sRetN, sRetF, oLst, sRetO, sIf, sDrop, sSet, sSetF, frz1, sFrz, sFrzs, sApp, sExt, sUnp, sRetC, sSetS, sRaise, sFor, xNil, xE, slotW, xS, rvD, rvL, rvS, dCallF, fCallF, dVar, dC, dLst, dNil, dCons, dTup, fLst, dOp, dAnd, dOr, dNot, dIf, dCall, fCall, dIsi, dRev, dSl, rSlD, rRevD, eB, boolD, eChain, eAnd, eOr, eNot, intD, eNeg, ixW, oInt, oNone, lstW, srtW, sLen, sIx, binW, cmpW, subW, modW, rAdd, rMul, powW, fdivW, ltW, leW, gtW, geW, eqW, neW, rEqq, rNeq, inW, isW, isV, biW, lenD, truW, iSeq, seqD, iRange1, iRange2, rng1, rng2, iEnu, enu1, iZip2, zip2, fLc, tTT, s0, List.map_cons, List.map_nil, List.length_cons, List.length_nil, List.replicate, List.cons_append, List.nil_append, List.getElem?_cons_zero, List.getElem?_cons_succ, List.set_cons_zero, List.set_cons_succ, List.foldr_cons, List.foldr_nil, Nat.zero_add, Nat.reduceAdd, Nat.reduceSub, List.getElem?_nil, true_and, and_true, eq_self, wipeG, Bool.false_eq_true, if_true, if_false, ↓reduceIte]
  refine need_part_ok hA ?_
  simp only [wpSs, wpS, wpE, wpA, wpX, wpO, wpT, wpI, wpF, sSeq, sNext, sCont, sRet, sRetN, sRetF, oLst, sRetO, sIf, sDrop, sSet, sSetF, frz1, sFrz, sFrzs, sApp, sExt, sUnp, sRetC, sSetS, sRaise, sFor, xNil, xE, slotW, xS, rvD, rvL, rvS, dCallF, fCallF, dVar, dC, dLst, dNil, dCons, dTup, fLst, dOp, dAnd, dOr, dNot, dIf, dCall, fCall, dIsi, dRev, dSl, rSlD, rRevD, eB, boolD, eChain, eAnd, eOr, eNot, intD, eNeg, ixW, oInt, oNone, lstW, srtW, sLen, sIx, binW, cmpW, subW, modW, rAdd, rMul, powW, fdivW, ltW, leW, gtW, geW, eqW, neW, rEqq, rNeq, inW, isW, isV, biW, lenD, truW, iSeq, seqD, iRange1, iRange2, rng1, rng2, iEnu, enu1, iZip2, zip2, fLc, tTT, s0, List.map_cons, List.map_nil, List.length_cons, List.length_nil, List.replicate, List.cons_append, List.nil_append, List.getElem?_cons_zero, List.getElem?_cons_succ, List.set_cons_zero, List.set_cons_succ, List.foldr_cons, List.foldr_nil, Nat.zero_add, Nat.reduceAdd, Nat.reduceSub, List.getElem?_nil, true_and, and_true, eq_self, wipeG, Bool.false_eq_true, if_true, if_false, ↓reduceIte]
  exact rows_in_ok s hA h
theorem holds_ok (s : Sp p n) (hA : Part p n A) (hv : Row p n v) (h : Q (.d (.bool (decide (red p A v = zr n))))) : wpFn DB.Γ (k + 6) DB.holds [.d (spD p n), .d (matT A), .d (rowD v)] Q E := by
  refine fn_go DB.g_holds ?_
  simp only [DB.b_holds, wpSs, wpS, wpE, wpA, wpX, wpO, wpT, wpI, wpF, sSeq, sNext, sCont, sRet, sRetN, sRetF, oLst, sRetO, sIf, sDrop, sSet, sSetF, frz1, sFrz, sFrzs, sApp, sExt, sUnp, sRetC, sSetS, sRaise, sFor, xNil, xE, slotW, xS, rvD, rvL, rvS, dCallF, fCallF, dVar, dC, dLst, dNil, dCons, dTup, fLst, dOp, dAnd, dOr, dNot, dIf, dCall, fCall, dIsi, dRev, dSl, rSlD, rRevD, eB, boolD, eChain, eAnd, eOr, eNot, intD, eNeg, ixW, oInt, oNone, lstW, srtW, sLen, sIx, binW, cmpW, subW, modW, rAdd, rMul, powW, fdivW, ltW, leW, gtW, geW, eqW, neW, rEqq, rNeq, inW, isW, isV, biW, lenD, truW, iSeq, seqD, iRange1, iRange2, rng1, rng2, iEnu, enu1, iZip2, zip2, fLc, tTT, s0, List.map_cons, List.map_nil, List.length_cons, List.length_nil, List.replicate, List.cons_append, List.nil_append, List.getElem?_cons_zero, List.getElem?_cons_succ, List.set_cons_zero, List.set_cons_succ, List.foldr_cons, List.foldr_nil, Nat.zero_add, Nat.reduceAdd, Nat.reduceSub, List.getElem?_nil, true_and, and_true, eq_self, wipeG, Bool.false_eq_true, if_true, if_false, ↓reduceIte]
  refine need_part_ok hA ?_
  simp only [wpSs, wpS, wpE, wpA, wpX, wpO, wpT, wpI, wpF, sSeq, sNext, sCont, sRet, sRetN, sRetF, oLst, sRetO, sIf, sDrop, sSet, sSetF, frz1, sFrz, sFrzs, sApp, sExt, sUnp, sRetC, sSetS, sRaise, sFor, xNil, xE, slotW, xS, rvD, rvL, rvS, dCallF, fCallF, dVar, dC, dLst, dNil, dCons, dTup, fLst, dOp, dAnd, dOr, dNot, dIf, dCall, fCall, dIsi, dRev, dSl, rSlD, rRevD, eB, boolD, eChain, eAnd, eOr, eNot, intD, eNeg, ixW, oInt, oNone, lstW, srtW, sLen, sIx, binW, cmpW, subW, modW, rAdd, rMul, powW, fdivW, ltW, leW, gtW, geW, eqW, neW, rEqq, rNeq, inW, isW, isV, biW, lenD, truW, iSeq, seqD, iRange1, iRange2, rng1, rng2, iEnu, enu1, iZip2, zip2, fLc, tTT, s0, List.map_cons, List.map_nil, List.length_cons, List.length_nil, List.replicate, List.cons_append, List.nil_append, List.getElem?_cons_zero, List.getElem?_cons_succ, List.set_cons_zero, List.set_cons_succ, List.foldr_cons, List.foldr_nil, Nat.zero_add, Nat.reduceAdd, Nat.reduceSub, List.getElem?_nil, true_and, and_true, eq_self, wipeG, Bool.false_eq_true, if_true, if_false, ↓reduceIte]
  refine need_row_ok hv ?_
  simp only [wpSs, wpS, wpE, wpA, wpX, wpO, wpT, wpI, wpF, sSeq, sNext, sCont, sRet, sRetN, sRetF, oLst, sRetO, sIf, sDrop, sSet, sSetF, frz1, sFrz, sFrzs, sApp, sExt, sUnp, sRetC, sSetS, sRaise, sFor, xNil, xE, slotW, xS, rvD, rvL, rvS, dCallF, fCallF, dVar, dC, dLst, dNil, dCons, dTup, fLst, dOp, dAnd, dOr, dNot, dIf, dCall, fCall, dIsi, dRev, dSl, rSlD, rRevD, eB, boolD, eChain, eAnd, eOr, eNot, intD, eNeg, ixW, oInt, oNone, lstW, srtW, sLen, sIx, binW, cmpW, subW, modW, rAdd, rMul, powW, fdivW, ltW, leW, gtW, geW, eqW, neW, rEqq, rNeq, inW, isW, isV, biW, lenD, truW, iSeq, seqD, iRange1, iRange2, rng1, rng2, iEnu, enu1, iZip2, zip2, fLc, tTT, s0, List.map_cons, List.map_nil, List.length_cons, List.length_nil, List.replicate, List.cons_append, List.nil_append, List.getElem?_cons_zero, List.getElem?_cons_succ, List.set_cons_zero, List.set_cons_succ, List.foldr_cons, List.foldr_nil, Nat.zero_add, Nat.reduceAdd, Nat.reduceSub, List.getElem?_nil, true_and, and_true, eq_self, wipeG, Bool.false_eq_true, if_true, if_false, ↓reduceIte]
  exact held_ok s hA.sys hv h
def joinM (p : Int) (A B : List Rw) : List Rw := reducedM p (A ++ B)
theorem joined_ok (s : Sp p n) (hA : Part p n A) (hB : Part p n B) (h : Q (.d (matT (joinM p A B)))) : wpFn DB.Γ (k + 7) DB.joined [.d (spD p n), .d (matT A), .d (matT B)] Q E := by
  have l1 := part_len hA
  have l2 := part_len hB
  have := s.n6
  refine fn_go DB.g_joined ?_
  simp only [DB.b_joined, wpSs, wpS, wpE, wpA, wpX, wpO, wpT, wpI, wpF, sSeq, sNext, sCont, sRet, sRetN, sRetF, oLst, sRetO, sIf, sDrop, sSet, sSetF, frz1, sFrz, sFrzs, sApp, sExt, sUnp, sRetC, sSetS, sRaise, sFor, xNil, xE, slotW, xS, rvD, rvL, rvS, dCallF, fCallF, dVar, dC, dLst, dNil, dCons, dTup, fLst, dOp, dAnd, dOr, dNot, dIf, dCall, fCall, dIsi, dRev, dSl, rSlD, rRevD, eB, boolD, eChain, eAnd, eOr, eNot, intD, eNeg, ixW, oInt, oNone, lstW, srtW, sLen, sIx, binW, cmpW, subW, modW, rAdd, rMul, powW, fdivW, ltW, leW, gtW, geW, eqW, neW, rEqq, rNeq, inW, isW, isV, biW, lenD, truW, iSeq, seqD, iRange1, iRange2, rng1, rng2, iEnu, enu1, iZip2, zip2, fLc, tTT, s0, List.map_cons, List.map_nil, List.length_cons, List.length_nil, List.replicate, List.cons_append, List.nil_append, List.getElem?_cons_zero, List.getElem?_cons_succ, List.set_cons_zero, List.set_cons_succ, List.foldr_cons, List.foldr_nil, Nat.zero_add, Nat.reduceAdd, Nat.reduceSub, List.getElem?_nil, true_and, and_true, eq_self, wipeG, Bool.false_eq_true, if_true, if_false, ↓reduceIte]
  refine need_two_ok hA hB ?_
  simp only [matT, wpSs, wpS, wpE, wpA, wpX, wpO, wpT, wpI, wpF, sSeq, sNext, sCont, sRet, sRetN, sRetF, oLst, sRetO, sIf, sDrop, sSet, sSetF, frz1, sFrz, sFrzs, sApp, sExt, sUnp, sRetC, sSetS, sRaise, sFor, xNil, xE, slotW, xS, rvD, rvL, rvS, dCallF, fCallF, dVar, dC, dLst, dNil, dCons, dTup, fLst, dOp, dAnd, dOr, dNot, dIf, dCall, fCall, dIsi, dRev, dSl, rSlD, rRevD, eB, boolD, eChain, eAnd, eOr, eNot, intD, eNeg, ixW, oInt, oNone, lstW, srtW, sLen, sIx, binW, cmpW, subW, modW, rAdd, rMul, powW, fdivW, ltW, leW, gtW, geW, eqW, neW, rEqq, rNeq, inW, isW, isV, biW, lenD, truW, iSeq, seqD, iRange1, iRange2, rng1, rng2, iEnu, enu1, iZip2, zip2, fLc, tTT, s0, List.map_cons, List.map_nil, List.length_cons, List.length_nil, List.replicate, List.cons_append, List.nil_append, List.getElem?_cons_zero, List.getElem?_cons_succ, List.set_cons_zero, List.set_cons_succ, List.foldr_cons, List.foldr_nil, Nat.zero_add, Nat.reduceAdd, Nat.reduceSub, List.getElem?_nil, true_and, and_true, eq_self, wipeG, Bool.false_eq_true, if_true, if_false, ↓reduceIte, List.length_map]
  refine ⟨small (by omega), ?_⟩
  rw [← List.map_append]
  exact reduced_ok' s (.inr rfl) (rows_app hA.sys.rows hB.sys.rows) (by rw [List.length_append]; omega) h
def commonM (p : Int) (n : Nat) (A B : List Rw) : List Rw := (rowsM p n A).filter fun r => decide (red p B r = zr n)
theorem rowsM_row (s : Sp p n) (hA : Part p n A) (h : a ∈ rowsM p n A) : Row p n a := ((mem_rowsM s.p0 hA.sys.rows a).mp h).row s.p0 hA.sys.rows
theorem common_ok (s : Sp p n) (hA : Part p n A) (hB : Sys p n B) (h : Q (.l ((commonM p n A B).map rowD))) : wpFn DB.Γ (k + 3) DB.common [.d (spD p n), .d (matT A), .d (matT B)] Q E := by
  refine fn_go DB.g_common ?_
  simp only [DB.b_common, wpSs, wpS, wpE, wpA, wpX, wpO, wpT, wpI, wpF, sSeq, sNext, sCont, sRet, sRetN, sRetF, oLst, sRetO, sIf, sDrop, sSet, sSetF, frz1, sFrz, sFrzs, sApp, sExt, sUnp, sRetC, sSetS, sRaise, sFor, xNil, xE, slotW, xS, rvD, rvL, rvS, dCallF, fCallF, dVar, dC, dLst, dNil, dCons, dTup, fLst, dOp, dAnd, dOr, dNot, dIf, dCall, fCall, dIsi, dRev, dSl, rSlD, rRevD, eB, boolD, eChain, eAnd, eOr, eNot, intD, eNeg, ixW, oInt, oNone, lstW, srtW, sLen, sIx, binW, cmpW, subW, modW, rAdd, rMul, powW, fdivW, ltW, leW, gtW, geW, eqW, neW, rEqq, rNeq, inW, isW, isV, biW, lenD, truW, iSeq, seqD, iRange1, iRange2, rng1, rng2, iEnu, enu1, iZip2, zip2, fLc, tTT, s0, List.map_cons, List.map_nil, List.length_cons, List.length_nil, List.replicate, List.cons_append, List.nil_append, List.getElem?_cons_zero, List.getElem?_cons_succ, List.set_cons_zero, List.set_cons_succ, List.foldr_cons, List.foldr_nil, Nat.zero_add, Nat.reduceAdd, Nat.reduceSub, List.getElem?_nil, true_and, and_true, eq_self, wipeG, Bool.false_eq_true, if_true, if_false, ↓reduceIte]
  refine rows_in_ok s hA ?_
  simp only [wpSs, wpS, wpE, wpA, wpX, wpO, wpT, wpI, wpF, sSeq, sNext, sCont, sRet, sRetN, sRetF, oLst, sRetO, sIf, sDrop, sSet, sSetF, frz1, sFrz, sFrzs, sApp, sExt, sUnp, sRetC, sSetS, sRaise, sFor, xNil, xE, slotW, xS, rvD, rvL, rvS, dCallF, fCallF, dVar, dC, dLst, dNil, dCons, dTup, fLst, dOp, dAnd, dOr, dNot, dIf, dCall, fCall, dIsi, dRev, dSl, rSlD, rRevD, eB, boolD, eChain, eAnd, eOr, eNot, intD, eNeg, ixW, oInt, oNone, lstW, srtW, sLen, sIx, binW, cmpW, subW, modW, rAdd, rMul, powW, fdivW, ltW, leW, gtW, geW, eqW, neW, rEqq, rNeq, inW, isW, isV, biW, lenD, truW, iSeq, seqD, iRange1, iRange2, rng1, rng2, iEnu, enu1, iZip2, zip2, fLc, tTT, s0, List.map_cons, List.map_nil, List.length_cons, List.length_nil, List.replicate, List.cons_append, List.nil_append, List.getElem?_cons_zero, List.getElem?_cons_succ, List.set_cons_zero, List.set_cons_succ, List.foldr_cons, List.foldr_nil, Nat.zero_add, Nat.reduceAdd, Nat.reduceSub, List.getElem?_nil, true_and, and_true, eq_self, wipeG, Bool.false_eq_true, if_true, if_false, ↓reduceIte]
  refine ⟨rfl, lcGo_one rowD rowD (fun r => decide (red p B r = zr n)) _ [] (fun y hy K hK => ?_) (fun y _ _ K hK => ?_) h⟩
  · simp only [wpSs, wpS, wpE, wpA, wpX, wpO, wpT, wpI, wpF, sSeq, sNext, sCont, sRet, sRetN, sRetF, oLst, sRetO, sIf, sDrop, sSet, sSetF, frz1, sFrz, sFrzs, sApp, sExt, sUnp, sRetC, sSetS, sRaise, sFor, xNil, xE, slotW, xS, rvD, rvL, rvS, dCallF, fCallF, dVar, dC, dLst, dNil, dCons, dTup, fLst, dOp, dAnd, dOr, dNot, dIf, dCall, fCall, dIsi, dRev, dSl, rSlD, rRevD, eB, boolD, eChain, eAnd, eOr, eNot, intD, eNeg, ixW, oInt, oNone, lstW, srtW, sLen, sIx, binW, cmpW, subW, modW, rAdd, rMul, powW, fdivW, ltW, leW, gtW, geW, eqW, neW, rEqq, rNeq, inW, isW, isV, biW, lenD, truW, iSeq, seqD, iRange1, iRange2, rng1, rng2, iEnu, enu1, iZip2, zip2, fLc, tTT, s0, List.map_cons, List.map_nil, List.length_cons, List.length_nil, List.replicate, List.cons_append, List.nil_append, List.getElem?_cons_zero, List.getElem?_cons_succ, List.set_cons_zero, List.set_cons_succ, List.foldr_cons, List.foldr_nil, Nat.zero_add, Nat.reduceAdd, Nat.reduceSub, List.getElem?_nil, true_and, and_true, eq_self, wipeG, Bool.false_eq_true, if_true, if_false, ↓reduceIte]
    exact held_ok s hB (rowsM_row s hA hy) hK
  · simp only [wpSs, wpS, wpE, wpA, wpX, wpO, wpT, wpI, wpF, sSeq, sNext, sCont, sRet, sRetN, sRetF, oLst, sRetO, sIf, sDrop, sSet, sSetF, frz1, sFrz, sFrzs, sApp, sExt, sUnp, sRetC, sSetS, sRaise, sFor, xNil, xE, slotW, xS, rvD, rvL, rvS, dCallF, fCallF, dVar, dC, dLst, dNil, dCons, dTup, fLst, dOp, dAnd, dOr, dNot, dIf, dCall, fCall, dIsi, dRev, dSl, rSlD, rRevD, eB, boolD, eChain, eAnd, eOr, eNot, intD, eNeg, ixW, oInt, oNone, lstW, srtW, sLen, sIx, binW, cmpW, subW, modW, rAdd, rMul, powW, fdivW, ltW, leW, gtW, geW, eqW, neW, rEqq, rNeq, inW, isW, isV, biW, lenD, truW, iSeq, seqD, iRange1, iRange2, rng1, rng2, iEnu, enu1, iZip2, zip2, fLc, tTT, s0, List.map_cons, List.map_nil, List.length_cons, List.length_nil, List.replicate, List.cons_append, List.nil_append, List.getElem?_cons_zero, List.getElem?_cons_succ, List.set_cons_zero, List.set_cons_succ, List.foldr_cons, List.foldr_nil, Nat.zero_add, Nat.reduceAdd, Nat.reduceSub, List.getElem?_nil, true_and, and_true, eq_self, wipeG, Bool.false_eq_true, if_true, if_false, ↓reduceIte]
    exact hK
def metM (p : Int) (n : Nat) (A B : List Rw) : List Rw := reducedM p (commonM p n A B)
theorem common_row (s : Sp p n) (hA : Part p n A) : ∀ a ∈ commonM p n A B, Row p n a := fun a ha => rowsM_row s hA (List.mem_filter.mp ha).1
theorem common_few (s : Sp p n) (hA : Part p n A) : (commonM p n A B).length ≤ 15625 := Nat.le_trans (List.length_filter_le _ _) (rowsM_few s hA)
theorem met_ok (s : Sp p n) (hA : Part p n A) (hB : Part p n B) (h : Q (.d (matT (metM p n A B)))) : wpFn DB.Γ (k + 7) DB.met [.d (spD p n), .d (matT A), .d (matT B)] Q E := by
  refine fn_go DB.g_met ?_
  simp only [DB.b_met, wpSs, wpS, wpE, wpA, wpX, wpO, wpT, wpI, wpF, sSeq, sNext, sCont, sRet, sRetN, sRetF, oLst, sRetO, sIf, sDrop, sSet, sSetF, frz1, sFrz, sFrzs, sApp, sExt, sUnp, sRetC, sSetS, sRaise, sFor, xNil, xE, slotW, xS, rvD, rvL, rvS, dCallF, fCallF, dVar, dC, dLst, dNil, dCons, dTup, fLst, dOp, dAnd, dOr, dNot, dIf, dCall, fCall, dIsi, dRev, dSl, rSlD, rRevD, eB, boolD, eChain, eAnd, eOr, eNot, intD, eNeg, ixW, oInt, oNone, lstW, srtW, sLen, sIx, binW, cmpW, subW, modW, rAdd, rMul, powW, fdivW, ltW, leW, gtW, geW, eqW, neW, rEqq, rNeq, inW, isW, isV, biW, lenD, truW, iSeq, seqD, iRange1, iRange2, rng1, rng2, iEnu, enu1, iZip2, zip2, fLc, tTT, s0, List.map_cons, List.map_nil, List.length_cons, List.length_nil, List.replicate, List.cons_append, List.nil_append, List.getElem?_cons_zero, List.getElem?_cons_succ, List.set_cons_zero, List.set_cons_succ, List.foldr_cons, List.foldr_nil, Nat.zero_add, Nat.reduceAdd, Nat.reduceSub, List.getElem?_nil, true_and, and_true, eq_self, wipeG, Bool.false_eq_true, if_true, if_false, ↓reduceIte]
  refine need_two_ok hA hB ?_
  simp only [wpSs, wpS, wpE, wpA, wpX, wpO, wpT, wpI, wpF, sSeq, sNext, sCont, sRet, sRetN, sRetF, oLst, sRetO, sIf, sDrop, sSet, sSetF, frz1, sFrz, sFrzs, sApp, sExt, sUnp, sRetC, sSetS, sRaise, sFor, xNil, xE, slotW, xS, rvD, rvL, rvS, dCallF, fCallF, dVar, dC, dLst, dNil, dCons, dTup, fLst, dOp, dAnd, dOr, dNot, dIf, dCall, fCall, dIsi, dRev, dSl, rSlD, rRevD, eB, boolD, eChain, eAnd, eOr, eNot, intD, eNeg, ixW, oInt, oNone, lstW, srtW, sLen, sIx, binW, cmpW, subW, modW, rAdd, rMul, powW, fdivW, ltW, leW, gtW, geW, eqW, neW, rEqq, rNeq, inW, isW, isV, biW, lenD, truW, iSeq, seqD, iRange1, iRange2, rng1, rng2, iEnu, enu1, iZip2, zip2, fLc, tTT, s0, List.map_cons, List.map_nil, List.length_cons, List.length_nil, List.replicate, List.cons_append, List.nil_append, List.getElem?_cons_zero, List.getElem?_cons_succ, List.set_cons_zero, List.set_cons_succ, List.foldr_cons, List.foldr_nil, Nat.zero_add, Nat.reduceAdd, Nat.reduceSub, List.getElem?_nil, true_and, and_true, eq_self, wipeG, Bool.false_eq_true, if_true, if_false, ↓reduceIte]
  refine common_ok s hA hB.sys ?_
  simp only [wpSs, wpS, wpE, wpA, wpX, wpO, wpT, wpI, wpF, sSeq, sNext, sCont, sRet, sRetN, sRetF, oLst, sRetO, sIf, sDrop, sSet, sSetF, frz1, sFrz, sFrzs, sApp, sExt, sUnp, sRetC, sSetS, sRaise, sFor, xNil, xE, slotW, xS, rvD, rvL, rvS, dCallF, fCallF, dVar, dC, dLst, dNil, dCons, dTup, fLst, dOp, dAnd, dOr, dNot, dIf, dCall, fCall, dIsi, dRev, dSl, rSlD, rRevD, eB, boolD, eChain, eAnd, eOr, eNot, intD, eNeg, ixW, oInt, oNone, lstW, srtW, sLen, sIx, binW, cmpW, subW, modW, rAdd, rMul, powW, fdivW, ltW, leW, gtW, geW, eqW, neW, rEqq, rNeq, inW, isW, isV, biW, lenD, truW, iSeq, seqD, iRange1, iRange2, rng1, rng2, iEnu, enu1, iZip2, zip2, fLc, tTT, s0, List.map_cons, List.map_nil, List.length_cons, List.length_nil, List.replicate, List.cons_append, List.nil_append, List.getElem?_cons_zero, List.getElem?_cons_succ, List.set_cons_zero, List.set_cons_succ, List.foldr_cons, List.foldr_nil, Nat.zero_add, Nat.reduceAdd, Nat.reduceSub, List.getElem?_nil, true_and, and_true, eq_self, wipeG, Bool.false_eq_true, if_true, if_false, ↓reduceIte]
  exact reduced_ok' s (.inl rfl) (common_row s hA) (Nat.le_trans (common_few s hA) (by omega)) h
theorem plain_bools {α : Type} (f : α → Bool) : ∀ l : List α, PyData.plainAll (l.map fun x => PyData.bool (f x)) = true
  | [] => by simp [PyData.plainAll]
  | a :: l => by rw [List.map_cons, PyData.plainAll, plain_bools f l]; simp [PyData.plain]
theorem tru_all {α : Type} {f : α → Bool} {l : List α} {K : PyData → Prop} (h : K (.bool (l.all f))) : truW (fun ys => ys.all PyData.truthy) (l.map fun x => PyData.bool (f x)) K := by
  refine ⟨plain_bools f l, by simp [fits], ?_⟩
  have e : (l.map fun x => PyData.bool (f x)).all PyData.truthy = l.all f := by
    rw [List.all_map]
    rfl
  show K (.bool ((l.map fun x => PyData.bool (f x)).all PyData.truthy))
  rw [e]
  exact h
def withinB (p : Int) (n : Nat) (A B : List Rw) : Bool := A.all fun r => decide (red p B r = zr n)
theorem is_within_ok (s : Sp p n) (hA : ∀ a ∈ A, Row p n a) (hB : Sys p n B) (h : Q (.d (.bool (withinB p n A B)))) : wpFn DB.Γ (k + 3) DB.is_within [.d (spD p n), .d (matT A), .d (matT B)] Q E := by
  refine fn_go DB.g_is_within ?_
  simp only [DB.b_is_within, matT, wpSs, wpS, wpE, wpA, wpX, wpO, wpT, wpI, wpF, sSeq, sNext, sCont, sRet, sRetN, sRetF, oLst, sRetO, sIf, sDrop, sSet, sSetF, frz1, sFrz, sFrzs, sApp, sExt, sUnp, sRetC, sSetS, sRaise, sFor, xNil, xE, slotW, xS, rvD, rvL, rvS, dCallF, fCallF, dVar, dC, dLst, dNil, dCons, dTup, fLst, dOp, dAnd, dOr, dNot, dIf, dCall, fCall, dIsi, dRev, dSl, rSlD, rRevD, eB, boolD, eChain, eAnd, eOr, eNot, intD, eNeg, ixW, oInt, oNone, lstW, srtW, sLen, sIx, binW, cmpW, subW, modW, rAdd, rMul, powW, fdivW, ltW, leW, gtW, geW, eqW, neW, rEqq, rNeq, inW, isW, isV, biW, lenD, truW, iSeq, seqD, iRange1, iRange2, rng1, rng2, iEnu, enu1, iZip2, zip2, fLc, tTT, s0, List.map_cons, List.map_nil, List.length_cons, List.length_nil, List.replicate, List.cons_append, List.nil_append, List.getElem?_cons_zero, List.getElem?_cons_succ, List.set_cons_zero, List.set_cons_succ, List.foldr_cons, List.foldr_nil, Nat.zero_add, Nat.reduceAdd, Nat.reduceSub, List.getElem?_nil, true_and, and_true, eq_self, wipeG, Bool.false_eq_true, if_true, if_false, ↓reduceIte]
  refine ⟨rfl, lcGo_tt rowD (fun r => .bool (decide (red p B r = zr n))) A (fun y hy K hK => ?_) ?_⟩
  · simp only [wpSs, wpS, wpE, wpA, wpX, wpO, wpT, wpI, wpF, sSeq, sNext, sCont, sRet, sRetN, sRetF, oLst, sRetO, sIf, sDrop, sSet, sSetF, frz1, sFrz, sFrzs, sApp, sExt, sUnp, sRetC, sSetS, sRaise, sFor, xNil, xE, slotW, xS, rvD, rvL, rvS, dCallF, fCallF, dVar, dC, dLst, dNil, dCons, dTup, fLst, dOp, dAnd, dOr, dNot, dIf, dCall, fCall, dIsi, dRev, dSl, rSlD, rRevD, eB, boolD, eChain, eAnd, eOr, eNot, intD, eNeg, ixW, oInt, oNone, lstW, srtW, sLen, sIx, binW, cmpW, subW, modW, rAdd, rMul, powW, fdivW, ltW, leW, gtW, geW, eqW, neW, rEqq, rNeq, inW, isW, isV, biW, lenD, truW, iSeq, seqD, iRange1, iRange2, rng1, rng2, iEnu, enu1, iZip2, zip2, fLc, tTT, s0, List.map_cons, List.map_nil, List.length_cons, List.length_nil, List.replicate, List.cons_append, List.nil_append, List.getElem?_cons_zero, List.getElem?_cons_succ, List.set_cons_zero, List.set_cons_succ, List.foldr_cons, List.foldr_nil, Nat.zero_add, Nat.reduceAdd, Nat.reduceSub, List.getElem?_nil, true_and, and_true, eq_self, wipeG, Bool.false_eq_true, if_true, if_false, ↓reduceIte]
    exact held_ok s hB (hA y hy) hK
  · exact tru_all (f := fun r => decide (red p B r = zr n)) (l := A) (K := fun x => Q (.d x)) h
theorem lies_in_ok (s : Sp p n) (hA : Part p n A) (hB : Part p n B) (h : Q (.d (.bool (withinB p n A B)))) : wpFn DB.Γ (k + 7) DB.lies_in [.d (spD p n), .d (matT A), .d (matT B)] Q E := by
  refine fn_go DB.g_lies_in ?_
  simp only [DB.b_lies_in, wpSs, wpS, wpE, wpA, wpX, wpO, wpT, wpI, wpF, sSeq, sNext, sCont, sRet, sRetN, sRetF, oLst, sRetO, sIf, sDrop, sSet, sSetF, frz1, sFrz, sFrzs, sApp, sExt, sUnp, sRetC, sSetS, sRaise, sFor, xNil, xE, slotW, xS, rvD, rvL, rvS, dCallF, fCallF, dVar, dC, dLst, dNil, dCons, dTup, fLst, dOp, dAnd, dOr, dNot, dIf, dCall, fCall, dIsi, dRev, dSl, rSlD, rRevD, eB, boolD, eChain, eAnd, eOr, eNot, intD, eNeg, ixW, oInt, oNone, lstW, srtW, sLen, sIx, binW, cmpW, subW, modW, rAdd, rMul, powW, fdivW, ltW, leW, gtW, geW, eqW, neW, rEqq, rNeq, inW, isW, isV, biW, lenD, truW, iSeq, seqD, iRange1, iRange2, rng1, rng2, iEnu, enu1, iZip2, zip2, fLc, tTT, s0, List.map_cons, List.map_nil, List.length_cons, List.length_nil, List.replicate, List.cons_append, List.nil_append, List.getElem?_cons_zero, List.getElem?_cons_succ, List.set_cons_zero, List.set_cons_succ, List.foldr_cons, List.foldr_nil, Nat.zero_add, Nat.reduceAdd, Nat.reduceSub, List.getElem?_nil, true_and, and_true, eq_self, wipeG, Bool.false_eq_true, if_true, if_false, ↓reduceIte]
  refine need_two_ok hA hB ?_
  simp only [wpSs, wpS, wpE, wpA, wpX, wpO, wpT, wpI, wpF, sSeq, sNext, sCont, sRet, sRetN, sRetF, oLst, sRetO, sIf, sDrop, sSet, sSetF, frz1, sFrz, sFrzs, sApp, sExt, sUnp, sRetC, sSetS, sRaise, sFor, xNil, xE, slotW, xS, rvD, rvL, rvS, dCallF, fCallF, dVar, dC, dLst, dNil, dCons, dTup, fLst, dOp, dAnd, dOr, dNot, dIf, dCall, fCall, dIsi, dRev, dSl, rSlD, rRevD, eB, boolD, eChain, eAnd, eOr, eNot, intD, eNeg, ixW, oInt, oNone, lstW, srtW, sLen, sIx, binW, cmpW, subW, modW, rAdd, rMul, powW, fdivW, ltW, leW, gtW, geW, eqW, neW, rEqq, rNeq, inW, isW, isV, biW, lenD, truW, iSeq, seqD, iRange1, iRange2, rng1, rng2, iEnu, enu1, iZip2, zip2, fLc, tTT, s0, List.map_cons, List.map_nil, List.length_cons, List.length_nil, List.replicate, List.cons_append, List.nil_append, List.getElem?_cons_zero, List.getElem?_cons_succ, List.set_cons_zero, List.set_cons_succ, List.foldr_cons, List.foldr_nil, Nat.zero_add, Nat.reduceAdd, Nat.reduceSub, List.getElem?_nil, true_and, and_true, eq_self, wipeG, Bool.false_eq_true, if_true, if_false, ↓reduceIte]
  exact is_within_ok s hA.sys.rows hB.sys h
def beyondM (p : Int) (n : Nat) (A B : List Rw) : Option Rw := (rowsM p n A).find? fun r => !decide (red p B r = zr n)
def optD : Option Rw → PyData
  | some r => rowD r
  | none => .none
theorem first_beyond_ok (s : Sp p n) (hA : Part p n A) (hB : Part p n B) (h : Q (.d (optD (beyondM p n A B)))) : wpFn DB.Γ (k + 7) DB.first_beyond [.d (spD p n), .d (matT A), .d (matT B)] Q E := by
  refine fn_go DB.g_first_beyond ?_
  simp only [DB.b_first_beyond, wpSs, wpS, wpE, wpA, wpX, wpO, wpT, wpI, wpF, sSeq, sNext, sCont, sRet, sRetN, sRetF, oLst, sRetO, sIf, sDrop, sSet, sSetF, frz1, sFrz, sFrzs, sApp, sExt, sUnp, sRetC, sSetS, sRaise, sFor, xNil, xE, slotW, xS, rvD, rvL, rvS, dCallF, fCallF, dVar, dC, dLst, dNil, dCons, dTup, fLst, dOp, dAnd, dOr, dNot, dIf, dCall, fCall, dIsi, dRev, dSl, rSlD, rRevD, eB, boolD, eChain, eAnd, eOr, eNot, intD, eNeg, ixW, oInt, oNone, lstW, srtW, sLen, sIx, binW, cmpW, subW, modW, rAdd, rMul, powW, fdivW, ltW, leW, gtW, geW, eqW, neW, rEqq, rNeq, inW, isW, isV, biW, lenD, truW, iSeq, seqD, iRange1, iRange2, rng1, rng2, iEnu, enu1, iZip2, zip2, fLc, tTT, s0, List.map_cons, List.map_nil, List.length_cons, List.length_nil, List.replicate, List.cons_append, List.nil_append, List.getElem?_cons_zero, List.getElem?_cons_succ, List.set_cons_zero, List.set_cons_succ, List.foldr_cons, List.foldr_nil, Nat.zero_add, Nat.reduceAdd, Nat.reduceSub, List.getElem?_nil, true_and, and_true, eq_self, wipeG, Bool.false_eq_true, if_true, if_false, ↓reduceIte]
  refine need_two_ok hA hB ?_
  simp only [wpSs, wpS, wpE, wpA, wpX, wpO, wpT, wpI, wpF, sSeq, sNext, sCont, sRet, sRetN, sRetF, oLst, sRetO, sIf, sDrop, sSet, sSetF, frz1, sFrz, sFrzs, sApp, sExt, sUnp, sRetC, sSetS, sRaise, sFor, xNil, xE, slotW, xS, rvD, rvL, rvS, dCallF, fCallF, dVar, dC, dLst, dNil, dCons, dTup, fLst, dOp, dAnd, dOr, dNot, dIf, dCall, fCall, dIsi, dRev, dSl, rSlD, rRevD, eB, boolD, eChain, eAnd, eOr, eNot, intD, eNeg, ixW, oInt, oNone, lstW, srtW, sLen, sIx, binW, cmpW, subW, modW, rAdd, rMul, powW, fdivW, ltW, leW, gtW, geW, eqW, neW, rEqq, rNeq, inW, isW, isV, biW, lenD, truW, iSeq, seqD, iRange1, iRange2, rng1, rng2, iEnu, enu1, iZip2, zip2, fLc, tTT, s0, List.map_cons, List.map_nil, List.length_cons, List.length_nil, List.replicate, List.cons_append, List.nil_append, List.getElem?_cons_zero, List.getElem?_cons_succ, List.set_cons_zero, List.set_cons_succ, List.foldr_cons, List.foldr_nil, Nat.zero_add, Nat.reduceAdd, Nat.reduceSub, List.getElem?_nil, true_and, and_true, eq_self, wipeG, Bool.false_eq_true, if_true, if_false, ↓reduceIte]
  refine rows_in_ok s hA ?_
  simp only [wpSs, wpS, wpE, wpA, wpX, wpO, wpT, wpI, wpF, sSeq, sNext, sCont, sRet, sRetN, sRetF, oLst, sRetO, sIf, sDrop, sSet, sSetF, frz1, sFrz, sFrzs, sApp, sExt, sUnp, sRetC, sSetS, sRaise, sFor, xNil, xE, slotW, xS, rvD, rvL, rvS, dCallF, fCallF, dVar, dC, dLst, dNil, dCons, dTup, fLst, dOp, dAnd, dOr, dNot, dIf, dCall, fCall, dIsi, dRev, dSl, rSlD, rRevD, eB, boolD, eChain, eAnd, eOr, eNot, intD, eNeg, ixW, oInt, oNone, lstW, srtW, sLen, sIx, binW, cmpW, subW, modW, rAdd, rMul, powW, fdivW, ltW, leW, gtW, geW, eqW, neW, rEqq, rNeq, inW, isW, isV, biW, lenD, truW, iSeq, seqD, iRange1, iRange2, rng1, rng2, iEnu, enu1, iZip2, zip2, fLc, tTT, s0, List.map_cons, List.map_nil, List.length_cons, List.length_nil, List.replicate, List.cons_append, List.nil_append, List.getElem?_cons_zero, List.getElem?_cons_succ, List.set_cons_zero, List.set_cons_succ, List.foldr_cons, List.foldr_nil, Nat.zero_add, Nat.reduceAdd, Nat.reduceSub, List.getElem?_nil, true_and, and_true, eq_self, wipeG, Bool.false_eq_true, if_true, if_false, ↓reduceIte]
  refine forGo_inv rowD (fun l r => ∃ (o : Option PyData), r = [some (.d (spD p n)), some (.d (matT A)), some (.d (matT B)), od o] ∧ (∀ a ∈ l, Row p n a) ∧ l.find? (fun r => !decide (red p B r = zr n)) = beyondM p n A B) ?_ ?_ _ _ ⟨none, rfl, fun a ha => rowsM_row s hA ha, rfl⟩
  · rintro r ⟨o, rfl, _, e⟩
    simp only [wpSs, wpS, wpE, wpA, wpX, wpO, wpT, wpI, wpF, sSeq, sNext, sCont, sRet, sRetN, sRetF, oLst, sRetO, sIf, sDrop, sSet, sSetF, frz1, sFrz, sFrzs, sApp, sExt, sUnp, sRetC, sSetS, sRaise, sFor, xNil, xE, slotW, xS, rvD, rvL, rvS, dCallF, fCallF, dVar, dC, dLst, dNil, dCons, dTup, fLst, dOp, dAnd, dOr, dNot, dIf, dCall, fCall, dIsi, dRev, dSl, rSlD, rRevD, eB, boolD, eChain, eAnd, eOr, eNot, intD, eNeg, ixW, oInt, oNone, lstW, srtW, sLen, sIx, binW, cmpW, subW, modW, rAdd, rMul, powW, fdivW, ltW, leW, gtW, geW, eqW, neW, rEqq, rNeq, inW, isW, isV, biW, lenD, truW, iSeq, seqD, iRange1, iRange2, rng1, rng2, iEnu, enu1, iZip2, zip2, fLc, tTT, s0, List.map_cons, List.map_nil, List.length_cons, List.length_nil, List.replicate, List.cons_append, List.nil_append, List.getElem?_cons_zero, List.getElem?_cons_succ, List.set_cons_zero, List.set_cons_succ, List.foldr_cons, List.foldr_nil, Nat.zero_add, Nat.reduceAdd, Nat.reduceSub, List.getElem?_nil, true_and, and_true, eq_self, wipeG, Bool.false_eq_true, if_true, if_false, ↓reduceIte]
    rw [← e] at h
    exact h
  · rintro y l r K hK ⟨o, rfl, hl, e⟩
    have ry := hl y (.head _)
    simp only [bindT, wpSs, wpS, wpE, wpA, wpX, wpO, wpT, wpI, wpF, sSeq, sNext, sCont, sRet, sRetN, sRetF, oLst, sRetO, sIf, sDrop, sSet, sSetF, frz1, sFrz, sFrzs, sApp, sExt, sUnp, sRetC, sSetS, sRaise, sFor, xNil, xE, slotW, xS, rvD, rvL, rvS, dCallF, fCallF, dVar, dC, dLst, dNil, dCons, dTup, fLst, dOp, dAnd, dOr, dNot, dIf, dCall, fCall, dIsi, dRev, dSl, rSlD, rRevD, eB, boolD, eChain, eAnd, eOr, eNot, intD, eNeg, ixW, oInt, oNone, lstW, srtW, sLen, sIx, binW, cmpW, subW, modW, rAdd, rMul, powW, fdivW, ltW, leW, gtW, geW, eqW, neW, rEqq, rNeq, inW, isW, isV, biW, lenD, truW, iSeq, seqD, iRange1, iRange2, rng1, rng2, iEnu, enu1, iZip2, zip2, fLc, tTT, s0, List.map_cons, List.map_nil, List.length_cons, List.length_nil, List.replicate, List.cons_append, List.nil_append, List.getElem?_cons_zero, List.getElem?_cons_succ, List.set_cons_zero, List.set_cons_succ, List.foldr_cons, List.foldr_nil, Nat.zero_add, Nat.reduceAdd, Nat.reduceSub, List.getElem?_nil, true_and, and_true, eq_self, wipeG, Bool.false_eq_true, if_true, if_false, ↓reduceIte]
    refine held_ok s hB.sys ry ?_
    simp only [wpSs, wpS, wpE, wpA, wpX, wpO, wpT, wpI, wpF, sSeq, sNext, sCont, sRet, sRetN, sRetF, oLst, sRetO, sIf, sDrop, sSet, sSetF, frz1, sFrz, sFrzs, sApp, sExt, sUnp, sRetC, sSetS, sRaise, sFor, xNil, xE, slotW, xS, rvD, rvL, rvS, dCallF, fCallF, dVar, dC, dLst, dNil, dCons, dTup, fLst, dOp, dAnd, dOr, dNot, dIf, dCall, fCall, dIsi, dRev, dSl, rSlD, rRevD, eB, boolD, eChain, eAnd, eOr, eNot, intD, eNeg, ixW, oInt, oNone, lstW, srtW, sLen, sIx, binW, cmpW, subW, modW, rAdd, rMul, powW, fdivW, ltW, leW, gtW, geW, eqW, neW, rEqq, rNeq, inW, isW, isV, biW, lenD, truW, iSeq, seqD, iRange1, iRange2, rng1, rng2, iEnu, enu1, iZip2, zip2, fLc, tTT, s0, List.map_cons, List.map_nil, List.length_cons, List.length_nil, List.replicate, List.cons_append, List.nil_append, List.getElem?_cons_zero, List.getElem?_cons_succ, List.set_cons_zero, List.set_cons_succ, List.foldr_cons, List.foldr_nil, Nat.zero_add, Nat.reduceAdd, Nat.reduceSub, List.getElem?_nil, true_and, and_true, eq_self, wipeG, Bool.false_eq_true, if_true, if_false, ↓reduceIte]
    rw [List.find?_cons] at e
    by_cases c : red p B y = zr n
    · rw [decide_eq_true c] at e ⊢
      simp only [Bool.not_true, Bool.false_eq_true, if_false]
      exact hK _ ⟨some (rowD y), rfl, fun b hb => hl b (.tail _ hb), e⟩
    · rw [decide_eq_false c] at e ⊢
      simp only [Bool.not_false, if_true]
      rw [← e] at h
      exact h
end
end ME

end
section
set_option Elab.async false
set_option linter.all false
set_option autoImplicit false
namespace ME
open MA
section
variable {p : Int} {n : Nat} {A B C : List Rw} {a u v w : Rw}
/-! ### plain laws of joined and met parts -/
abbrev Sub (p : Int) (n : Nat) (A B : List Rw) : Prop := ∀ v, Span p n A v → Span p n B v
theorem join_part (s : Sp p n) (hA : Part p n A) (hB : Part p n B) : Part p n (joinM p A B) ∧ ∀ v, Span p n (joinM p A B) v ↔ Span p n (A ++ B) v := by
  obtain ⟨h1, h2, _⟩ := reduced_ok s.pr (rows_app hA.sys.rows hB.sys.rows)
  exact ⟨h1, h2⟩
theorem mem_common (s : Sp p n) (hA : Part p n A) (hB : Part p n B) (v : Rw) : v ∈ commonM p n A B ↔ Span p n A v ∧ Span p n B v := by
  unfold commonM
  rw [List.mem_filter, mem_rowsM s.p0 hA.sys.rows]
  refine and_congr_right fun h => ?_
  rw [decide_eq_true_eq, span_iff s.p0 hB.sys (h.row s.p0 hA.sys.rows)]
theorem met_part (s : Sp p n) (hA : Part p n A) (hB : Part p n B) : Part p n (metM p n A B) ∧ ∀ v, Span p n (metM p n A B) v ↔ Span p n A v ∧ Span p n B v := by
  have hr := common_row (B := B) s hA
  obtain ⟨h1, h2, _⟩ := reduced_ok s.pr hr
  refine ⟨h1, fun v => (h2 v).trans ⟨fun h => ?_, fun h => .mem s.p0 hr ((mem_common s hA hB v).mpr h)⟩⟩
  exact ⟨h.mono s.p0 hA.sys.rows fun a ha => ((mem_common s hA hB a).mp ha).1, h.mono s.p0 hB.sys.rows fun a ha => ((mem_common s hA hB a).mp ha).2⟩
theorem rk_part (s : Sp p n) (hA : Part p n A) : rk p A = A.length := rk_sys s.pr hA.sys
theorem dim_two (s : Sp p n) (hA : Part p n A) (hB : Part p n B) : (joinM p A B).length + (metM p n A B).length = A.length + B.length := by
  obtain ⟨hJ, eJ⟩ := join_part s hA hB
  obtain ⟨hM, eM⟩ := met_part s hA hB
  obtain ⟨M, rM, sM, l⟩ := meet_dim s.pr hA.sys.rows hB.sys.rows
  have e1 : rk p M = (metM p n A B).length := by
    rw [← rk_part s hM]
    exact rk_congr s.pr rM hM.sys.rows fun v => (sM v).trans (eM v).symm
  have e2 : rk p (A ++ B) = (joinM p A B).length := by
    rw [← rk_part s hJ]
    exact rk_congr s.pr (rows_app hA.sys.rows hB.sys.rows) hJ.sys.rows fun v => (eJ v).symm
  rw [rk_part s hA, rk_part s hB] at l
  omega
theorem span_comm : Span p n (A ++ B) v ↔ Span p n (B ++ A) v := span_perm List.perm_append_comm
theorem join_comm (s : Sp p n) (hA : Part p n A) (hB : Part p n B) : joinM p B A = joinM p A B := by
  obtain ⟨h1, e1⟩ := join_part s hA hB
  obtain ⟨h2, e2⟩ := join_part s hB hA
  exact part_same s.p0 h2 h1 fun v => (e2 v).trans (span_comm.trans (e1 v).symm)
theorem met_comm (s : Sp p n) (hA : Part p n A) (hB : Part p n B) : metM p n B A = metM p n A B := by
  obtain ⟨h1, e1⟩ := met_part s hA hB
  obtain ⟨h2, e2⟩ := met_part s hB hA
  exact part_same s.p0 h2 h1 fun v => (e2 v).trans ((and_comm).trans (e1 v).symm)
theorem within_iff (s : Sp p n) (hA : Part p n A) (hB : Part p n B) : withinB p n A B = true ↔ Sub p n A B := by
  unfold withinB
  rw [List.all_eq_true]
  constructor
  · intro h v hv
    exact hv.mono s.p0 hB.sys.rows fun a ha => (span_iff s.p0 hB.sys (hA.sys.rows a ha)).mpr (of_decide_eq_true (h a ha))
  · intro h a ha
    exact decide_eq_true ((span_iff s.p0 hB.sys (hA.sys.rows a ha)).mp (h a (.mem s.p0 hA.sys.rows ha)))
theorem sub_left (s : Sp p n) (hA : Part p n A) (hB : Part p n B) : Sub p n A (joinM p A B) := fun v hv => ((join_part s hA hB).2 v).mpr (hv.sub fun a ha => List.mem_append.mpr (.inl ha))
theorem sub_right (s : Sp p n) (hA : Part p n A) (hB : Part p n B) : Sub p n B (joinM p A B) := fun v hv => ((join_part s hA hB).2 v).mpr (hv.sub fun a ha => List.mem_append.mpr (.inr ha))
theorem met_left (s : Sp p n) (hA : Part p n A) (hB : Part p n B) : Sub p n (metM p n A B) A := fun v hv => (((met_part s hA hB).2 v).mp hv).1
theorem met_right (s : Sp p n) (hA : Part p n A) (hB : Part p n B) : Sub p n (metM p n A B) B := fun v hv => (((met_part s hA hB).2 v).mp hv).2
theorem join_least (s : Sp p n) (hA : Part p n A) (hB : Part p n B) (hC : Part p n C) (h1 : Sub p n A C) (h2 : Sub p n B C) : Sub p n (joinM p A B) C := fun v hv =>
  (((join_part s hA hB).2 v).mp hv).mono s.p0 hC.sys.rows fun a ha => (List.mem_append.mp ha).elim (fun h => h1 a (.mem s.p0 hA.sys.rows h)) fun h => h2 a (.mem s.p0 hB.sys.rows h)
theorem met_most (s : Sp p n) (hA : Part p n A) (hB : Part p n B) (h1 : Sub p n C A) (h2 : Sub p n C B) : Sub p n C (metM p n A B) := fun v hv => ((met_part s hA hB).2 v).mpr ⟨h1 v hv, h2 v hv⟩
theorem sub_antisymm (s : Sp p n) (hA : Part p n A) (hB : Part p n B) (h1 : Sub p n A B) (h2 : Sub p n B A) : A = B := part_same s.p0 hA hB fun v => ⟨h1 v, h2 v⟩
theorem join_of_sub (s : Sp p n) (hA : Part p n A) (hB : Part p n B) (h : Sub p n B A) : joinM p A B = A :=
  sub_antisymm s (join_part s hA hB).1 hA (join_least s hA hB hA (fun _ h => h) h) (sub_left s hA hB)
theorem met_of_sub (s : Sp p n) (hA : Part p n A) (hB : Part p n B) (h : Sub p n A B) : metM p n A B = A :=
  sub_antisymm s (met_part s hA hB).1 hA (met_left s hA hB) (met_most s hA hB (fun _ h => h) h)
theorem within_join (s : Sp p n) (hA : Part p n A) (hB : Part p n B) : withinB p n A B = decide (joinM p A B = B) := by
  rw [Bool.eq_iff_iff, within_iff s hA hB, decide_eq_true_eq]
  constructor
  · intro h
    rw [← join_comm s hA hB]
    exact join_of_sub s hB hA h
  · intro h
    have := sub_left s hA hB
    rwa [h] at this
theorem within_met (s : Sp p n) (hA : Part p n A) (hB : Part p n B) : withinB p n A B = decide (metM p n A B = A) := by
  rw [Bool.eq_iff_iff, within_iff s hA hB, decide_eq_true_eq]
  constructor
  · exact met_of_sub s hA hB
  · intro h
    have := met_right s hA hB
    rwa [h] at this
theorem join_assoc (s : Sp p n) (hA : Part p n A) (hB : Part p n B) (hC : Part p n C) : joinM p (joinM p A B) C = joinM p A (joinM p B C) := by
  have hAB := (join_part s hA hB).1
  have hBC := (join_part s hB hC).1
  have h1 := (join_part s hAB hC).1
  have h2 := (join_part s hA hBC).1
  refine sub_antisymm s h1 h2 (join_least s hAB hC h2 (join_least s hA hB h2 (sub_left s hA hBC) ?_) ?_) (join_least s hA hBC h1 ?_ (join_least s hB hC h1 ?_ (sub_right s hAB hC)))
  · exact fun v h => sub_right s hA hBC v (sub_left s hB hC v h)
  · exact fun v h => sub_right s hA hBC v (sub_right s hB hC v h)
  · exact fun v h => sub_left s hAB hC v (sub_left s hA hB v h)
  · exact fun v h => sub_left s hAB hC v (sub_right s hA hB v h)
theorem met_assoc (s : Sp p n) (hA : Part p n A) (hB : Part p n B) (hC : Part p n C) : metM p n (metM p n A B) C = metM p n A (metM p n B C) := by
  obtain ⟨hAB, e1⟩ := met_part s hA hB
  obtain ⟨hBC, e2⟩ := met_part s hB hC
  obtain ⟨h1, e3⟩ := met_part s hAB hC
  obtain ⟨h2, e4⟩ := met_part s hA hBC
  refine part_same s.p0 h1 h2 fun v => ?_
  rw [e3, e4, e1, e2, and_assoc]
/-- A + (B ∩ W) = (A + B) ∩ W where A lies in W -/
theorem modular (s : Sp p n) (hA : Part p n A) (hB : Part p n B) (hC : Part p n C) (h : Sub p n A C) : joinM p A (metM p n B C) = metM p n (joinM p A B) C := by
  obtain ⟨hBC, e1⟩ := met_part s hB hC
  obtain ⟨hAB, e2⟩ := join_part s hA hB
  obtain ⟨h1, e3⟩ := join_part s hA hBC
  obtain ⟨h2, e4⟩ := met_part s hAB hC
  refine sub_antisymm s h1 h2 (join_least s hA hBC h2 ?_ ?_) fun v hv => ?_
  · exact met_most s hAB hC (sub_left s hA hB) h
  · exact met_most s hAB hC (fun v hv => sub_right s hA hB v (met_left s hB hC v hv)) (met_right s hB hC)
  · obtain ⟨v1, v2⟩ := (e4 v).mp hv
    obtain ⟨a, b, ha, hb, rfl⟩ := (span_app s.p0 hA.sys.rows hB.sys.rows).mp ((e2 v).mp v1)
    have ra := ha.row s.p0 hA.sys.rows
    have rb := hb.row s.p0 hB.sys.rows
    have hbC : Span p n C b := by
      have q := v2.plus s.p0 hC.sys.rows (k := -1) (h a ha)
      have e : addm p (addm p a 1 b) (-1) a = b := by
        refine ext_at (len_addm (len_addm ra.1 rb.1) ra.1) rb.1 fun i _ => ?_
        rw [at_addm (len_addm ra.1 rb.1) ra.1, at_addm ra.1 rb.1, m1]
        have e : at_ a i + 1 * at_ b i + -1 * at_ a i = at_ b i := by omega
        rw [e, rb.md s.p0]
      rwa [e] at q
    exact (e3 _).mpr ((span_app s.p0 hA.sys.rows hBC.sys.rows).mpr ⟨a, b, ha, (e1 b).mpr ⟨hb, hbC⟩, rfl⟩)
theorem held_met (s : Sp p n) (hA : Part p n A) (hB : Part p n B) (hv : Row p n v) : decide (red p (metM p n A B) v = zr n) = (decide (red p A v = zr n) && decide (red p B v = zr n)) := by
  obtain ⟨hM, e⟩ := met_part s hA hB
  rw [Bool.eq_iff_iff, Bool.and_eq_true, decide_eq_true_eq, decide_eq_true_eq, decide_eq_true_eq, ← span_iff s.p0 hM.sys hv, ← span_iff s.p0 hA.sys hv, ← span_iff s.p0 hB.sys hv]
  exact e v
theorem rows_met (s : Sp p n) (hA : Part p n A) (hB : Part p n B) : rowsM p n (metM p n A B) = (rowsM p n A).filter fun r => decide (red p B r = zr n) := by
  obtain ⟨hM, e⟩ := met_part s hA hB
  refine lt_same (rowsM_lt s.p0 hM.sys) ((rowsM_lt s.p0 hA.sys).filter _) fun v => ?_
  rw [mem_rowsM s.p0 hM.sys.rows, e]
  exact (mem_common s hA hB v).symm
theorem beyond_none (s : Sp p n) (hA : Part p n A) (hB : Part p n B) (h : beyondM p n A B = none) : withinB p n A B = true := by
  rw [within_iff s hA hB]
  intro v hv
  have q := List.find?_eq_none.mp h v ((mem_rowsM s.p0 hA.sys.rows v).mpr hv)
  rw [span_iff s.p0 hB.sys (hv.row s.p0 hA.sys.rows)]
  simpa using q
theorem beyond_some (s : Sp p n) (hA : Part p n A) (hB : Part p n B) (h : beyondM p n A B = some v) : Row p n v ∧ decide (red p A v = zr n) = true ∧ decide (red p B v = zr n) = false ∧ withinB p n A B = false := by
  have m := (mem_rowsM s.p0 hA.sys.rows v).mp (List.mem_of_find?_eq_some h)
  have q := List.find?_some h
  have rv := m.row s.p0 hA.sys.rows
  refine ⟨rv, decide_eq_true ((span_iff s.p0 hA.sys rv).mp m), by simpa using q, ?_⟩
  cases c : withinB p n A B with
  | false => rfl
  | true =>
    have := (within_iff s hA hB).mp c v m
    rw [span_iff s.p0 hB.sys rv] at this
    simp [this] at q
/-! ### the law's own way to a part -/
def lawClr (p : Int) (j : Nat) (one f : Rw) : Rw := addm p f (-(at_ f j)) one
structure LawInv (p : Int) (n : Nat) (rows rest found : List Rw) (j : Nat) : Prop where
  rr : ∀ r ∈ rest, Row p n r ∧ ∀ i, i < j → at_ r i = 0
  sys : Sys p n found
  lt : ∀ f ∈ found, hx f < j
  up : found.Pairwise fun a b => hx a < hx b
  sp : ∀ v, Span p n (found ++ rest) v ↔ Span p n rows v
theorem law_skip {rows rest found : List Rw} {j : Nat} (I : LawInv p n rows rest found j) (h : rest.filter (fun r => !decide (at_ r j = 0)) = []) : LawInv p n rows rest found (j + 1) := by
  refine ⟨fun r hr => ⟨(I.rr r hr).1, fun i hi => ?_⟩, I.sys, fun f hf => by have := I.lt f hf; omega, I.up, I.sp⟩
  by_cases c : i = j
  · have q := List.filter_eq_nil_iff.mp h r hr
    rw [c]
    simpa using q
  · exact (I.rr r hr).2 i (by omega)
theorem law_step (s : Sp p n) {rows rest found : List Rw} {j : Nat} {r0 : Rw} {rs : List Rw} (hj : j < n) (I : LawInv p n rows rest found j) (h : rest.filter (fun r => !decide (at_ r j = 0)) = r0 :: rs) :
    Row p n r0 ∧ 0 < at_ r0 j ∧ at_ r0 j < p ∧ Row p n (scal p (inv p (at_ r0 j)) r0) ∧
    LawInv p n rows (rest.map (lawClr p j (scal p (inv p (at_ r0 j)) r0))) (found.map (lawClr p j (scal p (inv p (at_ r0 j)) r0)) ++ [scal p (inv p (at_ r0 j)) r0]) (j + 1) := by
  have m0 : r0 ∈ rest.filter (fun r => !decide (at_ r j = 0)) := by rw [h]; exact .head _
  obtain ⟨mr, nz⟩ := List.mem_filter.mp m0
  have nz : at_ r0 j ≠ 0 := by simpa using nz
  obtain ⟨R0, z0⟩ := I.rr r0 mr
  have hh : hx r0 = j := hx_eq z0 nz
  have lim := R0.lim s.p0 j
  obtain ⟨ld, hd⟩ := lead_scal s.pr R0 (by rw [hh]; exact hj)
  rw [hh] at ld hd
  have hin : Span p n (found ++ rest) (scal p (inv p (at_ r0 j)) r0) := by
    rw [scal_eq s.p0 R0]
    exact .add _ .zero (List.mem_append.mpr (.inr mr))
  generalize hw : scal p (inv p (at_ r0 j)) r0 = w at *
  have ec : ∀ f, lawClr p j w f = clr p w f := fun f => by
    unfold lawClr clr
    rw [hd, Int.zero_sub]
  have ef : lawClr p j w = clr p w := funext ec
  refine ⟨R0, by omega, lim.2, ld.row, ?_⟩
  rw [ef]
  have hf0 : ∀ f ∈ found, at_ w (hx f) = 0 := fun f hf => at_before (by rw [hd]; exact I.lt f hf)
  have rrest : ∀ r ∈ rest, Row p n r := fun r hr => (I.rr r hr).1
  refine ⟨fun r hr => ?_, sys_put s.p0 I.sys ld hf0, fun f hf => ?_, ?_, fun v => ?_⟩
  · obtain ⟨r1, hr1, rfl⟩ := List.mem_map.mp hr
    obtain ⟨R1, z1⟩ := I.rr r1 hr1
    refine ⟨R1.addm s.p0 ld.row, fun i hi => ?_⟩
    by_cases c : i = j
    · rw [c, ← hd]
      exact clr_own R1 ld
    · rw [clr_at s.p0 R1 ld.row (at_before (by omega))]
      exact z1 i (by omega)
  · rcases List.mem_append.mp hf with hf | hf
    · obtain ⟨f1, hf1, rfl⟩ := List.mem_map.mp hf
      rw [(lead_clr s.p0 (I.sys.lead f1 hf1) ld (hf0 f1 hf1)).2]
      have := I.lt f1 hf1
      omega
    · rw [List.mem_singleton.mp hf, hd]
      omega
  · rw [List.pairwise_append]
    refine ⟨?_, List.pairwise_singleton _ _, fun a ha b hb => ?_⟩
    · rw [List.pairwise_map]
      refine List.Pairwise.imp_of_mem (fun {a b} ha hb q => ?_) I.up
      rw [(lead_clr s.p0 (I.sys.lead a ha) ld (hf0 a ha)).2, (lead_clr s.p0 (I.sys.lead b hb) ld (hf0 b hb)).2]
      exact q
    · obtain ⟨f1, hf1, rfl⟩ := List.mem_map.mp ha
      rw [(lead_clr s.p0 (I.sys.lead f1 hf1) ld (hf0 f1 hf1)).2, List.mem_singleton.mp hb, hd]
      exact I.lt f1 hf1
  · rw [← I.sp v]
    have e1 : ∀ v, Span p n (found.map (clr p w) ++ [w] ++ rest.map (clr p w)) v ↔ Span p n ((found ++ rest).map (clr p w) ++ [w]) v := fun v => by
      have k : ∀ x, x ∈ found.map (clr p w) ++ [w] ++ rest.map (clr p w) ↔ x ∈ (found ++ rest).map (clr p w) ++ [w] := fun x => by
        simp only [List.map_append, List.mem_append]
        constructor
        · rintro ((h | h) | h)
          · exact .inl (.inl h)
          · exact .inr h
          · exact .inl (.inr h)
        · rintro ((h | h) | h)
          · exact .inl (.inl h)
          · exact .inr h
          · exact .inl (.inr h)
      exact ⟨fun h => h.sub fun a ha => (k a).mp ha, fun h => h.sub fun a ha => (k a).mpr ha⟩
    have hr := rows_app I.sys.rows rrest
    rw [e1, span_put s.p0 hr ld.row, span_snoc_mem s.p0 hr hin]
theorem law_end (s : Sp p n) {rows rest found : List Rw} (I : LawInv p n rows rest found n) : Part p n found ∧ ∀ v, Span p n found v ↔ Span p n rows v := by
  refine ⟨⟨I.sys, I.up⟩, fun v => (Iff.trans ?_ (I.sp v))⟩
  refine ⟨fun h => h.sub fun a ha => List.mem_append.mpr (.inl ha), fun h => h.mono s.p0 I.sys.rows fun a ha => ?_⟩
  rcases List.mem_append.mp ha with ha | ha
  · exact .mem s.p0 I.sys.rows ha
  · obtain ⟨R1, z1⟩ := I.rr a ha
    have : a = zr n := ext_at R1.1 zr_len fun i hi => by rw [z1 i hi, at_zr]
    rw [this]
    exact .zero
end
end ME

end
section
set_option Elab.async false
set_option linter.all false
set_option maxRecDepth 100000
set_option autoImplicit false
set_option maxHeartbeats 4000000
namespace ME
open PySem DP MA
/-! ### draws -/
theorem take_go {k : Nat} {m : Int} {Q : RV → Prop} {E : Str → Prop} (h0 : 0 < m) (h1 : m < 1073741824) (h : ∀ j : Int, 0 ≤ j → j < m → Q (.d (.int j))) : wpFn DB.Γ (k + 1) DB.law_take [.m .st, .d (.int m)] Q E := by
  show fdW (wpFn DB.Γ k) (k + 1) (DB.Γ DB.law_take) _ Q E
  rw [DB.g_law_take]
  exact ⟨by omega, ⟨h0, h1⟩, h⟩
/-- a comprehension of things drawn -/
theorem lcGo_any {α β : Type} {i : Nat} {te : TD} {r : SEnv} {Q : List PyData → Prop} (g : α → PyData) (f : β → PyData) (P : β → Prop) : ∀ (l : List α) (acc : List PyData),
    (∀ x ∈ l, ∀ K : PyData → Prop, (∀ y, P y → K (f y)) → te (r.set i (some (.d (g x)))) K) → (∀ ys : List β, ys.length = l.length → (∀ y ∈ ys, P y) → Q (acc ++ ys.map f)) → lcGo (.one i) tTT te r Q (l.map g) acc
  | [], acc, _, h => by simpa [lcGo] using h [] rfl (fun _ h => (List.not_mem_nil h).elim)
  | x :: l, acc, h2, h => by
    refine h2 x (.head _) _ fun y hy => ?_
    refine lcGo_any g f P l _ (fun z hz => h2 z (.tail _ hz)) fun ys hl hP => ?_
    have := h (y :: ys) (by simp [hl]) fun z hz => by
      cases hz with
      | head => exact hy
      | tail _ hz => exact hP z hz
    simpa using this
theorem lcGo_twoC {α : Type} {i j : Nat} {tt : TTD} {te : TD} {r : SEnv} {Q : List PyData → Prop} (g g' f : α → PyData) (c : α → Bool) : ∀ (l : List α) (acc : List PyData),
    (∀ x ∈ l, ∀ K : Bool → Prop, K (c x) → tt ((r.set i (some (.d (g x)))).set j (some (.d (g' x)))) K) → (∀ x ∈ l, c x = true → ∀ K : PyData → Prop, K (f x) → te ((r.set i (some (.d (g x)))).set j (some (.d (g' x)))) K) → Q (acc ++ (l.filter c).map f) → lcGo (.two i j) tt te r Q (l.map fun x => .tuple [g x, g' x]) acc
  | [], acc, _, _, h => by simpa [lcGo] using h
  | x :: l, acc, h1, h2, h => by
    refine h1 x (.head _) _ ?_
    have ih := fun acc => lcGo_twoC g g' f c l acc (tt := tt) (te := te) (r := r) (Q := Q) (i := i) (j := j) (fun y hy => h1 y (.tail _ hy)) (fun y hy => h2 y (.tail _ hy))
    cases q : c x with
    | true =>
      rw [if_pos rfl]
      refine h2 x (.head _) q _ (ih _ ?_)
      rw [List.filter_cons, q] at h
      simpa using h
    | false =>
      rw [if_neg (by decide)]
      refine ih _ ?_
      rw [List.filter_cons, q] at h
      simpa using h
theorem atD_map {α : Type} {f : α → PyData} {l : List α} {j : Int} (h0 : 0 ≤ j) (h1 : j < l.length) : ∃ x ∈ l, atD (l.map f) j = some (f x) := by
  refine ⟨l[j.toNat]'(by omega), List.getElem_mem _, ?_⟩
  unfold atD L2.ixN
  rw [List.length_map, if_pos h0, if_pos h1]
  show (l.map f)[j.toNat]? = _
  rw [List.getElem?_map, List.getElem?_eq_getElem (by omega)]
  rfl
section
variable {k : Nat} {Q : RV → Prop} {E : Str → Prop} {p : Int} {n : Nat} {A B C : List Rw} {a u v w : Rw}
theorem cell_at_ok (ns : List Int) (i : Nat) (h : ∀ x, Q (.d (.int x))) : wpFn DB.Γ (k + 1) DB.law_cell_at_k11 [.scr ns, .d (.int i)] Q E := by
  refine fn_go DB.g_law_cell_at_k11 ?_
  simp only [DB.b_law_cell_at_k11, wpSs, wpS, wpE, wpA, wpX, wpO, wpT, wpI, wpF, sSeq, sNext, sCont, sRet, sRetN, sRetF, oLst, sRetO, sIf, sDrop, sSet, sSetF, frz1, sFrz, sFrzs, sApp, sExt, sUnp, sRetC, sSetS, sRaise, sFor, xNil, xE, slotW, xS, rvD, rvL, rvS, dCallF, fCallF, dVar, dC, dLst, dNil, dCons, dTup, fLst, dOp, dAnd, dOr, dNot, dIf, dCall, fCall, dIsi, dRev, dSl, rSlD, rRevD, eB, boolD, eChain, eAnd, eOr, eNot, intD, eNeg, ixW, oInt, oNone, lstW, srtW, sLen, sIx, binW, cmpW, subW, modW, rAdd, rMul, powW, fdivW, ltW, leW, gtW, geW, eqW, neW, rEqq, rNeq, inW, isW, isV, biW, lenD, truW, iSeq, seqD, iRange1, iRange2, rng1, rng2, iEnu, enu1, iZip2, zip2, fLc, tTT, s0, List.map_cons, List.map_nil, List.length_cons, List.length_nil, List.replicate, List.cons_append, List.nil_append, List.getElem?_cons_zero, List.getElem?_cons_succ, List.set_cons_zero, List.set_cons_succ, List.foldr_cons, List.foldr_nil, Nat.zero_add, Nat.reduceAdd, Nat.reduceSub, List.getElem?_nil, true_and, and_true, eq_self, wipeG, Bool.false_eq_true, if_true, if_false, ↓reduceIte]
  by_cases c : (i : Int) < ns.length
  · rw [decide_eq_true c]
    simp only [wpSs, wpS, wpE, wpA, wpX, wpO, wpT, wpI, wpF, sSeq, sNext, sCont, sRet, sRetN, sRetF, oLst, sRetO, sIf, sDrop, sSet, sSetF, frz1, sFrz, sFrzs, sApp, sExt, sUnp, sRetC, sSetS, sRaise, sFor, xNil, xE, slotW, xS, rvD, rvL, rvS, dCallF, fCallF, dVar, dC, dLst, dNil, dCons, dTup, fLst, dOp, dAnd, dOr, dNot, dIf, dCall, fCall, dIsi, dRev, dSl, rSlD, rRevD, eB, boolD, eChain, eAnd, eOr, eNot, intD, eNeg, ixW, oInt, oNone, lstW, srtW, sLen, sIx, binW, cmpW, subW, modW, rAdd, rMul, powW, fdivW, ltW, leW, gtW, geW, eqW, neW, rEqq, rNeq, inW, isW, isV, biW, lenD, truW, iSeq, seqD, iRange1, iRange2, rng1, rng2, iEnu, enu1, iZip2, zip2, fLc, tTT, s0, List.map_cons, List.map_nil, List.length_cons, List.length_nil, List.replicate, List.cons_append, List.nil_append, List.getElem?_cons_zero, List.getElem?_cons_succ, List.set_cons_zero, List.set_cons_succ, List.foldr_cons, List.foldr_nil, Nat.zero_add, Nat.reduceAdd, Nat.reduceSub, List.getElem?_nil, true_and, and_true, eq_self, wipeG, Bool.false_eq_true, if_true, if_false, ↓reduceIte]
    have e : atZ ns (i : Int) = some (ns[i]'(by omega)) := by
      unfold atZ L2.ixN
      rw [if_pos (by omega), if_pos c]
      show ns[(i : Int).toNat]? = _
      rw [Int.toNat_natCast, List.getElem?_eq_getElem (by omega)]
    rw [e]
    exact h _
  · rw [decide_eq_false c]
    simp only [wpSs, wpS, wpE, wpA, wpX, wpO, wpT, wpI, wpF, sSeq, sNext, sCont, sRet, sRetN, sRetF, oLst, sRetO, sIf, sDrop, sSet, sSetF, frz1, sFrz, sFrzs, sApp, sExt, sUnp, sRetC, sSetS, sRaise, sFor, xNil, xE, slotW, xS, rvD, rvL, rvS, dCallF, fCallF, dVar, dC, dLst, dNil, dCons, dTup, fLst, dOp, dAnd, dOr, dNot, dIf, dCall, fCall, dIsi, dRev, dSl, rSlD, rRevD, eB, boolD, eChain, eAnd, eOr, eNot, intD, eNeg, ixW, oInt, oNone, lstW, srtW, sLen, sIx, binW, cmpW, subW, modW, rAdd, rMul, powW, fdivW, ltW, leW, gtW, geW, eqW, neW, rEqq, rNeq, inW, isW, isV, biW, lenD, truW, iSeq, seqD, iRange1, iRange2, rng1, rng2, iEnu, enu1, iZip2, zip2, fLc, tTT, s0, List.map_cons, List.map_nil, List.length_cons, List.length_nil, List.replicate, List.cons_append, List.nil_append, List.getElem?_cons_zero, List.getElem?_cons_succ, List.set_cons_zero, List.set_cons_succ, List.foldr_cons, List.foldr_nil, Nat.zero_add, Nat.reduceAdd, Nat.reduceSub, List.getElem?_nil, true_and, and_true, eq_self, wipeG, Bool.false_eq_true, if_true, if_false, ↓reduceIte]
    exact h _
theorem state_ok (ns : List Int) (i : Nat) {P : Prop} (h : P) : wpFn DB.Γ (k + 2) DB.law_state_k11 [.scr ns, .d (.int i)] (rvS P) E := by
  refine fn_go DB.g_law_state_k11 ?_
  simp only [DB.b_law_state_k11, wpSs, wpS, wpE, wpA, wpX, wpO, wpT, wpI, wpF, sSeq, sNext, sCont, sRet, sRetN, sRetF, oLst, sRetO, sIf, sDrop, sSet, sSetF, frz1, sFrz, sFrzs, sApp, sExt, sUnp, sRetC, sSetS, sRaise, sFor, xNil, xE, slotW, xS, rvD, rvL, rvS, dCallF, fCallF, dVar, dC, dLst, dNil, dCons, dTup, fLst, dOp, dAnd, dOr, dNot, dIf, dCall, fCall, dIsi, dRev, dSl, rSlD, rRevD, eB, boolD, eChain, eAnd, eOr, eNot, intD, eNeg, ixW, oInt, oNone, lstW, srtW, sLen, sIx, binW, cmpW, subW, modW, rAdd, rMul, powW, fdivW, ltW, leW, gtW, geW, eqW, neW, rEqq, rNeq, inW, isW, isV, biW, lenD, truW, iSeq, seqD, iRange1, iRange2, rng1, rng2, iEnu, enu1, iZip2, zip2, fLc, tTT, s0, List.map_cons, List.map_nil, List.length_cons, List.length_nil, List.replicate, List.cons_append, List.nil_append, List.getElem?_cons_zero, List.getElem?_cons_succ, List.set_cons_zero, List.set_cons_succ, List.foldr_cons, List.foldr_nil, Nat.zero_add, Nat.reduceAdd, Nat.reduceSub, List.getElem?_nil, true_and, and_true, eq_self, wipeG, Bool.false_eq_true, if_true, if_false, ↓reduceIte]
  refine cell_at_ok ns i fun x => ?_
  simp only [wpSs, wpS, wpE, wpA, wpX, wpO, wpT, wpI, wpF, sSeq, sNext, sCont, sRet, sRetN, sRetF, oLst, sRetO, sIf, sDrop, sSet, sSetF, frz1, sFrz, sFrzs, sApp, sExt, sUnp, sRetC, sSetS, sRaise, sFor, xNil, xE, slotW, xS, rvD, rvL, rvS, dCallF, fCallF, dVar, dC, dLst, dNil, dCons, dTup, fLst, dOp, dAnd, dOr, dNot, dIf, dCall, fCall, dIsi, dRev, dSl, rSlD, rRevD, eB, boolD, eChain, eAnd, eOr, eNot, intD, eNeg, ixW, oInt, oNone, lstW, srtW, sLen, sIx, binW, cmpW, subW, modW, rAdd, rMul, powW, fdivW, ltW, leW, gtW, geW, eqW, neW, rEqq, rNeq, inW, isW, isV, biW, lenD, truW, iSeq, seqD, iRange1, iRange2, rng1, rng2, iEnu, enu1, iZip2, zip2, fLc, tTT, s0, List.map_cons, List.map_nil, List.length_cons, List.length_nil, List.replicate, List.cons_append, List.nil_append, List.getElem?_cons_zero, List.getElem?_cons_succ, List.set_cons_zero, List.set_cons_succ, List.foldr_cons, List.foldr_nil, Nat.zero_add, Nat.reduceAdd, Nat.reduceSub, List.getElem?_nil, true_and, and_true, eq_self, wipeG, Bool.false_eq_true, if_true, if_false, ↓reduceIte]
  have e : (10 : Int) ^ (18 : Int).toNat = 1000000000000000000 := by decide
  refine ⟨⟨by decide, by decide, by decide⟩, ?_⟩
  rw [e]
  by_cases c : (1000000000000000000 : Int) ≤ x
  · rw [decide_eq_true c]
    simp only [wpSs, wpS, wpE, wpA, wpX, wpO, wpT, wpI, wpF, sSeq, sNext, sCont, sRet, sRetN, sRetF, oLst, sRetO, sIf, sDrop, sSet, sSetF, frz1, sFrz, sFrzs, sApp, sExt, sUnp, sRetC, sSetS, sRaise, sFor, xNil, xE, slotW, xS, rvD, rvL, rvS, dCallF, fCallF, dVar, dC, dLst, dNil, dCons, dTup, fLst, dOp, dAnd, dOr, dNot, dIf, dCall, fCall, dIsi, dRev, dSl, rSlD, rRevD, eB, boolD, eChain, eAnd, eOr, eNot, intD, eNeg, ixW, oInt, oNone, lstW, srtW, sLen, sIx, binW, cmpW, subW, modW, rAdd, rMul, powW, fdivW, ltW, leW, gtW, geW, eqW, neW, rEqq, rNeq, inW, isW, isV, biW, lenD, truW, iSeq, seqD, iRange1, iRange2, rng1, rng2, iEnu, enu1, iZip2, zip2, fLc, tTT, s0, List.map_cons, List.map_nil, List.length_cons, List.length_nil, List.replicate, List.cons_append, List.nil_append, List.getElem?_cons_zero, List.getElem?_cons_succ, List.set_cons_zero, List.set_cons_succ, List.foldr_cons, List.foldr_nil, Nat.zero_add, Nat.reduceAdd, Nat.reduceSub, List.getElem?_nil, true_and, and_true, eq_self, wipeG, Bool.false_eq_true, if_true, if_false, ↓reduceIte]
    refine ⟨⟨by decide, by decide, by decide⟩, small (by omega), ?_⟩
    exact ⟨⟨by omega, by simp⟩, h⟩
  · rw [decide_eq_false c]
    simp only [wpSs, wpS, wpE, wpA, wpX, wpO, wpT, wpI, wpF, sSeq, sNext, sCont, sRet, sRetN, sRetF, oLst, sRetO, sIf, sDrop, sSet, sSetF, frz1, sFrz, sFrzs, sApp, sExt, sUnp, sRetC, sSetS, sRaise, sFor, xNil, xE, slotW, xS, rvD, rvL, rvS, dCallF, fCallF, dVar, dC, dLst, dNil, dCons, dTup, fLst, dOp, dAnd, dOr, dNot, dIf, dCall, fCall, dIsi, dRev, dSl, rSlD, rRevD, eB, boolD, eChain, eAnd, eOr, eNot, intD, eNeg, ixW, oInt, oNone, lstW, srtW, sLen, sIx, binW, cmpW, subW, modW, rAdd, rMul, powW, fdivW, ltW, leW, gtW, geW, eqW, neW, rEqq, rNeq, inW, isW, isV, biW, lenD, truW, iSeq, seqD, iRange1, iRange2, rng1, rng2, iEnu, enu1, iZip2, zip2, fLc, tTT, s0, List.map_cons, List.map_nil, List.length_cons, List.length_nil, List.replicate, List.cons_append, List.nil_append, List.getElem?_cons_zero, List.getElem?_cons_succ, List.set_cons_zero, List.set_cons_succ, List.foldr_cons, List.foldr_nil, Nat.zero_add, Nat.reduceAdd, Nat.reduceSub, List.getElem?_nil, true_and, and_true, eq_self, wipeG, Bool.false_eq_true, if_true, if_false, ↓reduceIte]
    refine ⟨by decide, small (by omega), ?_⟩
    exact ⟨⟨by omega, fun _ => by omega⟩, h⟩
theorem row_of_ok (s : Sp p n) (h : ∀ v, Row p n v → Q (.d (rowD v))) : wpFn DB.Γ (k + 2) DB.law_row_of_k21 [.m .st, .d (spD p n)] Q E := by
  have p0 := s.p0
  have p5 := s.p5
  have n6 := s.n6
  refine fn_go DB.g_law_row_of_k21 ?_
  simp only [DB.b_law_row_of_k21, spD, wpSs, wpS, wpE, wpA, wpX, wpO, wpT, wpI, wpF, sSeq, sNext, sCont, sRet, sRetN, sRetF, oLst, sRetO, sIf, sDrop, sSet, sSetF, frz1, sFrz, sFrzs, sApp, sExt, sUnp, sRetC, sSetS, sRaise, sFor, xNil, xE, slotW, xS, rvD, rvL, rvS, dCallF, fCallF, dVar, dC, dLst, dNil, dCons, dTup, fLst, dOp, dAnd, dOr, dNot, dIf, dCall, fCall, dIsi, dRev, dSl, rSlD, rRevD, eB, boolD, eChain, eAnd, eOr, eNot, intD, eNeg, ixW, oInt, oNone, lstW, srtW, sLen, sIx, binW, cmpW, subW, modW, rAdd, rMul, powW, fdivW, ltW, leW, gtW, geW, eqW, neW, rEqq, rNeq, inW, isW, isV, biW, lenD, truW, iSeq, seqD, iRange1, iRange2, rng1, rng2, iEnu, enu1, iZip2, zip2, fLc, tTT, s0, List.map_cons, List.map_nil, List.length_cons, List.length_nil, List.replicate, List.cons_append, List.nil_append, List.getElem?_cons_zero, List.getElem?_cons_succ, List.set_cons_zero, List.set_cons_succ, List.foldr_cons, List.foldr_nil, Nat.zero_add, Nat.reduceAdd, Nat.reduceSub, List.getElem?_nil, true_and, and_true, eq_self, wipeG, Bool.false_eq_true, if_true, if_false, ↓reduceIte, atD_one]
  refine ⟨by omega, by omega, rfl, ?_⟩
  rw [rng_ints]
  refine lcGo_any PyData.int PyData.int (fun x : Int => 0 ≤ x ∧ x < p) _ [] (fun y hy K hK => ?_) fun ys hl hP => ?_
  · simp only [wpSs, wpS, wpE, wpA, wpX, wpO, wpT, wpI, wpF, sSeq, sNext, sCont, sRet, sRetN, sRetF, oLst, sRetO, sIf, sDrop, sSet, sSetF, frz1, sFrz, sFrzs, sApp, sExt, sUnp, sRetC, sSetS, sRaise, sFor, xNil, xE, slotW, xS, rvD, rvL, rvS, dCallF, fCallF, dVar, dC, dLst, dNil, dCons, dTup, fLst, dOp, dAnd, dOr, dNot, dIf, dCall, fCall, dIsi, dRev, dSl, rSlD, rRevD, eB, boolD, eChain, eAnd, eOr, eNot, intD, eNeg, ixW, oInt, oNone, lstW, srtW, sLen, sIx, binW, cmpW, subW, modW, rAdd, rMul, powW, fdivW, ltW, leW, gtW, geW, eqW, neW, rEqq, rNeq, inW, isW, isV, biW, lenD, truW, iSeq, seqD, iRange1, iRange2, rng1, rng2, iEnu, enu1, iZip2, zip2, fLc, tTT, s0, List.map_cons, List.map_nil, List.length_cons, List.length_nil, List.replicate, List.cons_append, List.nil_append, List.getElem?_cons_zero, List.getElem?_cons_succ, List.set_cons_zero, List.set_cons_succ, List.foldr_cons, List.foldr_nil, Nat.zero_add, Nat.reduceAdd, Nat.reduceSub, List.getElem?_nil, true_and, and_true, eq_self, wipeG, Bool.false_eq_true, if_true, if_false, ↓reduceIte, atD_zero]
    exact take_go p0 (by omega) fun j h0 h1 => hK j ⟨h0, h1⟩
  · rw [rngI_len, Int.toNat_natCast] at hl
    exact h ys ⟨hl, hP⟩
theorem lplus_ok {m : Int} (s : Sp p n) (hw : ∀ x ∈ w, 0 ≤ x ∧ x < p) (h : Q (.d (rowD (addm p v m w)))) : wpFn DB.Γ (k + 1) DB.law_plus_k21 [.d (spD p n), .d (rowD v), .d (rowD w), .d (.int m)] Q E := by
  have p0 := s.p0
  have p5 := s.p5
  refine fn_go DB.g_law_plus_k21 ?_
  simp only [DB.b_law_plus_k21, rowD, spD, wpSs, wpS, wpE, wpA, wpX, wpO, wpT, wpI, wpF, sSeq, sNext, sCont, sRet, sRetN, sRetF, oLst, sRetO, sIf, sDrop, sSet, sSetF, frz1, sFrz, sFrzs, sApp, sExt, sUnp, sRetC, sSetS, sRaise, sFor, xNil, xE, slotW, xS, rvD, rvL, rvS, dCallF, fCallF, dVar, dC, dLst, dNil, dCons, dTup, fLst, dOp, dAnd, dOr, dNot, dIf, dCall, fCall, dIsi, dRev, dSl, rSlD, rRevD, eB, boolD, eChain, eAnd, eOr, eNot, intD, eNeg, ixW, oInt, oNone, lstW, srtW, sLen, sIx, binW, cmpW, subW, modW, rAdd, rMul, powW, fdivW, ltW, leW, gtW, geW, eqW, neW, rEqq, rNeq, inW, isW, isV, biW, lenD, truW, iSeq, seqD, iRange1, iRange2, rng1, rng2, iEnu, enu1, iZip2, zip2, fLc, tTT, s0, List.map_cons, List.map_nil, List.length_cons, List.length_nil, List.replicate, List.cons_append, List.nil_append, List.getElem?_cons_zero, List.getElem?_cons_succ, List.set_cons_zero, List.set_cons_succ, List.foldr_cons, List.foldr_nil, Nat.zero_add, Nat.reduceAdd, Nat.reduceSub, List.getElem?_nil, true_and, and_true, eq_self, wipeG, Bool.false_eq_true, if_true, if_false, ↓reduceIte]
  refine ⟨rfl, ?_⟩
  rw [zip_ints]
  refine lcGo_two (fun q : Int × Int => PyData.int q.1) (fun q => .int q.2) (fun q => .int ((q.1 + m * q.2) % p)) _ _ (fun q hq K hK => ?_) ?_
  · simp only [wpSs, wpS, wpE, wpA, wpX, wpO, wpT, wpI, wpF, sSeq, sNext, sCont, sRet, sRetN, sRetF, oLst, sRetO, sIf, sDrop, sSet, sSetF, frz1, sFrz, sFrzs, sApp, sExt, sUnp, sRetC, sSetS, sRaise, sFor, xNil, xE, slotW, xS, rvD, rvL, rvS, dCallF, fCallF, dVar, dC, dLst, dNil, dCons, dTup, fLst, dOp, dAnd, dOr, dNot, dIf, dCall, fCall, dIsi, dRev, dSl, rSlD, rRevD, eB, boolD, eChain, eAnd, eOr, eNot, intD, eNeg, ixW, oInt, oNone, lstW, srtW, sLen, sIx, binW, cmpW, subW, modW, rAdd, rMul, powW, fdivW, ltW, leW, gtW, geW, eqW, neW, rEqq, rNeq, inW, isW, isV, biW, lenD, truW, iSeq, seqD, iRange1, iRange2, rng1, rng2, iEnu, enu1, iZip2, zip2, fLc, tTT, s0, List.map_cons, List.map_nil, List.length_cons, List.length_nil, List.replicate, List.cons_append, List.nil_append, List.getElem?_cons_zero, List.getElem?_cons_succ, List.set_cons_zero, List.set_cons_succ, List.foldr_cons, List.foldr_nil, Nat.zero_add, Nat.reduceAdd, Nat.reduceSub, List.getElem?_nil, true_and, and_true, eq_self, wipeG, Bool.false_eq_true, if_true, if_false, ↓reduceIte, atD_zero]
    have := hw q.2 (List.of_mem_zip hq).2
    exact ⟨cmul_small (by omega) (by omega), p0, hK⟩
  · rw [List.nil_append, addm_zip]
    exact h
theorem rng_nats (m : Nat) : rngD 0 m = (List.range' 0 m).map fun (i : Nat) => PyData.int (i : Int) := by
  unfold rngD
  rw [List.range_eq_range']
  refine List.map_congr_left fun i _ => ?_
  show PyData.int (0 + (i : Int)) = PyData.int (i : Int)
  rw [Int.zero_add]
theorem lred_ok {rows : List Rw} (s : Sp p n) (hr : ∀ r ∈ rows, Row p n r) (h : ∀ A, Part p n A → (∀ v, Span p n A v ↔ Span p n rows v) → Q (.d (matT A))) : wpFn DB.Γ (k + 2) DB.law_reduced_k21 [.d (spD p n), .d (matL rows)] Q E := by
  have p0 := s.p0
  have p5 := s.p5
  have n6 := s.n6
  refine fn_go DB.g_law_reduced_k21 ?_
  simp only [DB.b_law_reduced_k21, matL, spD, wpSs, wpS, wpE, wpA, wpX, wpO, wpT, wpI, wpF, sSeq, sNext, sCont, sRet, sRetN, sRetF, oLst, sRetO, sIf, sDrop, sSet, sSetF, frz1, sFrz, sFrzs, sApp, sExt, sUnp, sRetC, sSetS, sRaise, sFor, xNil, xE, slotW, xS, rvD, rvL, rvS, dCallF, fCallF, dVar, dC, dLst, dNil, dCons, dTup, fLst, dOp, dAnd, dOr, dNot, dIf, dCall, fCall, dIsi, dRev, dSl, rSlD, rRevD, eB, boolD, eChain, eAnd, eOr, eNot, intD, eNeg, ixW, oInt, oNone, lstW, srtW, sLen, sIx, binW, cmpW, subW, modW, rAdd, rMul, powW, fdivW, ltW, leW, gtW, geW, eqW, neW, rEqq, rNeq, inW, isW, isV, biW, lenD, truW, iSeq, seqD, iRange1, iRange2, rng1, rng2, iEnu, enu1, iZip2, zip2, fLc, tTT, s0, List.map_cons, List.map_nil, List.length_cons, List.length_nil, List.replicate, List.cons_append, List.nil_append, List.getElem?_cons_zero, List.getElem?_cons_succ, List.set_cons_zero, List.set_cons_succ, List.foldr_cons, List.foldr_nil, Nat.zero_add, Nat.reduceAdd, Nat.reduceSub, List.getElem?_nil, true_and, and_true, eq_self, wipeG, Bool.false_eq_true, if_true, if_false, ↓reduceIte, atD_one]
  refine ⟨small (by omega), by omega, by omega, ?_⟩
  rw [rng_nats, Int.toNat_natCast]
  refine forGo_inv (fun (i : Nat) => PyData.int (i : Int)) (fun l r => ∃ (rest found : List Rw) (j : Nat) (o4 o5 o6 o7 : Option PyData), r = [some (.d (spD p n)), some (.d (matL rows)), some (.d (matL rest)), some (.d (matL found)), od o4, od o5, od o6, od o7, none, none] ∧ l = List.range' j (n - j) ∧ j ≤ n ∧ LawInv p n rows rest found j ∧ found.length ≤ j) ?_ ?_ _ _ ⟨rows, [], 0, none, none, none, none, rfl, rfl, by omega, ⟨fun r h => ⟨hr r h, fun i hi => by omega⟩, ⟨fun _ h => (List.not_mem_nil h).elim, List.Pairwise.nil⟩, fun _ h => (List.not_mem_nil h).elim, List.Pairwise.nil, fun v => Iff.rfl⟩, by simp⟩
  · rintro r ⟨rest, found, j, o4, o5, o6, o7, rfl, hl, hj, I, _⟩
    have ej : j = n := by
      have := congrArg List.length hl
      simp at this
      omega
    subst ej
    obtain ⟨h1, h2⟩ := law_end s I
    simp only [matL, wpSs, wpS, wpE, wpA, wpX, wpO, wpT, wpI, wpF, sSeq, sNext, sCont, sRet, sRetN, sRetF, oLst, sRetO, sIf, sDrop, sSet, sSetF, frz1, sFrz, sFrzs, sApp, sExt, sUnp, sRetC, sSetS, sRaise, sFor, xNil, xE, slotW, xS, rvD, rvL, rvS, dCallF, fCallF, dVar, dC, dLst, dNil, dCons, dTup, fLst, dOp, dAnd, dOr, dNot, dIf, dCall, fCall, dIsi, dRev, dSl, rSlD, rRevD, eB, boolD, eChain, eAnd, eOr, eNot, intD, eNeg, ixW, oInt, oNone, lstW, srtW, sLen, sIx, binW, cmpW, subW, modW, rAdd, rMul, powW, fdivW, ltW, leW, gtW, geW, eqW, neW, rEqq, rNeq, inW, isW, isV, biW, lenD, truW, iSeq, seqD, iRange1, iRange2, rng1, rng2, iEnu, enu1, iZip2, zip2, fLc, tTT, s0, List.map_cons, List.map_nil, List.length_cons, List.length_nil, List.replicate, List.cons_append, List.nil_append, List.getElem?_cons_zero, List.getElem?_cons_succ, List.set_cons_zero, List.set_cons_succ, List.foldr_cons, List.foldr_nil, Nat.zero_add, Nat.reduceAdd, Nat.reduceSub, List.getElem?_nil, true_and, and_true, eq_self, wipeG, Bool.false_eq_true, if_true, if_false, ↓reduceIte]
    exact h found h1 h2
  · rintro x l r K hK ⟨rest, found, j, o4, o5, o6, o7, rfl, hl, hj, I, lf⟩
    have hjn : j < n := by
      have := congrArg List.length hl
      simp at this
      omega
    obtain ⟨m, hm⟩ : ∃ m, n - j = m + 1 := ⟨n - j - 1, by omega⟩
    rw [hm, List.range'_succ] at hl
    obtain ⟨ex, el⟩ := List.cons.inj hl
    subst ex
    have el : l = List.range' (x + 1) (n - (x + 1)) := by rw [el]; congr 1; omega
    have rlen : ∀ r ∈ rest, x < r.length := fun r hr => by rw [(I.rr r hr).1.1]; exact hjn
    simp only [bindT, matL, wpSs, wpS, wpE, wpA, wpX, wpO, wpT, wpI, wpF, sSeq, sNext, sCont, sRet, sRetN, sRetF, oLst, sRetO, sIf, sDrop, sSet, sSetF, frz1, sFrz, sFrzs, sApp, sExt, sUnp, sRetC, sSetS, sRaise, sFor, xNil, xE, slotW, xS, rvD, rvL, rvS, dCallF, fCallF, dVar, dC, dLst, dNil, dCons, dTup, fLst, dOp, dAnd, dOr, dNot, dIf, dCall, fCall, dIsi, dRev, dSl, rSlD, rRevD, eB, boolD, eChain, eAnd, eOr, eNot, intD, eNeg, ixW, oInt, oNone, lstW, srtW, sLen, sIx, binW, cmpW, subW, modW, rAdd, rMul, powW, fdivW, ltW, leW, gtW, geW, eqW, neW, rEqq, rNeq, inW, isW, isV, biW, lenD, truW, iSeq, seqD, iRange1, iRange2, rng1, rng2, iEnu, enu1, iZip2, zip2, fLc, tTT, s0, List.map_cons, List.map_nil, List.length_cons, List.length_nil, List.replicate, List.cons_append, List.nil_append, List.getElem?_cons_zero, List.getElem?_cons_succ, List.set_cons_zero, List.set_cons_succ, List.foldr_cons, List.foldr_nil, Nat.zero_add, Nat.reduceAdd, Nat.reduceSub, List.getElem?_nil, true_and, and_true, eq_self, wipeG, Bool.false_eq_true, if_true, if_false, ↓reduceIte]
    refine ⟨rfl, lcGo_one rowD rowD (fun r => !decide (at_ r x = 0)) rest [] (fun y hy K hK => ?_) (fun y _ _ K hK => ?_) ?_⟩
    · simp only [wpSs, wpS, wpE, wpA, wpX, wpO, wpT, wpI, wpF, sSeq, sNext, sCont, sRet, sRetN, sRetF, oLst, sRetO, sIf, sDrop, sSet, sSetF, frz1, sFrz, sFrzs, sApp, sExt, sUnp, sRetC, sSetS, sRaise, sFor, xNil, xE, slotW, xS, rvD, rvL, rvS, dCallF, fCallF, dVar, dC, dLst, dNil, dCons, dTup, fLst, dOp, dAnd, dOr, dNot, dIf, dCall, fCall, dIsi, dRev, dSl, rSlD, rRevD, eB, boolD, eChain, eAnd, eOr, eNot, intD, eNeg, ixW, oInt, oNone, lstW, srtW, sLen, sIx, binW, cmpW, subW, modW, rAdd, rMul, powW, fdivW, ltW, leW, gtW, geW, eqW, neW, rEqq, rNeq, inW, isW, isV, biW, lenD, truW, iSeq, seqD, iRange1, iRange2, rng1, rng2, iEnu, enu1, iZip2, zip2, fLc, tTT, s0, List.map_cons, List.map_nil, List.length_cons, List.length_nil, List.replicate, List.cons_append, List.nil_append, List.getElem?_cons_zero, List.getElem?_cons_succ, List.set_cons_zero, List.set_cons_succ, List.foldr_cons, List.foldr_nil, Nat.zero_add, Nat.reduceAdd, Nat.reduceSub, List.getElem?_nil, true_and, and_true, eq_self, wipeG, Bool.false_eq_true, if_true, if_false, ↓reduceIte]
      rw [atD_row (rlen y hy)]
      exact hK
    · simp only [wpSs, wpS, wpE, wpA, wpX, wpO, wpT, wpI, wpF, sSeq, sNext, sCont, sRet, sRetN, sRetF, oLst, sRetO, sIf, sDrop, sSet, sSetF, frz1, sFrz, sFrzs, sApp, sExt, sUnp, sRetC, sSetS, sRaise, sFor, xNil, xE, slotW, xS, rvD, rvL, rvS, dCallF, fCallF, dVar, dC, dLst, dNil, dCons, dTup, fLst, dOp, dAnd, dOr, dNot, dIf, dCall, fCall, dIsi, dRev, dSl, rSlD, rRevD, eB, boolD, eChain, eAnd, eOr, eNot, intD, eNeg, ixW, oInt, oNone, lstW, srtW, sLen, sIx, binW, cmpW, subW, modW, rAdd, rMul, powW, fdivW, ltW, leW, gtW, geW, eqW, neW, rEqq, rNeq, inW, isW, isV, biW, lenD, truW, iSeq, seqD, iRange1, iRange2, rng1, rng2, iEnu, enu1, iZip2, zip2, fLc, tTT, s0, List.map_cons, List.map_nil, List.length_cons, List.length_nil, List.replicate, List.cons_append, List.nil_append, List.getElem?_cons_zero, List.getElem?_cons_succ, List.set_cons_zero, List.set_cons_succ, List.foldr_cons, List.foldr_nil, Nat.zero_add, Nat.reduceAdd, Nat.reduceSub, List.getElem?_nil, true_and, and_true, eq_self, wipeG, Bool.false_eq_true, if_true, if_false, ↓reduceIte]
      exact hK
    · rw [List.nil_append]
      cases q : rest.filter (fun r => !decide (at_ r x = 0)) with
      | nil =>
        simp only [wpSs, wpS, wpE, wpA, wpX, wpO, wpT, wpI, wpF, sSeq, sNext, sCont, sRet, sRetN, sRetF, oLst, sRetO, sIf, sDrop, sSet, sSetF, frz1, sFrz, sFrzs, sApp, sExt, sUnp, sRetC, sSetS, sRaise, sFor, xNil, xE, slotW, xS, rvD, rvL, rvS, dCallF, fCallF, dVar, dC, dLst, dNil, dCons, dTup, fLst, dOp, dAnd, dOr, dNot, dIf, dCall, fCall, dIsi, dRev, dSl, rSlD, rRevD, eB, boolD, eChain, eAnd, eOr, eNot, intD, eNeg, ixW, oInt, oNone, lstW, srtW, sLen, sIx, binW, cmpW, subW, modW, rAdd, rMul, powW, fdivW, ltW, leW, gtW, geW, eqW, neW, rEqq, rNeq, inW, isW, isV, biW, lenD, truW, iSeq, seqD, iRange1, iRange2, rng1, rng2, iEnu, enu1, iZip2, zip2, fLc, tTT, s0, List.map_cons, List.map_nil, List.length_cons, List.length_nil, List.replicate, List.cons_append, List.nil_append, List.getElem?_cons_zero, List.getElem?_cons_succ, List.set_cons_zero, List.set_cons_succ, List.foldr_cons, List.foldr_nil, Nat.zero_add, Nat.reduceAdd, Nat.reduceSub, List.getElem?_nil, true_and, and_true, eq_self, wipeG, Bool.false_eq_true, if_true, if_false, ↓reduceIte]
        refine ⟨small (by omega), dOk_matL [], dOk_matL [], ?_⟩
        have e2 : (!PyData.eqv (matL []) (matL [])) = false := by rw [eqv_matL]; rfl
        show (if (!PyData.eqv (matL []) (matL [])) = true then _ else _)
        rw [e2]
        simp only [wpSs, wpS, wpE, wpA, wpX, wpO, wpT, wpI, wpF, sSeq, sNext, sCont, sRet, sRetN, sRetF, oLst, sRetO, sIf, sDrop, sSet, sSetF, frz1, sFrz, sFrzs, sApp, sExt, sUnp, sRetC, sSetS, sRaise, sFor, xNil, xE, slotW, xS, rvD, rvL, rvS, dCallF, fCallF, dVar, dC, dLst, dNil, dCons, dTup, fLst, dOp, dAnd, dOr, dNot, dIf, dCall, fCall, dIsi, dRev, dSl, rSlD, rRevD, eB, boolD, eChain, eAnd, eOr, eNot, intD, eNeg, ixW, oInt, oNone, lstW, srtW, sLen, sIx, binW, cmpW, subW, modW, rAdd, rMul, powW, fdivW, ltW, leW, gtW, geW, eqW, neW, rEqq, rNeq, inW, isW, isV, biW, lenD, truW, iSeq, seqD, iRange1, iRange2, rng1, rng2, iEnu, enu1, iZip2, zip2, fLc, tTT, s0, List.map_cons, List.map_nil, List.length_cons, List.length_nil, List.replicate, List.cons_append, List.nil_append, List.getElem?_cons_zero, List.getElem?_cons_succ, List.set_cons_zero, List.set_cons_succ, List.foldr_cons, List.foldr_nil, Nat.zero_add, Nat.reduceAdd, Nat.reduceSub, List.getElem?_nil, true_and, and_true, eq_self, wipeG, Bool.false_eq_true, if_true, if_false, ↓reduceIte]
        exact hK _ ⟨rest, found, x + 1, some (.int x), some (matL []), o6, o7, rfl, el, by omega, law_skip I q, by omega⟩
      | cons r0 rs =>
        obtain ⟨R0, i0, i1, Rw', I'⟩ := law_step s hjn I q
        obtain ⟨tl, ei, _, v0, v1⟩ := inv_cons s.pr (x := at_ r0 x) i0 i1
        have l0 : x < r0.length := by rw [R0.1]; exact hjn
        have rf : ∀ f ∈ found, x < f.length := fun f hf => by rw [(I.sys.rows f hf).1]; exact hjn
        simp only [wpSs, wpS, wpE, wpA, wpX, wpO, wpT, wpI, wpF, sSeq, sNext, sCont, sRet, sRetN, sRetF, oLst, sRetO, sIf, sDrop, sSet, sSetF, frz1, sFrz, sFrzs, sApp, sExt, sUnp, sRetC, sSetS, sRaise, sFor, xNil, xE, slotW, xS, rvD, rvL, rvS, dCallF, fCallF, dVar, dC, dLst, dNil, dCons, dTup, fLst, dOp, dAnd, dOr, dNot, dIf, dCall, fCall, dIsi, dRev, dSl, rSlD, rRevD, eB, boolD, eChain, eAnd, eOr, eNot, intD, eNeg, ixW, oInt, oNone, lstW, srtW, sLen, sIx, binW, cmpW, subW, modW, rAdd, rMul, powW, fdivW, ltW, leW, gtW, geW, eqW, neW, rEqq, rNeq, inW, isW, isV, biW, lenD, truW, iSeq, seqD, iRange1, iRange2, rng1, rng2, iEnu, enu1, iZip2, zip2, fLc, tTT, s0, List.map_cons, List.map_nil, List.length_cons, List.length_nil, List.replicate, List.cons_append, List.nil_append, List.getElem?_cons_zero, List.getElem?_cons_succ, List.set_cons_zero, List.set_cons_succ, List.foldr_cons, List.foldr_nil, Nat.zero_add, Nat.reduceAdd, Nat.reduceSub, List.getElem?_nil, true_and, and_true, eq_self, wipeG, Bool.false_eq_true, if_true, if_false, ↓reduceIte]
        refine ⟨small (by omega), dOk_matL (r0 :: rs), dOk_matL [], ?_⟩
        have e2 : (!PyData.eqv (matL (r0 :: rs)) (matL [])) = true := by rw [eqv_matL]; rfl
        show (if (!PyData.eqv (matL (r0 :: rs)) (matL [])) = true then _ else _)
        rw [e2]
        simp only [wpSs, wpS, wpE, wpA, wpX, wpO, wpT, wpI, wpF, sSeq, sNext, sCont, sRet, sRetN, sRetF, oLst, sRetO, sIf, sDrop, sSet, sSetF, frz1, sFrz, sFrzs, sApp, sExt, sUnp, sRetC, sSetS, sRaise, sFor, xNil, xE, slotW, xS, rvD, rvL, rvS, dCallF, fCallF, dVar, dC, dLst, dNil, dCons, dTup, fLst, dOp, dAnd, dOr, dNot, dIf, dCall, fCall, dIsi, dRev, dSl, rSlD, rRevD, eB, boolD, eChain, eAnd, eOr, eNot, intD, eNeg, ixW, oInt, oNone, lstW, srtW, sLen, sIx, binW, cmpW, subW, modW, rAdd, rMul, powW, fdivW, ltW, leW, gtW, geW, eqW, neW, rEqq, rNeq, inW, isW, isV, biW, lenD, truW, iSeq, seqD, iRange1, iRange2, rng1, rng2, iEnu, enu1, iZip2, zip2, fLc, tTT, s0, List.map_cons, List.map_nil, List.length_cons, List.length_nil, List.replicate, List.cons_append, List.nil_append, List.getElem?_cons_zero, List.getElem?_cons_succ, List.set_cons_zero, List.set_cons_succ, List.foldr_cons, List.foldr_nil, Nat.zero_add, Nat.reduceAdd, Nat.reduceSub, List.getElem?_nil, true_and, and_true, eq_self, wipeG, Bool.false_eq_true, if_true, if_false, ↓reduceIte, atD_zero]
        refine ⟨by omega, by omega, rfl, ?_⟩
        rw [rng_ints]
        refine lcGo_one PyData.int PyData.int (fun m => decide (m * at_ r0 x % p = 1)) _ [] (fun y hy K hK => ?_) (fun y _ _ K hK => ?_) ?_
        · simp only [wpSs, wpS, wpE, wpA, wpX, wpO, wpT, wpI, wpF, sSeq, sNext, sCont, sRet, sRetN, sRetF, oLst, sRetO, sIf, sDrop, sSet, sSetF, frz1, sFrz, sFrzs, sApp, sExt, sUnp, sRetC, sSetS, sRaise, sFor, xNil, xE, slotW, xS, rvD, rvL, rvS, dCallF, fCallF, dVar, dC, dLst, dNil, dCons, dTup, fLst, dOp, dAnd, dOr, dNot, dIf, dCall, fCall, dIsi, dRev, dSl, rSlD, rRevD, eB, boolD, eChain, eAnd, eOr, eNot, intD, eNeg, ixW, oInt, oNone, lstW, srtW, sLen, sIx, binW, cmpW, subW, modW, rAdd, rMul, powW, fdivW, ltW, leW, gtW, geW, eqW, neW, rEqq, rNeq, inW, isW, isV, biW, lenD, truW, iSeq, seqD, iRange1, iRange2, rng1, rng2, iEnu, enu1, iZip2, zip2, fLc, tTT, s0, List.map_cons, List.map_nil, List.length_cons, List.length_nil, List.replicate, List.cons_append, List.nil_append, List.getElem?_cons_zero, List.getElem?_cons_succ, List.set_cons_zero, List.set_cons_succ, List.foldr_cons, List.foldr_nil, Nat.zero_add, Nat.reduceAdd, Nat.reduceSub, List.getElem?_nil, true_and, and_true, eq_self, wipeG, Bool.false_eq_true, if_true, if_false, ↓reduceIte, atD_zero, atD_row l0]
          exact ⟨cmul_small (by omega) (by omega), p0, hK⟩
        · simp only [wpSs, wpS, wpE, wpA, wpX, wpO, wpT, wpI, wpF, sSeq, sNext, sCont, sRet, sRetN, sRetF, oLst, sRetO, sIf, sDrop, sSet, sSetF, frz1, sFrz, sFrzs, sApp, sExt, sUnp, sRetC, sSetS, sRaise, sFor, xNil, xE, slotW, xS, rvD, rvL, rvS, dCallF, fCallF, dVar, dC, dLst, dNil, dCons, dTup, fLst, dOp, dAnd, dOr, dNot, dIf, dCall, fCall, dIsi, dRev, dSl, rSlD, rRevD, eB, boolD, eChain, eAnd, eOr, eNot, intD, eNeg, ixW, oInt, oNone, lstW, srtW, sLen, sIx, binW, cmpW, subW, modW, rAdd, rMul, powW, fdivW, ltW, leW, gtW, geW, eqW, neW, rEqq, rNeq, inW, isW, isV, biW, lenD, truW, iSeq, seqD, iRange1, iRange2, rng1, rng2, iEnu, enu1, iZip2, zip2, fLc, tTT, s0, List.map_cons, List.map_nil, List.length_cons, List.length_nil, List.replicate, List.cons_append, List.nil_append, List.getElem?_cons_zero, List.getElem?_cons_succ, List.set_cons_zero, List.set_cons_succ, List.foldr_cons, List.foldr_nil, Nat.zero_add, Nat.reduceAdd, Nat.reduceSub, List.getElem?_nil, true_and, and_true, eq_self, wipeG, Bool.false_eq_true, if_true, if_false, ↓reduceIte]
          exact hK
        · have e1 : (rngI p.toNat).filter (fun m => decide (m * at_ r0 x % p = 1)) = inv p (at_ r0 x) :: tl := ei
          rw [e1]
          simp only [wpSs, wpS, wpE, wpA, wpX, wpO, wpT, wpI, wpF, sSeq, sNext, sCont, sRet, sRetN, sRetF, oLst, sRetO, sIf, sDrop, sSet, sSetF, frz1, sFrz, sFrzs, sApp, sExt, sUnp, sRetC, sSetS, sRaise, sFor, xNil, xE, slotW, xS, rvD, rvL, rvS, dCallF, fCallF, dVar, dC, dLst, dNil, dCons, dTup, fLst, dOp, dAnd, dOr, dNot, dIf, dCall, fCall, dIsi, dRev, dSl, rSlD, rRevD, eB, boolD, eChain, eAnd, eOr, eNot, intD, eNeg, ixW, oInt, oNone, lstW, srtW, sLen, sIx, binW, cmpW, subW, modW, rAdd, rMul, powW, fdivW, ltW, leW, gtW, geW, eqW, neW, rEqq, rNeq, inW, isW, isV, biW, lenD, truW, iSeq, seqD, iRange1, iRange2, rng1, rng2, iEnu, enu1, iZip2, zip2, fLc, tTT, s0, List.map_cons, List.map_nil, List.length_cons, List.length_nil, List.replicate, List.cons_append, List.nil_append, List.getElem?_cons_zero, List.getElem?_cons_succ, List.set_cons_zero, List.set_cons_succ, List.foldr_cons, List.foldr_nil, Nat.zero_add, Nat.reduceAdd, Nat.reduceSub, List.getElem?_nil, true_and, and_true, eq_self, wipeG, Bool.false_eq_true, if_true, if_false, ↓reduceIte, atD_zero]
          refine ⟨rfl, lcGo_tt PyData.int (fun y => .int (inv p (at_ r0 x) * y % p)) r0 (fun y hy K hK => ?_) ?_⟩
          · simp only [wpSs, wpS, wpE, wpA, wpX, wpO, wpT, wpI, wpF, sSeq, sNext, sCont, sRet, sRetN, sRetF, oLst, sRetO, sIf, sDrop, sSet, sSetF, frz1, sFrz, sFrzs, sApp, sExt, sUnp, sRetC, sSetS, sRaise, sFor, xNil, xE, slotW, xS, rvD, rvL, rvS, dCallF, fCallF, dVar, dC, dLst, dNil, dCons, dTup, fLst, dOp, dAnd, dOr, dNot, dIf, dCall, fCall, dIsi, dRev, dSl, rSlD, rRevD, eB, boolD, eChain, eAnd, eOr, eNot, intD, eNeg, ixW, oInt, oNone, lstW, srtW, sLen, sIx, binW, cmpW, subW, modW, rAdd, rMul, powW, fdivW, ltW, leW, gtW, geW, eqW, neW, rEqq, rNeq, inW, isW, isV, biW, lenD, truW, iSeq, seqD, iRange1, iRange2, rng1, rng2, iEnu, enu1, iZip2, zip2, fLc, tTT, s0, List.map_cons, List.map_nil, List.length_cons, List.length_nil, List.replicate, List.cons_append, List.nil_append, List.getElem?_cons_zero, List.getElem?_cons_succ, List.set_cons_zero, List.set_cons_succ, List.foldr_cons, List.foldr_nil, Nat.zero_add, Nat.reduceAdd, Nat.reduceSub, List.getElem?_nil, true_and, and_true, eq_self, wipeG, Bool.false_eq_true, if_true, if_false, ↓reduceIte, atD_zero]
            exact ⟨cmul_small' (by omega) (by omega), p0, hK⟩
          · have e3 : (r0.map fun y => PyData.int (inv p (at_ r0 x) * y % p)) = (scal p (inv p (at_ r0 x)) r0).map .int := by
              unfold scal
              rw [List.map_map]
              rfl
            rw [e3]
            generalize hw : scal p (inv p (at_ r0 x)) r0 = w at *
            refine ⟨rfl, lcGo_tt rowD (fun f => rowD (lawClr p x w f)) rest (fun f hf K hK => ?_) ?_⟩
            · simp only [wpSs, wpS, wpE, wpA, wpX, wpO, wpT, wpI, wpF, sSeq, sNext, sCont, sRet, sRetN, sRetF, oLst, sRetO, sIf, sDrop, sSet, sSetF, frz1, sFrz, sFrzs, sApp, sExt, sUnp, sRetC, sSetS, sRaise, sFor, xNil, xE, slotW, xS, rvD, rvL, rvS, dCallF, fCallF, dVar, dC, dLst, dNil, dCons, dTup, fLst, dOp, dAnd, dOr, dNot, dIf, dCall, fCall, dIsi, dRev, dSl, rSlD, rRevD, eB, boolD, eChain, eAnd, eOr, eNot, intD, eNeg, ixW, oInt, oNone, lstW, srtW, sLen, sIx, binW, cmpW, subW, modW, rAdd, rMul, powW, fdivW, ltW, leW, gtW, geW, eqW, neW, rEqq, rNeq, inW, isW, isV, biW, lenD, truW, iSeq, seqD, iRange1, iRange2, rng1, rng2, iEnu, enu1, iZip2, zip2, fLc, tTT, s0, List.map_cons, List.map_nil, List.length_cons, List.length_nil, List.replicate, List.cons_append, List.nil_append, List.getElem?_cons_zero, List.getElem?_cons_succ, List.set_cons_zero, List.set_cons_succ, List.foldr_cons, List.foldr_nil, Nat.zero_add, Nat.reduceAdd, Nat.reduceSub, List.getElem?_nil, true_and, and_true, eq_self, wipeG, Bool.false_eq_true, if_true, if_false, ↓reduceIte]
              rw [atD_row (rlen f hf)]
              simp only [wpSs, wpS, wpE, wpA, wpX, wpO, wpT, wpI, wpF, sSeq, sNext, sCont, sRet, sRetN, sRetF, oLst, sRetO, sIf, sDrop, sSet, sSetF, frz1, sFrz, sFrzs, sApp, sExt, sUnp, sRetC, sSetS, sRaise, sFor, xNil, xE, slotW, xS, rvD, rvL, rvS, dCallF, fCallF, dVar, dC, dLst, dNil, dCons, dTup, fLst, dOp, dAnd, dOr, dNot, dIf, dCall, fCall, dIsi, dRev, dSl, rSlD, rRevD, eB, boolD, eChain, eAnd, eOr, eNot, intD, eNeg, ixW, oInt, oNone, lstW, srtW, sLen, sIx, binW, cmpW, subW, modW, rAdd, rMul, powW, fdivW, ltW, leW, gtW, geW, eqW, neW, rEqq, rNeq, inW, isW, isV, biW, lenD, truW, iSeq, seqD, iRange1, iRange2, rng1, rng2, iEnu, enu1, iZip2, zip2, fLc, tTT, s0, List.map_cons, List.map_nil, List.length_cons, List.length_nil, List.replicate, List.cons_append, List.nil_append, List.getElem?_cons_zero, List.getElem?_cons_succ, List.set_cons_zero, List.set_cons_succ, List.foldr_cons, List.foldr_nil, Nat.zero_add, Nat.reduceAdd, Nat.reduceSub, List.getElem?_nil, true_and, and_true, eq_self, wipeG, Bool.false_eq_true, if_true, if_false, ↓reduceIte]
              exact lplus_ok s Rw'.2 hK
            · refine ⟨rfl, lcGo_tt rowD (fun f => rowD (lawClr p x w f)) found (fun f hf K hK => ?_) ?_⟩
              · simp only [wpSs, wpS, wpE, wpA, wpX, wpO, wpT, wpI, wpF, sSeq, sNext, sCont, sRet, sRetN, sRetF, oLst, sRetO, sIf, sDrop, sSet, sSetF, frz1, sFrz, sFrzs, sApp, sExt, sUnp, sRetC, sSetS, sRaise, sFor, xNil, xE, slotW, xS, rvD, rvL, rvS, dCallF, fCallF, dVar, dC, dLst, dNil, dCons, dTup, fLst, dOp, dAnd, dOr, dNot, dIf, dCall, fCall, dIsi, dRev, dSl, rSlD, rRevD, eB, boolD, eChain, eAnd, eOr, eNot, intD, eNeg, ixW, oInt, oNone, lstW, srtW, sLen, sIx, binW, cmpW, subW, modW, rAdd, rMul, powW, fdivW, ltW, leW, gtW, geW, eqW, neW, rEqq, rNeq, inW, isW, isV, biW, lenD, truW, iSeq, seqD, iRange1, iRange2, rng1, rng2, iEnu, enu1, iZip2, zip2, fLc, tTT, s0, List.map_cons, List.map_nil, List.length_cons, List.length_nil, List.replicate, List.cons_append, List.nil_append, List.getElem?_cons_zero, List.getElem?_cons_succ, List.set_cons_zero, List.set_cons_succ, List.foldr_cons, List.foldr_nil, Nat.zero_add, Nat.reduceAdd, Nat.reduceSub, List.getElem?_nil, true_and, and_true, eq_self, wipeG, Bool.false_eq_true, if_true, if_false, ↓reduceIte]
                rw [atD_row (rf f hf)]
                simp only [wpSs, wpS, wpE, wpA, wpX, wpO, wpT, wpI, wpF, sSeq, sNext, sCont, sRet, sRetN, sRetF, oLst, sRetO, sIf, sDrop, sSet, sSetF, frz1, sFrz, sFrzs, sApp, sExt, sUnp, sRetC, sSetS, sRaise, sFor, xNil, xE, slotW, xS, rvD, rvL, rvS, dCallF, fCallF, dVar, dC, dLst, dNil, dCons, dTup, fLst, dOp, dAnd, dOr, dNot, dIf, dCall, fCall, dIsi, dRev, dSl, rSlD, rRevD, eB, boolD, eChain, eAnd, eOr, eNot, intD, eNeg, ixW, oInt, oNone, lstW, srtW, sLen, sIx, binW, cmpW, subW, modW, rAdd, rMul, powW, fdivW, ltW, leW, gtW, geW, eqW, neW, rEqq, rNeq, inW, isW, isV, biW, lenD, truW, iSeq, seqD, iRange1, iRange2, rng1, rng2, iEnu, enu1, iZip2, zip2, fLc, tTT, s0, List.map_cons, List.map_nil, List.length_cons, List.length_nil, List.replicate, List.cons_append, List.nil_append, List.getElem?_cons_zero, List.getElem?_cons_succ, List.set_cons_zero, List.set_cons_succ, List.foldr_cons, List.foldr_nil, Nat.zero_add, Nat.reduceAdd, Nat.reduceSub, List.getElem?_nil, true_and, and_true, eq_self, wipeG, Bool.false_eq_true, if_true, if_false, ↓reduceIte]
                exact lplus_ok s Rw'.2 hK
              · simp only [wpSs, wpS, wpE, wpA, wpX, wpO, wpT, wpI, wpF, sSeq, sNext, sCont, sRet, sRetN, sRetF, oLst, sRetO, sIf, sDrop, sSet, sSetF, frz1, sFrz, sFrzs, sApp, sExt, sUnp, sRetC, sSetS, sRaise, sFor, xNil, xE, slotW, xS, rvD, rvL, rvS, dCallF, fCallF, dVar, dC, dLst, dNil, dCons, dTup, fLst, dOp, dAnd, dOr, dNot, dIf, dCall, fCall, dIsi, dRev, dSl, rSlD, rRevD, eB, boolD, eChain, eAnd, eOr, eNot, intD, eNeg, ixW, oInt, oNone, lstW, srtW, sLen, sIx, binW, cmpW, subW, modW, rAdd, rMul, powW, fdivW, ltW, leW, gtW, geW, eqW, neW, rEqq, rNeq, inW, isW, isV, biW, lenD, truW, iSeq, seqD, iRange1, iRange2, rng1, rng2, iEnu, enu1, iZip2, zip2, fLc, tTT, s0, List.map_cons, List.map_nil, List.length_cons, List.length_nil, List.replicate, List.cons_append, List.nil_append, List.getElem?_cons_zero, List.getElem?_cons_succ, List.set_cons_zero, List.set_cons_succ, List.foldr_cons, List.foldr_nil, Nat.zero_add, Nat.reduceAdd, Nat.reduceSub, List.getElem?_nil, true_and, and_true, eq_self, wipeG, Bool.false_eq_true, if_true, if_false, ↓reduceIte, List.length_map]
                refine ⟨small (by omega), small (by omega), ?_⟩
                refine hK _ ⟨_, _, x + 1, some (.int x), some (matL (r0 :: rs)), some (.int (inv p (at_ r0 x))), some (rowD w), ?_, el, by omega, I', ?_⟩
                · simp only [matL, List.map_append, List.map_map, List.map_cons, List.map_nil, Option.map_some]
                  rfl
                · simp
                  omega
theorem lpart_ok (s : Sp p n) (h : ∀ A, Part p n A → Q (.d (matT A))) : wpFn DB.Γ (k + 3) DB.law_part_k21 [.m .st, .d (spD p n)] Q E := by
  have p0 := s.p0
  have p5 := s.p5
  have n6 := s.n6
  refine fn_go DB.g_law_part_k21 ?_
  simp only [DB.b_law_part_k21, spD, wpSs, wpS, wpE, wpA, wpX, wpO, wpT, wpI, wpF, sSeq, sNext, sCont, sRet, sRetN, sRetF, oLst, sRetO, sIf, sDrop, sSet, sSetF, frz1, sFrz, sFrzs, sApp, sExt, sUnp, sRetC, sSetS, sRaise, sFor, xNil, xE, slotW, xS, rvD, rvL, rvS, dCallF, fCallF, dVar, dC, dLst, dNil, dCons, dTup, fLst, dOp, dAnd, dOr, dNot, dIf, dCall, fCall, dIsi, dRev, dSl, rSlD, rRevD, eB, boolD, eChain, eAnd, eOr, eNot, intD, eNeg, ixW, oInt, oNone, lstW, srtW, sLen, sIx, binW, cmpW, subW, modW, rAdd, rMul, powW, fdivW, ltW, leW, gtW, geW, eqW, neW, rEqq, rNeq, inW, isW, isV, biW, lenD, truW, iSeq, seqD, iRange1, iRange2, rng1, rng2, iEnu, enu1, iZip2, zip2, fLc, tTT, s0, List.map_cons, List.map_nil, List.length_cons, List.length_nil, List.replicate, List.cons_append, List.nil_append, List.getElem?_cons_zero, List.getElem?_cons_succ, List.set_cons_zero, List.set_cons_succ, List.foldr_cons, List.foldr_nil, Nat.zero_add, Nat.reduceAdd, Nat.reduceSub, List.getElem?_nil, true_and, and_true, eq_self, wipeG, Bool.false_eq_true, if_true, if_false, ↓reduceIte, atD_one]
  refine take_go (by omega) (by omega) fun j h0 h1 => ?_
  simp only [wpSs, wpS, wpE, wpA, wpX, wpO, wpT, wpI, wpF, sSeq, sNext, sCont, sRet, sRetN, sRetF, oLst, sRetO, sIf, sDrop, sSet, sSetF, frz1, sFrz, sFrzs, sApp, sExt, sUnp, sRetC, sSetS, sRaise, sFor, xNil, xE, slotW, xS, rvD, rvL, rvS, dCallF, fCallF, dVar, dC, dLst, dNil, dCons, dTup, fLst, dOp, dAnd, dOr, dNot, dIf, dCall, fCall, dIsi, dRev, dSl, rSlD, rRevD, eB, boolD, eChain, eAnd, eOr, eNot, intD, eNeg, ixW, oInt, oNone, lstW, srtW, sLen, sIx, binW, cmpW, subW, modW, rAdd, rMul, powW, fdivW, ltW, leW, gtW, geW, eqW, neW, rEqq, rNeq, inW, isW, isV, biW, lenD, truW, iSeq, seqD, iRange1, iRange2, rng1, rng2, iEnu, enu1, iZip2, zip2, fLc, tTT, s0, List.map_cons, List.map_nil, List.length_cons, List.length_nil, List.replicate, List.cons_append, List.nil_append, List.getElem?_cons_zero, List.getElem?_cons_succ, List.set_cons_zero, List.set_cons_succ, List.foldr_cons, List.foldr_nil, Nat.zero_add, Nat.reduceAdd, Nat.reduceSub, List.getElem?_nil, true_and, and_true, eq_self, wipeG, Bool.false_eq_true, if_true, if_false, ↓reduceIte]
  refine ⟨by omega, by omega, rfl, ?_⟩
  rw [rng_ints]
  refine lcGo_any PyData.int rowD (Row p n) _ [] (fun y hy K hK => ?_) fun ys hl hP => ?_
  · simp only [wpSs, wpS, wpE, wpA, wpX, wpO, wpT, wpI, wpF, sSeq, sNext, sCont, sRet, sRetN, sRetF, oLst, sRetO, sIf, sDrop, sSet, sSetF, frz1, sFrz, sFrzs, sApp, sExt, sUnp, sRetC, sSetS, sRaise, sFor, xNil, xE, slotW, xS, rvD, rvL, rvS, dCallF, fCallF, dVar, dC, dLst, dNil, dCons, dTup, fLst, dOp, dAnd, dOr, dNot, dIf, dCall, fCall, dIsi, dRev, dSl, rSlD, rRevD, eB, boolD, eChain, eAnd, eOr, eNot, intD, eNeg, ixW, oInt, oNone, lstW, srtW, sLen, sIx, binW, cmpW, subW, modW, rAdd, rMul, powW, fdivW, ltW, leW, gtW, geW, eqW, neW, rEqq, rNeq, inW, isW, isV, biW, lenD, truW, iSeq, seqD, iRange1, iRange2, rng1, rng2, iEnu, enu1, iZip2, zip2, fLc, tTT, s0, List.map_cons, List.map_nil, List.length_cons, List.length_nil, List.replicate, List.cons_append, List.nil_append, List.getElem?_cons_zero, List.getElem?_cons_succ, List.set_cons_zero, List.set_cons_succ, List.foldr_cons, List.foldr_nil, Nat.zero_add, Nat.reduceAdd, Nat.reduceSub, List.getElem?_nil, true_and, and_true, eq_self, wipeG, Bool.false_eq_true, if_true, if_false, ↓reduceIte]
    exact row_of_ok s hK
  · simp only [wpSs, wpS, wpE, wpA, wpX, wpO, wpT, wpI, wpF, sSeq, sNext, sCont, sRet, sRetN, sRetF, oLst, sRetO, sIf, sDrop, sSet, sSetF, frz1, sFrz, sFrzs, sApp, sExt, sUnp, sRetC, sSetS, sRaise, sFor, xNil, xE, slotW, xS, rvD, rvL, rvS, dCallF, fCallF, dVar, dC, dLst, dNil, dCons, dTup, fLst, dOp, dAnd, dOr, dNot, dIf, dCall, fCall, dIsi, dRev, dSl, rSlD, rRevD, eB, boolD, eChain, eAnd, eOr, eNot, intD, eNeg, ixW, oInt, oNone, lstW, srtW, sLen, sIx, binW, cmpW, subW, modW, rAdd, rMul, powW, fdivW, ltW, leW, gtW, geW, eqW, neW, rEqq, rNeq, inW, isW, isV, biW, lenD, truW, iSeq, seqD, iRange1, iRange2, rng1, rng2, iEnu, enu1, iZip2, zip2, fLc, tTT, s0, List.map_cons, List.map_nil, List.length_cons, List.length_nil, List.replicate, List.cons_append, List.nil_append, List.getElem?_cons_zero, List.getElem?_cons_succ, List.set_cons_zero, List.set_cons_succ, List.foldr_cons, List.foldr_nil, Nat.zero_add, Nat.reduceAdd, Nat.reduceSub, List.getElem?_nil, true_and, and_true, eq_self, wipeG, Bool.false_eq_true, if_true, if_false, ↓reduceIte]
    exact lred_ok s hP fun A hA _ => h A hA
end
end ME

end
section
set_option Elab.async false
set_option linter.all false
set_option maxRecDepth 100000
set_option autoImplicit false
set_option maxHeartbeats 4000000
namespace ME
open PySem DP MA
section
variable {k : Nat} {Q : RV → Prop} {E : Str → Prop} {p : Int} {n : Nat} {A B C : List Rw} {a u v w : Rw}
def spaces13 : List (Int × (Int × Nat)) := [(2, (2, 1)), (4, (2, 2)), (8, (2, 3)), (16, (2, 4)), (32, (2, 5)), (64, (2, 6)), (3, (3, 1)), (9, (3, 2)), (27, (3, 3)), (81, (3, 4)), (5, (5, 1)), (25, (5, 2)), (125, (5, 3))]
theorem spaces13_ok : ∀ e ∈ spaces13, Sp e.2.1 e.2.2 := by
  intro e he
  unfold spaces13 at he
  simp only [List.mem_cons, List.not_mem_nil, or_false] at he
  rcases he with rfl | rfl | rfl | rfl | rfl | rfl | rfl | rfl | rfl | rfl | rfl | rfl | rfl <;> exact ⟨by unfold Pr; decide, by decide, by decide⟩
theorem space21_ok {m : Int} (hm : 2 ≤ m) (h : ∀ p n, Sp p n → Q (.d (spD p n))) : wpFn DB.Γ (k + 2) DB.law_space_k21 [.m .st, .d (.int m)] Q E := by
  refine fn_go DB.g_law_space_k21 ?_
  simp only [DB.b_law_space_k21, wpSs, wpS, wpE, wpA, wpX, wpO, wpT, wpI, wpF, sSeq, sNext, sCont, sRet, sRetN, sRetF, oLst, sRetO, sIf, sDrop, sSet, sSetF, frz1, sFrz, sFrzs, sApp, sExt, sUnp, sRetC, sSetS, sRaise, sFor, xNil, xE, slotW, xS, rvD, rvL, rvS, dCallF, fCallF, dVar, dC, dLst, dNil, dCons, dTup, fLst, dOp, dAnd, dOr, dNot, dIf, dCall, fCall, dIsi, dRev, dSl, rSlD, rRevD, eB, boolD, eChain, eAnd, eOr, eNot, intD, eNeg, ixW, oInt, oNone, lstW, srtW, sLen, sIx, binW, cmpW, subW, modW, rAdd, rMul, powW, fdivW, ltW, leW, gtW, geW, eqW, neW, rEqq, rNeq, inW, isW, isV, biW, lenD, truW, iSeq, seqD, iRange1, iRange2, rng1, rng2, iEnu, enu1, iZip2, zip2, fLc, tTT, s0, List.map_cons, List.map_nil, List.length_cons, List.length_nil, List.replicate, List.cons_append, List.nil_append, List.getElem?_cons_zero, List.getElem?_cons_succ, List.set_cons_zero, List.set_cons_succ, List.foldr_cons, List.foldr_nil, Nat.zero_add, Nat.reduceAdd, Nat.reduceSub, List.getElem?_nil, true_and, and_true, eq_self, wipeG, Bool.not_true, Bool.not_false, decide_true, decide_false, optD, Bool.false_eq_true, if_true, if_false, ↓reduceIte]
  simp only [small (show 2 ≤ 1000000 by omega), small (show 8 ≤ 1000000 by omega), small (show 5 ≤ 1000000 by omega), small (show 13 ≤ 1000000 by omega), true_and]
  refine ⟨rfl, lcGo_twoC (fun e : Int × (Int × Nat) => PyData.int e.1) (fun e => spD e.2.1 e.2.2) (fun e => spD e.2.1 e.2.2) (fun e => decide (e.1 ≤ m)) spaces13 [] (fun y hy K hK => ?_) (fun y _ _ K hK => ?_) ?_⟩
  · simp only [wpSs, wpS, wpE, wpA, wpX, wpO, wpT, wpI, wpF, sSeq, sNext, sCont, sRet, sRetN, sRetF, oLst, sRetO, sIf, sDrop, sSet, sSetF, frz1, sFrz, sFrzs, sApp, sExt, sUnp, sRetC, sSetS, sRaise, sFor, xNil, xE, slotW, xS, rvD, rvL, rvS, dCallF, fCallF, dVar, dC, dLst, dNil, dCons, dTup, fLst, dOp, dAnd, dOr, dNot, dIf, dCall, fCall, dIsi, dRev, dSl, rSlD, rRevD, eB, boolD, eChain, eAnd, eOr, eNot, intD, eNeg, ixW, oInt, oNone, lstW, srtW, sLen, sIx, binW, cmpW, subW, modW, rAdd, rMul, powW, fdivW, ltW, leW, gtW, geW, eqW, neW, rEqq, rNeq, inW, isW, isV, biW, lenD, truW, iSeq, seqD, iRange1, iRange2, rng1, rng2, iEnu, enu1, iZip2, zip2, fLc, tTT, s0, List.map_cons, List.map_nil, List.length_cons, List.length_nil, List.replicate, List.cons_append, List.nil_append, List.getElem?_cons_zero, List.getElem?_cons_succ, List.set_cons_zero, List.set_cons_succ, List.foldr_cons, List.foldr_nil, Nat.zero_add, Nat.reduceAdd, Nat.reduceSub, List.getElem?_nil, true_and, and_true, eq_self, wipeG, Bool.not_true, Bool.not_false, decide_true, decide_false, optD, Bool.false_eq_true, if_true, if_false, ↓reduceIte]
    exact hK
  · simp only [wpSs, wpS, wpE, wpA, wpX, wpO, wpT, wpI, wpF, sSeq, sNext, sCont, sRet, sRetN, sRetF, oLst, sRetO, sIf, sDrop, sSet, sSetF, frz1, sFrz, sFrzs, sApp, sExt, sUnp, sRetC, sSetS, sRaise, sFor, xNil, xE, slotW, xS, rvD, rvL, rvS, dCallF, fCallF, dVar, dC, dLst, dNil, dCons, dTup, fLst, dOp, dAnd, dOr, dNot, dIf, dCall, fCall, dIsi, dRev, dSl, rSlD, rRevD, eB, boolD, eChain, eAnd, eOr, eNot, intD, eNeg, ixW, oInt, oNone, lstW, srtW, sLen, sIx, binW, cmpW, subW, modW, rAdd, rMul, powW, fdivW, ltW, leW, gtW, geW, eqW, neW, rEqq, rNeq, inW, isW, isV, biW, lenD, truW, iSeq, seqD, iRange1, iRange2, rng1, rng2, iEnu, enu1, iZip2, zip2, fLc, tTT, s0, List.map_cons, List.map_nil, List.length_cons, List.length_nil, List.replicate, List.cons_append, List.nil_append, List.getElem?_cons_zero, List.getElem?_cons_succ, List.set_cons_zero, List.set_cons_succ, List.foldr_cons, List.foldr_nil, Nat.zero_add, Nat.reduceAdd, Nat.reduceSub, List.getElem?_nil, true_and, and_true, eq_self, wipeG, Bool.not_true, Bool.not_false, decide_true, decide_false, optD, Bool.false_eq_true, if_true, if_false, ↓reduceIte]
    exact hK
  · simp only [wpSs, wpS, wpE, wpA, wpX, wpO, wpT, wpI, wpF, sSeq, sNext, sCont, sRet, sRetN, sRetF, oLst, sRetO, sIf, sDrop, sSet, sSetF, frz1, sFrz, sFrzs, sApp, sExt, sUnp, sRetC, sSetS, sRaise, sFor, xNil, xE, slotW, xS, rvD, rvL, rvS, dCallF, fCallF, dVar, dC, dLst, dNil, dCons, dTup, fLst, dOp, dAnd, dOr, dNot, dIf, dCall, fCall, dIsi, dRev, dSl, rSlD, rRevD, eB, boolD, eChain, eAnd, eOr, eNot, intD, eNeg, ixW, oInt, oNone, lstW, srtW, sLen, sIx, binW, cmpW, subW, modW, rAdd, rMul, powW, fdivW, ltW, leW, gtW, geW, eqW, neW, rEqq, rNeq, inW, isW, isV, biW, lenD, truW, iSeq, seqD, iRange1, iRange2, rng1, rng2, iEnu, enu1, iZip2, zip2, fLc, tTT, s0, List.map_cons, List.map_nil, List.length_cons, List.length_nil, List.replicate, List.cons_append, List.nil_append, List.getElem?_cons_zero, List.getElem?_cons_succ, List.set_cons_zero, List.set_cons_succ, List.foldr_cons, List.foldr_nil, Nat.zero_add, Nat.reduceAdd, Nat.reduceSub, List.getElem?_nil, true_and, and_true, eq_self, wipeG, Bool.not_true, Bool.not_false, decide_true, decide_false, optD, Bool.false_eq_true, if_true, if_false, ↓reduceIte, List.length_map]
    have len : 0 < (spaces13.filter fun e => decide (e.1 ≤ m)).length := List.length_pos_of_mem (a := (2, (2, 1))) (List.mem_filter.mpr ⟨by unfold spaces13; exact .head _, decide_eq_true hm⟩)
    have len2 : (spaces13.filter fun e => decide (e.1 ≤ m)).length ≤ 13 := List.length_filter_le _ _
    refine take_go (by omega) (by omega) fun j h0 h1 => ?_
    simp only [wpSs, wpS, wpE, wpA, wpX, wpO, wpT, wpI, wpF, sSeq, sNext, sCont, sRet, sRetN, sRetF, oLst, sRetO, sIf, sDrop, sSet, sSetF, frz1, sFrz, sFrzs, sApp, sExt, sUnp, sRetC, sSetS, sRaise, sFor, xNil, xE, slotW, xS, rvD, rvL, rvS, dCallF, fCallF, dVar, dC, dLst, dNil, dCons, dTup, fLst, dOp, dAnd, dOr, dNot, dIf, dCall, fCall, dIsi, dRev, dSl, rSlD, rRevD, eB, boolD, eChain, eAnd, eOr, eNot, intD, eNeg, ixW, oInt, oNone, lstW, srtW, sLen, sIx, binW, cmpW, subW, modW, rAdd, rMul, powW, fdivW, ltW, leW, gtW, geW, eqW, neW, rEqq, rNeq, inW, isW, isV, biW, lenD, truW, iSeq, seqD, iRange1, iRange2, rng1, rng2, iEnu, enu1, iZip2, zip2, fLc, tTT, s0, List.map_cons, List.map_nil, List.length_cons, List.length_nil, List.replicate, List.cons_append, List.nil_append, List.getElem?_cons_zero, List.getElem?_cons_succ, List.set_cons_zero, List.set_cons_succ, List.foldr_cons, List.foldr_nil, Nat.zero_add, Nat.reduceAdd, Nat.reduceSub, List.getElem?_nil, true_and, and_true, eq_self, wipeG, Bool.not_true, Bool.not_false, decide_true, decide_false, optD, Bool.false_eq_true, if_true, if_false, ↓reduceIte]
    obtain ⟨e, he, q⟩ := atD_map (f := fun e : Int × (Int × Nat) => spD e.2.1 e.2.2) h0 h1
    rw [q]
    exact h _ _ (spaces13_ok e (List.mem_filter.mp he).1)
theorem neq_matT (A B : List Rw) {K : PyData → Prop} (h : K (.bool (!decide (A = B)))) : neW (matT A) (matT B) K := by
  refine ⟨dOk_matT A, dOk_matT B, ?_⟩
  rw [eqv_matT]
  exact h
theorem dOk_bool (b : Bool) : dOk (.bool b) = true := by cases b <;> decide
theorem eqv_bool_self (b : Bool) : PyData.eqv (.bool b) (.bool b) = true := by cases b <;> decide
theorem eqv_bool (b c : Bool) : PyData.eqv (.bool b) (.bool c) = decide (b = c) := by cases b <;> cases c <;> decide
theorem two_right_ok (s : Sp p n) (hA : Part p n A) (hB : Part p n B) (h : Q (.d (.bool true))) : wpFn DB.Γ (k + 8) DB.law_two_right_k23 [.d (spD p n), .d (matT A), .d (matT B)] Q E := by
  obtain ⟨hJ, eJ⟩ := join_part s hA hB
  obtain ⟨hM, eM⟩ := met_part s hA hB
  have l1 := part_len hA
  have l2 := part_len hB
  have n6 := s.n6
  have dim := dim_two s hA hB
  refine fn_go DB.g_law_two_right_k23 ?_
  simp only [DB.b_law_two_right_k23, wpSs, wpS, wpE, wpA, wpX, wpO, wpT, wpI, wpF, sSeq, sNext, sCont, sRet, sRetN, sRetF, oLst, sRetO, sIf, sDrop, sSet, sSetF, frz1, sFrz, sFrzs, sApp, sExt, sUnp, sRetC, sSetS, sRaise, sFor, xNil, xE, slotW, xS, rvD, rvL, rvS, dCallF, fCallF, dVar, dC, dLst, dNil, dCons, dTup, fLst, dOp, dAnd, dOr, dNot, dIf, dCall, fCall, dIsi, dRev, dSl, rSlD, rRevD, eB, boolD, eChain, eAnd, eOr, eNot, intD, eNeg, ixW, oInt, oNone, lstW, srtW, sLen, sIx, binW, cmpW, subW, modW, rAdd, rMul, powW, fdivW, ltW, leW, gtW, geW, eqW, neW, rEqq, rNeq, inW, isW, isV, biW, lenD, truW, iSeq, seqD, iRange1, iRange2, rng1, rng2, iEnu, enu1, iZip2, zip2, fLc, tTT, s0, List.map_cons, List.map_nil, List.length_cons, List.length_nil, List.replicate, List.cons_append, List.nil_append, List.getElem?_cons_zero, List.getElem?_cons_succ, List.set_cons_zero, List.set_cons_succ, List.foldr_cons, List.foldr_nil, Nat.zero_add, Nat.reduceAdd, Nat.reduceSub, List.getElem?_nil, true_and, and_true, eq_self, wipeG, Bool.not_true, Bool.not_false, decide_true, decide_false, optD, Bool.false_eq_true, if_true, if_false, ↓reduceIte]
  refine joined_ok s hA hB ?_
  simp only [wpSs, wpS, wpE, wpA, wpX, wpO, wpT, wpI, wpF, sSeq, sNext, sCont, sRet, sRetN, sRetF, oLst, sRetO, sIf, sDrop, sSet, sSetF, frz1, sFrz, sFrzs, sApp, sExt, sUnp, sRetC, sSetS, sRaise, sFor, xNil, xE, slotW, xS, rvD, rvL, rvS, dCallF, fCallF, dVar, dC, dLst, dNil, dCons, dTup, fLst, dOp, dAnd, dOr, dNot, dIf, dCall, fCall, dIsi, dRev, dSl, rSlD, rRevD, eB, boolD, eChain, eAnd, eOr, eNot, intD, eNeg, ixW, oInt, oNone, lstW, srtW, sLen, sIx, binW, cmpW, subW, modW, rAdd, rMul, powW, fdivW, ltW, leW, gtW, geW, eqW, neW, rEqq, rNeq, inW, isW, isV, biW, lenD, truW, iSeq, seqD, iRange1, iRange2, rng1, rng2, iEnu, enu1, iZip2, zip2, fLc, tTT, s0, List.map_cons, List.map_nil, List.length_cons, List.length_nil, List.replicate, List.cons_append, List.nil_append, List.getElem?_cons_zero, List.getElem?_cons_succ, List.set_cons_zero, List.set_cons_succ, List.foldr_cons, List.foldr_nil, Nat.zero_add, Nat.reduceAdd, Nat.reduceSub, List.getElem?_nil, true_and, and_true, eq_self, wipeG, Bool.not_true, Bool.not_false, decide_true, decide_false, optD, Bool.false_eq_true, if_true, if_false, ↓reduceIte]
  refine met_ok s hA hB ?_
  simp only [bindT, wpSs, wpS, wpE, wpA, wpX, wpO, wpT, wpI, wpF, sSeq, sNext, sCont, sRet, sRetN, sRetF, oLst, sRetO, sIf, sDrop, sSet, sSetF, frz1, sFrz, sFrzs, sApp, sExt, sUnp, sRetC, sSetS, sRaise, sFor, xNil, xE, slotW, xS, rvD, rvL, rvS, dCallF, fCallF, dVar, dC, dLst, dNil, dCons, dTup, fLst, dOp, dAnd, dOr, dNot, dIf, dCall, fCall, dIsi, dRev, dSl, rSlD, rRevD, eB, boolD, eChain, eAnd, eOr, eNot, intD, eNeg, ixW, oInt, oNone, lstW, srtW, sLen, sIx, binW, cmpW, subW, modW, rAdd, rMul, powW, fdivW, ltW, leW, gtW, geW, eqW, neW, rEqq, rNeq, inW, isW, isV, biW, lenD, truW, iSeq, seqD, iRange1, iRange2, rng1, rng2, iEnu, enu1, iZip2, zip2, fLc, tTT, s0, List.map_cons, List.map_nil, List.length_cons, List.length_nil, List.replicate, List.cons_append, List.nil_append, List.getElem?_cons_zero, List.getElem?_cons_succ, List.set_cons_zero, List.set_cons_succ, List.foldr_cons, List.foldr_nil, Nat.zero_add, Nat.reduceAdd, Nat.reduceSub, List.getElem?_nil, true_and, and_true, eq_self, wipeG, Bool.not_true, Bool.not_false, decide_true, decide_false, optD, Bool.false_eq_true, if_true, if_false, ↓reduceIte]
  refine ⟨small (by omega), is_part_ok hJ ?_⟩
  simp only [wpSs, wpS, wpE, wpA, wpX, wpO, wpT, wpI, wpF, sSeq, sNext, sCont, sRet, sRetN, sRetF, oLst, sRetO, sIf, sDrop, sSet, sSetF, frz1, sFrz, sFrzs, sApp, sExt, sUnp, sRetC, sSetS, sRaise, sFor, xNil, xE, slotW, xS, rvD, rvL, rvS, dCallF, fCallF, dVar, dC, dLst, dNil, dCons, dTup, fLst, dOp, dAnd, dOr, dNot, dIf, dCall, fCall, dIsi, dRev, dSl, rSlD, rRevD, eB, boolD, eChain, eAnd, eOr, eNot, intD, eNeg, ixW, oInt, oNone, lstW, srtW, sLen, sIx, binW, cmpW, subW, modW, rAdd, rMul, powW, fdivW, ltW, leW, gtW, geW, eqW, neW, rEqq, rNeq, inW, isW, isV, biW, lenD, truW, iSeq, seqD, iRange1, iRange2, rng1, rng2, iEnu, enu1, iZip2, zip2, fLc, tTT, s0, List.map_cons, List.map_nil, List.length_cons, List.length_nil, List.replicate, List.cons_append, List.nil_append, List.getElem?_cons_zero, List.getElem?_cons_succ, List.set_cons_zero, List.set_cons_succ, List.foldr_cons, List.foldr_nil, Nat.zero_add, Nat.reduceAdd, Nat.reduceSub, List.getElem?_nil, true_and, and_true, eq_self, wipeG, Bool.not_true, Bool.not_false, decide_true, decide_false, optD, Bool.false_eq_true, if_true, if_false, ↓reduceIte]
  refine is_part_ok hM ?_
  simp only [wpSs, wpS, wpE, wpA, wpX, wpO, wpT, wpI, wpF, sSeq, sNext, sCont, sRet, sRetN, sRetF, oLst, sRetO, sIf, sDrop, sSet, sSetF, frz1, sFrz, sFrzs, sApp, sExt, sUnp, sRetC, sSetS, sRaise, sFor, xNil, xE, slotW, xS, rvD, rvL, rvS, dCallF, fCallF, dVar, dC, dLst, dNil, dCons, dTup, fLst, dOp, dAnd, dOr, dNot, dIf, dCall, fCall, dIsi, dRev, dSl, rSlD, rRevD, eB, boolD, eChain, eAnd, eOr, eNot, intD, eNeg, ixW, oInt, oNone, lstW, srtW, sLen, sIx, binW, cmpW, subW, modW, rAdd, rMul, powW, fdivW, ltW, leW, gtW, geW, eqW, neW, rEqq, rNeq, inW, isW, isV, biW, lenD, truW, iSeq, seqD, iRange1, iRange2, rng1, rng2, iEnu, enu1, iZip2, zip2, fLc, tTT, s0, List.map_cons, List.map_nil, List.length_cons, List.length_nil, List.replicate, List.cons_append, List.nil_append, List.getElem?_cons_zero, List.getElem?_cons_succ, List.set_cons_zero, List.set_cons_succ, List.foldr_cons, List.foldr_nil, Nat.zero_add, Nat.reduceAdd, Nat.reduceSub, List.getElem?_nil, true_and, and_true, eq_self, wipeG, Bool.not_true, Bool.not_false, decide_true, decide_false, optD, Bool.false_eq_true, if_true, if_false, ↓reduceIte, List.length_map]
  rw [decide_eq_true (by omega : ((joinM p A B).length : Int) + ((metM p n A B).length : Int) = (A.length : Int) + (B.length : Int))]
  simp only [wpSs, wpS, wpE, wpA, wpX, wpO, wpT, wpI, wpF, sSeq, sNext, sCont, sRet, sRetN, sRetF, oLst, sRetO, sIf, sDrop, sSet, sSetF, frz1, sFrz, sFrzs, sApp, sExt, sUnp, sRetC, sSetS, sRaise, sFor, xNil, xE, slotW, xS, rvD, rvL, rvS, dCallF, fCallF, dVar, dC, dLst, dNil, dCons, dTup, fLst, dOp, dAnd, dOr, dNot, dIf, dCall, fCall, dIsi, dRev, dSl, rSlD, rRevD, eB, boolD, eChain, eAnd, eOr, eNot, intD, eNeg, ixW, oInt, oNone, lstW, srtW, sLen, sIx, binW, cmpW, subW, modW, rAdd, rMul, powW, fdivW, ltW, leW, gtW, geW, eqW, neW, rEqq, rNeq, inW, isW, isV, biW, lenD, truW, iSeq, seqD, iRange1, iRange2, rng1, rng2, iEnu, enu1, iZip2, zip2, fLc, tTT, s0, List.map_cons, List.map_nil, List.length_cons, List.length_nil, List.replicate, List.cons_append, List.nil_append, List.getElem?_cons_zero, List.getElem?_cons_succ, List.set_cons_zero, List.set_cons_succ, List.foldr_cons, List.foldr_nil, Nat.zero_add, Nat.reduceAdd, Nat.reduceSub, List.getElem?_nil, true_and, and_true, eq_self, wipeG, Bool.not_true, Bool.not_false, decide_true, decide_false, optD, Bool.false_eq_true, if_true, if_false, ↓reduceIte]
  refine ⟨small (by omega), ?_⟩
  rw [← List.map_append]
  refine spanned_ok s (.inl rfl) (rows_app hB.sys.rows hA.sys.rows) (by rw [List.length_append]; omega) ?_
  simp only [wpSs, wpS, wpE, wpA, wpX, wpO, wpT, wpI, wpF, sSeq, sNext, sCont, sRet, sRetN, sRetF, oLst, sRetO, sIf, sDrop, sSet, sSetF, frz1, sFrz, sFrzs, sApp, sExt, sUnp, sRetC, sSetS, sRaise, sFor, xNil, xE, slotW, xS, rvD, rvL, rvS, dCallF, fCallF, dVar, dC, dLst, dNil, dCons, dTup, fLst, dOp, dAnd, dOr, dNot, dIf, dCall, fCall, dIsi, dRev, dSl, rSlD, rRevD, eB, boolD, eChain, eAnd, eOr, eNot, intD, eNeg, ixW, oInt, oNone, lstW, srtW, sLen, sIx, binW, cmpW, subW, modW, rAdd, rMul, powW, fdivW, ltW, leW, gtW, geW, eqW, neW, rEqq, rNeq, inW, isW, isV, biW, lenD, truW, iSeq, seqD, iRange1, iRange2, rng1, rng2, iEnu, enu1, iZip2, zip2, fLc, tTT, s0, List.map_cons, List.map_nil, List.length_cons, List.length_nil, List.replicate, List.cons_append, List.nil_append, List.getElem?_cons_zero, List.getElem?_cons_succ, List.set_cons_zero, List.set_cons_succ, List.foldr_cons, List.foldr_nil, Nat.zero_add, Nat.reduceAdd, Nat.reduceSub, List.getElem?_nil, true_and, and_true, eq_self, wipeG, Bool.not_true, Bool.not_false, decide_true, decide_false, optD, Bool.false_eq_true, if_true, if_false, ↓reduceIte]
  refine ⟨dOk_matT _, dOk_matT _, ?_⟩
  rw [eqv_matT, decide_eq_true (show joinM p A B = reducedM p (B ++ A) from (join_comm s hA hB).symm)]
  simp only [wpSs, wpS, wpE, wpA, wpX, wpO, wpT, wpI, wpF, sSeq, sNext, sCont, sRet, sRetN, sRetF, oLst, sRetO, sIf, sDrop, sSet, sSetF, frz1, sFrz, sFrzs, sApp, sExt, sUnp, sRetC, sSetS, sRaise, sFor, xNil, xE, slotW, xS, rvD, rvL, rvS, dCallF, fCallF, dVar, dC, dLst, dNil, dCons, dTup, fLst, dOp, dAnd, dOr, dNot, dIf, dCall, fCall, dIsi, dRev, dSl, rSlD, rRevD, eB, boolD, eChain, eAnd, eOr, eNot, intD, eNeg, ixW, oInt, oNone, lstW, srtW, sLen, sIx, binW, cmpW, subW, modW, rAdd, rMul, powW, fdivW, ltW, leW, gtW, geW, eqW, neW, rEqq, rNeq, inW, isW, isV, biW, lenD, truW, iSeq, seqD, iRange1, iRange2, rng1, rng2, iEnu, enu1, iZip2, zip2, fLc, tTT, s0, List.map_cons, List.map_nil, List.length_cons, List.length_nil, List.replicate, List.cons_append, List.nil_append, List.getElem?_cons_zero, List.getElem?_cons_succ, List.set_cons_zero, List.set_cons_succ, List.foldr_cons, List.foldr_nil, Nat.zero_add, Nat.reduceAdd, Nat.reduceSub, List.getElem?_nil, true_and, and_true, eq_self, wipeG, Bool.not_true, Bool.not_false, decide_true, decide_false, optD, Bool.false_eq_true, if_true, if_false, ↓reduceIte]
  refine joined_ok s hB hA ?_
  simp only [wpSs, wpS, wpE, wpA, wpX, wpO, wpT, wpI, wpF, sSeq, sNext, sCont, sRet, sRetN, sRetF, oLst, sRetO, sIf, sDrop, sSet, sSetF, frz1, sFrz, sFrzs, sApp, sExt, sUnp, sRetC, sSetS, sRaise, sFor, xNil, xE, slotW, xS, rvD, rvL, rvS, dCallF, fCallF, dVar, dC, dLst, dNil, dCons, dTup, fLst, dOp, dAnd, dOr, dNot, dIf, dCall, fCall, dIsi, dRev, dSl, rSlD, rRevD, eB, boolD, eChain, eAnd, eOr, eNot, intD, eNeg, ixW, oInt, oNone, lstW, srtW, sLen, sIx, binW, cmpW, subW, modW, rAdd, rMul, powW, fdivW, ltW, leW, gtW, geW, eqW, neW, rEqq, rNeq, inW, isW, isV, biW, lenD, truW, iSeq, seqD, iRange1, iRange2, rng1, rng2, iEnu, enu1, iZip2, zip2, fLc, tTT, s0, List.map_cons, List.map_nil, List.length_cons, List.length_nil, List.replicate, List.cons_append, List.nil_append, List.getElem?_cons_zero, List.getElem?_cons_succ, List.set_cons_zero, List.set_cons_succ, List.foldr_cons, List.foldr_nil, Nat.zero_add, Nat.reduceAdd, Nat.reduceSub, List.getElem?_nil, true_and, and_true, eq_self, wipeG, Bool.not_true, Bool.not_false, decide_true, decide_false, optD, Bool.false_eq_true, if_true, if_false, ↓reduceIte]
  refine ⟨dOk_matT _, dOk_matT _, ?_⟩
  rw [eqv_matT, decide_eq_true (join_comm s hA hB).symm]
  simp only [wpSs, wpS, wpE, wpA, wpX, wpO, wpT, wpI, wpF, sSeq, sNext, sCont, sRet, sRetN, sRetF, oLst, sRetO, sIf, sDrop, sSet, sSetF, frz1, sFrz, sFrzs, sApp, sExt, sUnp, sRetC, sSetS, sRaise, sFor, xNil, xE, slotW, xS, rvD, rvL, rvS, dCallF, fCallF, dVar, dC, dLst, dNil, dCons, dTup, fLst, dOp, dAnd, dOr, dNot, dIf, dCall, fCall, dIsi, dRev, dSl, rSlD, rRevD, eB, boolD, eChain, eAnd, eOr, eNot, intD, eNeg, ixW, oInt, oNone, lstW, srtW, sLen, sIx, binW, cmpW, subW, modW, rAdd, rMul, powW, fdivW, ltW, leW, gtW, geW, eqW, neW, rEqq, rNeq, inW, isW, isV, biW, lenD, truW, iSeq, seqD, iRange1, iRange2, rng1, rng2, iEnu, enu1, iZip2, zip2, fLc, tTT, s0, List.map_cons, List.map_nil, List.length_cons, List.length_nil, List.replicate, List.cons_append, List.nil_append, List.getElem?_cons_zero, List.getElem?_cons_succ, List.set_cons_zero, List.set_cons_succ, List.foldr_cons, List.foldr_nil, Nat.zero_add, Nat.reduceAdd, Nat.reduceSub, List.getElem?_nil, true_and, and_true, eq_self, wipeG, Bool.not_true, Bool.not_false, decide_true, decide_false, optD, Bool.false_eq_true, if_true, if_false, ↓reduceIte]
  refine met_ok s hB hA ?_
  simp only [wpSs, wpS, wpE, wpA, wpX, wpO, wpT, wpI, wpF, sSeq, sNext, sCont, sRet, sRetN, sRetF, oLst, sRetO, sIf, sDrop, sSet, sSetF, frz1, sFrz, sFrzs, sApp, sExt, sUnp, sRetC, sSetS, sRaise, sFor, xNil, xE, slotW, xS, rvD, rvL, rvS, dCallF, fCallF, dVar, dC, dLst, dNil, dCons, dTup, fLst, dOp, dAnd, dOr, dNot, dIf, dCall, fCall, dIsi, dRev, dSl, rSlD, rRevD, eB, boolD, eChain, eAnd, eOr, eNot, intD, eNeg, ixW, oInt, oNone, lstW, srtW, sLen, sIx, binW, cmpW, subW, modW, rAdd, rMul, powW, fdivW, ltW, leW, gtW, geW, eqW, neW, rEqq, rNeq, inW, isW, isV, biW, lenD, truW, iSeq, seqD, iRange1, iRange2, rng1, rng2, iEnu, enu1, iZip2, zip2, fLc, tTT, s0, List.map_cons, List.map_nil, List.length_cons, List.length_nil, List.replicate, List.cons_append, List.nil_append, List.getElem?_cons_zero, List.getElem?_cons_succ, List.set_cons_zero, List.set_cons_succ, List.foldr_cons, List.foldr_nil, Nat.zero_add, Nat.reduceAdd, Nat.reduceSub, List.getElem?_nil, true_and, and_true, eq_self, wipeG, Bool.not_true, Bool.not_false, decide_true, decide_false, optD, Bool.false_eq_true, if_true, if_false, ↓reduceIte]
  refine ⟨dOk_matT _, dOk_matT _, ?_⟩
  rw [eqv_matT, decide_eq_true (met_comm s hA hB).symm]
  simp only [wpSs, wpS, wpE, wpA, wpX, wpO, wpT, wpI, wpF, sSeq, sNext, sCont, sRet, sRetN, sRetF, oLst, sRetO, sIf, sDrop, sSet, sSetF, frz1, sFrz, sFrzs, sApp, sExt, sUnp, sRetC, sSetS, sRaise, sFor, xNil, xE, slotW, xS, rvD, rvL, rvS, dCallF, fCallF, dVar, dC, dLst, dNil, dCons, dTup, fLst, dOp, dAnd, dOr, dNot, dIf, dCall, fCall, dIsi, dRev, dSl, rSlD, rRevD, eB, boolD, eChain, eAnd, eOr, eNot, intD, eNeg, ixW, oInt, oNone, lstW, srtW, sLen, sIx, binW, cmpW, subW, modW, rAdd, rMul, powW, fdivW, ltW, leW, gtW, geW, eqW, neW, rEqq, rNeq, inW, isW, isV, biW, lenD, truW, iSeq, seqD, iRange1, iRange2, rng1, rng2, iEnu, enu1, iZip2, zip2, fLc, tTT, s0, List.map_cons, List.map_nil, List.length_cons, List.length_nil, List.replicate, List.cons_append, List.nil_append, List.getElem?_cons_zero, List.getElem?_cons_succ, List.set_cons_zero, List.set_cons_succ, List.foldr_cons, List.foldr_nil, Nat.zero_add, Nat.reduceAdd, Nat.reduceSub, List.getElem?_nil, true_and, and_true, eq_self, wipeG, Bool.not_true, Bool.not_false, decide_true, decide_false, optD, Bool.false_eq_true, if_true, if_false, ↓reduceIte]
  refine ⟨small (by omega), ?_⟩
  refine forGo_inv matT (fun l r => ∃ (o : Option PyData), r = [some (.d (spD p n)), some (.d (matT A)), some (.d (matT B)), some (.d (matT (joinM p A B))), some (.d (matT (metM p n A B))), od o, none, none] ∧ ∀ X ∈ l, Part p n X ∧ Sub p n X (joinM p A B) ∧ Sub p n (metM p n A B) X) ?_ ?_ [A, B] _ ⟨none, rfl, ?_⟩
  · rintro r ⟨o, rfl, _⟩
    simp only [wpSs, wpS, wpE, wpA, wpX, wpO, wpT, wpI, wpF, sSeq, sNext, sCont, sRet, sRetN, sRetF, oLst, sRetO, sIf, sDrop, sSet, sSetF, frz1, sFrz, sFrzs, sApp, sExt, sUnp, sRetC, sSetS, sRaise, sFor, xNil, xE, slotW, xS, rvD, rvL, rvS, dCallF, fCallF, dVar, dC, dLst, dNil, dCons, dTup, fLst, dOp, dAnd, dOr, dNot, dIf, dCall, fCall, dIsi, dRev, dSl, rSlD, rRevD, eB, boolD, eChain, eAnd, eOr, eNot, intD, eNeg, ixW, oInt, oNone, lstW, srtW, sLen, sIx, binW, cmpW, subW, modW, rAdd, rMul, powW, fdivW, ltW, leW, gtW, geW, eqW, neW, rEqq, rNeq, inW, isW, isV, biW, lenD, truW, iSeq, seqD, iRange1, iRange2, rng1, rng2, iEnu, enu1, iZip2, zip2, fLc, tTT, s0, List.map_cons, List.map_nil, List.length_cons, List.length_nil, List.replicate, List.cons_append, List.nil_append, List.getElem?_cons_zero, List.getElem?_cons_succ, List.set_cons_zero, List.set_cons_succ, List.foldr_cons, List.foldr_nil, Nat.zero_add, Nat.reduceAdd, Nat.reduceSub, List.getElem?_nil, true_and, and_true, eq_self, wipeG, Bool.not_true, Bool.not_false, decide_true, decide_false, optD, Bool.false_eq_true, if_true, if_false, ↓reduceIte]
    refine lies_in_ok s hA hB ?_
    simp only [wpSs, wpS, wpE, wpA, wpX, wpO, wpT, wpI, wpF, sSeq, sNext, sCont, sRet, sRetN, sRetF, oLst, sRetO, sIf, sDrop, sSet, sSetF, frz1, sFrz, sFrzs, sApp, sExt, sUnp, sRetC, sSetS, sRaise, sFor, xNil, xE, slotW, xS, rvD, rvL, rvS, dCallF, fCallF, dVar, dC, dLst, dNil, dCons, dTup, fLst, dOp, dAnd, dOr, dNot, dIf, dCall, fCall, dIsi, dRev, dSl, rSlD, rRevD, eB, boolD, eChain, eAnd, eOr, eNot, intD, eNeg, ixW, oInt, oNone, lstW, srtW, sLen, sIx, binW, cmpW, subW, modW, rAdd, rMul, powW, fdivW, ltW, leW, gtW, geW, eqW, neW, rEqq, rNeq, inW, isW, isV, biW, lenD, truW, iSeq, seqD, iRange1, iRange2, rng1, rng2, iEnu, enu1, iZip2, zip2, fLc, tTT, s0, List.map_cons, List.map_nil, List.length_cons, List.length_nil, List.replicate, List.cons_append, List.nil_append, List.getElem?_cons_zero, List.getElem?_cons_succ, List.set_cons_zero, List.set_cons_succ, List.foldr_cons, List.foldr_nil, Nat.zero_add, Nat.reduceAdd, Nat.reduceSub, List.getElem?_nil, true_and, and_true, eq_self, wipeG, Bool.not_true, Bool.not_false, decide_true, decide_false, optD, Bool.false_eq_true, if_true, if_false, ↓reduceIte]
    refine ⟨dOk_matT _, dOk_matT _, dOk_bool _, dOk_bool _, ?_⟩
    rw [eqv_matT, ← within_join s hA hB, eqv_bool_self]
    simp only [wpSs, wpS, wpE, wpA, wpX, wpO, wpT, wpI, wpF, sSeq, sNext, sCont, sRet, sRetN, sRetF, oLst, sRetO, sIf, sDrop, sSet, sSetF, frz1, sFrz, sFrzs, sApp, sExt, sUnp, sRetC, sSetS, sRaise, sFor, xNil, xE, slotW, xS, rvD, rvL, rvS, dCallF, fCallF, dVar, dC, dLst, dNil, dCons, dTup, fLst, dOp, dAnd, dOr, dNot, dIf, dCall, fCall, dIsi, dRev, dSl, rSlD, rRevD, eB, boolD, eChain, eAnd, eOr, eNot, intD, eNeg, ixW, oInt, oNone, lstW, srtW, sLen, sIx, binW, cmpW, subW, modW, rAdd, rMul, powW, fdivW, ltW, leW, gtW, geW, eqW, neW, rEqq, rNeq, inW, isW, isV, biW, lenD, truW, iSeq, seqD, iRange1, iRange2, rng1, rng2, iEnu, enu1, iZip2, zip2, fLc, tTT, s0, List.map_cons, List.map_nil, List.length_cons, List.length_nil, List.replicate, List.cons_append, List.nil_append, List.getElem?_cons_zero, List.getElem?_cons_succ, List.set_cons_zero, List.set_cons_succ, List.foldr_cons, List.foldr_nil, Nat.zero_add, Nat.reduceAdd, Nat.reduceSub, List.getElem?_nil, true_and, and_true, eq_self, wipeG, Bool.not_true, Bool.not_false, decide_true, decide_false, optD, Bool.false_eq_true, if_true, if_false, ↓reduceIte]
    refine ⟨dOk_matT _, dOk_matT _, dOk_bool _, dOk_bool _, ?_⟩
    rw [eqv_matT, ← within_met s hA hB, eqv_bool_self]
    simp only [wpSs, wpS, wpE, wpA, wpX, wpO, wpT, wpI, wpF, sSeq, sNext, sCont, sRet, sRetN, sRetF, oLst, sRetO, sIf, sDrop, sSet, sSetF, frz1, sFrz, sFrzs, sApp, sExt, sUnp, sRetC, sSetS, sRaise, sFor, xNil, xE, slotW, xS, rvD, rvL, rvS, dCallF, fCallF, dVar, dC, dLst, dNil, dCons, dTup, fLst, dOp, dAnd, dOr, dNot, dIf, dCall, fCall, dIsi, dRev, dSl, rSlD, rRevD, eB, boolD, eChain, eAnd, eOr, eNot, intD, eNeg, ixW, oInt, oNone, lstW, srtW, sLen, sIx, binW, cmpW, subW, modW, rAdd, rMul, powW, fdivW, ltW, leW, gtW, geW, eqW, neW, rEqq, rNeq, inW, isW, isV, biW, lenD, truW, iSeq, seqD, iRange1, iRange2, rng1, rng2, iEnu, enu1, iZip2, zip2, fLc, tTT, s0, List.map_cons, List.map_nil, List.length_cons, List.length_nil, List.replicate, List.cons_append, List.nil_append, List.getElem?_cons_zero, List.getElem?_cons_succ, List.set_cons_zero, List.set_cons_succ, List.foldr_cons, List.foldr_nil, Nat.zero_add, Nat.reduceAdd, Nat.reduceSub, List.getElem?_nil, true_and, and_true, eq_self, wipeG, Bool.not_true, Bool.not_false, decide_true, decide_false, optD, Bool.false_eq_true, if_true, if_false, ↓reduceIte]
    refine first_beyond_ok s hA hB ?_
    cases q : beyondM p n A B with
    | none =>
      rw [beyond_none s hA hB q]
      simp only [wpSs, wpS, wpE, wpA, wpX, wpO, wpT, wpI, wpF, sSeq, sNext, sCont, sRet, sRetN, sRetF, oLst, sRetO, sIf, sDrop, sSet, sSetF, frz1, sFrz, sFrzs, sApp, sExt, sUnp, sRetC, sSetS, sRaise, sFor, xNil, xE, slotW, xS, rvD, rvL, rvS, dCallF, fCallF, dVar, dC, dLst, dNil, dCons, dTup, fLst, dOp, dAnd, dOr, dNot, dIf, dCall, fCall, dIsi, dRev, dSl, rSlD, rRevD, eB, boolD, eChain, eAnd, eOr, eNot, intD, eNeg, ixW, oInt, oNone, lstW, srtW, sLen, sIx, binW, cmpW, subW, modW, rAdd, rMul, powW, fdivW, ltW, leW, gtW, geW, eqW, neW, rEqq, rNeq, inW, isW, isV, biW, lenD, truW, iSeq, seqD, iRange1, iRange2, rng1, rng2, iEnu, enu1, iZip2, zip2, fLc, tTT, s0, List.map_cons, List.map_nil, List.length_cons, List.length_nil, List.replicate, List.cons_append, List.nil_append, List.getElem?_cons_zero, List.getElem?_cons_succ, List.set_cons_zero, List.set_cons_succ, List.foldr_cons, List.foldr_nil, Nat.zero_add, Nat.reduceAdd, Nat.reduceSub, List.getElem?_nil, true_and, and_true, eq_self, wipeG, Bool.not_true, Bool.not_false, decide_true, decide_false, optD, Bool.false_eq_true, if_true, if_false, ↓reduceIte]
      exact h
    | some v =>
      obtain ⟨rv, h1, h2, h3⟩ := beyond_some s hA hB q
      rw [h3]
      have en : isNon (rowD v) = false := rfl
      simp only [wpSs, wpS, wpE, wpA, wpX, wpO, wpT, wpI, wpF, sSeq, sNext, sCont, sRet, sRetN, sRetF, oLst, sRetO, sIf, sDrop, sSet, sSetF, frz1, sFrz, sFrzs, sApp, sExt, sUnp, sRetC, sSetS, sRaise, sFor, xNil, xE, slotW, xS, rvD, rvL, rvS, dCallF, fCallF, dVar, dC, dLst, dNil, dCons, dTup, fLst, dOp, dAnd, dOr, dNot, dIf, dCall, fCall, dIsi, dRev, dSl, rSlD, rRevD, eB, boolD, eChain, eAnd, eOr, eNot, intD, eNeg, ixW, oInt, oNone, lstW, srtW, sLen, sIx, binW, cmpW, subW, modW, rAdd, rMul, powW, fdivW, ltW, leW, gtW, geW, eqW, neW, rEqq, rNeq, inW, isW, isV, biW, lenD, truW, iSeq, seqD, iRange1, iRange2, rng1, rng2, iEnu, enu1, iZip2, zip2, fLc, tTT, s0, List.map_cons, List.map_nil, List.length_cons, List.length_nil, List.replicate, List.cons_append, List.nil_append, List.getElem?_cons_zero, List.getElem?_cons_succ, List.set_cons_zero, List.set_cons_succ, List.foldr_cons, List.foldr_nil, Nat.zero_add, Nat.reduceAdd, Nat.reduceSub, List.getElem?_nil, true_and, and_true, eq_self, wipeG, Bool.not_true, Bool.not_false, decide_true, decide_false, optD, Bool.false_eq_true, if_true, if_false, ↓reduceIte, en]
      refine holds_ok s hA rv ?_
      rw [h1]
      simp only [wpSs, wpS, wpE, wpA, wpX, wpO, wpT, wpI, wpF, sSeq, sNext, sCont, sRet, sRetN, sRetF, oLst, sRetO, sIf, sDrop, sSet, sSetF, frz1, sFrz, sFrzs, sApp, sExt, sUnp, sRetC, sSetS, sRaise, sFor, xNil, xE, slotW, xS, rvD, rvL, rvS, dCallF, fCallF, dVar, dC, dLst, dNil, dCons, dTup, fLst, dOp, dAnd, dOr, dNot, dIf, dCall, fCall, dIsi, dRev, dSl, rSlD, rRevD, eB, boolD, eChain, eAnd, eOr, eNot, intD, eNeg, ixW, oInt, oNone, lstW, srtW, sLen, sIx, binW, cmpW, subW, modW, rAdd, rMul, powW, fdivW, ltW, leW, gtW, geW, eqW, neW, rEqq, rNeq, inW, isW, isV, biW, lenD, truW, iSeq, seqD, iRange1, iRange2, rng1, rng2, iEnu, enu1, iZip2, zip2, fLc, tTT, s0, List.map_cons, List.map_nil, List.length_cons, List.length_nil, List.replicate, List.cons_append, List.nil_append, List.getElem?_cons_zero, List.getElem?_cons_succ, List.set_cons_zero, List.set_cons_succ, List.foldr_cons, List.foldr_nil, Nat.zero_add, Nat.reduceAdd, Nat.reduceSub, List.getElem?_nil, true_and, and_true, eq_self, wipeG, Bool.not_true, Bool.not_false, decide_true, decide_false, optD, Bool.false_eq_true, if_true, if_false, ↓reduceIte]
      refine holds_ok s hB rv ?_
      rw [h2]
      simp only [wpSs, wpS, wpE, wpA, wpX, wpO, wpT, wpI, wpF, sSeq, sNext, sCont, sRet, sRetN, sRetF, oLst, sRetO, sIf, sDrop, sSet, sSetF, frz1, sFrz, sFrzs, sApp, sExt, sUnp, sRetC, sSetS, sRaise, sFor, xNil, xE, slotW, xS, rvD, rvL, rvS, dCallF, fCallF, dVar, dC, dLst, dNil, dCons, dTup, fLst, dOp, dAnd, dOr, dNot, dIf, dCall, fCall, dIsi, dRev, dSl, rSlD, rRevD, eB, boolD, eChain, eAnd, eOr, eNot, intD, eNeg, ixW, oInt, oNone, lstW, srtW, sLen, sIx, binW, cmpW, subW, modW, rAdd, rMul, powW, fdivW, ltW, leW, gtW, geW, eqW, neW, rEqq, rNeq, inW, isW, isV, biW, lenD, truW, iSeq, seqD, iRange1, iRange2, rng1, rng2, iEnu, enu1, iZip2, zip2, fLc, tTT, s0, List.map_cons, List.map_nil, List.length_cons, List.length_nil, List.replicate, List.cons_append, List.nil_append, List.getElem?_cons_zero, List.getElem?_cons_succ, List.set_cons_zero, List.set_cons_succ, List.foldr_cons, List.foldr_nil, Nat.zero_add, Nat.reduceAdd, Nat.reduceSub, List.getElem?_nil, true_and, and_true, eq_self, wipeG, Bool.not_true, Bool.not_false, decide_true, decide_false, optD, Bool.false_eq_true, if_true, if_false, ↓reduceIte]
      exact h
  · rintro X l r K hK ⟨o, rfl, hX⟩
    obtain ⟨pX, s1, s2⟩ := hX X (.head _)
    simp only [bindT, wpSs, wpS, wpE, wpA, wpX, wpO, wpT, wpI, wpF, sSeq, sNext, sCont, sRet, sRetN, sRetF, oLst, sRetO, sIf, sDrop, sSet, sSetF, frz1, sFrz, sFrzs, sApp, sExt, sUnp, sRetC, sSetS, sRaise, sFor, xNil, xE, slotW, xS, rvD, rvL, rvS, dCallF, fCallF, dVar, dC, dLst, dNil, dCons, dTup, fLst, dOp, dAnd, dOr, dNot, dIf, dCall, fCall, dIsi, dRev, dSl, rSlD, rRevD, eB, boolD, eChain, eAnd, eOr, eNot, intD, eNeg, ixW, oInt, oNone, lstW, srtW, sLen, sIx, binW, cmpW, subW, modW, rAdd, rMul, powW, fdivW, ltW, leW, gtW, geW, eqW, neW, rEqq, rNeq, inW, isW, isV, biW, lenD, truW, iSeq, seqD, iRange1, iRange2, rng1, rng2, iEnu, enu1, iZip2, zip2, fLc, tTT, s0, List.map_cons, List.map_nil, List.length_cons, List.length_nil, List.replicate, List.cons_append, List.nil_append, List.getElem?_cons_zero, List.getElem?_cons_succ, List.set_cons_zero, List.set_cons_succ, List.foldr_cons, List.foldr_nil, Nat.zero_add, Nat.reduceAdd, Nat.reduceSub, List.getElem?_nil, true_and, and_true, eq_self, wipeG, Bool.not_true, Bool.not_false, decide_true, decide_false, optD, Bool.false_eq_true, if_true, if_false, ↓reduceIte]
    refine lies_in_ok s pX hJ ?_
    rw [(within_iff s pX hJ).mpr s1]
    simp only [wpSs, wpS, wpE, wpA, wpX, wpO, wpT, wpI, wpF, sSeq, sNext, sCont, sRet, sRetN, sRetF, oLst, sRetO, sIf, sDrop, sSet, sSetF, frz1, sFrz, sFrzs, sApp, sExt, sUnp, sRetC, sSetS, sRaise, sFor, xNil, xE, slotW, xS, rvD, rvL, rvS, dCallF, fCallF, dVar, dC, dLst, dNil, dCons, dTup, fLst, dOp, dAnd, dOr, dNot, dIf, dCall, fCall, dIsi, dRev, dSl, rSlD, rRevD, eB, boolD, eChain, eAnd, eOr, eNot, intD, eNeg, ixW, oInt, oNone, lstW, srtW, sLen, sIx, binW, cmpW, subW, modW, rAdd, rMul, powW, fdivW, ltW, leW, gtW, geW, eqW, neW, rEqq, rNeq, inW, isW, isV, biW, lenD, truW, iSeq, seqD, iRange1, iRange2, rng1, rng2, iEnu, enu1, iZip2, zip2, fLc, tTT, s0, List.map_cons, List.map_nil, List.length_cons, List.length_nil, List.replicate, List.cons_append, List.nil_append, List.getElem?_cons_zero, List.getElem?_cons_succ, List.set_cons_zero, List.set_cons_succ, List.foldr_cons, List.foldr_nil, Nat.zero_add, Nat.reduceAdd, Nat.reduceSub, List.getElem?_nil, true_and, and_true, eq_self, wipeG, Bool.not_true, Bool.not_false, decide_true, decide_false, optD, Bool.false_eq_true, if_true, if_false, ↓reduceIte]
    refine lies_in_ok s hM pX ?_
    rw [(within_iff s hM pX).mpr s2]
    simp only [wpSs, wpS, wpE, wpA, wpX, wpO, wpT, wpI, wpF, sSeq, sNext, sCont, sRet, sRetN, sRetF, oLst, sRetO, sIf, sDrop, sSet, sSetF, frz1, sFrz, sFrzs, sApp, sExt, sUnp, sRetC, sSetS, sRaise, sFor, xNil, xE, slotW, xS, rvD, rvL, rvS, dCallF, fCallF, dVar, dC, dLst, dNil, dCons, dTup, fLst, dOp, dAnd, dOr, dNot, dIf, dCall, fCall, dIsi, dRev, dSl, rSlD, rRevD, eB, boolD, eChain, eAnd, eOr, eNot, intD, eNeg, ixW, oInt, oNone, lstW, srtW, sLen, sIx, binW, cmpW, subW, modW, rAdd, rMul, powW, fdivW, ltW, leW, gtW, geW, eqW, neW, rEqq, rNeq, inW, isW, isV, biW, lenD, truW, iSeq, seqD, iRange1, iRange2, rng1, rng2, iEnu, enu1, iZip2, zip2, fLc, tTT, s0, List.map_cons, List.map_nil, List.length_cons, List.length_nil, List.replicate, List.cons_append, List.nil_append, List.getElem?_cons_zero, List.getElem?_cons_succ, List.set_cons_zero, List.set_cons_succ, List.foldr_cons, List.foldr_nil, Nat.zero_add, Nat.reduceAdd, Nat.reduceSub, List.getElem?_nil, true_and, and_true, eq_self, wipeG, Bool.not_true, Bool.not_false, decide_true, decide_false, optD, Bool.false_eq_true, if_true, if_false, ↓reduceIte]
    refine joined_ok s pX hM ?_
    simp only [wpSs, wpS, wpE, wpA, wpX, wpO, wpT, wpI, wpF, sSeq, sNext, sCont, sRet, sRetN, sRetF, oLst, sRetO, sIf, sDrop, sSet, sSetF, frz1, sFrz, sFrzs, sApp, sExt, sUnp, sRetC, sSetS, sRaise, sFor, xNil, xE, slotW, xS, rvD, rvL, rvS, dCallF, fCallF, dVar, dC, dLst, dNil, dCons, dTup, fLst, dOp, dAnd, dOr, dNot, dIf, dCall, fCall, dIsi, dRev, dSl, rSlD, rRevD, eB, boolD, eChain, eAnd, eOr, eNot, intD, eNeg, ixW, oInt, oNone, lstW, srtW, sLen, sIx, binW, cmpW, subW, modW, rAdd, rMul, powW, fdivW, ltW, leW, gtW, geW, eqW, neW, rEqq, rNeq, inW, isW, isV, biW, lenD, truW, iSeq, seqD, iRange1, iRange2, rng1, rng2, iEnu, enu1, iZip2, zip2, fLc, tTT, s0, List.map_cons, List.map_nil, List.length_cons, List.length_nil, List.replicate, List.cons_append, List.nil_append, List.getElem?_cons_zero, List.getElem?_cons_succ, List.set_cons_zero, List.set_cons_succ, List.foldr_cons, List.foldr_nil, Nat.zero_add, Nat.reduceAdd, Nat.reduceSub, List.getElem?_nil, true_and, and_true, eq_self, wipeG, Bool.not_true, Bool.not_false, decide_true, decide_false, optD, Bool.false_eq_true, if_true, if_false, ↓reduceIte]
    refine ⟨dOk_matT _, dOk_matT _, ?_⟩
    rw [eqv_matT, decide_eq_true (join_of_sub s pX hM s2)]
    simp only [wpSs, wpS, wpE, wpA, wpX, wpO, wpT, wpI, wpF, sSeq, sNext, sCont, sRet, sRetN, sRetF, oLst, sRetO, sIf, sDrop, sSet, sSetF, frz1, sFrz, sFrzs, sApp, sExt, sUnp, sRetC, sSetS, sRaise, sFor, xNil, xE, slotW, xS, rvD, rvL, rvS, dCallF, fCallF, dVar, dC, dLst, dNil, dCons, dTup, fLst, dOp, dAnd, dOr, dNot, dIf, dCall, fCall, dIsi, dRev, dSl, rSlD, rRevD, eB, boolD, eChain, eAnd, eOr, eNot, intD, eNeg, ixW, oInt, oNone, lstW, srtW, sLen, sIx, binW, cmpW, subW, modW, rAdd, rMul, powW, fdivW, ltW, leW, gtW, geW, eqW, neW, rEqq, rNeq, inW, isW, isV, biW, lenD, truW, iSeq, seqD, iRange1, iRange2, rng1, rng2, iEnu, enu1, iZip2, zip2, fLc, tTT, s0, List.map_cons, List.map_nil, List.length_cons, List.length_nil, List.replicate, List.cons_append, List.nil_append, List.getElem?_cons_zero, List.getElem?_cons_succ, List.set_cons_zero, List.set_cons_succ, List.foldr_cons, List.foldr_nil, Nat.zero_add, Nat.reduceAdd, Nat.reduceSub, List.getElem?_nil, true_and, and_true, eq_self, wipeG, Bool.not_true, Bool.not_false, decide_true, decide_false, optD, Bool.false_eq_true, if_true, if_false, ↓reduceIte]
    refine met_ok s pX hJ ?_
    simp only [wpSs, wpS, wpE, wpA, wpX, wpO, wpT, wpI, wpF, sSeq, sNext, sCont, sRet, sRetN, sRetF, oLst, sRetO, sIf, sDrop, sSet, sSetF, frz1, sFrz, sFrzs, sApp, sExt, sUnp, sRetC, sSetS, sRaise, sFor, xNil, xE, slotW, xS, rvD, rvL, rvS, dCallF, fCallF, dVar, dC, dLst, dNil, dCons, dTup, fLst, dOp, dAnd, dOr, dNot, dIf, dCall, fCall, dIsi, dRev, dSl, rSlD, rRevD, eB, boolD, eChain, eAnd, eOr, eNot, intD, eNeg, ixW, oInt, oNone, lstW, srtW, sLen, sIx, binW, cmpW, subW, modW, rAdd, rMul, powW, fdivW, ltW, leW, gtW, geW, eqW, neW, rEqq, rNeq, inW, isW, isV, biW, lenD, truW, iSeq, seqD, iRange1, iRange2, rng1, rng2, iEnu, enu1, iZip2, zip2, fLc, tTT, s0, List.map_cons, List.map_nil, List.length_cons, List.length_nil, List.replicate, List.cons_append, List.nil_append, List.getElem?_cons_zero, List.getElem?_cons_succ, List.set_cons_zero, List.set_cons_succ, List.foldr_cons, List.foldr_nil, Nat.zero_add, Nat.reduceAdd, Nat.reduceSub, List.getElem?_nil, true_and, and_true, eq_self, wipeG, Bool.not_true, Bool.not_false, decide_true, decide_false, optD, Bool.false_eq_true, if_true, if_false, ↓reduceIte]
    refine ⟨dOk_matT _, dOk_matT _, ?_⟩
    rw [eqv_matT, decide_eq_true (met_of_sub s pX hJ s1)]
    simp only [wpSs, wpS, wpE, wpA, wpX, wpO, wpT, wpI, wpF, sSeq, sNext, sCont, sRet, sRetN, sRetF, oLst, sRetO, sIf, sDrop, sSet, sSetF, frz1, sFrz, sFrzs, sApp, sExt, sUnp, sRetC, sSetS, sRaise, sFor, xNil, xE, slotW, xS, rvD, rvL, rvS, dCallF, fCallF, dVar, dC, dLst, dNil, dCons, dTup, fLst, dOp, dAnd, dOr, dNot, dIf, dCall, fCall, dIsi, dRev, dSl, rSlD, rRevD, eB, boolD, eChain, eAnd, eOr, eNot, intD, eNeg, ixW, oInt, oNone, lstW, srtW, sLen, sIx, binW, cmpW, subW, modW, rAdd, rMul, powW, fdivW, ltW, leW, gtW, geW, eqW, neW, rEqq, rNeq, inW, isW, isV, biW, lenD, truW, iSeq, seqD, iRange1, iRange2, rng1, rng2, iEnu, enu1, iZip2, zip2, fLc, tTT, s0, List.map_cons, List.map_nil, List.length_cons, List.length_nil, List.replicate, List.cons_append, List.nil_append, List.getElem?_cons_zero, List.getElem?_cons_succ, List.set_cons_zero, List.set_cons_succ, List.foldr_cons, List.foldr_nil, Nat.zero_add, Nat.reduceAdd, Nat.reduceSub, List.getElem?_nil, true_and, and_true, eq_self, wipeG, Bool.not_true, Bool.not_false, decide_true, decide_false, optD, Bool.false_eq_true, if_true, if_false, ↓reduceIte]
    exact hK _ ⟨some (matT X), rfl, fun Y hY => hX Y (.tail _ hY)⟩
  · intro X hX
    rcases List.mem_cons.mp hX with rfl | hX
    · exact ⟨hA, sub_left s hA hB, met_left s hA hB⟩
    · rw [List.mem_singleton.mp hX]
      exact ⟨hB, sub_right s hA hB, met_right s hA hB⟩
theorem three_right_ok (s : Sp p n) (hA : Part p n A) (hB : Part p n B) (hC : Part p n C) (hv : Row p n v) (h : Q (.d (.bool true))) : wpFn DB.Γ (k + 8) DB.law_three_right_k23 [.d (spD p n), .d (matT A), .d (matT B), .d (matT C), .d (rowD v)] Q E := by
  have hAB := (join_part s hA hB).1
  have hBC := (join_part s hB hC).1
  have hAC := (join_part s hA hC).1
  have mAB := (met_part s hA hB).1
  have mBC := (met_part s hB hC).1
  have mBW := (met_part s hB hAC).1
  refine fn_go DB.g_law_three_right_k23 ?_
  simp only [DB.b_law_three_right_k23, wpSs, wpS, wpE, wpA, wpX, wpO, wpT, wpI, wpF, sSeq, sNext, sCont, sRet, sRetN, sRetF, oLst, sRetO, sIf, sDrop, sSet, sSetF, frz1, sFrz, sFrzs, sApp, sExt, sUnp, sRetC, sSetS, sRaise, sFor, xNil, xE, slotW, xS, rvD, rvL, rvS, dCallF, fCallF, dVar, dC, dLst, dNil, dCons, dTup, fLst, dOp, dAnd, dOr, dNot, dIf, dCall, fCall, dIsi, dRev, dSl, rSlD, rRevD, eB, boolD, eChain, eAnd, eOr, eNot, intD, eNeg, ixW, oInt, oNone, lstW, srtW, sLen, sIx, binW, cmpW, subW, modW, rAdd, rMul, powW, fdivW, ltW, leW, gtW, geW, eqW, neW, rEqq, rNeq, inW, isW, isV, biW, lenD, truW, iSeq, seqD, iRange1, iRange2, rng1, rng2, iEnu, enu1, iZip2, zip2, fLc, tTT, s0, List.map_cons, List.map_nil, List.length_cons, List.length_nil, List.replicate, List.cons_append, List.nil_append, List.getElem?_cons_zero, List.getElem?_cons_succ, List.set_cons_zero, List.set_cons_succ, List.foldr_cons, List.foldr_nil, Nat.zero_add, Nat.reduceAdd, Nat.reduceSub, List.getElem?_nil, true_and, and_true, eq_self, wipeG, Bool.not_true, Bool.not_false, decide_true, decide_false, optD, Bool.false_eq_true, if_true, if_false, ↓reduceIte]
  refine joined_ok s hA hB ?_
  simp only [wpSs, wpS, wpE, wpA, wpX, wpO, wpT, wpI, wpF, sSeq, sNext, sCont, sRet, sRetN, sRetF, oLst, sRetO, sIf, sDrop, sSet, sSetF, frz1, sFrz, sFrzs, sApp, sExt, sUnp, sRetC, sSetS, sRaise, sFor, xNil, xE, slotW, xS, rvD, rvL, rvS, dCallF, fCallF, dVar, dC, dLst, dNil, dCons, dTup, fLst, dOp, dAnd, dOr, dNot, dIf, dCall, fCall, dIsi, dRev, dSl, rSlD, rRevD, eB, boolD, eChain, eAnd, eOr, eNot, intD, eNeg, ixW, oInt, oNone, lstW, srtW, sLen, sIx, binW, cmpW, subW, modW, rAdd, rMul, powW, fdivW, ltW, leW, gtW, geW, eqW, neW, rEqq, rNeq, inW, isW, isV, biW, lenD, truW, iSeq, seqD, iRange1, iRange2, rng1, rng2, iEnu, enu1, iZip2, zip2, fLc, tTT, s0, List.map_cons, List.map_nil, List.length_cons, List.length_nil, List.replicate, List.cons_append, List.nil_append, List.getElem?_cons_zero, List.getElem?_cons_succ, List.set_cons_zero, List.set_cons_succ, List.foldr_cons, List.foldr_nil, Nat.zero_add, Nat.reduceAdd, Nat.reduceSub, List.getElem?_nil, true_and, and_true, eq_self, wipeG, Bool.not_true, Bool.not_false, decide_true, decide_false, optD, Bool.false_eq_true, if_true, if_false, ↓reduceIte]
  refine joined_ok s hAB hC ?_
  simp only [wpSs, wpS, wpE, wpA, wpX, wpO, wpT, wpI, wpF, sSeq, sNext, sCont, sRet, sRetN, sRetF, oLst, sRetO, sIf, sDrop, sSet, sSetF, frz1, sFrz, sFrzs, sApp, sExt, sUnp, sRetC, sSetS, sRaise, sFor, xNil, xE, slotW, xS, rvD, rvL, rvS, dCallF, fCallF, dVar, dC, dLst, dNil, dCons, dTup, fLst, dOp, dAnd, dOr, dNot, dIf, dCall, fCall, dIsi, dRev, dSl, rSlD, rRevD, eB, boolD, eChain, eAnd, eOr, eNot, intD, eNeg, ixW, oInt, oNone, lstW, srtW, sLen, sIx, binW, cmpW, subW, modW, rAdd, rMul, powW, fdivW, ltW, leW, gtW, geW, eqW, neW, rEqq, rNeq, inW, isW, isV, biW, lenD, truW, iSeq, seqD, iRange1, iRange2, rng1, rng2, iEnu, enu1, iZip2, zip2, fLc, tTT, s0, List.map_cons, List.map_nil, List.length_cons, List.length_nil, List.replicate, List.cons_append, List.nil_append, List.getElem?_cons_zero, List.getElem?_cons_succ, List.set_cons_zero, List.set_cons_succ, List.foldr_cons, List.foldr_nil, Nat.zero_add, Nat.reduceAdd, Nat.reduceSub, List.getElem?_nil, true_and, and_true, eq_self, wipeG, Bool.not_true, Bool.not_false, decide_true, decide_false, optD, Bool.false_eq_true, if_true, if_false, ↓reduceIte]
  refine joined_ok s hB hC ?_
  simp only [wpSs, wpS, wpE, wpA, wpX, wpO, wpT, wpI, wpF, sSeq, sNext, sCont, sRet, sRetN, sRetF, oLst, sRetO, sIf, sDrop, sSet, sSetF, frz1, sFrz, sFrzs, sApp, sExt, sUnp, sRetC, sSetS, sRaise, sFor, xNil, xE, slotW, xS, rvD, rvL, rvS, dCallF, fCallF, dVar, dC, dLst, dNil, dCons, dTup, fLst, dOp, dAnd, dOr, dNot, dIf, dCall, fCall, dIsi, dRev, dSl, rSlD, rRevD, eB, boolD, eChain, eAnd, eOr, eNot, intD, eNeg, ixW, oInt, oNone, lstW, srtW, sLen, sIx, binW, cmpW, subW, modW, rAdd, rMul, powW, fdivW, ltW, leW, gtW, geW, eqW, neW, rEqq, rNeq, inW, isW, isV, biW, lenD, truW, iSeq, seqD, iRange1, iRange2, rng1, rng2, iEnu, enu1, iZip2, zip2, fLc, tTT, s0, List.map_cons, List.map_nil, List.length_cons, List.length_nil, List.replicate, List.cons_append, List.nil_append, List.getElem?_cons_zero, List.getElem?_cons_succ, List.set_cons_zero, List.set_cons_succ, List.foldr_cons, List.foldr_nil, Nat.zero_add, Nat.reduceAdd, Nat.reduceSub, List.getElem?_nil, true_and, and_true, eq_self, wipeG, Bool.not_true, Bool.not_false, decide_true, decide_false, optD, Bool.false_eq_true, if_true, if_false, ↓reduceIte]
  refine joined_ok s hA hBC ?_
  simp only [wpSs, wpS, wpE, wpA, wpX, wpO, wpT, wpI, wpF, sSeq, sNext, sCont, sRet, sRetN, sRetF, oLst, sRetO, sIf, sDrop, sSet, sSetF, frz1, sFrz, sFrzs, sApp, sExt, sUnp, sRetC, sSetS, sRaise, sFor, xNil, xE, slotW, xS, rvD, rvL, rvS, dCallF, fCallF, dVar, dC, dLst, dNil, dCons, dTup, fLst, dOp, dAnd, dOr, dNot, dIf, dCall, fCall, dIsi, dRev, dSl, rSlD, rRevD, eB, boolD, eChain, eAnd, eOr, eNot, intD, eNeg, ixW, oInt, oNone, lstW, srtW, sLen, sIx, binW, cmpW, subW, modW, rAdd, rMul, powW, fdivW, ltW, leW, gtW, geW, eqW, neW, rEqq, rNeq, inW, isW, isV, biW, lenD, truW, iSeq, seqD, iRange1, iRange2, rng1, rng2, iEnu, enu1, iZip2, zip2, fLc, tTT, s0, List.map_cons, List.map_nil, List.length_cons, List.length_nil, List.replicate, List.cons_append, List.nil_append, List.getElem?_cons_zero, List.getElem?_cons_succ, List.set_cons_zero, List.set_cons_succ, List.foldr_cons, List.foldr_nil, Nat.zero_add, Nat.reduceAdd, Nat.reduceSub, List.getElem?_nil, true_and, and_true, eq_self, wipeG, Bool.not_true, Bool.not_false, decide_true, decide_false, optD, Bool.false_eq_true, if_true, if_false, ↓reduceIte]
  refine ⟨dOk_matT _, dOk_matT _, ?_⟩
  rw [eqv_matT, decide_eq_true (join_assoc s hA hB hC)]
  simp only [wpSs, wpS, wpE, wpA, wpX, wpO, wpT, wpI, wpF, sSeq, sNext, sCont, sRet, sRetN, sRetF, oLst, sRetO, sIf, sDrop, sSet, sSetF, frz1, sFrz, sFrzs, sApp, sExt, sUnp, sRetC, sSetS, sRaise, sFor, xNil, xE, slotW, xS, rvD, rvL, rvS, dCallF, fCallF, dVar, dC, dLst, dNil, dCons, dTup, fLst, dOp, dAnd, dOr, dNot, dIf, dCall, fCall, dIsi, dRev, dSl, rSlD, rRevD, eB, boolD, eChain, eAnd, eOr, eNot, intD, eNeg, ixW, oInt, oNone, lstW, srtW, sLen, sIx, binW, cmpW, subW, modW, rAdd, rMul, powW, fdivW, ltW, leW, gtW, geW, eqW, neW, rEqq, rNeq, inW, isW, isV, biW, lenD, truW, iSeq, seqD, iRange1, iRange2, rng1, rng2, iEnu, enu1, iZip2, zip2, fLc, tTT, s0, List.map_cons, List.map_nil, List.length_cons, List.length_nil, List.replicate, List.cons_append, List.nil_append, List.getElem?_cons_zero, List.getElem?_cons_succ, List.set_cons_zero, List.set_cons_succ, List.foldr_cons, List.foldr_nil, Nat.zero_add, Nat.reduceAdd, Nat.reduceSub, List.getElem?_nil, true_and, and_true, eq_self, wipeG, Bool.not_true, Bool.not_false, decide_true, decide_false, optD, Bool.false_eq_true, if_true, if_false, ↓reduceIte]
  refine met_ok s hA hB ?_
  simp only [wpSs, wpS, wpE, wpA, wpX, wpO, wpT, wpI, wpF, sSeq, sNext, sCont, sRet, sRetN, sRetF, oLst, sRetO, sIf, sDrop, sSet, sSetF, frz1, sFrz, sFrzs, sApp, sExt, sUnp, sRetC, sSetS, sRaise, sFor, xNil, xE, slotW, xS, rvD, rvL, rvS, dCallF, fCallF, dVar, dC, dLst, dNil, dCons, dTup, fLst, dOp, dAnd, dOr, dNot, dIf, dCall, fCall, dIsi, dRev, dSl, rSlD, rRevD, eB, boolD, eChain, eAnd, eOr, eNot, intD, eNeg, ixW, oInt, oNone, lstW, srtW, sLen, sIx, binW, cmpW, subW, modW, rAdd, rMul, powW, fdivW, ltW, leW, gtW, geW, eqW, neW, rEqq, rNeq, inW, isW, isV, biW, lenD, truW, iSeq, seqD, iRange1, iRange2, rng1, rng2, iEnu, enu1, iZip2, zip2, fLc, tTT, s0, List.map_cons, List.map_nil, List.length_cons, List.length_nil, List.replicate, List.cons_append, List.nil_append, List.getElem?_cons_zero, List.getElem?_cons_succ, List.set_cons_zero, List.set_cons_succ, List.foldr_cons, List.foldr_nil, Nat.zero_add, Nat.reduceAdd, Nat.reduceSub, List.getElem?_nil, true_and, and_true, eq_self, wipeG, Bool.not_true, Bool.not_false, decide_true, decide_false, optD, Bool.false_eq_true, if_true, if_false, ↓reduceIte]
  refine met_ok s mAB hC ?_
  simp only [wpSs, wpS, wpE, wpA, wpX, wpO, wpT, wpI, wpF, sSeq, sNext, sCont, sRet, sRetN, sRetF, oLst, sRetO, sIf, sDrop, sSet, sSetF, frz1, sFrz, sFrzs, sApp, sExt, sUnp, sRetC, sSetS, sRaise, sFor, xNil, xE, slotW, xS, rvD, rvL, rvS, dCallF, fCallF, dVar, dC, dLst, dNil, dCons, dTup, fLst, dOp, dAnd, dOr, dNot, dIf, dCall, fCall, dIsi, dRev, dSl, rSlD, rRevD, eB, boolD, eChain, eAnd, eOr, eNot, intD, eNeg, ixW, oInt, oNone, lstW, srtW, sLen, sIx, binW, cmpW, subW, modW, rAdd, rMul, powW, fdivW, ltW, leW, gtW, geW, eqW, neW, rEqq, rNeq, inW, isW, isV, biW, lenD, truW, iSeq, seqD, iRange1, iRange2, rng1, rng2, iEnu, enu1, iZip2, zip2, fLc, tTT, s0, List.map_cons, List.map_nil, List.length_cons, List.length_nil, List.replicate, List.cons_append, List.nil_append, List.getElem?_cons_zero, List.getElem?_cons_succ, List.set_cons_zero, List.set_cons_succ, List.foldr_cons, List.foldr_nil, Nat.zero_add, Nat.reduceAdd, Nat.reduceSub, List.getElem?_nil, true_and, and_true, eq_self, wipeG, Bool.not_true, Bool.not_false, decide_true, decide_false, optD, Bool.false_eq_true, if_true, if_false, ↓reduceIte]
  refine met_ok s hB hC ?_
  simp only [wpSs, wpS, wpE, wpA, wpX, wpO, wpT, wpI, wpF, sSeq, sNext, sCont, sRet, sRetN, sRetF, oLst, sRetO, sIf, sDrop, sSet, sSetF, frz1, sFrz, sFrzs, sApp, sExt, sUnp, sRetC, sSetS, sRaise, sFor, xNil, xE, slotW, xS, rvD, rvL, rvS, dCallF, fCallF, dVar, dC, dLst, dNil, dCons, dTup, fLst, dOp, dAnd, dOr, dNot, dIf, dCall, fCall, dIsi, dRev, dSl, rSlD, rRevD, eB, boolD, eChain, eAnd, eOr, eNot, intD, eNeg, ixW, oInt, oNone, lstW, srtW, sLen, sIx, binW, cmpW, subW, modW, rAdd, rMul, powW, fdivW, ltW, leW, gtW, geW, eqW, neW, rEqq, rNeq, inW, isW, isV, biW, lenD, truW, iSeq, seqD, iRange1, iRange2, rng1, rng2, iEnu, enu1, iZip2, zip2, fLc, tTT, s0, List.map_cons, List.map_nil, List.length_cons, List.length_nil, List.replicate, List.cons_append, List.nil_append, List.getElem?_cons_zero, List.getElem?_cons_succ, List.set_cons_zero, List.set_cons_succ, List.foldr_cons, List.foldr_nil, Nat.zero_add, Nat.reduceAdd, Nat.reduceSub, List.getElem?_nil, true_and, and_true, eq_self, wipeG, Bool.not_true, Bool.not_false, decide_true, decide_false, optD, Bool.false_eq_true, if_true, if_false, ↓reduceIte]
  refine met_ok s hA mBC ?_
  simp only [wpSs, wpS, wpE, wpA, wpX, wpO, wpT, wpI, wpF, sSeq, sNext, sCont, sRet, sRetN, sRetF, oLst, sRetO, sIf, sDrop, sSet, sSetF, frz1, sFrz, sFrzs, sApp, sExt, sUnp, sRetC, sSetS, sRaise, sFor, xNil, xE, slotW, xS, rvD, rvL, rvS, dCallF, fCallF, dVar, dC, dLst, dNil, dCons, dTup, fLst, dOp, dAnd, dOr, dNot, dIf, dCall, fCall, dIsi, dRev, dSl, rSlD, rRevD, eB, boolD, eChain, eAnd, eOr, eNot, intD, eNeg, ixW, oInt, oNone, lstW, srtW, sLen, sIx, binW, cmpW, subW, modW, rAdd, rMul, powW, fdivW, ltW, leW, gtW, geW, eqW, neW, rEqq, rNeq, inW, isW, isV, biW, lenD, truW, iSeq, seqD, iRange1, iRange2, rng1, rng2, iEnu, enu1, iZip2, zip2, fLc, tTT, s0, List.map_cons, List.map_nil, List.length_cons, List.length_nil, List.replicate, List.cons_append, List.nil_append, List.getElem?_cons_zero, List.getElem?_cons_succ, List.set_cons_zero, List.set_cons_succ, List.foldr_cons, List.foldr_nil, Nat.zero_add, Nat.reduceAdd, Nat.reduceSub, List.getElem?_nil, true_and, and_true, eq_self, wipeG, Bool.not_true, Bool.not_false, decide_true, decide_false, optD, Bool.false_eq_true, if_true, if_false, ↓reduceIte]
  refine ⟨dOk_matT _, dOk_matT _, ?_⟩
  rw [eqv_matT, decide_eq_true (met_assoc s hA hB hC)]
  simp only [wpSs, wpS, wpE, wpA, wpX, wpO, wpT, wpI, wpF, sSeq, sNext, sCont, sRet, sRetN, sRetF, oLst, sRetO, sIf, sDrop, sSet, sSetF, frz1, sFrz, sFrzs, sApp, sExt, sUnp, sRetC, sSetS, sRaise, sFor, xNil, xE, slotW, xS, rvD, rvL, rvS, dCallF, fCallF, dVar, dC, dLst, dNil, dCons, dTup, fLst, dOp, dAnd, dOr, dNot, dIf, dCall, fCall, dIsi, dRev, dSl, rSlD, rRevD, eB, boolD, eChain, eAnd, eOr, eNot, intD, eNeg, ixW, oInt, oNone, lstW, srtW, sLen, sIx, binW, cmpW, subW, modW, rAdd, rMul, powW, fdivW, ltW, leW, gtW, geW, eqW, neW, rEqq, rNeq, inW, isW, isV, biW, lenD, truW, iSeq, seqD, iRange1, iRange2, rng1, rng2, iEnu, enu1, iZip2, zip2, fLc, tTT, s0, List.map_cons, List.map_nil, List.length_cons, List.length_nil, List.replicate, List.cons_append, List.nil_append, List.getElem?_cons_zero, List.getElem?_cons_succ, List.set_cons_zero, List.set_cons_succ, List.foldr_cons, List.foldr_nil, Nat.zero_add, Nat.reduceAdd, Nat.reduceSub, List.getElem?_nil, true_and, and_true, eq_self, wipeG, Bool.not_true, Bool.not_false, decide_true, decide_false, optD, Bool.false_eq_true, if_true, if_false, ↓reduceIte]
  refine joined_ok s hA hC ?_
  simp only [wpSs, wpS, wpE, wpA, wpX, wpO, wpT, wpI, wpF, sSeq, sNext, sCont, sRet, sRetN, sRetF, oLst, sRetO, sIf, sDrop, sSet, sSetF, frz1, sFrz, sFrzs, sApp, sExt, sUnp, sRetC, sSetS, sRaise, sFor, xNil, xE, slotW, xS, rvD, rvL, rvS, dCallF, fCallF, dVar, dC, dLst, dNil, dCons, dTup, fLst, dOp, dAnd, dOr, dNot, dIf, dCall, fCall, dIsi, dRev, dSl, rSlD, rRevD, eB, boolD, eChain, eAnd, eOr, eNot, intD, eNeg, ixW, oInt, oNone, lstW, srtW, sLen, sIx, binW, cmpW, subW, modW, rAdd, rMul, powW, fdivW, ltW, leW, gtW, geW, eqW, neW, rEqq, rNeq, inW, isW, isV, biW, lenD, truW, iSeq, seqD, iRange1, iRange2, rng1, rng2, iEnu, enu1, iZip2, zip2, fLc, tTT, s0, List.map_cons, List.map_nil, List.length_cons, List.length_nil, List.replicate, List.cons_append, List.nil_append, List.getElem?_cons_zero, List.getElem?_cons_succ, List.set_cons_zero, List.set_cons_succ, List.foldr_cons, List.foldr_nil, Nat.zero_add, Nat.reduceAdd, Nat.reduceSub, List.getElem?_nil, true_and, and_true, eq_self, wipeG, Bool.not_true, Bool.not_false, decide_true, decide_false, optD, Bool.false_eq_true, if_true, if_false, ↓reduceIte]
  refine met_ok s hB hAC ?_
  simp only [wpSs, wpS, wpE, wpA, wpX, wpO, wpT, wpI, wpF, sSeq, sNext, sCont, sRet, sRetN, sRetF, oLst, sRetO, sIf, sDrop, sSet, sSetF, frz1, sFrz, sFrzs, sApp, sExt, sUnp, sRetC, sSetS, sRaise, sFor, xNil, xE, slotW, xS, rvD, rvL, rvS, dCallF, fCallF, dVar, dC, dLst, dNil, dCons, dTup, fLst, dOp, dAnd, dOr, dNot, dIf, dCall, fCall, dIsi, dRev, dSl, rSlD, rRevD, eB, boolD, eChain, eAnd, eOr, eNot, intD, eNeg, ixW, oInt, oNone, lstW, srtW, sLen, sIx, binW, cmpW, subW, modW, rAdd, rMul, powW, fdivW, ltW, leW, gtW, geW, eqW, neW, rEqq, rNeq, inW, isW, isV, biW, lenD, truW, iSeq, seqD, iRange1, iRange2, rng1, rng2, iEnu, enu1, iZip2, zip2, fLc, tTT, s0, List.map_cons, List.map_nil, List.length_cons, List.length_nil, List.replicate, List.cons_append, List.nil_append, List.getElem?_cons_zero, List.getElem?_cons_succ, List.set_cons_zero, List.set_cons_succ, List.foldr_cons, List.foldr_nil, Nat.zero_add, Nat.reduceAdd, Nat.reduceSub, List.getElem?_nil, true_and, and_true, eq_self, wipeG, Bool.not_true, Bool.not_false, decide_true, decide_false, optD, Bool.false_eq_true, if_true, if_false, ↓reduceIte]
  refine joined_ok s hA mBW ?_
  simp only [wpSs, wpS, wpE, wpA, wpX, wpO, wpT, wpI, wpF, sSeq, sNext, sCont, sRet, sRetN, sRetF, oLst, sRetO, sIf, sDrop, sSet, sSetF, frz1, sFrz, sFrzs, sApp, sExt, sUnp, sRetC, sSetS, sRaise, sFor, xNil, xE, slotW, xS, rvD, rvL, rvS, dCallF, fCallF, dVar, dC, dLst, dNil, dCons, dTup, fLst, dOp, dAnd, dOr, dNot, dIf, dCall, fCall, dIsi, dRev, dSl, rSlD, rRevD, eB, boolD, eChain, eAnd, eOr, eNot, intD, eNeg, ixW, oInt, oNone, lstW, srtW, sLen, sIx, binW, cmpW, subW, modW, rAdd, rMul, powW, fdivW, ltW, leW, gtW, geW, eqW, neW, rEqq, rNeq, inW, isW, isV, biW, lenD, truW, iSeq, seqD, iRange1, iRange2, rng1, rng2, iEnu, enu1, iZip2, zip2, fLc, tTT, s0, List.map_cons, List.map_nil, List.length_cons, List.length_nil, List.replicate, List.cons_append, List.nil_append, List.getElem?_cons_zero, List.getElem?_cons_succ, List.set_cons_zero, List.set_cons_succ, List.foldr_cons, List.foldr_nil, Nat.zero_add, Nat.reduceAdd, Nat.reduceSub, List.getElem?_nil, true_and, and_true, eq_self, wipeG, Bool.not_true, Bool.not_false, decide_true, decide_false, optD, Bool.false_eq_true, if_true, if_false, ↓reduceIte]
  refine joined_ok s hA hB ?_
  simp only [wpSs, wpS, wpE, wpA, wpX, wpO, wpT, wpI, wpF, sSeq, sNext, sCont, sRet, sRetN, sRetF, oLst, sRetO, sIf, sDrop, sSet, sSetF, frz1, sFrz, sFrzs, sApp, sExt, sUnp, sRetC, sSetS, sRaise, sFor, xNil, xE, slotW, xS, rvD, rvL, rvS, dCallF, fCallF, dVar, dC, dLst, dNil, dCons, dTup, fLst, dOp, dAnd, dOr, dNot, dIf, dCall, fCall, dIsi, dRev, dSl, rSlD, rRevD, eB, boolD, eChain, eAnd, eOr, eNot, intD, eNeg, ixW, oInt, oNone, lstW, srtW, sLen, sIx, binW, cmpW, subW, modW, rAdd, rMul, powW, fdivW, ltW, leW, gtW, geW, eqW, neW, rEqq, rNeq, inW, isW, isV, biW, lenD, truW, iSeq, seqD, iRange1, iRange2, rng1, rng2, iEnu, enu1, iZip2, zip2, fLc, tTT, s0, List.map_cons, List.map_nil, List.length_cons, List.length_nil, List.replicate, List.cons_append, List.nil_append, List.getElem?_cons_zero, List.getElem?_cons_succ, List.set_cons_zero, List.set_cons_succ, List.foldr_cons, List.foldr_nil, Nat.zero_add, Nat.reduceAdd, Nat.reduceSub, List.getElem?_nil, true_and, and_true, eq_self, wipeG, Bool.not_true, Bool.not_false, decide_true, decide_false, optD, Bool.false_eq_true, if_true, if_false, ↓reduceIte]
  refine met_ok s hAB hAC ?_
  simp only [wpSs, wpS, wpE, wpA, wpX, wpO, wpT, wpI, wpF, sSeq, sNext, sCont, sRet, sRetN, sRetF, oLst, sRetO, sIf, sDrop, sSet, sSetF, frz1, sFrz, sFrzs, sApp, sExt, sUnp, sRetC, sSetS, sRaise, sFor, xNil, xE, slotW, xS, rvD, rvL, rvS, dCallF, fCallF, dVar, dC, dLst, dNil, dCons, dTup, fLst, dOp, dAnd, dOr, dNot, dIf, dCall, fCall, dIsi, dRev, dSl, rSlD, rRevD, eB, boolD, eChain, eAnd, eOr, eNot, intD, eNeg, ixW, oInt, oNone, lstW, srtW, sLen, sIx, binW, cmpW, subW, modW, rAdd, rMul, powW, fdivW, ltW, leW, gtW, geW, eqW, neW, rEqq, rNeq, inW, isW, isV, biW, lenD, truW, iSeq, seqD, iRange1, iRange2, rng1, rng2, iEnu, enu1, iZip2, zip2, fLc, tTT, s0, List.map_cons, List.map_nil, List.length_cons, List.length_nil, List.replicate, List.cons_append, List.nil_append, List.getElem?_cons_zero, List.getElem?_cons_succ, List.set_cons_zero, List.set_cons_succ, List.foldr_cons, List.foldr_nil, Nat.zero_add, Nat.reduceAdd, Nat.reduceSub, List.getElem?_nil, true_and, and_true, eq_self, wipeG, Bool.not_true, Bool.not_false, decide_true, decide_false, optD, Bool.false_eq_true, if_true, if_false, ↓reduceIte]
  refine ⟨dOk_matT _, dOk_matT _, ?_⟩
  rw [eqv_matT, decide_eq_true (modular s hA hB hAC (sub_left s hA hC))]
  simp only [wpSs, wpS, wpE, wpA, wpX, wpO, wpT, wpI, wpF, sSeq, sNext, sCont, sRet, sRetN, sRetF, oLst, sRetO, sIf, sDrop, sSet, sSetF, frz1, sFrz, sFrzs, sApp, sExt, sUnp, sRetC, sSetS, sRaise, sFor, xNil, xE, slotW, xS, rvD, rvL, rvS, dCallF, fCallF, dVar, dC, dLst, dNil, dCons, dTup, fLst, dOp, dAnd, dOr, dNot, dIf, dCall, fCall, dIsi, dRev, dSl, rSlD, rRevD, eB, boolD, eChain, eAnd, eOr, eNot, intD, eNeg, ixW, oInt, oNone, lstW, srtW, sLen, sIx, binW, cmpW, subW, modW, rAdd, rMul, powW, fdivW, ltW, leW, gtW, geW, eqW, neW, rEqq, rNeq, inW, isW, isV, biW, lenD, truW, iSeq, seqD, iRange1, iRange2, rng1, rng2, iEnu, enu1, iZip2, zip2, fLc, tTT, s0, List.map_cons, List.map_nil, List.length_cons, List.length_nil, List.replicate, List.cons_append, List.nil_append, List.getElem?_cons_zero, List.getElem?_cons_succ, List.set_cons_zero, List.set_cons_succ, List.foldr_cons, List.foldr_nil, Nat.zero_add, Nat.reduceAdd, Nat.reduceSub, List.getElem?_nil, true_and, and_true, eq_self, wipeG, Bool.not_true, Bool.not_false, decide_true, decide_false, optD, Bool.false_eq_true, if_true, if_false, ↓reduceIte]
  refine holds_ok s hA hv ?_
  cases c : decide (red p A v = zr n) with
  | true =>
    simp only [wpSs, wpS, wpE, wpA, wpX, wpO, wpT, wpI, wpF, sSeq, sNext, sCont, sRet, sRetN, sRetF, oLst, sRetO, sIf, sDrop, sSet, sSetF, frz1, sFrz, sFrzs, sApp, sExt, sUnp, sRetC, sSetS, sRaise, sFor, xNil, xE, slotW, xS, rvD, rvL, rvS, dCallF, fCallF, dVar, dC, dLst, dNil, dCons, dTup, fLst, dOp, dAnd, dOr, dNot, dIf, dCall, fCall, dIsi, dRev, dSl, rSlD, rRevD, eB, boolD, eChain, eAnd, eOr, eNot, intD, eNeg, ixW, oInt, oNone, lstW, srtW, sLen, sIx, binW, cmpW, subW, modW, rAdd, rMul, powW, fdivW, ltW, leW, gtW, geW, eqW, neW, rEqq, rNeq, inW, isW, isV, biW, lenD, truW, iSeq, seqD, iRange1, iRange2, rng1, rng2, iEnu, enu1, iZip2, zip2, fLc, tTT, s0, List.map_cons, List.map_nil, List.length_cons, List.length_nil, List.replicate, List.cons_append, List.nil_append, List.getElem?_cons_zero, List.getElem?_cons_succ, List.set_cons_zero, List.set_cons_succ, List.foldr_cons, List.foldr_nil, Nat.zero_add, Nat.reduceAdd, Nat.reduceSub, List.getElem?_nil, true_and, and_true, eq_self, wipeG, Bool.not_true, Bool.not_false, decide_true, decide_false, optD, Bool.false_eq_true, if_true, if_false, ↓reduceIte]
    refine holds_ok s hB hv ?_
    simp only [wpSs, wpS, wpE, wpA, wpX, wpO, wpT, wpI, wpF, sSeq, sNext, sCont, sRet, sRetN, sRetF, oLst, sRetO, sIf, sDrop, sSet, sSetF, frz1, sFrz, sFrzs, sApp, sExt, sUnp, sRetC, sSetS, sRaise, sFor, xNil, xE, slotW, xS, rvD, rvL, rvS, dCallF, fCallF, dVar, dC, dLst, dNil, dCons, dTup, fLst, dOp, dAnd, dOr, dNot, dIf, dCall, fCall, dIsi, dRev, dSl, rSlD, rRevD, eB, boolD, eChain, eAnd, eOr, eNot, intD, eNeg, ixW, oInt, oNone, lstW, srtW, sLen, sIx, binW, cmpW, subW, modW, rAdd, rMul, powW, fdivW, ltW, leW, gtW, geW, eqW, neW, rEqq, rNeq, inW, isW, isV, biW, lenD, truW, iSeq, seqD, iRange1, iRange2, rng1, rng2, iEnu, enu1, iZip2, zip2, fLc, tTT, s0, List.map_cons, List.map_nil, List.length_cons, List.length_nil, List.replicate, List.cons_append, List.nil_append, List.getElem?_cons_zero, List.getElem?_cons_succ, List.set_cons_zero, List.set_cons_succ, List.foldr_cons, List.foldr_nil, Nat.zero_add, Nat.reduceAdd, Nat.reduceSub, List.getElem?_nil, true_and, and_true, eq_self, wipeG, Bool.not_true, Bool.not_false, decide_true, decide_false, optD, Bool.false_eq_true, if_true, if_false, ↓reduceIte]
    refine met_ok s hA hB ?_
    simp only [wpSs, wpS, wpE, wpA, wpX, wpO, wpT, wpI, wpF, sSeq, sNext, sCont, sRet, sRetN, sRetF, oLst, sRetO, sIf, sDrop, sSet, sSetF, frz1, sFrz, sFrzs, sApp, sExt, sUnp, sRetC, sSetS, sRaise, sFor, xNil, xE, slotW, xS, rvD, rvL, rvS, dCallF, fCallF, dVar, dC, dLst, dNil, dCons, dTup, fLst, dOp, dAnd, dOr, dNot, dIf, dCall, fCall, dIsi, dRev, dSl, rSlD, rRevD, eB, boolD, eChain, eAnd, eOr, eNot, intD, eNeg, ixW, oInt, oNone, lstW, srtW, sLen, sIx, binW, cmpW, subW, modW, rAdd, rMul, powW, fdivW, ltW, leW, gtW, geW, eqW, neW, rEqq, rNeq, inW, isW, isV, biW, lenD, truW, iSeq, seqD, iRange1, iRange2, rng1, rng2, iEnu, enu1, iZip2, zip2, fLc, tTT, s0, List.map_cons, List.map_nil, List.length_cons, List.length_nil, List.replicate, List.cons_append, List.nil_append, List.getElem?_cons_zero, List.getElem?_cons_succ, List.set_cons_zero, List.set_cons_succ, List.foldr_cons, List.foldr_nil, Nat.zero_add, Nat.reduceAdd, Nat.reduceSub, List.getElem?_nil, true_and, and_true, eq_self, wipeG, Bool.not_true, Bool.not_false, decide_true, decide_false, optD, Bool.false_eq_true, if_true, if_false, ↓reduceIte]
    refine holds_ok s mAB hv ?_
    simp only [wpSs, wpS, wpE, wpA, wpX, wpO, wpT, wpI, wpF, sSeq, sNext, sCont, sRet, sRetN, sRetF, oLst, sRetO, sIf, sDrop, sSet, sSetF, frz1, sFrz, sFrzs, sApp, sExt, sUnp, sRetC, sSetS, sRaise, sFor, xNil, xE, slotW, xS, rvD, rvL, rvS, dCallF, fCallF, dVar, dC, dLst, dNil, dCons, dTup, fLst, dOp, dAnd, dOr, dNot, dIf, dCall, fCall, dIsi, dRev, dSl, rSlD, rRevD, eB, boolD, eChain, eAnd, eOr, eNot, intD, eNeg, ixW, oInt, oNone, lstW, srtW, sLen, sIx, binW, cmpW, subW, modW, rAdd, rMul, powW, fdivW, ltW, leW, gtW, geW, eqW, neW, rEqq, rNeq, inW, isW, isV, biW, lenD, truW, iSeq, seqD, iRange1, iRange2, rng1, rng2, iEnu, enu1, iZip2, zip2, fLc, tTT, s0, List.map_cons, List.map_nil, List.length_cons, List.length_nil, List.replicate, List.cons_append, List.nil_append, List.getElem?_cons_zero, List.getElem?_cons_succ, List.set_cons_zero, List.set_cons_succ, List.foldr_cons, List.foldr_nil, Nat.zero_add, Nat.reduceAdd, Nat.reduceSub, List.getElem?_nil, true_and, and_true, eq_self, wipeG, Bool.not_true, Bool.not_false, decide_true, decide_false, optD, Bool.false_eq_true, if_true, if_false, ↓reduceIte]
    refine ⟨dOk_bool _, dOk_bool _, ?_⟩
    rw [held_met s hA hB hv, c]
    simp only [Bool.true_and, Bool.false_and, eqv_bool_self, wpSs, wpS, wpE, wpA, wpX, wpO, wpT, wpI, wpF, sSeq, sNext, sCont, sRet, sRetN, sRetF, oLst, sRetO, sIf, sDrop, sSet, sSetF, frz1, sFrz, sFrzs, sApp, sExt, sUnp, sRetC, sSetS, sRaise, sFor, xNil, xE, slotW, xS, rvD, rvL, rvS, dCallF, fCallF, dVar, dC, dLst, dNil, dCons, dTup, fLst, dOp, dAnd, dOr, dNot, dIf, dCall, fCall, dIsi, dRev, dSl, rSlD, rRevD, eB, boolD, eChain, eAnd, eOr, eNot, intD, eNeg, ixW, oInt, oNone, lstW, srtW, sLen, sIx, binW, cmpW, subW, modW, rAdd, rMul, powW, fdivW, ltW, leW, gtW, geW, eqW, neW, rEqq, rNeq, inW, isW, isV, biW, lenD, truW, iSeq, seqD, iRange1, iRange2, rng1, rng2, iEnu, enu1, iZip2, zip2, fLc, tTT, s0, List.map_cons, List.map_nil, List.length_cons, List.length_nil, List.replicate, List.cons_append, List.nil_append, List.getElem?_cons_zero, List.getElem?_cons_succ, List.set_cons_zero, List.set_cons_succ, List.foldr_cons, List.foldr_nil, Nat.zero_add, Nat.reduceAdd, Nat.reduceSub, List.getElem?_nil, true_and, and_true, eq_self, wipeG, Bool.not_true, Bool.not_false, decide_true, decide_false, optD, Bool.false_eq_true, if_true, if_false, ↓reduceIte]
    refine met_ok s hA hB ?_
    simp only [wpSs, wpS, wpE, wpA, wpX, wpO, wpT, wpI, wpF, sSeq, sNext, sCont, sRet, sRetN, sRetF, oLst, sRetO, sIf, sDrop, sSet, sSetF, frz1, sFrz, sFrzs, sApp, sExt, sUnp, sRetC, sSetS, sRaise, sFor, xNil, xE, slotW, xS, rvD, rvL, rvS, dCallF, fCallF, dVar, dC, dLst, dNil, dCons, dTup, fLst, dOp, dAnd, dOr, dNot, dIf, dCall, fCall, dIsi, dRev, dSl, rSlD, rRevD, eB, boolD, eChain, eAnd, eOr, eNot, intD, eNeg, ixW, oInt, oNone, lstW, srtW, sLen, sIx, binW, cmpW, subW, modW, rAdd, rMul, powW, fdivW, ltW, leW, gtW, geW, eqW, neW, rEqq, rNeq, inW, isW, isV, biW, lenD, truW, iSeq, seqD, iRange1, iRange2, rng1, rng2, iEnu, enu1, iZip2, zip2, fLc, tTT, s0, List.map_cons, List.map_nil, List.length_cons, List.length_nil, List.replicate, List.cons_append, List.nil_append, List.getElem?_cons_zero, List.getElem?_cons_succ, List.set_cons_zero, List.set_cons_succ, List.foldr_cons, List.foldr_nil, Nat.zero_add, Nat.reduceAdd, Nat.reduceSub, List.getElem?_nil, true_and, and_true, eq_self, wipeG, Bool.not_true, Bool.not_false, decide_true, decide_false, optD, Bool.false_eq_true, if_true, if_false, ↓reduceIte]
    refine rows_of_ok s mAB ?_
    simp only [wpSs, wpS, wpE, wpA, wpX, wpO, wpT, wpI, wpF, sSeq, sNext, sCont, sRet, sRetN, sRetF, oLst, sRetO, sIf, sDrop, sSet, sSetF, frz1, sFrz, sFrzs, sApp, sExt, sUnp, sRetC, sSetS, sRaise, sFor, xNil, xE, slotW, xS, rvD, rvL, rvS, dCallF, fCallF, dVar, dC, dLst, dNil, dCons, dTup, fLst, dOp, dAnd, dOr, dNot, dIf, dCall, fCall, dIsi, dRev, dSl, rSlD, rRevD, eB, boolD, eChain, eAnd, eOr, eNot, intD, eNeg, ixW, oInt, oNone, lstW, srtW, sLen, sIx, binW, cmpW, subW, modW, rAdd, rMul, powW, fdivW, ltW, leW, gtW, geW, eqW, neW, rEqq, rNeq, inW, isW, isV, biW, lenD, truW, iSeq, seqD, iRange1, iRange2, rng1, rng2, iEnu, enu1, iZip2, zip2, fLc, tTT, s0, List.map_cons, List.map_nil, List.length_cons, List.length_nil, List.replicate, List.cons_append, List.nil_append, List.getElem?_cons_zero, List.getElem?_cons_succ, List.set_cons_zero, List.set_cons_succ, List.foldr_cons, List.foldr_nil, Nat.zero_add, Nat.reduceAdd, Nat.reduceSub, List.getElem?_nil, true_and, and_true, eq_self, wipeG, Bool.not_true, Bool.not_false, decide_true, decide_false, optD, Bool.false_eq_true, if_true, if_false, ↓reduceIte]
    refine rows_of_ok s hA ?_
    simp only [wpSs, wpS, wpE, wpA, wpX, wpO, wpT, wpI, wpF, sSeq, sNext, sCont, sRet, sRetN, sRetF, oLst, sRetO, sIf, sDrop, sSet, sSetF, frz1, sFrz, sFrzs, sApp, sExt, sUnp, sRetC, sSetS, sRaise, sFor, xNil, xE, slotW, xS, rvD, rvL, rvS, dCallF, fCallF, dVar, dC, dLst, dNil, dCons, dTup, fLst, dOp, dAnd, dOr, dNot, dIf, dCall, fCall, dIsi, dRev, dSl, rSlD, rRevD, eB, boolD, eChain, eAnd, eOr, eNot, intD, eNeg, ixW, oInt, oNone, lstW, srtW, sLen, sIx, binW, cmpW, subW, modW, rAdd, rMul, powW, fdivW, ltW, leW, gtW, geW, eqW, neW, rEqq, rNeq, inW, isW, isV, biW, lenD, truW, iSeq, seqD, iRange1, iRange2, rng1, rng2, iEnu, enu1, iZip2, zip2, fLc, tTT, s0, List.map_cons, List.map_nil, List.length_cons, List.length_nil, List.replicate, List.cons_append, List.nil_append, List.getElem?_cons_zero, List.getElem?_cons_succ, List.set_cons_zero, List.set_cons_succ, List.foldr_cons, List.foldr_nil, Nat.zero_add, Nat.reduceAdd, Nat.reduceSub, List.getElem?_nil, true_and, and_true, eq_self, wipeG, Bool.not_true, Bool.not_false, decide_true, decide_false, optD, Bool.false_eq_true, if_true, if_false, ↓reduceIte]
    refine ⟨rfl, lcGo_one rowD rowD (fun r => decide (red p B r = zr n)) _ [] (fun y hy K hK => ?_) (fun y _ _ K hK => ?_) ?_⟩
    · simp only [wpSs, wpS, wpE, wpA, wpX, wpO, wpT, wpI, wpF, sSeq, sNext, sCont, sRet, sRetN, sRetF, oLst, sRetO, sIf, sDrop, sSet, sSetF, frz1, sFrz, sFrzs, sApp, sExt, sUnp, sRetC, sSetS, sRaise, sFor, xNil, xE, slotW, xS, rvD, rvL, rvS, dCallF, fCallF, dVar, dC, dLst, dNil, dCons, dTup, fLst, dOp, dAnd, dOr, dNot, dIf, dCall, fCall, dIsi, dRev, dSl, rSlD, rRevD, eB, boolD, eChain, eAnd, eOr, eNot, intD, eNeg, ixW, oInt, oNone, lstW, srtW, sLen, sIx, binW, cmpW, subW, modW, rAdd, rMul, powW, fdivW, ltW, leW, gtW, geW, eqW, neW, rEqq, rNeq, inW, isW, isV, biW, lenD, truW, iSeq, seqD, iRange1, iRange2, rng1, rng2, iEnu, enu1, iZip2, zip2, fLc, tTT, s0, List.map_cons, List.map_nil, List.length_cons, List.length_nil, List.replicate, List.cons_append, List.nil_append, List.getElem?_cons_zero, List.getElem?_cons_succ, List.set_cons_zero, List.set_cons_succ, List.foldr_cons, List.foldr_nil, Nat.zero_add, Nat.reduceAdd, Nat.reduceSub, List.getElem?_nil, true_and, and_true, eq_self, wipeG, Bool.not_true, Bool.not_false, decide_true, decide_false, optD, Bool.false_eq_true, if_true, if_false, ↓reduceIte]
      exact holds_ok s hB (rowsM_row s hA hy) hK
    · simp only [wpSs, wpS, wpE, wpA, wpX, wpO, wpT, wpI, wpF, sSeq, sNext, sCont, sRet, sRetN, sRetF, oLst, sRetO, sIf, sDrop, sSet, sSetF, frz1, sFrz, sFrzs, sApp, sExt, sUnp, sRetC, sSetS, sRaise, sFor, xNil, xE, slotW, xS, rvD, rvL, rvS, dCallF, fCallF, dVar, dC, dLst, dNil, dCons, dTup, fLst, dOp, dAnd, dOr, dNot, dIf, dCall, fCall, dIsi, dRev, dSl, rSlD, rRevD, eB, boolD, eChain, eAnd, eOr, eNot, intD, eNeg, ixW, oInt, oNone, lstW, srtW, sLen, sIx, binW, cmpW, subW, modW, rAdd, rMul, powW, fdivW, ltW, leW, gtW, geW, eqW, neW, rEqq, rNeq, inW, isW, isV, biW, lenD, truW, iSeq, seqD, iRange1, iRange2, rng1, rng2, iEnu, enu1, iZip2, zip2, fLc, tTT, s0, List.map_cons, List.map_nil, List.length_cons, List.length_nil, List.replicate, List.cons_append, List.nil_append, List.getElem?_cons_zero, List.getElem?_cons_succ, List.set_cons_zero, List.set_cons_succ, List.foldr_cons, List.foldr_nil, Nat.zero_add, Nat.reduceAdd, Nat.reduceSub, List.getElem?_nil, true_and, and_true, eq_self, wipeG, Bool.not_true, Bool.not_false, decide_true, decide_false, optD, Bool.false_eq_true, if_true, if_false, ↓reduceIte]
      exact hK
    · rw [List.nil_append]
      refine ⟨dOk_matL _, dOk_matL _, ?_⟩
      have e := eqv_matL (rowsM p n (metM p n A B)) ((rowsM p n A).filter fun r => decide (red p B r = zr n))
      rw [decide_eq_true (rows_met s hA hB)] at e
      rw [show PyData.eqv (PyData.list ((rowsM p n (metM p n A B)).map rowD)) (PyData.list (((rowsM p n A).filter fun r => decide (red p B r = zr n)).map rowD)) = true from e]
      exact h
  | false =>
    simp only [wpSs, wpS, wpE, wpA, wpX, wpO, wpT, wpI, wpF, sSeq, sNext, sCont, sRet, sRetN, sRetF, oLst, sRetO, sIf, sDrop, sSet, sSetF, frz1, sFrz, sFrzs, sApp, sExt, sUnp, sRetC, sSetS, sRaise, sFor, xNil, xE, slotW, xS, rvD, rvL, rvS, dCallF, fCallF, dVar, dC, dLst, dNil, dCons, dTup, fLst, dOp, dAnd, dOr, dNot, dIf, dCall, fCall, dIsi, dRev, dSl, rSlD, rRevD, eB, boolD, eChain, eAnd, eOr, eNot, intD, eNeg, ixW, oInt, oNone, lstW, srtW, sLen, sIx, binW, cmpW, subW, modW, rAdd, rMul, powW, fdivW, ltW, leW, gtW, geW, eqW, neW, rEqq, rNeq, inW, isW, isV, biW, lenD, truW, iSeq, seqD, iRange1, iRange2, rng1, rng2, iEnu, enu1, iZip2, zip2, fLc, tTT, s0, List.map_cons, List.map_nil, List.length_cons, List.length_nil, List.replicate, List.cons_append, List.nil_append, List.getElem?_cons_zero, List.getElem?_cons_succ, List.set_cons_zero, List.set_cons_succ, List.foldr_cons, List.foldr_nil, Nat.zero_add, Nat.reduceAdd, Nat.reduceSub, List.getElem?_nil, true_and, and_true, eq_self, wipeG, Bool.not_true, Bool.not_false, decide_true, decide_false, optD, Bool.false_eq_true, if_true, if_false, ↓reduceIte]
    refine met_ok s hA hB ?_
    simp only [wpSs, wpS, wpE, wpA, wpX, wpO, wpT, wpI, wpF, sSeq, sNext, sCont, sRet, sRetN, sRetF, oLst, sRetO, sIf, sDrop, sSet, sSetF, frz1, sFrz, sFrzs, sApp, sExt, sUnp, sRetC, sSetS, sRaise, sFor, xNil, xE, slotW, xS, rvD, rvL, rvS, dCallF, fCallF, dVar, dC, dLst, dNil, dCons, dTup, fLst, dOp, dAnd, dOr, dNot, dIf, dCall, fCall, dIsi, dRev, dSl, rSlD, rRevD, eB, boolD, eChain, eAnd, eOr, eNot, intD, eNeg, ixW, oInt, oNone, lstW, srtW, sLen, sIx, binW, cmpW, subW, modW, rAdd, rMul, powW, fdivW, ltW, leW, gtW, geW, eqW, neW, rEqq, rNeq, inW, isW, isV, biW, lenD, truW, iSeq, seqD, iRange1, iRange2, rng1, rng2, iEnu, enu1, iZip2, zip2, fLc, tTT, s0, List.map_cons, List.map_nil, List.length_cons, List.length_nil, List.replicate, List.cons_append, List.nil_append, List.getElem?_cons_zero, List.getElem?_cons_succ, List.set_cons_zero, List.set_cons_succ, List.foldr_cons, List.foldr_nil, Nat.zero_add, Nat.reduceAdd, Nat.reduceSub, List.getElem?_nil, true_and, and_true, eq_self, wipeG, Bool.not_true, Bool.not_false, decide_true, decide_false, optD, Bool.false_eq_true, if_true, if_false, ↓reduceIte]
    refine holds_ok s mAB hv ?_
    simp only [wpSs, wpS, wpE, wpA, wpX, wpO, wpT, wpI, wpF, sSeq, sNext, sCont, sRet, sRetN, sRetF, oLst, sRetO, sIf, sDrop, sSet, sSetF, frz1, sFrz, sFrzs, sApp, sExt, sUnp, sRetC, sSetS, sRaise, sFor, xNil, xE, slotW, xS, rvD, rvL, rvS, dCallF, fCallF, dVar, dC, dLst, dNil, dCons, dTup, fLst, dOp, dAnd, dOr, dNot, dIf, dCall, fCall, dIsi, dRev, dSl, rSlD, rRevD, eB, boolD, eChain, eAnd, eOr, eNot, intD, eNeg, ixW, oInt, oNone, lstW, srtW, sLen, sIx, binW, cmpW, subW, modW, rAdd, rMul, powW, fdivW, ltW, leW, gtW, geW, eqW, neW, rEqq, rNeq, inW, isW, isV, biW, lenD, truW, iSeq, seqD, iRange1, iRange2, rng1, rng2, iEnu, enu1, iZip2, zip2, fLc, tTT, s0, List.map_cons, List.map_nil, List.length_cons, List.length_nil, List.replicate, List.cons_append, List.nil_append, List.getElem?_cons_zero, List.getElem?_cons_succ, List.set_cons_zero, List.set_cons_succ, List.foldr_cons, List.foldr_nil, Nat.zero_add, Nat.reduceAdd, Nat.reduceSub, List.getElem?_nil, true_and, and_true, eq_self, wipeG, Bool.not_true, Bool.not_false, decide_true, decide_false, optD, Bool.false_eq_true, if_true, if_false, ↓reduceIte]
    refine ⟨dOk_bool _, dOk_bool _, ?_⟩
    rw [held_met s hA hB hv, c]
    simp only [Bool.true_and, Bool.false_and, eqv_bool_self, wpSs, wpS, wpE, wpA, wpX, wpO, wpT, wpI, wpF, sSeq, sNext, sCont, sRet, sRetN, sRetF, oLst, sRetO, sIf, sDrop, sSet, sSetF, frz1, sFrz, sFrzs, sApp, sExt, sUnp, sRetC, sSetS, sRaise, sFor, xNil, xE, slotW, xS, rvD, rvL, rvS, dCallF, fCallF, dVar, dC, dLst, dNil, dCons, dTup, fLst, dOp, dAnd, dOr, dNot, dIf, dCall, fCall, dIsi, dRev, dSl, rSlD, rRevD, eB, boolD, eChain, eAnd, eOr, eNot, intD, eNeg, ixW, oInt, oNone, lstW, srtW, sLen, sIx, binW, cmpW, subW, modW, rAdd, rMul, powW, fdivW, ltW, leW, gtW, geW, eqW, neW, rEqq, rNeq, inW, isW, isV, biW, lenD, truW, iSeq, seqD, iRange1, iRange2, rng1, rng2, iEnu, enu1, iZip2, zip2, fLc, tTT, s0, List.map_cons, List.map_nil, List.length_cons, List.length_nil, List.replicate, List.cons_append, List.nil_append, List.getElem?_cons_zero, List.getElem?_cons_succ, List.set_cons_zero, List.set_cons_succ, List.foldr_cons, List.foldr_nil, Nat.zero_add, Nat.reduceAdd, Nat.reduceSub, List.getElem?_nil, true_and, and_true, eq_self, wipeG, Bool.not_true, Bool.not_false, decide_true, decide_false, optD, Bool.false_eq_true, if_true, if_false, ↓reduceIte]
    refine met_ok s hA hB ?_
    simp only [wpSs, wpS, wpE, wpA, wpX, wpO, wpT, wpI, wpF, sSeq, sNext, sCont, sRet, sRetN, sRetF, oLst, sRetO, sIf, sDrop, sSet, sSetF, frz1, sFrz, sFrzs, sApp, sExt, sUnp, sRetC, sSetS, sRaise, sFor, xNil, xE, slotW, xS, rvD, rvL, rvS, dCallF, fCallF, dVar, dC, dLst, dNil, dCons, dTup, fLst, dOp, dAnd, dOr, dNot, dIf, dCall, fCall, dIsi, dRev, dSl, rSlD, rRevD, eB, boolD, eChain, eAnd, eOr, eNot, intD, eNeg, ixW, oInt, oNone, lstW, srtW, sLen, sIx, binW, cmpW, subW, modW, rAdd, rMul, powW, fdivW, ltW, leW, gtW, geW, eqW, neW, rEqq, rNeq, inW, isW, isV, biW, lenD, truW, iSeq, seqD, iRange1, iRange2, rng1, rng2, iEnu, enu1, iZip2, zip2, fLc, tTT, s0, List.map_cons, List.map_nil, List.length_cons, List.length_nil, List.replicate, List.cons_append, List.nil_append, List.getElem?_cons_zero, List.getElem?_cons_succ, List.set_cons_zero, List.set_cons_succ, List.foldr_cons, List.foldr_nil, Nat.zero_add, Nat.reduceAdd, Nat.reduceSub, List.getElem?_nil, true_and, and_true, eq_self, wipeG, Bool.not_true, Bool.not_false, decide_true, decide_false, optD, Bool.false_eq_true, if_true, if_false, ↓reduceIte]
    refine rows_of_ok s mAB ?_
    simp only [wpSs, wpS, wpE, wpA, wpX, wpO, wpT, wpI, wpF, sSeq, sNext, sCont, sRet, sRetN, sRetF, oLst, sRetO, sIf, sDrop, sSet, sSetF, frz1, sFrz, sFrzs, sApp, sExt, sUnp, sRetC, sSetS, sRaise, sFor, xNil, xE, slotW, xS, rvD, rvL, rvS, dCallF, fCallF, dVar, dC, dLst, dNil, dCons, dTup, fLst, dOp, dAnd, dOr, dNot, dIf, dCall, fCall, dIsi, dRev, dSl, rSlD, rRevD, eB, boolD, eChain, eAnd, eOr, eNot, intD, eNeg, ixW, oInt, oNone, lstW, srtW, sLen, sIx, binW, cmpW, subW, modW, rAdd, rMul, powW, fdivW, ltW, leW, gtW, geW, eqW, neW, rEqq, rNeq, inW, isW, isV, biW, lenD, truW, iSeq, seqD, iRange1, iRange2, rng1, rng2, iEnu, enu1, iZip2, zip2, fLc, tTT, s0, List.map_cons, List.map_nil, List.length_cons, List.length_nil, List.replicate, List.cons_append, List.nil_append, List.getElem?_cons_zero, List.getElem?_cons_succ, List.set_cons_zero, List.set_cons_succ, List.foldr_cons, List.foldr_nil, Nat.zero_add, Nat.reduceAdd, Nat.reduceSub, List.getElem?_nil, true_and, and_true, eq_self, wipeG, Bool.not_true, Bool.not_false, decide_true, decide_false, optD, Bool.false_eq_true, if_true, if_false, ↓reduceIte]
    refine rows_of_ok s hA ?_
    simp only [wpSs, wpS, wpE, wpA, wpX, wpO, wpT, wpI, wpF, sSeq, sNext, sCont, sRet, sRetN, sRetF, oLst, sRetO, sIf, sDrop, sSet, sSetF, frz1, sFrz, sFrzs, sApp, sExt, sUnp, sRetC, sSetS, sRaise, sFor, xNil, xE, slotW, xS, rvD, rvL, rvS, dCallF, fCallF, dVar, dC, dLst, dNil, dCons, dTup, fLst, dOp, dAnd, dOr, dNot, dIf, dCall, fCall, dIsi, dRev, dSl, rSlD, rRevD, eB, boolD, eChain, eAnd, eOr, eNot, intD, eNeg, ixW, oInt, oNone, lstW, srtW, sLen, sIx, binW, cmpW, subW, modW, rAdd, rMul, powW, fdivW, ltW, leW, gtW, geW, eqW, neW, rEqq, rNeq, inW, isW, isV, biW, lenD, truW, iSeq, seqD, iRange1, iRange2, rng1, rng2, iEnu, enu1, iZip2, zip2, fLc, tTT, s0, List.map_cons, List.map_nil, List.length_cons, List.length_nil, List.replicate, List.cons_append, List.nil_append, List.getElem?_cons_zero, List.getElem?_cons_succ, List.set_cons_zero, List.set_cons_succ, List.foldr_cons, List.foldr_nil, Nat.zero_add, Nat.reduceAdd, Nat.reduceSub, List.getElem?_nil, true_and, and_true, eq_self, wipeG, Bool.not_true, Bool.not_false, decide_true, decide_false, optD, Bool.false_eq_true, if_true, if_false, ↓reduceIte]
    refine ⟨rfl, lcGo_one rowD rowD (fun r => decide (red p B r = zr n)) _ [] (fun y hy K hK => ?_) (fun y _ _ K hK => ?_) ?_⟩
    · simp only [wpSs, wpS, wpE, wpA, wpX, wpO, wpT, wpI, wpF, sSeq, sNext, sCont, sRet, sRetN, sRetF, oLst, sRetO, sIf, sDrop, sSet, sSetF, frz1, sFrz, sFrzs, sApp, sExt, sUnp, sRetC, sSetS, sRaise, sFor, xNil, xE, slotW, xS, rvD, rvL, rvS, dCallF, fCallF, dVar, dC, dLst, dNil, dCons, dTup, fLst, dOp, dAnd, dOr, dNot, dIf, dCall, fCall, dIsi, dRev, dSl, rSlD, rRevD, eB, boolD, eChain, eAnd, eOr, eNot, intD, eNeg, ixW, oInt, oNone, lstW, srtW, sLen, sIx, binW, cmpW, subW, modW, rAdd, rMul, powW, fdivW, ltW, leW, gtW, geW, eqW, neW, rEqq, rNeq, inW, isW, isV, biW, lenD, truW, iSeq, seqD, iRange1, iRange2, rng1, rng2, iEnu, enu1, iZip2, zip2, fLc, tTT, s0, List.map_cons, List.map_nil, List.length_cons, List.length_nil, List.replicate, List.cons_append, List.nil_append, List.getElem?_cons_zero, List.getElem?_cons_succ, List.set_cons_zero, List.set_cons_succ, List.foldr_cons, List.foldr_nil, Nat.zero_add, Nat.reduceAdd, Nat.reduceSub, List.getElem?_nil, true_and, and_true, eq_self, wipeG, Bool.not_true, Bool.not_false, decide_true, decide_false, optD, Bool.false_eq_true, if_true, if_false, ↓reduceIte]
      exact holds_ok s hB (rowsM_row s hA hy) hK
    · simp only [wpSs, wpS, wpE, wpA, wpX, wpO, wpT, wpI, wpF, sSeq, sNext, sCont, sRet, sRetN, sRetF, oLst, sRetO, sIf, sDrop, sSet, sSetF, frz1, sFrz, sFrzs, sApp, sExt, sUnp, sRetC, sSetS, sRaise, sFor, xNil, xE, slotW, xS, rvD, rvL, rvS, dCallF, fCallF, dVar, dC, dLst, dNil, dCons, dTup, fLst, dOp, dAnd, dOr, dNot, dIf, dCall, fCall, dIsi, dRev, dSl, rSlD, rRevD, eB, boolD, eChain, eAnd, eOr, eNot, intD, eNeg, ixW, oInt, oNone, lstW, srtW, sLen, sIx, binW, cmpW, subW, modW, rAdd, rMul, powW, fdivW, ltW, leW, gtW, geW, eqW, neW, rEqq, rNeq, inW, isW, isV, biW, lenD, truW, iSeq, seqD, iRange1, iRange2, rng1, rng2, iEnu, enu1, iZip2, zip2, fLc, tTT, s0, List.map_cons, List.map_nil, List.length_cons, List.length_nil, List.replicate, List.cons_append, List.nil_append, List.getElem?_cons_zero, List.getElem?_cons_succ, List.set_cons_zero, List.set_cons_succ, List.foldr_cons, List.foldr_nil, Nat.zero_add, Nat.reduceAdd, Nat.reduceSub, List.getElem?_nil, true_and, and_true, eq_self, wipeG, Bool.not_true, Bool.not_false, decide_true, decide_false, optD, Bool.false_eq_true, if_true, if_false, ↓reduceIte]
      exact hK
    · rw [List.nil_append]
      refine ⟨dOk_matL _, dOk_matL _, ?_⟩
      have e := eqv_matL (rowsM p n (metM p n A B)) ((rowsM p n A).filter fun r => decide (red p B r = zr n))
      rw [decide_eq_true (rows_met s hA hB)] at e
      rw [show PyData.eqv (PyData.list ((rowsM p n (metM p n A B)).map rowD)) (PyData.list (((rowsM p n A).filter fun r => decide (red p B r = zr n)).map rowD)) = true from e]
      exact h
end
end ME

end
section
set_option Elab.async false
set_option linter.all false
set_option maxRecDepth 100000
set_option autoImplicit false
set_option maxHeartbeats 400000
namespace ME
open PySem DP MA
section
variable {k : Nat} {Q : RV → Prop} {E : Str → Prop} {p : Int} {n : Nat} {A B C : List Rw} {a u v w : Rw}
theorem len3 {α : Type} {ys : List α} (h : ys.length = 3) : ∃ a b c, ys = [a, b, c] := by
  match ys, h with
  | [a, b, c], _ => exact ⟨a, b, c, rfl⟩
theorem row_of_okD (s : Sp p n) {K : PyData → Prop} (h : ∀ v, Row p n v → K (rowD v)) : wpFn DB.Γ (k + 2) DB.law_row_of_k21 [.m .st, .d (spD p n)] (rvD K) E := row_of_ok s h
theorem law_goal (ns : List Int) {lv : Nat} (hlv : lv = k + 10) : wpFn DB.Γ lv DB.law_k23 [.scr ns] (fun rv => rv = .d (.bool true)) E := by
  subst hlv
  refine fn_go DB.g_law_k23 ?_
  simp only [DB.b_law_k23, wpSs, wpS, wpE, wpA, wpX, wpO, wpT, wpI, wpF, sSeq, sNext, sCont, sRet, sRetN, sRetF, oLst, sRetO, sIf, sDrop, sSet, sSetF, frz1, sFrz, sFrzs, sApp, sExt, sUnp, sRetC, sSetS, sRaise, sFor, xNil, xE, slotW, xS, rvD, rvL, rvS, dCallF, fCallF, dVar, dC, dLst, dNil, dCons, dTup, fLst, dOp, dAnd, dOr, dNot, dIf, dCall, fCall, dIsi, dRev, dSl, rSlD, rRevD, eB, boolD, eChain, eAnd, eOr, eNot, intD, eNeg, ixW, oInt, oNone, lstW, srtW, sLen, sIx, binW, cmpW, subW, modW, rAdd, rMul, powW, fdivW, ltW, leW, gtW, geW, eqW, neW, rEqq, rNeq, inW, isW, isV, biW, lenD, truW, iSeq, seqD, iRange1, iRange2, rng1, rng2, iEnu, enu1, iZip2, zip2, fLc, tTT, s0, List.map_cons, List.map_nil, List.length_cons, List.length_nil, List.replicate, List.cons_append, List.nil_append, List.getElem?_cons_zero, List.getElem?_cons_succ, List.set_cons_zero, List.set_cons_succ, List.foldr_cons, List.foldr_nil, Nat.zero_add, Nat.reduceAdd, Nat.reduceSub, List.getElem?_nil, true_and, and_true, eq_self, wipeG, Bool.not_true, Bool.not_false, decide_true, decide_false, optD, Bool.false_eq_true, if_true, if_false, ↓reduceIte]
  have hm : ∃ m : Nat, (if (if (5 : Int) < ns.length then (5 : Int) else (ns.length : Int)) > 1 then (if (5 : Int) < ns.length then (5 : Int) else (ns.length : Int)) else 1) = (m : Int) ∧ m ≤ 5 := by
    by_cases c : (5 : Int) < ns.length
    · rw [if_pos c, if_pos (by omega)]
      exact ⟨5, rfl, by omega⟩
    · rw [if_neg c]
      by_cases c2 : (ns.length : Int) > 1
      · rw [if_pos c2]
        exact ⟨ns.length, rfl, by omega⟩
      · rw [if_neg c2]
        exact ⟨1, rfl, by omega⟩
  obtain ⟨m, em, hm⟩ := hm
  rw [em]
  refine ⟨by omega, by omega, ?_⟩
  rw [rng_nats, Int.toNat_natCast]
  refine forGo_inv (fun (i : Nat) => PyData.int (i : Int)) (fun l r => ∃ (o1 o2 o3 o4 o5 o6 : Option SV), r = [some (.scr ns), o1, o2, o3, o4, o5, o6, none]) ?_ ?_ _ _ ⟨_, _, _, _, _, _, rfl⟩
  · rintro r ⟨o1, o2, o3, o4, o5, o6, rfl⟩
    simp only [wpSs, wpS, wpE, wpA, wpX, wpO, wpT, wpI, wpF, sSeq, sNext, sCont, sRet, sRetN, sRetF, oLst, sRetO, sIf, sDrop, sSet, sSetF, frz1, sFrz, sFrzs, sApp, sExt, sUnp, sRetC, sSetS, sRaise, sFor, xNil, xE, slotW, xS, rvD, rvL, rvS, dCallF, fCallF, dVar, dC, dLst, dNil, dCons, dTup, fLst, dOp, dAnd, dOr, dNot, dIf, dCall, fCall, dIsi, dRev, dSl, rSlD, rRevD, eB, boolD, eChain, eAnd, eOr, eNot, intD, eNeg, ixW, oInt, oNone, lstW, srtW, sLen, sIx, binW, cmpW, subW, modW, rAdd, rMul, powW, fdivW, ltW, leW, gtW, geW, eqW, neW, rEqq, rNeq, inW, isW, isV, biW, lenD, truW, iSeq, seqD, iRange1, iRange2, rng1, rng2, iEnu, enu1, iZip2, zip2, fLc, tTT, s0, List.map_cons, List.map_nil, List.length_cons, List.length_nil, List.replicate, List.cons_append, List.nil_append, List.getElem?_cons_zero, List.getElem?_cons_succ, List.set_cons_zero, List.set_cons_succ, List.foldr_cons, List.foldr_nil, Nat.zero_add, Nat.reduceAdd, Nat.reduceSub, List.getElem?_nil, true_and, and_true, eq_self, wipeG, Bool.not_true, Bool.not_false, decide_true, decide_false, optD, Bool.false_eq_true, if_true, if_false, ↓reduceIte]
  · rintro i l r K hK ⟨o1, o2, o3, o4, o5, o6, rfl⟩
    simp only [bindT, wpSs, wpS, wpE, wpA, wpX, wpO, wpT, wpI, wpF, sSeq, sNext, sCont, sRet, sRetN, sRetF, oLst, sRetO, sIf, sDrop, sSet, sSetF, frz1, sFrz, sFrzs, sApp, sExt, sUnp, sRetC, sSetS, sRaise, sFor, xNil, xE, slotW, xS, rvD, rvL, rvS, dCallF, fCallF, dVar, dC, dLst, dNil, dCons, dTup, fLst, dOp, dAnd, dOr, dNot, dIf, dCall, fCall, dIsi, dRev, dSl, rSlD, rRevD, eB, boolD, eChain, eAnd, eOr, eNot, intD, eNeg, ixW, oInt, oNone, lstW, srtW, sLen, sIx, binW, cmpW, subW, modW, rAdd, rMul, powW, fdivW, ltW, leW, gtW, geW, eqW, neW, rEqq, rNeq, inW, isW, isV, biW, lenD, truW, iSeq, seqD, iRange1, iRange2, rng1, rng2, iEnu, enu1, iZip2, zip2, fLc, tTT, s0, List.map_cons, List.map_nil, List.length_cons, List.length_nil, List.replicate, List.cons_append, List.nil_append, List.getElem?_cons_zero, List.getElem?_cons_succ, List.set_cons_zero, List.set_cons_succ, List.foldr_cons, List.foldr_nil, Nat.zero_add, Nat.reduceAdd, Nat.reduceSub, List.getElem?_nil, true_and, and_true, eq_self, wipeG, Bool.not_true, Bool.not_false, decide_true, decide_false, optD, Bool.false_eq_true, if_true, if_false, ↓reduceIte]
    refine state_ok ns i ?_
    refine ⟨small (by omega), ?_⟩
    obtain ⟨q, hq, eq⟩ : ∃ q : Int, 2 ≤ q ∧ atD [.int 27, .int 125] (if decide ((i : Int) = 0) = true then 1 else 0) = some (.int q) := by
      by_cases c : (i : Int) = 0
      · rw [if_pos (decide_eq_true c)]
        exact ⟨125, by omega, atD_one⟩
      · rw [if_neg (by simpa using c)]
        exact ⟨27, by omega, atD_zero⟩
    rw [eq]
    refine space21_ok hq fun p n s => ?_
    refine ⟨by decide, by decide, rfl, ?_⟩
    rw [rng_ints]
    refine lcGo_any PyData.int matT (Part p n) _ [] (fun y hy K hK => ?_) fun ys hl hP => ?_
    · simp only [wpSs, wpS, wpE, wpA, wpX, wpO, wpT, wpI, wpF, sSeq, sNext, sCont, sRet, sRetN, sRetF, oLst, sRetO, sIf, sDrop, sSet, sSetF, frz1, sFrz, sFrzs, sApp, sExt, sUnp, sRetC, sSetS, sRaise, sFor, xNil, xE, slotW, xS, rvD, rvL, rvS, dCallF, fCallF, dVar, dC, dLst, dNil, dCons, dTup, fLst, dOp, dAnd, dOr, dNot, dIf, dCall, fCall, dIsi, dRev, dSl, rSlD, rRevD, eB, boolD, eChain, eAnd, eOr, eNot, intD, eNeg, ixW, oInt, oNone, lstW, srtW, sLen, sIx, binW, cmpW, subW, modW, rAdd, rMul, powW, fdivW, ltW, leW, gtW, geW, eqW, neW, rEqq, rNeq, inW, isW, isV, biW, lenD, truW, iSeq, seqD, iRange1, iRange2, rng1, rng2, iEnu, enu1, iZip2, zip2, fLc, tTT, s0, List.map_cons, List.map_nil, List.length_cons, List.length_nil, List.replicate, List.cons_append, List.nil_append, List.getElem?_cons_zero, List.getElem?_cons_succ, List.set_cons_zero, List.set_cons_succ, List.foldr_cons, List.foldr_nil, Nat.zero_add, Nat.reduceAdd, Nat.reduceSub, List.getElem?_nil, true_and, and_true, eq_self, wipeG, Bool.not_true, Bool.not_false, decide_true, decide_false, optD, Bool.false_eq_true, if_true, if_false, ↓reduceIte]
      exact lpart_ok s hK
    · obtain ⟨A, B, C, rfl⟩ := len3 (by rw [hl, rngI_len]; rfl)
      · have hA := hP A (.head _)
        have hB := hP B (.tail _ (.head _))
        have hC := hP C (.tail _ (.tail _ (.head _)))
        simp only [wpSs, wpS, wpE, wpA, wpX, wpO, wpT, wpI, wpF, sSeq, sNext, sCont, sRet, sRetN, sRetF, oLst, sRetO, sIf, sDrop, sSet, sSetF, frz1, sFrz, sFrzs, sApp, sExt, sUnp, sRetC, sSetS, sRaise, sFor, xNil, xE, slotW, xS, rvD, rvL, rvS, dCallF, fCallF, dVar, dC, dLst, dNil, dCons, dTup, fLst, dOp, dAnd, dOr, dNot, dIf, dCall, fCall, dIsi, dRev, dSl, rSlD, rRevD, eB, boolD, eChain, eAnd, eOr, eNot, intD, eNeg, ixW, oInt, oNone, lstW, srtW, sLen, sIx, binW, cmpW, subW, modW, rAdd, rMul, powW, fdivW, ltW, leW, gtW, geW, eqW, neW, rEqq, rNeq, inW, isW, isV, biW, lenD, truW, iSeq, seqD, iRange1, iRange2, rng1, rng2, iEnu, enu1, iZip2, zip2, fLc, tTT, s0, List.map_cons, List.map_nil, List.length_cons, List.length_nil, List.replicate, List.cons_append, List.nil_append, List.getElem?_cons_zero, List.getElem?_cons_succ, List.set_cons_zero, List.set_cons_succ, List.foldr_cons, List.foldr_nil, Nat.zero_add, Nat.reduceAdd, Nat.reduceSub, List.getElem?_nil, true_and, and_true, eq_self, wipeG, Bool.not_true, Bool.not_false, decide_true, decide_false, optD, Bool.false_eq_true, if_true, if_false, ↓reduceIte]
        refine two_right_ok s hA hB ?_
        simp only [wpSs, wpS, wpE, wpA, wpX, wpO, wpT, wpI, wpF, sSeq, sNext, sCont, sRet, sRetN, sRetF, oLst, sRetO, sIf, sDrop, sSet, sSetF, frz1, sFrz, sFrzs, sApp, sExt, sUnp, sRetC, sSetS, sRaise, sFor, xNil, xE, slotW, xS, rvD, rvL, rvS, dCallF, fCallF, dVar, dC, dLst, dNil, dCons, dTup, fLst, dOp, dAnd, dOr, dNot, dIf, dCall, fCall, dIsi, dRev, dSl, rSlD, rRevD, eB, boolD, eChain, eAnd, eOr, eNot, intD, eNeg, ixW, oInt, oNone, lstW, srtW, sLen, sIx, binW, cmpW, subW, modW, rAdd, rMul, powW, fdivW, ltW, leW, gtW, geW, eqW, neW, rEqq, rNeq, inW, isW, isV, biW, lenD, truW, iSeq, seqD, iRange1, iRange2, rng1, rng2, iEnu, enu1, iZip2, zip2, fLc, tTT, s0, List.map_cons, List.map_nil, List.length_cons, List.length_nil, List.replicate, List.cons_append, List.nil_append, List.getElem?_cons_zero, List.getElem?_cons_succ, List.set_cons_zero, List.set_cons_succ, List.foldr_cons, List.foldr_nil, Nat.zero_add, Nat.reduceAdd, Nat.reduceSub, List.getElem?_nil, true_and, and_true, eq_self, wipeG, Bool.not_true, Bool.not_false, decide_true, decide_false, optD, Bool.false_eq_true, if_true, if_false, ↓reduceIte]
        refine two_right_ok s hA hC ?_
        simp only [wpSs, wpS, wpE, wpA, wpX, wpO, wpT, wpI, wpF, sSeq, sNext, sCont, sRet, sRetN, sRetF, oLst, sRetO, sIf, sDrop, sSet, sSetF, frz1, sFrz, sFrzs, sApp, sExt, sUnp, sRetC, sSetS, sRaise, sFor, xNil, xE, slotW, xS, rvD, rvL, rvS, dCallF, fCallF, dVar, dC, dLst, dNil, dCons, dTup, fLst, dOp, dAnd, dOr, dNot, dIf, dCall, fCall, dIsi, dRev, dSl, rSlD, rRevD, eB, boolD, eChain, eAnd, eOr, eNot, intD, eNeg, ixW, oInt, oNone, lstW, srtW, sLen, sIx, binW, cmpW, subW, modW, rAdd, rMul, powW, fdivW, ltW, leW, gtW, geW, eqW, neW, rEqq, rNeq, inW, isW, isV, biW, lenD, truW, iSeq, seqD, iRange1, iRange2, rng1, rng2, iEnu, enu1, iZip2, zip2, fLc, tTT, s0, List.map_cons, List.map_nil, List.length_cons, List.length_nil, List.replicate, List.cons_append, List.nil_append, List.getElem?_cons_zero, List.getElem?_cons_succ, List.set_cons_zero, List.set_cons_succ, List.foldr_cons, List.foldr_nil, Nat.zero_add, Nat.reduceAdd, Nat.reduceSub, List.getElem?_nil, true_and, and_true, eq_self, wipeG, Bool.not_true, Bool.not_false, decide_true, decide_false, optD, Bool.false_eq_true, if_true, if_false, ↓reduceIte]
        refine row_of_okD (k := k + 7) s fun v hv => ?_
        refine three_right_ok (k := k + 1) s hA hB hC hv ?_
        exact hK _ ⟨_, _, _, _, _, _, rfl⟩
end
theorem goal_k23 : ∀ ns : List Int, ns.length ≤ 63 → wpFn DB.Γ 20 DB.law_k23 [.scr ns] (fun rv => rv = .d (.bool true)) fun _ => False := fun ns _ => law_goal (k := 10) ns rfl
end ME

end
section
set_option Elab.async false
set_option linter.all false
set_option maxRecDepth 100000
set_option maxHeartbeats 0
namespace Hd
open PySem PySem.Spec PyProof.Rows L2 DP
def top (i : Nat) : Stmt := PySem.Challenge.pw_fewspaces_k23_whole_joined_and_met.main.body.getD i (.Pass ⟨0, 0, 0, 0⟩)
def dd (x : Str) (i : Nat) : He.DefD := ⟨(x, none), x, x, defArgs (top i), defBody (top i), defScope (top i), [], []⟩
def fn : List He.DefD := [dd "is_whole" 5, dd "is_between" 6, dd "is_row" 7, dd "head_of" 8, dd "is_part" 9, dd "need_row" 10, dd "need_part" 11, dd "plus" 12, dd "reduced" 13, dd "spanned" 14, dd "held" 15, dd "holds" 16, dd "rows_in" 17, dd "rows_of" 18, dd "need_two" 20, dd "joined" 21, dd "common" 22, dd "met" 23, dd "is_within" 24, dd "lies_in" 25, dd "first_beyond" 26, dd "_law_cell_at" 28, dd "_law_state" 29, dd "_law_take" 30, dd "_law_space" 31, dd "_law_row_of" 32, dd "_law_plus" 33, dd "_law_reduced" 34, dd "_law_part" 35, dd "_law_two_right" 36, dd "_law_three_right" 37, dd "law" 38]
def fa : List He.Fa := [.glo "is_whole", .glo "is_between", .glo "is_row", .glo "head_of", .glo "is_part", .glo "need_row", .glo "need_part", .glo "plus", .glo "reduced", .glo "spanned", .glo "held", .glo "holds", .glo "rows_in", .glo "rows_of", .glo "need_two", .glo "joined", .glo "common", .glo "met", .glo "is_within", .glo "lies_in", .glo "first_beyond", .glo "_law_cell_at", .glo "_law_state", .glo "_law_take", .glo "_law_space", .glo "_law_row_of", .glo "_law_plus", .glo "_law_reduced", .glo "_law_part", .glo "_law_two_right", .glo "_law_three_right", .glo "law", .glo "NoPart", .exc "NoPart", .glo "NoRow", .exc "NoRow", .free "all", .free "bool", .free "enumerate", .free "int", .free "isinstance", .free "len", .free "list", .free "max", .free "min", .free "range", .free "sorted", .free "tuple", .free "zip"]
def G : Sig := { bis := ["all", "bool", "enumerate", "int", "isinstance", "len", "list", "max", "min", "range", "sorted", "tuple", "zip"], consts := [], funs := [("_law_cell_at", (DB.law_cell_at_k11, 2)), ("_law_state", (DB.law_state_k11, 2)), ("_law_take", (DB.law_take, 2)), ("_law_space", (DB.law_space_k21, 2)), ("_law_plus", (DB.law_plus_k21, 4)), ("_law_reduced", (DB.law_reduced_k21, 2)), ("_law_row_of", (DB.law_row_of_k21, 2)), ("_law_part", (DB.law_part_k21, 2)), ("head_of", (DB.head_of, 1)), ("is_whole", (DB.is_whole, 1)), ("is_between", (DB.is_between, 3)), ("is_row", (DB.is_row, 2)), ("is_part", (DB.is_part, 2)), ("need_part", (DB.need_part, 2)), ("need_two", (DB.need_two, 3)), ("plus", (DB.plus, 4)), ("reduced", (DB.reduced, 2)), ("joined", (DB.joined, 3)), ("rows_in", (DB.rows_in, 2)), ("held", (DB.held, 3)), ("common", (DB.common, 3)), ("met", (DB.met, 3)), ("need_row", (DB.need_row, 2)), ("holds", (DB.holds, 3)), ("rows_of", (DB.rows_of, 2)), ("_law_three_right", (DB.law_three_right_k23, 5)), ("is_within", (DB.is_within, 3)), ("lies_in", (DB.lies_in, 3)), ("first_beyond", (DB.first_beyond, 3)), ("spanned", (DB.spanned, 2)), ("_law_two_right", (DB.law_two_right_k23, 3)), ("law", (DB.law_k23, 1))], excs := ["NoPart", "NoRow"], scr := ["_law_script"] }
section
variable {P : Program} {w : World} {K : PySem.W.Frag} {h : Heap} {mg : Str → Option Value} {base : Heap} (X : K.In h) (Gn : h.Ns mainGlobals mg) (c : He.SaysD fa fn K)
include X Gn c
theorem d__law_cell_at : DefOk K mg G "_law_cell_at" 2 2 DB.b_law_cell_at_k11 := by
  obtain ⟨fd, F⟩ := c.def_ 21
  exact ⟨_, fd, _, _, _, ["_law_script", "_law_k"], ["_law_script", "_law_k"], ⟨[], ["_law_state_here"]⟩, 60, He.glo_ok X Gn (c.fact 21), F, fnSc_by (by decide +kernel), rfl, rfl, by kernel_rfl, F.bindsN (fun _ _ _ _ _ _ us hl => match us, hl with | [_, _], _ => rfl)⟩
theorem d__law_state : DefOk K mg G "_law_state" 2 3 DB.b_law_state_k11 := by
  obtain ⟨fd, F⟩ := c.def_ 22
  exact ⟨_, fd, _, _, _, ["_law_script", "_law_k", "_law_cell"], ["_law_script", "_law_k"], ⟨[], ["_law_state_here"]⟩, 60, He.glo_ok X Gn (c.fact 22), F, fnSc_by (by decide +kernel), rfl, rfl, by kernel_rfl, F.bindsN (fun _ _ _ _ _ _ us hl => match us, hl with | [_, _], _ => rfl)⟩
theorem d__law_take : PrimOk P w K mg base "_law_take" 2 1 takeW := by
  obtain ⟨fd, F⟩ := c.def_ 23
  obtain ⟨p0, p1, p2, p3, p4, p5, p6, p7, p8, p9, p10, p11, p12, p13, p14, p15, p16, p17, p18, p19, p20, p21, p22, p23, p24, p25, p26, p27, p28, p29, p30, p31, p32, p33, p34, p35, p36, p37, p38, p39, p40, p41, p42, p43, p44, p45, p46, p47, p48, p49, p50, p51, p52, p53, p54, p55, p56, p57, p58, p59, p60, p61, p62, p63, p64, p65, p66, p67, p68, p69, p70, e⟩ : ∃ p0 p1 p2 p3 p4 p5 p6 p7 p8 p9 p10 p11 p12 p13 p14 p15 p16 p17 p18 p19 p20 p21 p22 p23 p24 p25 p26 p27 p28 p29 p30 p31 p32 p33 p34 p35 p36 p37 p38 p39 p40 p41 p42 p43 p44 p45 p46 p47 p48 p49 p50 p51 p52 p53 p54 p55 p56 p57 p58 p59 p60 p61 p62 p63 p64 p65 p66 p67 p68 p69 p70, defBody (top 30) = takeAt "_law_state_here" "_law_many" "_law_found" "_law_mixed" p0 p1 p2 p3 p4 p5 p6 p7 p8 p9 p10 p11 p12 p13 p14 p15 p16 p17 p18 p19 p20 p21 p22 p23 p24 p25 p26 p27 p28 p29 p30 p31 p32 p33 p34 p35 p36 p37 p38 p39 p40 p41 p42 p43 p44 p45 p46 p47 p48 p49 p50 p51 p52 p53 p54 p55 p56 p57 p58 p59 p60 p61 p62 p63 p64 p65 p66 p67 p68 p69 p70 := ⟨_, _, _, _, _, _, _, _, _, _, _, _, _, _, _, _, _, _, _, _, _, _, _, _, _, _, _, _, _, _, _, _, _, _, _, _, _, _, _, _, _, _, _, _, _, _, _, _, _, _, _, _, _, _, _, _, _, _, _, _, _, _, _, _, _, _, _, _, _, _, _, rfl⟩
  have F' : FunD K "_law_take" "_law_take" (defArgs (top 30)) (takeAt "_law_state_here" "_law_many" "_law_found" "_law_mixed" p0 p1 p2 p3 p4 p5 p6 p7 p8 p9 p10 p11 p12 p13 p14 p15 p16 p17 p18 p19 p20 p21 p22 p23 p24 p25 p26 p27 p28 p29 p30 p31 p32 p33 p34 p35 p36 p37 p38 p39 p40 p41 p42 p43 p44 p45 p46 p47 p48 p49 p50 p51 p52 p53 p54 p55 p56 p57 p58 p59 p60 p61 p62 p63 p64 p65 p66 p67 p68 p69 p70) (defScope (top 30)) [] [] (He.fAd K ("_law_take", none)) fd := by
    rw [← e]
    exact F
  refine ⟨_, fd, ["_law_state_here", "_law_many"], He.glo_ok X Gn (c.fact 23), F.kp, rfl, F.bindsN (fun _ _ _ _ _ _ us hl => match us, hl with | [_, _], _ => rfl), fun k hk => ?_⟩
  obtain ⟨k', rfl⟩ : ∃ k', k = k' + 1 := ⟨k - 1, by omega⟩
  exact take_ok F' (fnSc_by (by decide +kernel)) (locB_ok (by decide +kernel)) (locB_ok (by decide +kernel)) (by decide +kernel) (by decide +kernel) (by decide +kernel) (by decide +kernel)
theorem d__law_space : DefOk K mg G "_law_space" 2 5 DB.b_law_space_k21 := by
  obtain ⟨fd, F⟩ := c.def_ 24
  exact ⟨_, fd, _, _, _, ["_law_state_here", "_law_most", "_law_some", "_law_rows", "_law_space_here"], ["_law_state_here", "_law_most"], ⟨[], ["_law_state_here"]⟩, 60, He.glo_ok X Gn (c.fact 24), F, fnSc_by (by decide +kernel), rfl, rfl, by kernel_rfl, F.bindsN (fun _ _ _ _ _ _ us hl => match us, hl with | [_, _], _ => rfl)⟩
theorem d__law_plus : DefOk K mg G "_law_plus" 4 6 DB.b_law_plus_k21 := by
  obtain ⟨fd, F⟩ := c.def_ 26
  exact ⟨_, fd, _, _, _, ["_law_space_here", "_law_one", "_law_other", "_law_often", "_law_first", "_law_second"], ["_law_space_here", "_law_one", "_law_other", "_law_often"], ⟨[], ["_law_state_here"]⟩, 60, He.glo_ok X Gn (c.fact 26), F, fnSc_by (by decide +kernel), rfl, rfl, by kernel_rfl, F.bindsN (fun _ _ _ _ _ _ us hl => match us, hl with | [_, _, _, _], _ => rfl)⟩
theorem d__law_reduced : DefOk K mg G "_law_reduced" 2 10 DB.b_law_reduced_k21 := by
  obtain ⟨fd, F⟩ := c.def_ 27
  exact ⟨_, fd, _, _, _, ["_law_space_here", "_law_rows", "_law_rest", "_law_found", "_law_place", "_law_fit", "_law_often", "_law_one", "_law_row", "_law_number"], ["_law_space_here", "_law_rows"], ⟨[], ["_law_state_here"]⟩, 60, He.glo_ok X Gn (c.fact 27), F, fnSc_by (by decide +kernel), rfl, rfl, by kernel_rfl, F.bindsN (fun _ _ _ _ _ _ us hl => match us, hl with | [_, _], _ => rfl)⟩
theorem d__law_row_of : DefOk K mg G "_law_row_of" 2 3 DB.b_law_row_of_k21 := by
  obtain ⟨fd, F⟩ := c.def_ 25
  exact ⟨_, fd, _, _, _, ["_law_state_here", "_law_space_here", "_law_place"], ["_law_state_here", "_law_space_here"], ⟨[], ["_law_state_here"]⟩, 60, He.glo_ok X Gn (c.fact 25), F, fnSc_by (by decide +kernel), rfl, rfl, by kernel_rfl, F.bindsN (fun _ _ _ _ _ _ us hl => match us, hl with | [_, _], _ => rfl)⟩
theorem d__law_part : DefOk K mg G "_law_part" 2 4 DB.b_law_part_k21 := by
  obtain ⟨fd, F⟩ := c.def_ 28
  exact ⟨_, fd, _, _, _, ["_law_state_here", "_law_space_here", "_law_many", "_law_turn"], ["_law_state_here", "_law_space_here"], ⟨[], ["_law_state_here"]⟩, 60, He.glo_ok X Gn (c.fact 28), F, fnSc_by (by decide +kernel), rfl, rfl, by kernel_rfl, F.bindsN (fun _ _ _ _ _ _ us hl => match us, hl with | [_, _], _ => rfl)⟩
theorem d_head_of : DefOk K mg G "head_of" 1 3 DB.b_head_of := by
  obtain ⟨fd, F⟩ := c.def_ 3
  exact ⟨_, fd, _, _, _, ["row", "place", "number"], ["row"], ⟨[], ["_law_state_here"]⟩, 60, He.glo_ok X Gn (c.fact 3), F, fnSc_by (by decide +kernel), rfl, rfl, by kernel_rfl, F.bindsN (fun _ _ _ _ _ _ us hl => match us, hl with | [_], _ => rfl)⟩
theorem d_is_whole : DefOk K mg G "is_whole" 1 1 DB.b_is_whole := by
  obtain ⟨fd, F⟩ := c.def_ 0
  exact ⟨_, fd, _, _, _, ["thing"], ["thing"], ⟨[], ["_law_state_here"]⟩, 60, He.glo_ok X Gn (c.fact 0), F, fnSc_by (by decide +kernel), rfl, rfl, by kernel_rfl, F.bindsN (fun _ _ _ _ _ _ us hl => match us, hl with | [_], _ => rfl)⟩
theorem d_is_between : DefOk K mg G "is_between" 3 3 DB.b_is_between := by
  obtain ⟨fd, F⟩ := c.def_ 1
  exact ⟨_, fd, _, _, _, ["thing", "least", "most"], ["thing", "least", "most"], ⟨[], ["_law_state_here"]⟩, 60, He.glo_ok X Gn (c.fact 1), F, fnSc_by (by decide +kernel), rfl, rfl, by kernel_rfl, F.bindsN (fun _ _ _ _ _ _ us hl => match us, hl with | [_, _, _], _ => rfl)⟩
theorem d_is_row : DefOk K mg G "is_row" 2 3 DB.b_is_row := by
  obtain ⟨fd, F⟩ := c.def_ 2
  exact ⟨_, fd, _, _, _, ["space", "thing", "number"], ["space", "thing"], ⟨[], ["_law_state_here"]⟩, 60, He.glo_ok X Gn (c.fact 2), F, fnSc_by (by decide +kernel), rfl, rfl, by kernel_rfl, F.bindsN (fun _ _ _ _ _ _ us hl => match us, hl with | [_, _], _ => rfl)⟩
theorem d_is_part : DefOk K mg G "is_part" 2 5 DB.b_is_part := by
  obtain ⟨fd, F⟩ := c.def_ 4
  exact ⟨_, fd, _, _, _, ["space", "thing", "last", "row", "other"], ["space", "thing"], ⟨[], ["_law_state_here"]⟩, 60, He.glo_ok X Gn (c.fact 4), F, fnSc_by (by decide +kernel), rfl, rfl, by kernel_rfl, F.bindsN (fun _ _ _ _ _ _ us hl => match us, hl with | [_, _], _ => rfl)⟩
theorem d_need_part : DefOk K mg G "need_part" 2 2 DB.b_need_part := by
  obtain ⟨fd, F⟩ := c.def_ 6
  exact ⟨_, fd, _, _, _, ["space", "thing"], ["space", "thing"], ⟨[], ["_law_state_here"]⟩, 60, He.glo_ok X Gn (c.fact 6), F, fnSc_by (by decide +kernel), rfl, rfl, by kernel_rfl, F.bindsN (fun _ _ _ _ _ _ us hl => match us, hl with | [_, _], _ => rfl)⟩
theorem d_need_two : DefOk K mg G "need_two" 3 3 DB.b_need_two := by
  obtain ⟨fd, F⟩ := c.def_ 14
  exact ⟨_, fd, _, _, _, ["space", "one", "other"], ["space", "one", "other"], ⟨[], ["_law_state_here"]⟩, 60, He.glo_ok X Gn (c.fact 14), F, fnSc_by (by decide +kernel), rfl, rfl, by kernel_rfl, F.bindsN (fun _ _ _ _ _ _ us hl => match us, hl with | [_, _, _], _ => rfl)⟩
theorem d_plus : DefOk K mg G "plus" 4 6 DB.b_plus := by
  obtain ⟨fd, F⟩ := c.def_ 7
  exact ⟨_, fd, _, _, _, ["space", "one", "many", "other", "first", "second"], ["space", "one", "many", "other"], ⟨[], ["_law_state_here"]⟩, 60, He.glo_ok X Gn (c.fact 7), F, fnSc_by (by decide +kernel), rfl, rfl, by kernel_rfl, F.bindsN (fun _ _ _ _ _ _ us hl => match us, hl with | [_, _, _, _], _ => rfl)⟩
theorem d_reduced : DefOk K mg G "reduced" 2 8 DB.b_reduced := by
  obtain ⟨fd, F⟩ := c.def_ 8
  exact ⟨_, fd, _, _, _, ["space", "rows", "found", "row", "one", "head", "many", "number"], ["space", "rows"], ⟨[], ["_law_state_here"]⟩, 60, He.glo_ok X Gn (c.fact 8), F, fnSc_by (by decide +kernel), rfl, rfl, by kernel_rfl, F.bindsN (fun _ _ _ _ _ _ us hl => match us, hl with | [_, _], _ => rfl)⟩
theorem d_joined : DefOk K mg G "joined" 3 3 DB.b_joined := by
  obtain ⟨fd, F⟩ := c.def_ 15
  exact ⟨_, fd, _, _, _, ["space", "one", "other"], ["space", "one", "other"], ⟨[], ["_law_state_here"]⟩, 60, He.glo_ok X Gn (c.fact 15), F, fnSc_by (by decide +kernel), rfl, rfl, by kernel_rfl, F.bindsN (fun _ _ _ _ _ _ us hl => match us, hl with | [_, _, _], _ => rfl)⟩
theorem d_rows_in : DefOk K mg G "rows_in" 2 7 DB.b_rows_in := by
  obtain ⟨fd, F⟩ := c.def_ 12
  exact ⟨_, fd, _, _, _, ["space", "part", "found", "row", "longer", "one", "many"], ["space", "part"], ⟨["longer"], ["_law_state_here"]⟩, 60, He.glo_ok X Gn (c.fact 12), F, fnSc_by (by decide +kernel), rfl, rfl, by kernel_rfl, F.bindsN (fun _ _ _ _ _ _ us hl => match us, hl with | [_, _], _ => rfl)⟩
theorem d_held : DefOk K mg G "held" 3 4 DB.b_held := by
  obtain ⟨fd, F⟩ := c.def_ 10
  exact ⟨_, fd, _, _, _, ["space", "part", "row", "one"], ["space", "part", "row"], ⟨[], ["_law_state_here"]⟩, 60, He.glo_ok X Gn (c.fact 10), F, fnSc_by (by decide +kernel), rfl, rfl, by kernel_rfl, F.bindsN (fun _ _ _ _ _ _ us hl => match us, hl with | [_, _, _], _ => rfl)⟩
theorem d_common : DefOk K mg G "common" 3 4 DB.b_common := by
  obtain ⟨fd, F⟩ := c.def_ 16
  exact ⟨_, fd, _, _, _, ["space", "one", "other", "row"], ["space", "one", "other"], ⟨[], ["_law_state_here"]⟩, 60, He.glo_ok X Gn (c.fact 16), F, fnSc_by (by decide +kernel), rfl, rfl, by kernel_rfl, F.bindsN (fun _ _ _ _ _ _ us hl => match us, hl with | [_, _, _], _ => rfl)⟩
theorem d_met : DefOk K mg G "met" 3 3 DB.b_met := by
  obtain ⟨fd, F⟩ := c.def_ 17
  exact ⟨_, fd, _, _, _, ["space", "one", "other"], ["space", "one", "other"], ⟨[], ["_law_state_here"]⟩, 60, He.glo_ok X Gn (c.fact 17), F, fnSc_by (by decide +kernel), rfl, rfl, by kernel_rfl, F.bindsN (fun _ _ _ _ _ _ us hl => match us, hl with | [_, _, _], _ => rfl)⟩
theorem d_need_row : DefOk K mg G "need_row" 2 2 DB.b_need_row := by
  obtain ⟨fd, F⟩ := c.def_ 5
  exact ⟨_, fd, _, _, _, ["space", "thing"], ["space", "thing"], ⟨[], ["_law_state_here"]⟩, 60, He.glo_ok X Gn (c.fact 5), F, fnSc_by (by decide +kernel), rfl, rfl, by kernel_rfl, F.bindsN (fun _ _ _ _ _ _ us hl => match us, hl with | [_, _], _ => rfl)⟩
theorem d_holds : DefOk K mg G "holds" 3 3 DB.b_holds := by
  obtain ⟨fd, F⟩ := c.def_ 11
  exact ⟨_, fd, _, _, _, ["space", "part", "row"], ["space", "part", "row"], ⟨[], ["_law_state_here"]⟩, 60, He.glo_ok X Gn (c.fact 11), F, fnSc_by (by decide +kernel), rfl, rfl, by kernel_rfl, F.bindsN (fun _ _ _ _ _ _ us hl => match us, hl with | [_, _, _], _ => rfl)⟩
theorem d_rows_of : DefOk K mg G "rows_of" 2 2 DB.b_rows_of := by
  obtain ⟨fd, F⟩ := c.def_ 13
  exact ⟨_, fd, _, _, _, ["space", "part"], ["space", "part"], ⟨[], ["_law_state_here"]⟩, 60, He.glo_ok X Gn (c.fact 13), F, fnSc_by (by decide +kernel), rfl, rfl, by kernel_rfl, F.bindsN (fun _ _ _ _ _ _ us hl => match us, hl with | [_, _], _ => rfl)⟩
theorem d__law_three_right : DefOk K mg G "_law_three_right" 5 8 DB.b_law_three_right_k23 := by
  obtain ⟨fd, F⟩ := c.def_ 30
  exact ⟨_, fd, _, _, _, ["_law_space_here", "_law_one", "_law_other", "_law_third", "_law_row", "_law_wide", "_law_both", "_law_line"], ["_law_space_here", "_law_one", "_law_other", "_law_third", "_law_row"], ⟨[], ["_law_state_here"]⟩, 60, He.glo_ok X Gn (c.fact 30), F, fnSc_by (by decide +kernel), rfl, rfl, by kernel_rfl, F.bindsN (fun _ _ _ _ _ _ us hl => match us, hl with | [_, _, _, _, _], _ => rfl)⟩
theorem d_is_within : DefOk K mg G "is_within" 3 4 DB.b_is_within := by
  obtain ⟨fd, F⟩ := c.def_ 18
  exact ⟨_, fd, _, _, _, ["space", "one", "other", "row"], ["space", "one", "other"], ⟨[], ["_law_state_here"]⟩, 60, He.glo_ok X Gn (c.fact 18), F, fnSc_by (by decide +kernel), rfl, rfl, by kernel_rfl, F.bindsN (fun _ _ _ _ _ _ us hl => match us, hl with | [_, _, _], _ => rfl)⟩
theorem d_lies_in : DefOk K mg G "lies_in" 3 3 DB.b_lies_in := by
  obtain ⟨fd, F⟩ := c.def_ 19
  exact ⟨_, fd, _, _, _, ["space", "one", "other"], ["space", "one", "other"], ⟨[], ["_law_state_here"]⟩, 60, He.glo_ok X Gn (c.fact 19), F, fnSc_by (by decide +kernel), rfl, rfl, by kernel_rfl, F.bindsN (fun _ _ _ _ _ _ us hl => match us, hl with | [_, _, _], _ => rfl)⟩
theorem d_first_beyond : DefOk K mg G "first_beyond" 3 4 DB.b_first_beyond := by
  obtain ⟨fd, F⟩ := c.def_ 20
  exact ⟨_, fd, _, _, _, ["space", "one", "other", "row"], ["space", "one", "other"], ⟨[], ["_law_state_here"]⟩, 60, He.glo_ok X Gn (c.fact 20), F, fnSc_by (by decide +kernel), rfl, rfl, by kernel_rfl, F.bindsN (fun _ _ _ _ _ _ us hl => match us, hl with | [_, _, _], _ => rfl)⟩
theorem d_spanned : DefOk K mg G "spanned" 2 3 DB.b_spanned := by
  obtain ⟨fd, F⟩ := c.def_ 9
  exact ⟨_, fd, _, _, _, ["space", "rows", "row"], ["space", "rows"], ⟨[], ["_law_state_here"]⟩, 60, He.glo_ok X Gn (c.fact 9), F, fnSc_by (by decide +kernel), rfl, rfl, by kernel_rfl, F.bindsN (fun _ _ _ _ _ _ us hl => match us, hl with | [_, _], _ => rfl)⟩
theorem d__law_two_right : DefOk K mg G "_law_two_right" 3 8 DB.b_law_two_right_k23 := by
  obtain ⟨fd, F⟩ := c.def_ 29
  exact ⟨_, fd, _, _, _, ["_law_space_here", "_law_one", "_law_other", "_law_up", "_law_down", "_law_part_here", "_law_lies", "_law_row"], ["_law_space_here", "_law_one", "_law_other"], ⟨[], ["_law_state_here"]⟩, 60, He.glo_ok X Gn (c.fact 29), F, fnSc_by (by decide +kernel), rfl, rfl, by kernel_rfl, F.bindsN (fun _ _ _ _ _ _ us hl => match us, hl with | [_, _, _], _ => rfl)⟩
theorem d_law : DefOk K mg G "law" 1 8 DB.b_law_k23 := by
  obtain ⟨fd, F⟩ := c.def_ 31
  exact ⟨_, fd, _, _, _, ["_law_script", "_law_k", "_law_state_here", "_law_space_here", "_law_one", "_law_other", "_law_third", "_law_turn"], ["_law_script"], ⟨[], ["_law_state_here"]⟩, 60, He.glo_ok X Gn (c.fact 31), F, fnSc_by (by decide +kernel), rfl, rfl, by kernel_rfl, F.bindsN (fun _ _ _ _ _ _ us hl => match us, hl with | [_], _ => rfl)⟩
def FnP (P : Program) (w : World) (K : PySem.W.Frag) (mg : Str → Option Value) (base : Heap) (e : Str × (Nat × Nat)) : Prop := (∃ N body, DB.Γ e.2.1 = some (.def_ N body) ∧ DefOk K mg G e.1 e.2.2 N body) ∨ ∃ l φ, DB.Γ e.2.1 = some (.prim l φ) ∧ PrimOk P w K mg base e.1 e.2.2 l φ
theorem fns : Al (FnP P w K mg base) G.funs :=
  .cons (.inl ⟨_, _, DB.g_law_cell_at_k11, d__law_cell_at X Gn c⟩) <|
  .cons (.inl ⟨_, _, DB.g_law_state_k11, d__law_state X Gn c⟩) <|
  .cons (.inr ⟨_, _, DB.g_law_take, d__law_take X Gn c⟩) <|
  .cons (.inl ⟨_, _, DB.g_law_space_k21, d__law_space X Gn c⟩) <|
  .cons (.inl ⟨_, _, DB.g_law_plus_k21, d__law_plus X Gn c⟩) <|
  .cons (.inl ⟨_, _, DB.g_law_reduced_k21, d__law_reduced X Gn c⟩) <|
  .cons (.inl ⟨_, _, DB.g_law_row_of_k21, d__law_row_of X Gn c⟩) <|
  .cons (.inl ⟨_, _, DB.g_law_part_k21, d__law_part X Gn c⟩) <|
  .cons (.inl ⟨_, _, DB.g_head_of, d_head_of X Gn c⟩) <|
  .cons (.inl ⟨_, _, DB.g_is_whole, d_is_whole X Gn c⟩) <|
  .cons (.inl ⟨_, _, DB.g_is_between, d_is_between X Gn c⟩) <|
  .cons (.inl ⟨_, _, DB.g_is_row, d_is_row X Gn c⟩) <|
  .cons (.inl ⟨_, _, DB.g_is_part, d_is_part X Gn c⟩) <|
  .cons (.inl ⟨_, _, DB.g_need_part, d_need_part X Gn c⟩) <|
  .cons (.inl ⟨_, _, DB.g_need_two, d_need_two X Gn c⟩) <|
  .cons (.inl ⟨_, _, DB.g_plus, d_plus X Gn c⟩) <|
  .cons (.inl ⟨_, _, DB.g_reduced, d_reduced X Gn c⟩) <|
  .cons (.inl ⟨_, _, DB.g_joined, d_joined X Gn c⟩) <|
  .cons (.inl ⟨_, _, DB.g_rows_in, d_rows_in X Gn c⟩) <|
  .cons (.inl ⟨_, _, DB.g_held, d_held X Gn c⟩) <|
  .cons (.inl ⟨_, _, DB.g_common, d_common X Gn c⟩) <|
  .cons (.inl ⟨_, _, DB.g_met, d_met X Gn c⟩) <|
  .cons (.inl ⟨_, _, DB.g_need_row, d_need_row X Gn c⟩) <|
  .cons (.inl ⟨_, _, DB.g_holds, d_holds X Gn c⟩) <|
  .cons (.inl ⟨_, _, DB.g_rows_of, d_rows_of X Gn c⟩) <|
  .cons (.inl ⟨_, _, DB.g_law_three_right_k23, d__law_three_right X Gn c⟩) <|
  .cons (.inl ⟨_, _, DB.g_is_within, d_is_within X Gn c⟩) <|
  .cons (.inl ⟨_, _, DB.g_lies_in, d_lies_in X Gn c⟩) <|
  .cons (.inl ⟨_, _, DB.g_first_beyond, d_first_beyond X Gn c⟩) <|
  .cons (.inl ⟨_, _, DB.g_spanned, d_spanned X Gn c⟩) <|
  .cons (.inl ⟨_, _, DB.g_law_two_right_k23, d__law_two_right X Gn c⟩) <|
  .cons (.inl ⟨_, _, DB.g_law_k23, d_law X Gn c⟩) <|
  .nil
theorem bis : Al (fun b => mg b = none) G.bis :=
  .cons (He.free_ok X Gn (c.fact 36)) <|
  .cons (He.free_ok X Gn (c.fact 37)) <|
  .cons (He.free_ok X Gn (c.fact 38)) <|
  .cons (He.free_ok X Gn (c.fact 39)) <|
  .cons (He.free_ok X Gn (c.fact 40)) <|
  .cons (He.free_ok X Gn (c.fact 41)) <|
  .cons (He.free_ok X Gn (c.fact 42)) <|
  .cons (He.free_ok X Gn (c.fact 43)) <|
  .cons (He.free_ok X Gn (c.fact 44)) <|
  .cons (He.free_ok X Gn (c.fact 45)) <|
  .cons (He.free_ok X Gn (c.fact 46)) <|
  .cons (He.free_ok X Gn (c.fact 47)) <|
  .cons (He.free_ok X Gn (c.fact 48)) <|
  .nil
theorem csts : Al (fun e : Str × PyData => ∃ v u, mg e.1 = some u ∧ RelV v u ∧ ∀ H, Rp H v e.2) G.consts :=
  .nil
theorem excs : Al (fun x => ∃ Ca, mg x = some (.ref Ca) ∧ PySem.W.excIn K Ca [.type "ValueError", .type "Exception", .type "BaseException", .type "object"] "ValueError.__new__" = true ∧ PySem.W.keepIn K (.ref Ca) = true ∧ PySem.W.subIn K (.ref Ca) (.type "BaseException") = some true ∧ PySem.W.typeIn K (.ref Ca) = some (.type "type")) G.excs :=
  .cons ⟨_, He.glo_ok X Gn (c.fact 32), He.exc_ok (c.fact 33)⟩ <|
  .cons ⟨_, He.glo_ok X Gn (c.fact 34), He.exc_ok (c.fact 35)⟩ <|
  .nil
theorem tab : TabOk P w K mg base G DB.Γ where
  fn := fun f id n h => (fns X Gn c).get (lk_mem h)
  bis := fun _ hb => (bis X Gn c).get hb
  cst := fun _ _ h => (csts X Gn c).get (lk_mem h)
  exc := fun _ h => (excs X Gn c).get h
end
abbrev R : PySem.W.OpenRow := PySem.W.OpenLaw.row PySem.Challenge.rw_fewspaces_k23_whole_joined_and_met
abbrev hk : PySem.W.Hook := He.hookD 4 fa fn
def ob (s : PySem.W.SharedT) : He.AlD := He.obsDG 4 fa fn (HandSHeadRun.getT s)
theorem ob_eq (s : PySem.W.SharedT) : ob s = hk.obs s.abs := He.obsDG_eq (HandSHeadRun.getT_eq s)
def loose : List PySem.Str := (["is_whole", "is_between", "is_row", "head_of", "is_part", "need_row", "need_part", "plus", "reduced", "spanned", "held", "holds"] : List PySem.Str) ++ (["rows_in", "rows_of", "need_two", "joined", "common", "met", "is_within", "lies_in", "first_beyond", "_law_cell_at", "_law_state", "_law_take"] : List PySem.Str) ++ (["_law_space", "_law_row_of", "_law_plus", "_law_reduced", "_law_part", "_law_two_right", "_law_three_right", "SpaceError", "NoRow", "NoPart"] : List PySem.Str)
theorem run (w : World) : HandSHeadRun.RunEq R (PySem.W.view R.prog [38]) hk ob 4000 loose w := by
  intro os
  kernel_rfl
theorem goal : ∀ ns : List Int, ns.length ≤ 63 → wpFn DB.Γ 20 DB.law_k23 [.scr ns] (fun rv => rv = .d (.bool true)) fun _ => False := ME.goal_k23
theorem facts {P : Program} {w : World} {K : PySem.W.Frag} {h : Heap} {mg : Str → Option Value} {f : Addr} (X : K.In h) (Gn : h.Ns mainGlobals mg) (hfa : mg ("law" : Str) = some (.ref f)) (c : He.SaysD fa fn K) :
    ∃ fd : FuncData, (∀ (s : Shared) (v : Value), BindsTo s fd ⟨[v], []⟩ [("_law_script", v)]) ∧ ∀ base : Heap, K.In base → base.Ns mainGlobals mg → FnOk P w K mg base CX0 20 f fd ["_law_script"] (spLaw K mg (wpFn DB.Γ 20 DB.law_k23)) := by
  obtain ⟨fd, F⟩ := c.def_ 31
  have e1 := He.glo_ok X Gn (c.fact 31)
  have hb : ∀ (kV doc pm : Value) (an : Option Addr) (cdv ct : Value) (us : List Value), us.length = (["_law_script"] : List Str).length → bindArgs (PySem.W.fnOf "law" "law" (defArgs (top 38)) (defBody (top 38)) (defScope (top 38)) .none kV doc pm an cdv ct) ⟨us, []⟩ = pure ((["_law_script"] : List Str).zip us) := fun _ _ _ _ _ _ us hl => match us, hl with | [_], _ => rfl
  have ef : He.fAd K ("law", none) = f := by
    have e2 : mg ("law" : Str) = some (.ref (He.fAd K ("law", none))) := e1
    rw [hfa] at e2
    cases e2
    rfl
  have F2 : FunD K "law" "law" (defArgs (top 38)) (defBody (top 38)) (defScope (top 38)) [] [] f fd := by
    rw [← ef]
    exact F
  refine ⟨fd, fun s v => F2.bindsA (ps := (["_law_script"] : List Str)) hb s [v] rfl, fun base KB GB => ?_⟩
  exact DP.FnOk.to0 (fn_law (k := 19) (ps := (["_law_script"] : List Str)) (tab X Gn c) (N := ["_law_script", "_law_k", "_law_state_here", "_law_space_here", "_law_one", "_law_other", "_law_third", "_law_turn"]) (hi := ⟨[], ["_law_state_here"]⟩) (fuel := 60) DB.g_law_k23 F2 (fnSc_by (by decide +kernel)) rfl (by kernel_rfl))
end Hd
open PySem PySem.W PySem.Calls PyProof.Rows
theorem PySem.Challenge.cw_fewspaces_k23_whole_joined_and_met_holds : PySem.Challenge.rw_fewspaces_k23_whole_joined_and_met.Holds := by
  w_on; o_law
  refine HandSHeadRun.head_any (r := OpenLaw.row PySem.Challenge.rw_fewspaces_k23_whole_joined_and_met) (q := view (OpenLaw.row PySem.Challenge.rw_fewspaces_k23_whole_joined_and_met).prog [38]) (H := Hd.hk) (ob := Hd.ob) (M := 4000) (loose := Hd.loose) (d := HandSHeadRun.topDef (OpenLaw.row PySem.Challenge.rw_fewspaces_k23_whole_joined_and_met).prog 38) (kwd := []) Hd.ob_eq
    (by kernel_rfl) (fun s => by kernel_rfl) Hd.run (by kernel_rfl) (by kernel_rfl) (by kernel_rfl) (by rfl) (by first | assumption | decide +kernel) (by decide +kernel) ⟨rfl, rfl, rfl, rfl, rfl, by decide +kernel⟩ ?hw ?hc
  case hw => w_witness2
  case hc =>
    refine L2.walk_ofE (l := PySem.Challenge.rw_fewspaces_k23_whole_joined_and_met) (n := 63) (k := 20) (x := "_law_script") (CX := L2.CX0) rfl (by decide) (by kernel_rfl) ⟨rfl, by decide, by decide⟩ ?F (fun _ _ _ _ z => z)
    intro w mg fa h Y G hmg0
    obtain ⟨K, KX, c⟩ := Y
    have hmg : mg ("law" : PySem.Str) = some (.ref fa) := by
      have e : (HandSHeadRun.topDef (OpenLaw.row PySem.Challenge.rw_fewspaces_k23_whole_joined_and_met).prog 38).name = ("law" : PySem.Str) := by kernel_rfl
      rw [← e]
      exact hmg0
    obtain ⟨fd, hb, hF⟩ := Hd.facts (P := (PySem.Challenge.rw_fewspaces_k23_whole_joined_and_met).prog) (w := w) KX G hmg c
    exact ⟨K, fd, _, KX, hb, fun H a ns hl hO hS => DP.law_sp Hd.goal H a ns hl hO hS, hF⟩

end
