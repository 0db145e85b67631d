import PyProof.Rows.All
import Wide.All
import OpenK.AllK
import Wide.FinOn
import HandS.ForMost
import HandS.Walk
import HandS.Slots
import HandS.IsInst
import HandS.Conv
import HandS.SortInts
import HandS.Flow
import HandS.SetFor
import HandS.Strs
import HandS.Star
import HandS.Style
import HandS.DictComp
import HandS.SlotsOwn
import HandS.Zip
import PySem.Challenge.RW_latedates_k17_levels_and_mended_dates
set_option Elab.async false
set_option linter.all false
set_option maxRecDepth 100000
/-! DL0: data D, frozen heap F, owned cells by index; the frame rule -/
namespace Dl
open PySem L2

inductive D where
  | non | bl (b : Bool) | int (i : Int) | str (x : Str)
  | lst (xs : List D) | tup (xs : List D)
  | dic (ks : List Key) (vs : List D)
  | slo (C : Addr) (vs : List D)
  | obj (C : Addr) (fs : List Str) (vs : List D)
  | scr (ns : List Int)
  deriving Inhabited

/-! ### data in a heap -/
mutual
def DV (K : PySem.W.Frag) (H : Hp) : D → V → Prop
  | .non, v => v = .non
  | .bl b, v => v = .bl b
  | .int i, v => v = .int i
  | .str x, v => v = .str x
  | .lst ds, v => ∃ a vs, v = .ref a ∧ H a = some (.lst vs) ∧ DVs K H ds vs
  | .tup ds, v => ∃ a vs, v = .ref a ∧ SqT K H a vs ∧ DVs K H ds vs
  | .dic ks ds, v => ∃ a kvs, v = .ref a ∧ H a = some (.dK kvs) ∧ kvs.map (·.1) = ks ∧ DVs K H ds (kvs.map (·.2))
  | .slo C ds, v => ∃ a dx vs, v = .ref a ∧ SlX.Slt H a C dx (vs.map some) ∧ DVs K H ds vs
  | .obj C fs ds, v => ∃ a dx kvs, v = .ref a ∧ H a = some (.ins C dx kvs) ∧ kvs.map (·.1) = fs ∧ DVs K H ds (kvs.map (·.2))
  | .scr ns, v => ∃ a, v = .ref a ∧ SqL K H a (ns.map V.int)
def DVs (K : PySem.W.Frag) (H : Hp) : List D → List V → Prop
  | [], vs => vs = []
  | d :: ds, vs => ∃ v r, vs = v :: r ∧ DV K H d v ∧ DVs K H ds r
end
theorem same_rd {H H' : Hp} {a : Addr} {u : HO} (e : Same H H') (h : Rd H a u) : Rd H' a u := by
  rcases h with h | ⟨o, h⟩
  · exact .inl (e _ _ h)
  · exact .inr ⟨o, e _ _ h⟩
theorem same_t {K : PySem.W.Frag} {H H' : Hp} {a : Addr} {xs : List V} (e : Same H H') (h : SqT K H a xs) : SqT K H' a xs := by
  rcases h with h | h
  · exact .inl (same_rd e h)
  · exact .inr h
theorem same_slt {H H' : Hp} {a C dx : Addr} {vs : List (Option V)} (e : Same H H') (h : SlX.Slt H a C dx vs) : SlX.Slt H' a C dx vs := by
  rcases h with ⟨h, z⟩ | ⟨h, z⟩
  · exact .inl ⟨e _ _ h, z⟩
  · exact .inr ⟨e _ _ h, e _ _ z⟩
mutual
theorem DV.mono {K : PySem.W.Frag} {H H' : Hp} (e : Same H H') : ∀ {d : D} {v : V}, DV K H d v → DV K H' d v
  | .non, _, h => h
  | .bl _, _, h => h
  | .int _, _, h => h
  | .str _, _, h => h
  | .lst _, _, ⟨a, vs, h1, h2, h3⟩ => ⟨a, vs, h1, e _ _ h2, DVs.mono e h3⟩
  | .tup _, _, ⟨a, vs, h1, h2, h3⟩ => ⟨a, vs, h1, same_t e h2, DVs.mono e h3⟩
  | .dic _ _, _, ⟨a, kvs, h1, h2, h3, h4⟩ => ⟨a, kvs, h1, e _ _ h2, h3, DVs.mono e h4⟩
  | .slo _ _, _, ⟨a, dx, vs, h1, h2, h3⟩ => ⟨a, dx, vs, h1, same_slt e h2, DVs.mono e h3⟩
  | .obj _ _ _, _, ⟨a, dx, kvs, h1, h2, h3, h4⟩ => ⟨a, dx, kvs, h1, e _ _ h2, h3, DVs.mono e h4⟩
  | .scr _, _, ⟨a, h1, h2⟩ => ⟨a, h1, e.seq h2⟩
theorem DVs.mono {K : PySem.W.Frag} {H H' : Hp} (e : Same H H') : ∀ {ds : List D} {vs : List V}, DVs K H ds vs → DVs K H' ds vs
  | [], _, h => h
  | _ :: _, _, ⟨v, r, h1, h2, h3⟩ => ⟨v, r, h1, DV.mono e h2, DVs.mono e h3⟩
end
section
variable {K : PySem.W.Frag} {H : Hp}
theorem dvs_paired : ∀ {ds : List D} {vs : List V}, DVs K H ds vs ↔ Paired (fun d v => DV K H d v) ds vs
  | [], vs => ⟨fun h => by have h : vs = [] := h; subst h; exact .nil, fun h => by cases h; exact (rfl : ([] : List V) = [])⟩
  | d :: ds, vs => ⟨fun ⟨v, r, h1, h2, h3⟩ => by subst h1; exact .cons h2 (dvs_paired.mp h3), fun h => by
      cases h with
      | cons h2 h3 => exact ⟨_, _, rfl, h2, dvs_paired.mpr h3⟩⟩
theorem DVs.length {ds : List D} {vs : List V} (h : DVs K H ds vs) : ds.length = vs.length := Paired.length (dvs_paired.mp h)
theorem paired_get {α β : Type} {R : α → β → Prop} : ∀ {l₁ : List α} {l₂ : List β} {i : Nat} {x : α}, Paired R l₁ l₂ → l₁[i]? = some x → ∃ y, l₂[i]? = some y ∧ R x y
  | _, _, _, _, .nil, e => by simp at e
  | _, _, 0, _, .cons r _, e => by simp at e; subst e; exact ⟨_, rfl, r⟩
  | _, _, i + 1, x, .cons _ t, e => by
    obtain ⟨u, h1, h2⟩ := paired_get (i := i) (x := x) t (by simpa using e)
    exact ⟨u, by simpa using h1, h2⟩
theorem paired_get' {α β : Type} {R : α → β → Prop} : ∀ {l₁ : List α} {l₂ : List β} {i : Nat} {y : β}, Paired R l₁ l₂ → l₂[i]? = some y → ∃ x, l₁[i]? = some x ∧ R x y
  | _, _, _, _, .nil, e => by simp at e
  | _, _, 0, _, .cons r _, e => by simp at e; subst e; exact ⟨_, rfl, r⟩
  | _, _, i + 1, x, .cons _ t, e => by
    obtain ⟨u, h1, h2⟩ := paired_get' (i := i) (y := x) t (by simpa using e)
    exact ⟨u, by simpa using h1, h2⟩
theorem paired_append {α β : Type} {R : α → β → Prop} : ∀ {l₁ r₁ : List α} {l₂ r₂ : List β}, Paired R l₁ l₂ → Paired R r₁ r₂ → Paired R (l₁ ++ r₁) (l₂ ++ r₂)
  | _, _, _, _, .nil, s => s
  | _, _, _, _, .cons r t, s => .cons r (paired_append t s)
theorem paired_set {α β : Type} {R : α → β → Prop} {x : α} {y : β} (r : R x y) : ∀ {l₁ : List α} {l₂ : List β} (i : Nat), Paired R l₁ l₂ → Paired R (l₁.set i x) (l₂.set i y)
  | _, _, _, .nil => .nil
  | _, _, 0, .cons _ t => .cons r t
  | _, _, i + 1, .cons q t => .cons q (paired_set r i t)
theorem DVs.get {ds : List D} {vs : List V} {i : Nat} {d : D} (h : DVs K H ds vs) (e : ds[i]? = some d) : ∃ v, vs[i]? = some v ∧ DV K H d v := paired_get (dvs_paired.mp h) e
theorem dvs_ints : ∀ {ns : List Int} {vs : List V}, DVs K H (ns.map D.int) vs ↔ vs = ns.map V.int
  | [], vs => ⟨fun h => h, fun h => h⟩
  | n :: ns, vs => ⟨fun ⟨v, r, h1, h2, h3⟩ => by have h2 : v = .int n := h2; rw [h1, h2, dvs_ints.mp h3]; rfl, fun h => ⟨.int n, ns.map V.int, h, rfl, dvs_ints.mpr rfl⟩⟩
theorem dvs_bls : ∀ {ns : List Bool} {vs : List V}, DVs K H (ns.map D.bl) vs ↔ vs = ns.map V.bl
  | [], vs => ⟨fun h => h, fun h => h⟩
  | n :: ns, vs => ⟨fun ⟨v, r, h1, h2, h3⟩ => by have h2 : v = .bl n := h2; rw [h1, h2, dvs_bls.mp h3]; rfl, fun h => ⟨.bl n, ns.map V.bl, h, rfl, dvs_bls.mpr rfl⟩⟩
end

/-! ### slots, cells -/
/-- a slot: unknown; a value in the frozen heap; the k-th owned cell -/
inductive Mx where
  | d (x : D) | o (k : Nat)
  deriving Inhabited
/-- mix: a list of the frozen heap whose items are values and owned cells -/
inductive Sl where
  | un | val (d : D) | own (k : Nat) | mix (is : List Mx)
  deriving Inhabited
/-- an owned object -/
inductive C where
  | lst (xs : List D)
  | dic (kvs : List (Key × D))
  deriving Inhabited

section
variable (K : PySem.W.Frag) (F : Hp) (As : List Addr)
def MxR : Mx → V → Prop
  | .d x, v => DV K F x v
  | .o k, v => ∃ a, As[k]? = some a ∧ v = .ref a
def SlR : Sl → V → Prop
  | .un, _ => True
  | .val d, v => DV K F d v
  | .own k, v => ∃ a, As[k]? = some a ∧ v = .ref a
  | .mix is, v => ∃ p vs, v = .ref p ∧ F p = some (.lst vs) ∧ Paired (MxR K F As) is vs
abbrev SlRs : List Sl → List V → Prop := Paired (SlR K F As)
def CR (K : PySem.W.Frag) (F : Hp) (_As : List Addr) : C → HO → Prop
  | .lst xs, o => ∃ vs, o = .lst vs ∧ DVs K F xs vs
  | .dic xs, o => ∃ kvs, o = .dK kvs ∧ Paired (fun (p : Key × D) (q : Key × V) => p.1 = q.1 ∧ DV K F p.2 q.2) xs kvs
/-- the heap H is the frozen heap F and the cells M, which stand at the addresses As -/
structure HM (M : List C) (H : Hp) : Prop where
  nd : As.Nodup
  len : As.length = M.length
  cell : ∀ (i : Nat) (a : Addr) (c : C), As[i]? = some a → M[i]? = some c → ∃ o, H a = some o ∧ CR K F As c o
  off : ∀ a, a ∈ As → F a = none
  out : ∀ a, a ∉ As → H a = F a
/-- the frame's slots -/
structure SR (ρ : List Sl) (σ : L2.St) : Prop where
  len : ρ.length = σ.length
  get : ∀ (i : Nat) (s : Sl), ρ[i]? = some s → s ≠ .un → ∃ v, σ[i]? = some (some v) ∧ SlR K F As s v
end
theorem pfx_get {As Bs : List Addr} (h : As <+: Bs) {k : Nat} {a : Addr} (e : As[k]? = some a) : Bs[k]? = some a := by
  obtain ⟨t, rfl⟩ := h
  rw [List.getElem?_append_left (List.getElem?_eq_some_iff.mp e).1]
  exact e
section
variable {K : PySem.W.Frag} {F F' : Hp} {As Bs : List Addr} {M : List C} {H : Hp} {ρ : List Sl} {σ : L2.St}
theorem SR.val (h : SR K F As ρ σ) (i : Nat) (d : D) (q : ρ[i]? = some (.val d)) : ∃ v, σ[i]? = some (some v) ∧ DV K F d v := h.get i _ q (fun z => by cases z)
theorem SR.own (h : SR K F As ρ σ) (i : Nat) (k : Nat) (q : ρ[i]? = some (.own k)) : ∃ a, As[k]? = some a ∧ σ[i]? = some (some (.ref a)) := by
  obtain ⟨v, h1, a, h2, rfl⟩ := h.get i _ q (fun z => by cases z)
  exact ⟨a, h2, h1⟩
theorem MxR.mono (e : Same F F') (p : As <+: Bs) : ∀ {s : Mx} {v : V}, MxR K F As s v → MxR K F' Bs s v
  | .d _, _, h => DV.mono e h
  | .o _, _, ⟨a, h1, h2⟩ => ⟨a, pfx_get p h1, h2⟩
theorem SlR.mono (e : Same F F') (p : As <+: Bs) : ∀ {s : Sl} {v : V}, SlR K F As s v → SlR K F' Bs s v
  | .un, _, _ => trivial
  | .val _, _, h => DV.mono e h
  | .own _, _, ⟨a, h1, h2⟩ => ⟨a, pfx_get p h1, h2⟩
  | .mix _, _, ⟨q, vs, h1, h2, h3⟩ => ⟨q, vs, h1, e _ _ h2, Paired.mapP h3 fun _ _ z => MxR.mono e p z⟩
theorem SlRs.mono (e : Same F F') (p : As <+: Bs) {s : List Sl} {v : List V} (h : SlRs K F As s v) : SlRs K F' Bs s v := Paired.mapP h fun _ _ z => z.mono e p
theorem CR.mono (e : Same F F') (p : As <+: Bs) : ∀ {c : C} {o : HO}, CR K F As c o → CR K F' Bs c o
  | .lst _, _, ⟨vs, h1, h2⟩ => ⟨vs, h1, h2.mono e⟩
  | .dic _, _, ⟨kvs, h1, h2⟩ => ⟨kvs, h1, Paired.mapP h2 fun _ _ z => ⟨z.1, z.2.mono e⟩⟩
theorem SR.mono (e : Same F F') (p : As <+: Bs) (h : SR K F As ρ σ) : SR K F' Bs ρ σ :=
  ⟨h.len, fun i s q z => let ⟨v, h1, h2⟩ := h.get i s q z; ⟨v, h1, h2.mono e p⟩⟩
theorem SR.set {s : Sl} {v : V} {i : Nat} (h : SR K F As ρ σ) (r : SlR K F As s v) : SR K F As (ρ.set i s) (σ.set i (some v)) := by
  refine ⟨by simp [h.len], fun j d q z => ?_⟩
  by_cases e : i = j
  · subst e
    have hi : i < ρ.length := by
      have := (List.getElem?_eq_some_iff.mp q).1
      simpa using this
    rw [List.getElem?_set_self hi] at q
    cases q
    exact ⟨v, List.getElem?_set_self (by rw [← h.len]; exact hi), r⟩
  · rw [List.getElem?_set_ne e] at q ⊢
    exact h.get j d q z
/-- slots may be forgotten -/
def Weak (ρ ρ' : List Sl) : Prop := ρ'.length = ρ.length ∧ ∀ i : Nat, ρ'[i]? = ρ[i]? ∨ ρ'[i]? = some .un
theorem SR.weak {ρ' : List Sl} (h : SR K F As ρ σ) (w : Weak ρ ρ') : SR K F As ρ' σ := by
  refine ⟨w.1.trans h.len, fun i d q z => ?_⟩
  rcases w.2 i with e | e
  · exact h.get i d (e.symm.trans q) z
  · rw [e] at q; cases q; exact absurd rfl z
theorem HM.same (h : HM K F As M H) : Same F H := fun a o e => by
  have : a ∉ As := fun z => by rw [h.off a z] at e; cases e
  rw [h.out a this]; exact e
theorem HM.fresh (h : HM K F As M H) {p : Addr} (e : H p = none) : p ∉ As ∧ F p = none := by
  have h1 : p ∉ As := fun z => by
    obtain ⟨i, hi, q⟩ := List.mem_iff_getElem.mp z
    have q' : As[i]? = some p := by rw [List.getElem?_eq_getElem hi, q]
    have hm : i < M.length := by rw [← h.len]; exact hi
    obtain ⟨o, h2, _⟩ := h.cell i p M[i] q' (List.getElem?_eq_getElem hm)
    rw [e] at h2; cases h2
  exact ⟨h1, by rw [← h.out p h1]; exact e⟩
theorem same_new {F : Hp} {p : Addr} {o : HO} (h : F p = none) : Same F (upd F p o) := fun b u e => by
  rw [upd_ne (ne_of_none e h)]; exact e
/-- a new frozen object -/
theorem HM.laid (h : HM K F As M H) {p : Addr} {o : HO} (e : H p = none) : HM K (upd F p o) As M (upd H p o) := by
  obtain ⟨h1, h2⟩ := h.fresh e
  have s := same_new (o := o) h2
  refine ⟨h.nd, h.len, fun i a c ea ec => ?_, fun a ha => ?_, fun a ha => ?_⟩
  · obtain ⟨u, q1, q2⟩ := h.cell i a c ea ec
    exact ⟨u, by rw [upd_ne (ne_of_none q1 e)]; exact q1, q2.mono s (List.prefix_refl _)⟩
  · rw [upd_ne (fun z => by subst z; exact h1 ha)]; exact h.off a ha
  · unfold upd
    split
    · rfl
    · exact h.out a ha
/-- a new cell -/
theorem HM.made (h : HM K F As M H) {p : Addr} {o : HO} {c : C} (e : H p = none) (r : CR K F (As ++ [p]) c o) : HM K F (As ++ [p]) (M ++ [c]) (upd H p o) := by
  obtain ⟨h1, h2⟩ := h.fresh e
  refine ⟨?_, by simp [h.len], fun i a c' ea ec => ?_, fun a ha => ?_, fun a ha => ?_⟩
  · rw [List.nodup_append]
    exact ⟨h.nd, by simp, fun a ha b hb z => by
      have : b = p := by simpa using hb
      subst this; subst z; exact h1 ha⟩
  · by_cases hi : i < As.length
    · rw [List.getElem?_append_left hi] at ea
      rw [List.getElem?_append_left (by rw [← h.len]; exact hi)] at ec
      obtain ⟨u, q1, q2⟩ := h.cell i a c' ea ec
      exact ⟨u, by rw [upd_ne (ne_of_none q1 e)]; exact q1, q2.mono (Same.refl _) (List.prefix_append _ _)⟩
    · have hi2 : i = As.length := by
        have := (List.getElem?_eq_some_iff.mp ea).1
        simp at this; omega
      subst hi2
      rw [List.getElem?_append_right (Nat.le_refl _)] at ea
      rw [h.len, List.getElem?_append_right (Nat.le_refl _)] at ec
      simp at ea ec
      subst ea; subst ec
      exact ⟨o, upd_same, r⟩
  · rcases List.mem_append.mp ha with ha | ha
    · exact h.off a ha
    · have : a = p := by simpa using ha
      subst this; exact h2
  · have a1 : a ∉ As := fun z => ha (List.mem_append_left _ z)
    have a2 : a ≠ p := fun z => ha (by simp [z])
    rw [upd_ne a2]; exact h.out a a1
/-- a cell changes -/
theorem HM.set (h : HM K F As M H) {k : Nat} {a : Addr} {o : HO} {c : C} (ea : As[k]? = some a) (r : CR K F As c o) : HM K F As (M.set k c) (upd H a o) := by
  refine ⟨h.nd, by simp [h.len], fun i b c' eb ec => ?_, h.off, fun b hb => ?_⟩
  · by_cases e : k = i
    · subst e
      rw [ea] at eb; cases eb
      have hk : k < M.length := by rw [← h.len]; exact (List.getElem?_eq_some_iff.mp ea).1
      rw [List.getElem?_set_self hk] at ec; cases ec
      exact ⟨o, upd_same, r⟩
    · rw [List.getElem?_set_ne e] at ec
      obtain ⟨u, q1, q2⟩ := h.cell i b c' eb ec
      have : b ≠ a := fun z => by
        subst z
        obtain ⟨h1, e1⟩ := List.getElem?_eq_some_iff.mp ea
        obtain ⟨h2, e2⟩ := List.getElem?_eq_some_iff.mp eb
        exact e ((List.getElem_inj h.nd).mp (e1.trans e2.symm))
      exact ⟨u, by rw [upd_ne this]; exact q1, q2⟩
  · have : b ≠ a := fun z => by
      subst z
      exact hb (List.mem_iff_getElem?.mpr ⟨k, ea⟩)
    rw [upd_ne this]; exact h.out b hb
/-- F grows, the cells and H as they were behind the growth -/
theorem HM.cellAt (h : HM K F As M H) {k : Nat} {a : Addr} {c : C} (ea : As[k]? = some a) (ec : M[k]? = some c) : ∃ o, H a = some o ∧ CR K F As c o := h.cell k a c ea ec
theorem HM.addr (h : HM K F As M H) {k : Nat} {c : C} (ec : M[k]? = some c) : ∃ a, As[k]? = some a := by
  have hk : k < As.length := by rw [h.len]; exact (List.getElem?_eq_some_iff.mp ec).1
  exact ⟨As[k], List.getElem?_eq_getElem hk⟩
end

/-! ### the frame rule: an object set aside -/
def del (H : Hp) (a : Addr) : Hp := fun b => if b = a then none else H b
theorem del_same {H : Hp} {a : Addr} : del H a a = none := by unfold del; rw [if_pos rfl]
theorem del_ne {H : Hp} {a b : Addr} (h : b ≠ a) : del H a b = H b := by unfold del; rw [if_neg h]
theorem del_some {H : Hp} {a b : Addr} {o : HO} (h : del H a b = some o) : b ≠ a ∧ H b = some o := by
  unfold del at h
  split at h
  · cases h
  · rename_i n; exact ⟨n, h⟩
inductive FrOk : HO → Prop
  | lst (xs : List V) : FrOk (.lst xs)
  | dK (kvs : List (Key × V)) : FrOk (.dK kvs)
theorem FrOk.obj {P : Program} {w : World} {H H' : Hp} {h h' : Heap} {a : Addr} {o : HO} (f : FrOk o) (x : ObjOk P w H h a o) (k : ∀ u, h.get? a = some u → h'.get? a = some u) : ObjOk P w H' h' a o := by
  cases f with
  | lst xs => obtain ⟨z, its, n, r, e⟩ := x; exact ⟨z, its, n, r, k _ e⟩
  | dK kvs => obtain ⟨z, y, vs, r, ob, es, ep, e, c⟩ := x; exact ⟨z, y, vs, r, ob, es, ep, k _ e, c⟩
theorem FrOk.get {P : Program} {w : World} {H : Hp} {h : Heap} {a : Addr} {o : HO} (f : FrOk o) (x : ObjOk P w H h a o) : ∃ u, h.get? a = some u ∧ ∀ v, u.data ≠ .cell v := by
  cases f with
  | lst xs => obtain ⟨z, its, n, r, e⟩ := x; exact ⟨_, e, fun v q => nomatch q⟩
  | dK kvs =>
    obtain ⟨z, y, vs, r, ob, es, ep, e, c⟩ := x
    refine ⟨ob, e, fun v q => ?_⟩
    obtain ⟨_, d, _⟩ := c
    rw [d] at q; cases q
theorem FrOk.not {o : HO} (h : FrOk o) : (∀ xs, o ≠ .tup xs) ∧ (∀ u v, o ≠ .frz u v) ∧ (∀ ps, o ≠ .tbl ps) ∧ (∀ x, o ≠ .own x) := by
  cases h <;> exact ⟨fun _ z => (by cases z), fun _ _ z => (by cases z), fun _ z => (by cases z), fun _ z => (by cases z)⟩
theorem CR.flat {K : PySem.W.Frag} {F : Hp} {As Bs : List Addr} : ∀ {c : C} {o : HO}, CR K F As c o → CR K F Bs c o
  | .lst _, _, h => h
  | .dic _, _, h => h
theorem CR.fr {K : PySem.W.Frag} {F : Hp} {As : List Addr} {c : C} {o : HO} (h : CR K F As c o) : FrOk o := by
  cases c with
  | lst xs => obtain ⟨vs, rfl, _⟩ := h; exact .lst vs
  | dic xs => obtain ⟨vs, rfl, _⟩ := h; exact .dK vs
section
variable {X : Cx} {pins : List (Addr × Obj)} {σ : L2.St} {H : Hp} {s : Shared} {a : Addr} {o : HO}
theorem Inv.hide (I : L2.Inv X pins σ H s) (ha : H a = some o) (fr : FrOk o) : ∃ u, s.heap.get? a = some u ∧ L2.Inv X ((a, u) :: pins) σ (del H a) s ∧ a ∉ X.pn.map (·.1) ∧ (∀ ob, X.s_0.heap.get? a = some ob → X.H_0 a = none → a ∉ X.ex → False) ∧ (∀ xs, X.H_0 a ≠ some (.tup xs)) ∧ (∀ u v, X.H_0 a ≠ some (.frz u v)) ∧ (∀ ps, X.H_0 a ≠ some (.tbl ps)) ∧ a ≠ X.env.locals ∧ (∀ x c, X.env.cells.lookup x = some c → c ≠ a) ∧ (∀ p ∈ X.pn ++ pins, p.1 ≠ a) := by
  obtain ⟨u, hu, hc⟩ := fr.get (I.hok a o ha)
  obtain ⟨n1, n2, n3, n4⟩ := fr.not
  have nl : a ≠ X.env.locals := fun z => by rw [z, I.free] at ha; cases ha
  have nfs : a ∉ X.fs := fun z => by
    obtain ⟨_, ob, ho, _⟩ := I.ok.funs.mem z
    have := I.base.free a ob ho (I.ok.frf a z) fun q => I.ok.exfs a q z
    rw [ha] at this; cases this
  have ncl : ∀ x c, X.env.cells.lookup x = some c → c ≠ a := fun x c e z => by
    have := I.freeC x c e
    rw [z, ha] at this; cases this
  have npin : ∀ p ∈ X.pn ++ pins, p.1 ≠ a := fun p hp z => by
    have := (I.pin p hp).2.1
    rw [z, ha] at this; cases this
  refine ⟨u, hu, ⟨I.ok, I.os, I.bare, ⟨I.base.keep, I.base.slot, fun b ob e n hx => ?_, I.base.there, fun b xs e => ?_, fun b ob xs e => ?_, fun b ps e => ?_⟩, I.loc, I.cell, ?_, fun x c e => ?_, fun p hp => ?_, fun b ob e => ?_, I.len⟩, ?_, ?_, ?_, ?_, ?_, nl, ncl, npin⟩
  · unfold del; split
    · rfl
    · exact I.base.free b ob e n hx
  · have q := I.base.tups b xs e
    rw [del_ne (fun z => by rw [z, ha] at q; exact n1 xs (Option.some.inj q))]; exact q
  · have q := I.base.frzs b ob xs e
    rw [del_ne (fun z => by rw [z, ha] at q; exact n2 _ _ (Option.some.inj q))]; exact q
  · obtain ⟨more, q⟩ := I.base.tbls b ps e
    exact ⟨more, by rw [del_ne (fun z => by rw [z, ha] at q; exact n3 _ (Option.some.inj q))]; exact q⟩
  · unfold del; split
    · rfl
    · exact I.free
  · unfold del; split
    · rfl
    · exact I.freeC x c e
  · rcases List.mem_append.mp hp with hp | hp
    · obtain ⟨h1, h2, h3, h4, h5⟩ := I.pin p (List.mem_append_left _ hp)
      exact ⟨h1, by unfold del; split <;> first | rfl | exact h2, h3, h4, h5⟩
    · rcases List.mem_cons.mp hp with rfl | hp
      · exact ⟨hu, del_same, nl, nfs, hc⟩
      · obtain ⟨h1, h2, h3, h4, h5⟩ := I.pin p (List.mem_append_right _ hp)
        exact ⟨h1, by unfold del; split <;> first | rfl | exact h2, h3, h4, h5⟩
  · obtain ⟨nb, e'⟩ := del_some e
    refine (I.hok b ob e').stay (fun c v _ q => q) (fun c q => ?_) fun c xs q => ?_
    · rw [del_ne (fun z => by rw [z, ha] at q; exact n4 _ (Option.some.inj q))]; exact q
    · rw [del_ne (fun z => by rw [z, ha] at q; exact n1 _ (Option.some.inj q))]; exact q
  · intro z
    obtain ⟨p, hp, e⟩ := List.mem_map.mp z
    exact npin p (List.mem_append_left _ hp) e
  · intro ob e n hx
    have := I.base.free a ob e n hx
    rw [ha] at this; cases this
  · intro xs e
    have := I.base.tups a xs e
    rw [ha] at this; exact n1 _ (Option.some.inj this)
  · intro u' v' e
    have := I.base.frzs a _ _ e
    rw [ha] at this; exact n2 _ _ (Option.some.inj this)
  · intro ps e
    obtain ⟨more, this⟩ := I.base.tbls a _ e
    rw [ha] at this; exact n3 _ (Option.some.inj this)
theorem Inv.show {u : Obj} {s' : Shared} {σ' : L2.St} {H' : Hp} (I : L2.Inv X pins σ H s) (ha : H a = some o) (fr : FrOk o) (hu : s.heap.get? a = some u) (I' : L2.Inv X ((a, u) :: pins) σ' H' s') : H' a = none ∧ L2.Inv X pins σ' (upd H' a o) s' := by
  obtain ⟨u', hu', _, g0, g1, g2, g3, g4, nl, ncl, npin⟩ := Inv.hide I ha fr
  have ok0 := I.hok a o ha
  obtain ⟨pu, pn, _, _, _⟩ := I'.pin (a, u) (List.mem_append_right _ List.mem_cons_self)
  have pu : s'.heap.get? a = some u := pu
  have pn : H' a = none := pn
  refine ⟨pn, ⟨I'.ok, I'.os, I'.bare, ⟨I'.base.keep, I'.base.slot, fun b ob e n hx => ?_, I'.base.there, fun b xs e => ?_, fun b ob xs e => ?_, fun b ps e => ?_⟩, I'.loc, I'.cell, ?_, fun x c e => ?_, fun p hp => ?_, fun b ob e => ?_, I'.len⟩⟩
  · rw [upd_ne (fun z => by subst z; exact g1 ob e n hx)]; exact I'.base.free b ob e n hx
  · rw [upd_ne (fun z => by subst z; exact g2 xs e)]; exact I'.base.tups b xs e
  · rw [upd_ne (fun z => by subst z; exact g3 _ _ e)]; exact I'.base.frzs b ob xs e
  · obtain ⟨more, q⟩ := I'.base.tbls b ps e
    exact ⟨more, by rw [upd_ne (fun z => by subst z; exact g4 _ e)]; exact q⟩
  · rw [upd_ne (Ne.symm nl)]; exact I'.free
  · rw [upd_ne (ncl x c e)]; exact I'.freeC x c e
  · obtain ⟨h1, h2, h3, h4, h5⟩ := I'.pin p (by
      rcases List.mem_append.mp hp with z | z
      · exact List.mem_append_left _ z
      · exact List.mem_append_right _ (List.mem_cons_of_mem _ z))
    exact ⟨h1, by rw [upd_ne (npin p hp)]; exact h2, h3, h4, h5⟩
  · by_cases hb : b = a
    · subst hb
      rw [upd_same] at e; cases e
      refine fr.obj ok0 fun v hv => ?_
      rw [hu] at hv; cases hv; exact pu
    · rw [upd_ne hb] at e
      refine (I'.hok b ob e).stay (fun c v _ q => q) (fun c q => ?_) fun c xs q => ?_
      · rw [upd_ne (ne_of_none q pn)]; exact q
      · rw [upd_ne (ne_of_none q pn)]; exact q
end
end Dl

/-! DL1: semantic readings, contexts, judgements, the first rules -/
namespace Dl
open PySem L2

/-! ### the weakest reading of a piece of syntax -/
section
variable (X : Cx)
def WE (e : Expr) : TE := fun σ H G => ∃ t : TE, PE X e t ∧ t σ H G
def WT (e : Expr) : TT := fun σ H G => ∃ t : TT, PT X e t ∧ t σ H G
def WW (e : Expr) : TT := fun σ H G => ∃ t : TT, PW X e t ∧ t σ H G
def WTs (es : List Expr) : TT := fun σ H G => ∃ t : TT, PTs X es t ∧ t σ H G
def WA (es : List Expr) : TA := fun σ H G => ∃ t : TA, PA X es t ∧ t σ H G
def WK (es : List Keyword) : TA := fun σ H G => ∃ t : TA, PK X es t ∧ t σ H G
def WS (ss : List Stmt) : TS := fun D σ H => ∃ t : TS, PSs X ss t ∧ t D σ H
def WS1 (s : Stmt) : TS := fun D σ H => ∃ t : TS, PS X s t ∧ t D σ H
def WI (tg it : Expr) : TI := fun σ H R => ∃ t : TI, PI X tg it t ∧ t σ H R
def WG (tg : Expr) : TG := fun v σ H R => ∃ t : TG, PG X tg t ∧ t v σ H R
end
section
variable {X : Cx}
theorem pe_w {e : Expr} : PE X e (WE X e) := ⟨fun pins s σ H Q I ⟨_, h, q⟩ => h.run pins s σ H Q I q⟩
theorem pt_w {e : Expr} : PT X e (WT X e) := ⟨fun pins s σ H Q I ⟨_, h, q⟩ => h.run pins s σ H Q I q⟩
theorem pw_w {e : Expr} : PW X e (WW X e) := ⟨fun wh pins s σ H Q I ⟨_, h, q⟩ => h.run wh pins s σ H Q I q⟩
theorem pa_w {e : List Expr} : PA X e (WA X e) := ⟨fun p pins s σ H Q I ⟨_, h, q⟩ => h.run p pins s σ H Q I q⟩
theorem pk_w {e : List Keyword} : PK X e (WK X e) := ⟨fun p pins s σ H Q I ⟨_, h, q⟩ => h.run p pins s σ H Q I q⟩
theorem pss_w {e : List Stmt} : PSs X e (WS X e) := ⟨fun pins s σ H Q I ⟨_, h, q⟩ => h.run pins s σ H Q I q⟩
theorem ps_w {e : Stmt} : PS X e (WS1 X e) := ⟨fun pins s σ H Q I ⟨_, h, q⟩ => h.run pins s σ H Q I q⟩
theorem pi_w {tg e : Expr} : PI X tg e (WI X tg e) := ⟨fun pins s σ H Q I ⟨_, h, q⟩ => h.run pins s σ H Q I q⟩
theorem pts_w {e : List Expr} : PTs X e (WTs X e) := ⟨fun pins s σ H Q I ⟨_, h, q⟩ => h.run pins s σ H Q I q⟩
theorem WE.mono {e : Expr} {σ : L2.St} {H : Hp} {G G' : VK} (h : WE X e σ H G) (k : ∀ v H', G v H' → G' v H') : WE X e σ H G' := by
  refine ⟨fun σ' H' Q => σ' = σ ∧ H' = H ∧ ∀ v H', G v H' → Q v H', ⟨fun pins s σ' H' Q I ⟨e1, e2, q⟩ => ?_⟩, rfl, rfl, k⟩
  subst e1; subst e2
  exact thn (pe_w.run pins s σ' H' G I h) fun u s' ⟨v, H2, I2, r, g⟩ => ⟨v, H2, I2, r, q v H2 g⟩
theorem WT.mono {e : Expr} {σ : L2.St} {H : Hp} {G G' : Bool → Hp → Prop} (h : WT X e σ H G) (k : ∀ v H', G v H' → G' v H') : WT X e σ H G' := by
  refine ⟨fun σ' H' Q => σ' = σ ∧ H' = H ∧ ∀ v H', G v H' → Q v H', ⟨fun pins s σ' H' Q I ⟨e1, e2, q⟩ => ?_⟩, rfl, rfl, k⟩
  subst e1; subst e2
  exact thn (pt_w.run pins s σ' H' G I h) fun u s' ⟨H2, I2, g⟩ => ⟨H2, I2, q u H2 g⟩
/-- the frame rule -/
theorem WE.frame {e : Expr} {σ : L2.St} {H : Hp} {G : VK} {a : Addr} {o : HO} (ha : H a = some o) (fr : FrOk o) (h : WE X e σ (del H a) fun v H' => H' a = none → G v (upd H' a o)) : WE X e σ H G := by
  refine ⟨fun σ' H' Q => σ' = σ ∧ H' = H ∧ ∀ v H', G v H' → Q v H', ⟨fun pins s σ' H' Q I ⟨e1, e2, q⟩ => ?_⟩, rfl, rfl, fun _ _ z => z⟩
  subst e1; subst e2
  obtain ⟨u, hu, I1, _⟩ := Inv.hide I ha fr
  refine thn (pe_w.run _ s σ' _ _ I1 h) fun u' s' ⟨v, H2, I2, r, g⟩ => ?_
  obtain ⟨n, I3⟩ := Inv.show I ha fr hu I2
  exact ⟨v, _, I3, r, q _ _ (g n)⟩
theorem WT.frame {e : Expr} {σ : L2.St} {H : Hp} {G : Bool → Hp → Prop} {a : Addr} {o : HO} (ha : H a = some o) (fr : FrOk o) (h : WT X e σ (del H a) fun v H' => H' a = none → G v (upd H' a o)) : WT X e σ H G := by
  refine ⟨fun σ' H' Q => σ' = σ ∧ H' = H ∧ ∀ v H', G v H' → Q v H', ⟨fun pins s σ' H' Q I ⟨e1, e2, q⟩ => ?_⟩, rfl, rfl, fun _ _ z => z⟩
  subst e1; subst e2
  obtain ⟨u, hu, I1, _⟩ := Inv.hide I ha fr
  refine thn (pt_w.run _ s σ' _ _ I1 h) fun u' s' ⟨H2, I2, g⟩ => ?_
  obtain ⟨n, I3⟩ := Inv.show I ha fr hu I2
  exact ⟨_, I3, q _ _ (g n)⟩
theorem WTs.frame {e : List Expr} {σ : L2.St} {H : Hp} {G : Bool → Hp → Prop} {a : Addr} {o : HO} (ha : H a = some o) (fr : FrOk o) (h : WTs X e σ (del H a) fun v H' => H' a = none → G v (upd H' a o)) : WTs X e σ H G := by
  refine ⟨fun σ' H' Q => σ' = σ ∧ H' = H ∧ ∀ v H', G v H' → Q v H', ⟨fun pins s σ' H' Q I ⟨e1, e2, q⟩ => ?_⟩, rfl, rfl, fun _ _ z => z⟩
  subst e1; subst e2
  obtain ⟨u, hu, I1, _⟩ := Inv.hide I ha fr
  refine thn (pts_w.run _ s σ' _ _ I1 h) fun u' s' ⟨H2, I2, g⟩ => ?_
  obtain ⟨n, I3⟩ := Inv.show I ha fr hu I2
  exact ⟨_, I3, q _ _ (g n)⟩
/-- several objects set aside -/
def dels (H : Hp) (bs : List Addr) : Hp := fun a => if a ∈ bs then none else H a
def puts (H' H : Hp) (bs : List Addr) : Hp := fun a => if a ∈ bs then H a else H' a
theorem dels_cons (H : Hp) (b : Addr) (bs : List Addr) : dels H (b :: bs) = dels (del H b) bs := by
  funext a
  unfold dels del
  by_cases h1 : a ∈ bs <;> by_cases h2 : a = b <;> simp [h1, h2]
theorem puts_cons (H' H : Hp) (b : Addr) (bs : List Addr) (hb : b ∉ bs) : puts H' H (b :: bs) = puts (upd H' b (H b |>.getD (.own 0))) (del H b) bs ∨ H b = none := by
  cases e : H b with
  | none => exact .inr rfl
  | some o =>
    left
    funext a
    unfold puts upd del
    by_cases h2 : a = b
    · subst h2; simp [hb, e]
    · by_cases h1 : a ∈ bs <;> simp [h1, h2]
theorem WE.frames {e : Expr} {σ : L2.St} : ∀ {bs : List Addr} {H : Hp} {G : VK}, bs.Nodup → (∀ b ∈ bs, ∃ o, H b = some o ∧ FrOk o) → (WE X e σ (dels H bs) fun v H' => (∀ b ∈ bs, H' b = none) → G v (puts H' H bs)) → WE X e σ H G
  | [], H, G, _, _, h => by
    have e1 : dels H [] = H := by funext a; simp [dels]
    rw [e1] at h
    refine h.mono fun v H' k => ?_
    have := k (fun _ z => nomatch z)
    have e2 : puts H' H [] = H' := by funext a; simp [puts]
    rw [e2] at this; exact this
  | b :: bs, H, G, nd, hb, h => by
    obtain ⟨o, ho, fr⟩ := hb b List.mem_cons_self
    have nb : b ∉ bs := (List.nodup_cons.mp nd).1
    refine WE.frame ho fr (WE.frames (bs := bs) (List.nodup_cons.mp nd).2 (fun c hc => ?_) ?_)
    · obtain ⟨o', ho', fr'⟩ := hb c (List.mem_cons_of_mem _ hc)
      exact ⟨o', by rw [del_ne (fun z => by subst z; exact nb hc)]; exact ho', fr'⟩
    · rw [dels_cons] at h
      refine h.mono fun v H' k hbs hnb => ?_
      have hb0 : H' b = none := by
        have : puts H' (del H b) bs b = H' b := by unfold puts; rw [if_neg nb]
        rw [← this]; exact hnb
      have := k (fun c hc => by
        rcases List.mem_cons.mp hc with rfl | hc
        · exact hb0
        · exact hbs c hc)
      have e3 : upd (puts H' (del H b) bs) b o = puts H' H (b :: bs) := by
        funext a
        unfold upd puts del
        by_cases h2 : a = b
        · subst h2; simp [ho]
        · by_cases h1 : a ∈ bs <;> simp [h1, h2]
      rw [e3]; exact this
end

/-! ### contexts -/
structure Ctx where
  P : Program
  w : World
  K : PySem.W.Frag
  mg : Str → Option Value
  base : Heap
  N : List Str
  sc : Scope
  fn : Str → Bool
  k : Nat
  m : Nat
inductive Ctx.Is : Ctx → Cx → Prop
  | mk (X : Cx) (k m : Nat) (nd : X.N.Nodup) (calm : X.calm = true) (room : Room k X.A) (po : PassesOwn (model X.prog X.w) X.A X.env X.xe) : Ctx.Is ⟨X.prog, X.w, X.K, X.mg, X.base, X.N, X.env.scope, X.fn, k, m⟩ X

/-! ### judgements -/
section
variable (c : Ctx) (ρ : List Sl) (M : List C)
/-- e has the value r, the cells stay -/
def Er (e : Expr) (r : Sl) : Prop := ∀ X, c.Is X → ∀ F As σ H, SR c.K F As ρ σ → HM c.K F As M H → ∀ G : VK, (∀ v F' H', Same F F' → SlR c.K F' As r v → HM c.K F' As M H' → G v H') → WE X e σ H G
abbrev Ev (e : Expr) (d : D) : Prop := Er c ρ M e (.val d)
/-- e, in general -/
def EE (e : Expr) (Q : Sl → List C → Prop) : Prop := ∀ X, c.Is X → ∀ F As σ H, SR c.K F As ρ σ → HM c.K F As M H → ∀ G : VK, (∀ v F' As' H' r M', Same F F' → As <+: As' → SlR c.K F' As' r v → HM c.K F' As' M' H' → Q r M' → G v H') → WE X e σ H G
/-- e is a new list -/
def EvN (e : Expr) (xs : List D) : Prop := EE c ρ M e fun r M' => r = .own M.length ∧ M' = M ++ [.lst xs]
/-- a test -/
def ET (e : Expr) (b : Bool) : Prop := ∀ X, c.Is X → ∀ F As σ H, SR c.K F As ρ σ → HM c.K F As M H → ∀ G : Bool → Hp → Prop, (∀ F' H', Same F F' → HM c.K F' As M H' → G b H') → WT X e σ H G
def EW (e : Expr) (b : Bool) : Prop := ∀ X, c.Is X → ∀ F As σ H, SR c.K F As ρ σ → HM c.K F As M H → ∀ G : Bool → Hp → Prop, (∀ F' H', Same F F' → HM c.K F' As M H' → G b H') → WW X e σ H G
/-- arguments -/
def EA (es : List Expr) (Q : List Sl → List C → Prop) : Prop := ∀ X, c.Is X → ∀ F As σ H, SR c.K F As ρ σ → HM c.K F As M H → ∀ G : List V → Hp → Prop, (∀ vs F' As' H' rs M', Same F F' → As <+: As' → SlRs c.K F' As' rs vs → HM c.K F' As' M' H' → Q rs M' → G vs H') → WA X es σ H G
/-- arguments, the cells stay -/
def ErA (es : List Expr) (rs : List Sl) : Prop := ∀ X, c.Is X → ∀ F As σ H, SR c.K F As ρ σ → HM c.K F As M H → ∀ G : List V → Hp → Prop, (∀ vs F' H', Same F F' → SlRs c.K F' As rs vs → HM c.K F' As M H' → G vs H') → WA X es σ H G
end
/-- what is read as a sequence: a list (true) or a tuple -/
inductive SqS (M : List C) : Sl → Bool → List D → Prop
  | lst {ds : List D} : SqS M (.val (.lst ds)) true ds
  | tup {ds : List D} : SqS M (.val (.tup ds)) false ds
  | own {k : Nat} {ds : List D} (h : M[k]? = some (.lst ds)) : SqS M (.own k) true ds
theorem SqS.get {K : PySem.W.Frag} {F : Hp} {As : List Addr} {M : List C} {H : Hp} {s : Sl} {b : Bool} {ds : List D} {v : V} (q : SqS M s b ds) (hm : HM K F As M H) (r : SlR K F As s v) :
    ∃ a vs, v = .ref a ∧ DVs K F ds vs ∧ (if b then H a = some (.lst vs) else SqT K H a vs) := by
  cases q with
  | lst => obtain ⟨a, vs, rfl, h1, h2⟩ := r; exact ⟨a, vs, rfl, h2, hm.same _ _ h1⟩
  | tup => obtain ⟨a, vs, rfl, h1, h2⟩ := r; exact ⟨a, vs, rfl, h2, same_t hm.same h1⟩
  | own h =>
    obtain ⟨a, h1, rfl⟩ := r
    obtain ⟨o, h2, vs, rfl, h3⟩ := hm.cell _ a _ h1 h
    exact ⟨a, vs, rfl, h3, h2⟩
theorem SqS.sq {K : PySem.W.Frag} {F : Hp} {As : List Addr} {M : List C} {H : Hp} {s : Sl} {b : Bool} {ds : List D} {v : V} (q : SqS M s b ds) (hm : HM K F As M H) (r : SlR K F As s v) :
    ∃ a vs, v = .ref a ∧ DVs K F ds vs ∧ (SqL K H a vs ∨ SqT K H a vs) := by
  obtain ⟨a, vs, h1, h2, h3⟩ := q.get hm r
  cases b with
  | true => exact ⟨a, vs, h1, h2, .inl (.inl (.inl h3))⟩
  | false => exact ⟨a, vs, h1, h2, .inr h3⟩
/-- the ends of a block -/
structure DE where
  nx : List Sl → List C → Prop
  rt : Sl → List C → Prop := fun _ _ => False
  bk : List Sl → List C → Prop := fun _ _ => False
  ct : List Sl → List C → Prop := fun _ _ => False
structure EndsR (K : PySem.W.Frag) (D : DE) (E : Ends) (F : Hp) (As : List Addr) : Prop where
  nx : ∀ F' As' ρ' M' σ' H', Same F F' → As <+: As' → SR K F' As' ρ' σ' → HM K F' As' M' H' → D.nx ρ' M' → E.nx σ' H'
  rt : ∀ F' As' r v M' H', Same F F' → As <+: As' → SlR K F' As' r v → HM K F' As' M' H' → D.rt r M' → E.rt v H'
  bk : ∀ F' As' ρ' M' σ' H', Same F F' → As <+: As' → SR K F' As' ρ' σ' → HM K F' As' M' H' → D.bk ρ' M' → E.bk σ' H'
  ct : ∀ F' As' ρ' M' σ' H', Same F F' → As <+: As' → SR K F' As' ρ' σ' → HM K F' As' M' H' → D.ct ρ' M' → E.ct σ' H'
def ES (c : Ctx) (ρ : List Sl) (M : List C) (ss : List Stmt) (D : DE) : Prop := ∀ X, c.Is X → ∀ F As B σ H (E : Ends), SR c.K F As ρ σ → HM c.K F As M H → B.length = c.m → B <+: As → EndsR c.K D E F B → WS X ss E σ H
theorem EndsR.mono {K : PySem.W.Frag} {D : DE} {E : Ends} {F F1 : Hp} {As Bs : List Addr} (h : EndsR K D E F As) (s : Same F F1) (p : As <+: Bs) : EndsR K D E F1 Bs :=
  ⟨fun F' As' ρ' M' σ' H' a b => h.nx F' As' ρ' M' σ' H' (s.trans a) (p.trans b), fun F' As' r v M' H' a b => h.rt F' As' r v M' H' (s.trans a) (p.trans b),
   fun F' As' ρ' M' σ' H' a b => h.bk F' As' ρ' M' σ' H' (s.trans a) (p.trans b), fun F' As' ρ' M' σ' H' a b => h.ct F' As' ρ' M' σ' H' (s.trans a) (p.trans b)⟩

/-! ### between the judgements -/
theorem HM.pfx_eq {K : PySem.W.Frag} {F F' : Hp} {As As' : List Addr} {M : List C} {H H' : Hp} (h : HM K F As M H) (h' : HM K F' As' M H') (p : As <+: As') : As' = As := by
  have : As.length = As'.length := by rw [h.len, h'.len]
  exact (p.eq_of_length this).symm
section
variable {c : Ctx} {ρ : List Sl} {M : List C} {e : Expr}
theorem Er.ee {r : Sl} {Q : Sl → List C → Prop} (h : Er c ρ M e r) (q : Q r M) : EE c ρ M e Q := fun X hX F As σ H sr hm G k =>
  h X hX F As σ H sr hm G fun v F' H' s dv hm' => k v F' As H' r M s (List.prefix_refl _) dv hm' q
theorem EE.er {r : Sl} (h : EE c ρ M e fun r' M' => r' = r ∧ M' = M) : Er c ρ M e r := fun X hX F As σ H sr hm G k =>
  h X hX F As σ H sr hm G fun v F' As' H' r M' s p r1 hm' ⟨e1, e2⟩ => by
    subst e1; subst e2
    have := hm.pfx_eq hm' p
    subst this
    exact k v F' H' s r1 hm'
theorem EE.mono {Q Q' : Sl → List C → Prop} (h : EE c ρ M e Q) (q : ∀ r M', Q r M' → Q' r M') : EE c ρ M e Q' := fun X hX F As σ H sr hm G k =>
  h X hX F As σ H sr hm G fun v F' As' H' r M' s p r1 hm' z => k v F' As' H' r M' s p r1 hm' (q r M' z)
theorem Er.eq {d d' : Sl} (h : Er c ρ M e d) (q : d = d') : Er c ρ M e d' := q ▸ h
theorem Ev.eq {d d' : D} (h : Ev c ρ M e d) (q : d = d') : Ev c ρ M e d' := q ▸ h
/-- the last cell is frozen -/
theorem HM.freeze {K : PySem.W.Frag} {F : Hp} {As : List Addr} {M : List C} {H : Hp} {a : Addr} {ds : List D} (h : HM K F (As ++ [a]) (M ++ [.lst ds]) H) :
    ∃ F', Same F F' ∧ HM K F' As M H ∧ DV K F' (.lst ds) (.ref a) := by
  have hl : As.length = M.length := by have := h.len; simpa using this
  have ha : (As ++ [a])[As.length]? = some a := by simp
  obtain ⟨o, ho, vs, rfl, hv⟩ := h.cell As.length a (.lst ds) ha (by rw [hl]; simp)
  have fa : F a = none := h.off a (by simp)
  have na : a ∉ As := by
    have := h.nd
    rw [List.nodup_append] at this
    exact fun z => this.2.2 a z a (by simp) rfl
  have s := same_new (o := .lst vs) fa
  refine ⟨upd F a (.lst vs), s, ⟨(List.nodup_append.mp h.nd).1, hl, fun i b cc eb ec => ?_, fun b hb => ?_, fun b hb => ?_⟩, a, vs, rfl, upd_same, DVs.mono s hv⟩
  · obtain ⟨o', h1, h2⟩ := h.cell i b cc (by rw [List.getElem?_append_left (List.getElem?_eq_some_iff.mp eb).1]; exact eb) (by rw [List.getElem?_append_left (List.getElem?_eq_some_iff.mp ec).1]; exact ec)
    exact ⟨o', h1, (CR.flat h2).mono s (List.prefix_refl _)⟩
  · rw [upd_ne (fun z => by subst z; exact na hb)]; exact h.off b (List.mem_append_left _ hb)
  · by_cases e : b = a
    · subst e; rw [upd_same]; exact ho
    · rw [upd_ne e]
      exact h.out b (fun z => by
        rcases List.mem_append.mp z with z | z
        · exact hb z
        · exact e (by simpa using z))
theorem EvN.ev {ds : List D} (h : EvN c ρ M e ds) : Ev c ρ M e (.lst ds) := fun X hX F As σ H sr hm G k =>
  h X hX F As σ H sr hm G fun v F' As' H' r M' s p r1 hm' ⟨e1, e2⟩ => by
    subst e1; subst e2
    obtain ⟨t, rfl⟩ := p
    have hl := hm'.len
    have hl0 := hm.len
    obtain ⟨a, rfl⟩ : ∃ a, t = [a] := by
      have : t.length = 1 := by simp at hl; omega
      match t, this with
      | [a], _ => exact ⟨a, rfl⟩
    obtain ⟨a', h1, rfl⟩ := r1
    have : a' = a := by
      rw [← hl0] at h1
      simpa using h1.symm
    subst this
    obtain ⟨F2, s2, hm2, dv⟩ := hm'.freeze
    exact k _ F2 H' (s.trans s2) dv hm2
end
end Dl

/-! DLS: set(xs) of a list of ints, sorted(set(xs)) -/
namespace Dl
open PySem L2 PySem.Spec PyProof.Rows
section
variable {P : Program} {w : World} {A : Around} {E : Value → Shared → Prop} {s : Shared}
/-- the empty set as it is made -/
abbrev emptySetO (w : World) : Obj := { cls := .type "set", dict := none, data := .set #[] 0 (.fresh 0 0 (!w.params.followText "set-order")) }
set_option maxHeartbeats 3200000 in
theorem call_set_lstI {l : Addr} {its : Array Value} (ns : List Int) {Q : Value → Shared → Prop}
    (hh : A.handled = none) (gl : s.heap.IsList l its) (gi : IntsAre its.toList ns) (gb : ns.length + 1 < scanBound)
    (fin : ∀ (hp : Heap) (tk c : Nat), SetR w hp s.heap.objs.size (fun j => decide (j ∈ ns)) c → c ≤ ns.length →
      (∀ b o, s.heap.get? b = some o → hp.get? b = some o) → Q (.ref s.heap.objs.size) { s with heap := hp, toks := tk }) :
    wpAny (model P w) A (call (.type "set") [.ref l]) Q E s := by
  have gz : its.size = ns.length := by
    have q := IntsAre.length gi
    rw [Array.length_toList] at q
    exact q
  obtain ⟨cq, tq, gmro⟩ := F.called_set.mro
  have gmade := F.called_set.made
  have gsub := F.called_set.sub
  refine wpAny_call (codeAny_of_tree ?_)
  show wpAny _ _ (callAny (.type "set") _) _ _ _
  refine wpAny_pure ⟨Code.quiet_builtin _ (by decide +kernel), codeAny_builtin (id F.entry_type_call) ?_⟩
  rw [Around.under_plain (weight_type_call_type "set" [Value.ref l] []) rfl]
  have g1 := F.called_set.notType
  have g2 := F.called_set.canCreate
  have gct := F.typeCall_set_1 (.ref l)
  repeat (any_goals (first | assumption | wp_step))
  let hp1 : Heap := s.heap.push (emptySetO w)
  refine codeAny_mono (code_set_led1 (.ref l) (E := E) (Q₁ := fun ob s₁ => ob = .ref s.heap.objs.size ∧ s₁ = { s with heap := s.heap.push (emptySetO w) }) ⟨rfl, rfl⟩) fun r s₁ hr => ?_
  cases r with
  | error e => exact hr
  | ok fl =>
    cases fl with
    | ret ob =>
      obtain ⟨rfl, rfl⟩ := hr
      have gS : (s.heap.push (emptySetO w)).get? s.heap.objs.size = some (emptySetO w) := Heap.get?_push_size _ rfl
      have gT : Shared.TypeIs { s with heap := s.heap.push (emptySetO w) } (.ref s.heap.objs.size) "set" := ⟨_, gS, rfl⟩
      have gli := F.called_set.init.lookup
      have gbi := F.called_set.init.bind (.ref s.heap.objs.size)
      repeat (any_goals (first | assumption | wp_step))
      refine codeAny_mono (codeAny_call_builtin (R := wants (fun r s₂ => r = .none ∧ ∃ hp tk c, s₂ = { s with heap := hp, toks := tk } ∧ SetR w hp s.heap.objs.size (fun j => decide (j ∈ ns)) c ∧ c ≤ ns.length ∧
        (∀ b o, s.heap.get? b = some o → hp.get? b = some o)) E) F.called_set.init.plain F.entry_set_init (check_set_init_1 gT ?_)) fun r₂ s₂ hr₂ => ?_
      · obtain ⟨ol, gol, gcl, nl, gdl⟩ := gl
        obtain ⟨ocls, odict, odata, oslots⟩ := ol
        simp only at gcl gdl
        subst gcl; subst gdl
        have gol' : (s.heap.push (emptySetO w)).get? l = some { cls := .type "list", dict := odict, data := .seq its nl, slots := oslots } := Heap.get?_push_of_some _ gol
        have gsls := F.sub_list_set
        have gslf := F.sub_list_frozenset
        have gne : (Value.type "list" == Value.type "dict") = false := by decide
        have gl1 : (s.heap.push (emptySetO w)).IsList l its := ⟨_, gol', rfl, nl, rfl⟩
        unfold Builtin.«set.__init__» noKeywords Builtin.Frozenset.updateFrom
        generalize gPI : pyIter = PI
        wp_walk
        subst gPI
        refine wpAny_pyIter_list gl1 ?_
        refine wpAny_bind (wpAny_runValue ?_)
        have lS : l < s.heap.objs.size := Heap.lt_size gol
        have hh3 : A.in1.in1.in1.handled = none := by simp [hh]
        have zz : (s.heap.push (emptySetO w)).objs.size = s.heap.objs.size + 1 := Heap.size_push ..
        have neI : l ≠ (s.heap.push (emptySetO w)).objs.size := by
          rw [zz]; exact Nat.ne_of_lt (Nat.lt_succ_of_lt lS)
        have Sf : s.heap.objs.size ∉ [(s.heap.push (emptySetO w)).objs.size, l] := by
          rw [zz]; simp only [List.mem_cons, List.mem_singleton, List.not_mem_nil, or_false, not_or]
          exact ⟨Nat.ne_of_lt (Nat.lt_succ_self _), Nat.ne_of_gt lS⟩
        have val : ∀ (i : Nat) (v : Value), its[i]? = some v → ∃ k t, ns[i]? = some k ∧ v = .int k t := fun i v hv => by
          have hi : i < ns.length := by rw [← gz]; exact (Array.getElem?_eq_some_iff.mp hv).1
          obtain ⟨t, e⟩ := PyProof.Rows.IntsAre.int_at gi i v (by rw [Array.getElem?_toList]; exact hv)
          refine ⟨ns[i], t, List.getElem?_eq_getElem hi, ?_⟩
          rw [e, List.getD_eq_getElem?_getD, List.getElem?_eq_getElem hi]
          all_goals rfl
        refine set_update_ints ((Walks.list hh3 _ l neI its).toS) s.heap.objs.size
          Sf ns gz gb val (its.size - 0) 0 _ (by omega) (Nat.zero_le _)
          ⟨⟨_, Heap.get?_push_size _ rfl, rfl, rfl⟩, (gl1.push _)⟩ ?S0 ?R0
        case S0 => exact ⟨0, Nat.le_refl 0, setR_new_at (Heap.get?_push_of_some _ gS)⟩
        case R0 =>
          intro s' c' hm hc' hS'
          obtain ⟨hp, g3, d3, tk3, os3⟩ := s'
          have eg : g3 = s.gens := hm.gens
          have ed : d3 = s.drawn := hm.drawn
          have eo : os3 = s.os := hm.os
          subst eg; subst ed; subst eo
          show wpAny _ _ _ _ _ _
          refine wpAny_pure ?_
          show wpAny _ _ (ret Value.none) _ _ _
          rw [gz] at hc'
          refine wpAny_pure ⟨rfl, hp, tk3, c', rfl, hS', hc', fun b o e => ?_⟩
          have b0 : b < s.heap.objs.size := Heap.lt_size e
          have b1 : b ≠ s.heap.objs.size := Nat.ne_of_lt b0
          have b2 : b ≠ (s.heap.push (emptySetO w)).objs.size := by
            rw [zz]; exact Nat.ne_of_lt (Nat.lt_succ_of_lt b0)
          exact hm.heap b o (by simp only [List.mem_cons, List.mem_singleton, List.not_mem_nil, or_false, not_or]; exact ⟨b1, b2⟩)
            (Heap.get?_push_of_some _ (Heap.get?_push_of_some _ e))
      · cases r₂ with
        | error e => exact hr₂
        | ok fl₂ =>
          cases fl₂ with
          | ret r =>
            obtain ⟨rfl, hp, tk, c', rfl, hS', hc', hk'⟩ := hr₂
            repeat (any_goals (first | assumption | wp_step))
            exact fin _ _ _ hS' hc' hk'
          | _ => exact hr₂.elim
    | _ => exact hr.elim
end
end Dl

/-! DL2: rules for expressions -/
namespace Dl
open PySem L2
section
variable {c : Ctx} {ρ : List Sl} {M : List C} {a b e : Expr} {pos : Pos}

/-! ### atoms -/
theorem er_var (i : Nat) {x : Str} {r : Sl} (hN : c.N[i]? = some x := by rfl) (hv : Vis c.sc x := by first | exact Or.inl rfl | exact Or.inr (Or.inl rfl) | exact Or.inr (Or.inr rfl)) (hr : ρ[i]? = some r := by rfl)
    (hu : r ≠ .un := by (intro z; cases z)) (hd : (x == ("__debug__" : Str)) = false := by decide) (hcd : (x == ("__classdict__" : Str)) = false := by decide) : Er c ρ M (.Name x pos) r := fun X hX F As σ H sr hm G k => by
  cases hX with
  | mk X k0 m0 nd calm room po =>
    obtain ⟨v, h1, h2⟩ := sr.get i r hr hu
    exact ⟨_, pe_var hN hv hd hcd, v, h1, k v F H (Same.refl _) h2 hm⟩
theorem ev_int {i : Int} {j} : Ev c ρ M (.Constant (.int i) j pos) (.int i) := fun X hX F As σ H sr hm G k => ⟨_, pe_int, k _ F H (Same.refl _) rfl hm⟩
theorem ev_bl {i : Bool} {j} : Ev c ρ M (.Constant (.bool i) j pos) (.bl i) := fun X hX F As σ H sr hm G k => ⟨_, pe_bl, k _ F H (Same.refl _) rfl hm⟩
theorem ev_non {j} : Ev c ρ M (.Constant .none j pos) .non := fun X hX F As σ H sr hm G k => ⟨_, pe_non, k _ F H (Same.refl _) rfl hm⟩
theorem ev_str {x : Str} {j} : Ev c ρ M (.Constant (.str x) j pos) (.str x) := fun X hX F As σ H sr hm G k => ⟨_, pe_str, k _ F H (Same.refl _) rfl hm⟩

/-! ### operators by values -/
structure OpX (c : Ctx) (M : List C) (f : Value → Value → Sem Value) (s1 s2 : Sl) (d : D) : Prop where
  run : ∀ X, c.Is X → ∃ r : R2, OpR X f r ∧ ∀ F As H x y, SlR c.K F As s1 x → SlR c.K F As s2 y → HM c.K F As M H → ∀ G : VK, (∀ v F' H', Same F F' → DV c.K F' d v → HM c.K F' As M H' → G v H') → r x y H G
/-- .. with a new list as its outcome -/
structure OpN (c : Ctx) (M : List C) (f : Value → Value → Sem Value) (s1 s2 : Sl) (ds : List D) : Prop where
  run : ∀ X, c.Is X → ∃ r : R2, OpR X f r ∧ ∀ F As H x y, SlR c.K F As s1 x → SlR c.K F As s2 y → HM c.K F As M H → ∀ G : VK, (∀ p vs, H p = none → DVs c.K F ds vs → G (.ref p) (upd H p (.lst vs))) → r x y H G
theorem ev_bin {op : Operator} {s1 s2 : Sl} {d : D} (ha : Er c ρ M a s1) (hb : Er c ρ M b s2) (o : OpX c M (binaryOp op) s1 s2 d) : Ev c ρ M (.BinOp a op b pos) d := fun X hX F As σ H sr hm G k => by
  obtain ⟨r, hr, h⟩ := o.run X hX
  refine ⟨_, pe_op hr pe_w pe_w, ha X hX F As σ H sr hm _ fun x F1 H1 s1 r1 hm1 => hb X hX F1 As σ H1 (sr.mono s1 (List.prefix_refl _)) hm1 _ fun y F2 H2 s2 r2 hm2 => ?_⟩
  exact h F2 As H2 x y (r1.mono s2 (List.prefix_refl _)) r2 hm2 G fun v F3 H3 s3 dv hm3 => k v F3 H3 ((s1.trans s2).trans s3) dv hm3
theorem evn_of {p : Addr} {F F' : Hp} {As : List Addr} {H' : Hp} {vs : List V} {ds : List D} {K : PySem.W.Frag} {G : VK} (hm : HM K F' As M H') (hp : H' p = none) (hv : DVs K F' ds vs) (s : Same F F')
    (k : ∀ v F' As' H' r M', Same F F' → As <+: As' → SlR K F' As' r v → HM K F' As' M' H' → (r = .own M.length ∧ M' = M ++ [.lst ds]) → G v H') : G (.ref p) (upd H' p (.lst vs)) :=
  k _ F' (As ++ [p]) _ (.own M.length) _ s (List.prefix_append _ _) ⟨p, by rw [← hm.len]; simp, rfl⟩ (hm.made (c := .lst ds) hp ⟨vs, rfl, hv⟩) ⟨rfl, rfl⟩
theorem evn_bin {op : Operator} {s1 s2 : Sl} {ds : List D} (ha : Er c ρ M a s1) (hb : Er c ρ M b s2) (o : OpN c M (binaryOp op) s1 s2 ds) : EvN c ρ M (.BinOp a op b pos) ds := fun X hX F As σ H sr hm G k => by
  obtain ⟨r, hr, h⟩ := o.run X hX
  refine ⟨_, pe_op hr pe_w pe_w, ha X hX F As σ H sr hm _ fun x F1 H1 s1 r1 hm1 => hb X hX F1 As σ H1 (sr.mono s1 (List.prefix_refl _)) hm1 _ fun y F2 H2 s2 r2 hm2 => ?_⟩
  exact h F2 As H2 x y (r1.mono s2 (List.prefix_refl _)) r2 hm2 G fun p vs hp hv => evn_of hm2 hp hv (s1.trans s2) k
theorem ev_cmp {op : CmpOp} {s1 s2 : Sl} {d : D} (ha : Er c ρ M a s1) (hb : Er c ρ M b s2) (o : OpX c M (compareOp op) s1 s2 d) (hk : behindInMarks op b = false := by first | exact nomark _ | rfl) : Ev c ρ M (.Compare a [op] [b] pos) d := fun X hX F As σ H sr hm G k => by
  obtain ⟨r, hr, h⟩ := o.run X hX
  refine ⟨_, pe_cmpR hr pe_w pe_w hk, ha X hX F As σ H sr hm _ fun x F1 H1 s1 r1 hm1 => hb X hX F1 As σ H1 (sr.mono s1 (List.prefix_refl _)) hm1 _ fun y F2 H2 s2 r2 hm2 => ?_⟩
  exact h F2 As H2 x y (r1.mono s2 (List.prefix_refl _)) r2 hm2 G fun v F3 H3 s3 dv hm3 => k v F3 H3 ((s1.trans s2).trans s3) dv hm3
theorem et_cmp {op : CmpOp} {s1 s2 : Sl} {t : Bool} (ha : Er c ρ M a s1) (hb : Er c ρ M b s2) (o : OpX c M (compareOp op) s1 s2 (.bl t)) (hk : behindInMarks op b = false := by first | exact nomark _ | rfl) : ET c ρ M (.Compare a [op] [b] pos) t := fun X hX F As σ H sr hm G k => by
  obtain ⟨r, hr, h⟩ := o.run X hX
  refine ⟨_, pt_cmpR hr pe_w pe_w hk, ha X hX F As σ H sr hm _ fun x F1 H1 s1 r1 hm1 => hb X hX F1 As σ H1 (sr.mono s1 (List.prefix_refl _)) hm1 _ fun y F2 H2 s2 r2 hm2 => ?_⟩
  exact h F2 As H2 x y (r1.mono s2 (List.prefix_refl _)) r2 hm2 _ fun v F3 H3 s3 dv hm3 => ⟨t, dv, k F3 H3 ((s1.trans s2).trans s3) hm3⟩
/-- a op b op' c -/
theorem et_chain {op op' : CmpOp} {e3 : Expr} {s1 s2 s3 : Sl} {t u : Bool} (ha : Er c ρ M a s1) (hb : Er c ρ M b s2) (hc : Er c ρ M e3 s3) (o : OpX c M (compareOp op) s1 s2 (.bl t)) (o' : OpX c M (compareOp op') s2 s3 (.bl u))
    (hl : lastMarks [op, op'] [b, e3] = false := by rfl) : ET c ρ M (.Compare a [op, op'] [b, e3] pos) (t && u) := fun X hX F As σ H sr hm G k => by
  obtain ⟨r, hr, h⟩ := o.run X hX
  obtain ⟨r', hr', h'⟩ := o'.run X hX
  refine ⟨_, pt_chain hr hr' pe_w pe_w pe_w (hm := hl), ha X hX F As σ H sr hm _ fun x F1 H1 s1 r1 hm1 => hb X hX F1 As σ H1 (sr.mono s1 (List.prefix_refl _)) hm1 _ fun y F2 H2 s2 r2 hm2 => ?_⟩
  refine h F2 As H2 x y (r1.mono s2 (List.prefix_refl _)) r2 hm2 _ fun v F3 H3 s3 dv hm3 => ⟨t, dv, ?_⟩
  cases t with
  | false => exact ⟨false, rfl, k F3 H3 ((s1.trans s2).trans s3) hm3⟩
  | true =>
    refine hc X hX F3 As σ H3 (sr.mono ((s1.trans s2).trans s3) (List.prefix_refl _)) hm3 _ fun w F4 H4 s4 r4 hm4 => ?_
    exact h' F4 As H4 y w (r2.mono (s3.trans s4) (List.prefix_refl _)) r4 hm4 _ fun v F5 H5 s5 dv hm5 => ⟨u, dv, k F5 H5 ((((s1.trans s2).trans s3).trans s4).trans s5) hm5⟩
theorem ev_chain {op op' : CmpOp} {e3 : Expr} {s1 s2 s3 : Sl} {t u : Bool} (ha : Er c ρ M a s1) (hb : Er c ρ M b s2) (hc : Er c ρ M e3 s3) (o : OpX c M (compareOp op) s1 s2 (.bl t)) (o' : OpX c M (compareOp op') s2 s3 (.bl u))
    (hl : lastMarks [op, op'] [b, e3] = false := by rfl) : Ev c ρ M (.Compare a [op, op'] [b, e3] pos) (.bl (t && u)) := fun X hX F As σ H sr hm G k => by
  obtain ⟨r, hr, h⟩ := o.run X hX
  obtain ⟨r', hr', h'⟩ := o'.run X hX
  refine ⟨_, pe_chain hr hr' pe_w pe_w pe_w (hm := hl), ha X hX F As σ H sr hm _ fun x F1 H1 s1 r1 hm1 => hb X hX F1 As σ H1 (sr.mono s1 (List.prefix_refl _)) hm1 _ fun y F2 H2 s2 r2 hm2 => ?_⟩
  refine h F2 As H2 x y (r1.mono s2 (List.prefix_refl _)) r2 hm2 _ fun v F3 H3 s3 dv hm3 => ⟨t, dv, ?_⟩
  cases t with
  | false => exact k _ F3 H3 ((s1.trans s2).trans s3) rfl hm3
  | true =>
    refine hc X hX F3 As σ H3 (sr.mono ((s1.trans s2).trans s3) (List.prefix_refl _)) hm3 _ fun w F4 H4 s4 r4 hm4 => ?_
    exact h' F4 As H4 y w (r2.mono (s3.trans s4) (List.prefix_refl _)) r4 hm4 _ fun v F5 H5 s5 dv hm5 => k v F5 H5 ((((s1.trans s2).trans s3).trans s4).trans s5) dv hm5

theorem ox_I0 {f : Value → Value → Sem Value} {g : Int → Int → V} {gd : Int → Int → D} {i j : Int} (h : ∀ X, OpR X f (rI0 g)) (hg : ∀ K F i j, DV K F (gd i j) (g i j)) : OpX c M f (.val (.int i)) (.val (.int j)) (gd i j) :=
  ⟨fun X hX => ⟨_, h X, fun F As H x y hx hy hm G k => ⟨i, j, hx, hy, k _ F H (Same.refl _) (hg _ _ _ _) hm⟩⟩⟩
theorem ox_I {f : Value → Value → Sem Value} {C : Int → Int → Prop} {g : Int → Int → V} {gd : Int → Int → D} {i j : Int} (h : ∀ X, OpR X f (rI C g)) (hg : ∀ K F i j, DV K F (gd i j) (g i j)) (hc : C i j) : OpX c M f (.val (.int i)) (.val (.int j)) (gd i j) :=
  ⟨fun X hX => ⟨_, h X, fun F As H x y hx hy hm G k => ⟨i, j, hx, hy, hc, k _ F H (Same.refl _) (hg _ _ _ _) hm⟩⟩⟩
variable {i j : Int}
theorem ox_add : OpX c M (binaryOp .Add) (.val (.int i)) (.val (.int j)) (.int (i + j)) := ox_I0 (gd := fun i j => .int (i + j)) (fun _ => op_add) fun _ _ _ _ => rfl
theorem ox_sub : OpX c M (binaryOp .Sub) (.val (.int i)) (.val (.int j)) (.int (i - j)) := ox_I0 (gd := fun i j => .int (i - j)) (fun _ => op_sub) fun _ _ _ _ => rfl
theorem ox_mul (h : CMul i j) : OpX c M (binaryOp .Mult) (.val (.int i)) (.val (.int j)) (.int (i * j)) := ox_I (gd := fun i j => .int (i * j)) (fun _ => op_mul) (fun _ _ _ _ => rfl) h
theorem ox_fdiv (h : CDiv i j) : OpX c M (binaryOp .FloorDiv) (.val (.int i)) (.val (.int j)) (.int (i / j)) := ox_I (gd := fun i j => .int (i / j)) (fun _ => op_fdiv) (fun _ _ _ _ => rfl) h
theorem ox_mod (h : 0 < j) : OpX c M (binaryOp .Mod) (.val (.int i)) (.val (.int j)) (.int (i % j)) := ox_I (C := fun _ j => 0 < j) (gd := fun i j => .int (i % j)) (fun _ => op_mod) (fun _ _ _ _ => rfl) h
theorem ox_pow (h : CPow i j) : OpX c M (binaryOp .Pow) (.val (.int i)) (.val (.int j)) (.int (i ^ j.toNat)) := ox_I (gd := fun i j => .int (i ^ j.toNat)) (fun _ => op_pow) (fun _ _ _ _ => rfl) h
theorem ox_lt : OpX c M (compareOp .Lt) (.val (.int i)) (.val (.int j)) (.bl (decide (i < j))) := ox_I0 (gd := fun i j => .bl (decide (i < j))) (fun _ => op_lt) fun _ _ _ _ => rfl
theorem ox_le : OpX c M (compareOp .LtE) (.val (.int i)) (.val (.int j)) (.bl (decide (i ≤ j))) := ox_I0 (gd := fun i j => .bl (decide (i ≤ j))) (fun _ => op_le) fun _ _ _ _ => rfl
theorem ox_gt : OpX c M (compareOp .Gt) (.val (.int i)) (.val (.int j)) (.bl (decide (j < i))) := ox_I0 (gd := fun i j => .bl (decide (j < i))) (fun _ => op_gt) fun _ _ _ _ => rfl
theorem ox_ge : OpX c M (compareOp .GtE) (.val (.int i)) (.val (.int j)) (.bl (decide (j ≤ i))) := ox_I0 (gd := fun i j => .bl (decide (j ≤ i))) (fun _ => op_ge) fun _ _ _ _ => rfl
theorem ox_eqI : OpX c M (compareOp .Eq) (.val (.int i)) (.val (.int j)) (.bl (decide (i = j))) :=
  ⟨fun X hX => ⟨_, op_eq, fun F As H x y hx hy hm G k => by
    have hx : x = .int i := hx
    have hy : y = .int j := hy
    subst hx; subst hy
    exact ⟨rfl, k _ F H (Same.refl _) (by show V.bl _ = V.bl _; congr 1; simp) hm⟩⟩⟩
theorem ox_neI : OpX c M (compareOp .NotEq) (.val (.int i)) (.val (.int j)) (.bl (!decide (i = j))) :=
  ⟨fun X hX => ⟨_, op_ne, fun F As H x y hx hy hm G k => by
    have hx : x = .int i := hx
    have hy : y = .int j := hy
    subst hx; subst hy
    exact ⟨rfl, k _ F H (Same.refl _) (by show V.bl _ = V.bl _; congr 1; simp) hm⟩⟩⟩
theorem ox_eqB {p q : Bool} : OpX c M (compareOp .Eq) (.val (.bl p)) (.val (.bl q)) (.bl (p == q)) :=
  ⟨fun X hX => ⟨_, op_eq, fun F As H x y hx hy hm G k => by
    have hx : x = .bl p := hx
    have hy : y = .bl q := hy
    subst hx; subst hy
    exact ⟨rfl, k _ F H (Same.refl _) (by show V.bl _ = V.bl _; congr 1; cases p <;> cases q <;> rfl) hm⟩⟩⟩
theorem ox_neB {p q : Bool} : OpX c M (compareOp .NotEq) (.val (.bl p)) (.val (.bl q)) (.bl (p != q)) :=
  ⟨fun X hX => ⟨_, op_ne, fun F As H x y hx hy hm G k => by
    have hx : x = .bl p := hx
    have hy : y = .bl q := hy
    subst hx; subst hy
    exact ⟨rfl, k _ F H (Same.refl _) (by show V.bl _ = V.bl _; congr 1; cases p <;> cases q <;> rfl) hm⟩⟩⟩
theorem ox_eqS {p q : Str} : OpX c M (compareOp .Eq) (.val (.str p)) (.val (.str q)) (.bl (decide (p = q))) :=
  ⟨fun X hX => ⟨_, op_eq, fun F As H x y hx hy hm G k => by
    have hx : x = .str p := hx
    have hy : y = .str q := hy
    subst hx; subst hy
    exact ⟨rfl, k _ F H (Same.refl _) (by show V.bl _ = V.bl _; congr 1; simp) hm⟩⟩⟩
/-- x is None, x is not None -/
def D.isNon : D → Bool
  | .non => true
  | _ => false
theorem dv_non {K : PySem.W.Frag} {F : Hp} {d : D} {v : V} (h : DV K F d v) : decide (v = .non) = d.isNon := by
  cases d with
  | non => have h : v = .non := h; subst h; rfl
  | bl b => have h : v = .bl b := h; subst h; rfl
  | int b => have h : v = .int b := h; subst h; rfl
  | str b => have h : v = .str b := h; subst h; rfl
  | lst ds => obtain ⟨a, vs, rfl, _⟩ := h; rfl
  | tup ds => obtain ⟨a, vs, rfl, _⟩ := h; rfl
  | dic ks ds => obtain ⟨a, vs, rfl, _⟩ := h; rfl
  | slo C ds => obtain ⟨a, dx, vs, rfl, _⟩ := h; rfl
  | obj C fs ds => obtain ⟨a, dx, vs, rfl, _⟩ := h; rfl
  | scr ns => obtain ⟨a, rfl, _⟩ := h; rfl
theorem ox_isN {d : D} : OpX c M (compareOp .Is) (.val d) (.val .non) (.bl d.isNon) :=
  ⟨fun X hX => ⟨_, op_isN, fun F As H x y hx hy hm G k => ⟨hy, k _ F H (Same.refl _) (by show V.bl _ = V.bl _; rw [dv_non hx]) hm⟩⟩⟩
theorem ox_notN {d : D} : OpX c M (compareOp .IsNot) (.val d) (.val .non) (.bl (!d.isNon)) :=
  ⟨fun X hX => ⟨_, op_notN, fun F As H x y hx hy hm G k => ⟨hy, k _ F H (Same.refl _) (by show V.bl _ = V.bl _; rw [dv_non hx]) hm⟩⟩⟩
/-- n in ns, ns ints -/
theorem inV_ints (n : Int) (ns : List Int) : inV (.int n) (ns.map V.int) = decide (n ∈ ns) := by
  unfold inV
  induction ns with
  | nil => rfl
  | cons m ms ih =>
    rw [List.map_cons, List.any_cons, ih]
    show ((m == n) || _) = _
    by_cases h : m = n
    · subst h; simp
    · have h' : ¬ n = m := fun z => h z.symm
      simp [h, h']
theorem flat_ints (ns : List Int) : (ns.map V.int).all flatV = true := by
  induction ns with
  | nil => rfl
  | cons m ms ih => rw [List.map_cons, List.all_cons, ih]; rfl
theorem ox_in {s : Sl} {t : Bool} {ns : List Int} (q : SqS M s t (ns.map D.int) := by first | exact SqS.lst | exact SqS.tup | exact SqS.own rfl) : OpX c M (compareOp .In) (.val (.int i)) s (.bl (decide (i ∈ ns))) :=
  ⟨fun X hX => by
    cases hX with
    | mk X k0 m0 nd calm room po =>
      exact ⟨_, op_in_seq, fun F As H x y hx hy hm G k => by
        obtain ⟨p, vs, rfl, h1, h2⟩ := q.sq hm hy
        have hx : x = .int i := hx
        subst hx
        have := dvs_ints.mp h1
        subst this
        exact ⟨p, _, rfl, h2, rfl, flat_ints ns, k _ F H (Same.refl _) (by show V.bl _ = V.bl _; rw [if_neg Bool.false_ne_true, inV_ints]) hm⟩⟩⟩
theorem ox_notIn {s : Sl} {t : Bool} {ns : List Int} (q : SqS M s t (ns.map D.int) := by first | exact SqS.lst | exact SqS.tup | exact SqS.own rfl) : OpX c M (compareOp .NotIn) (.val (.int i)) s (.bl (!decide (i ∈ ns))) :=
  ⟨fun X hX => by
    cases hX with
    | mk X k0 m0 nd calm room po =>
      exact ⟨_, op_notIn_seq, fun F As H x y hx hy hm G k => by
        obtain ⟨p, vs, rfl, h1, h2⟩ := q.sq hm hy
        have hx : x = .int i := hx
        subst hx
        have := dvs_ints.mp h1
        subst this
        exact ⟨p, _, rfl, h2, rfl, flat_ints ns, k _ F H (Same.refl _) (by show V.bl _ = V.bl _; rw [if_pos rfl, inV_ints]) hm⟩⟩⟩
/-- xs + ys, lists -/
theorem on_cat {s1 s2 : Sl} {xs ys : List D} (q1 : SqS M s1 true xs := by first | exact SqS.lst | exact SqS.tup | exact SqS.own rfl) (q2 : SqS M s2 true ys := by first | exact SqS.lst | exact SqS.tup | exact SqS.own rfl) (hz : xs.length + ys.length ≤ 100000 := by first | (simp; done) | (simp; omega) | omega) : OpN c M (binaryOp .Add) s1 s2 (xs ++ ys) :=
  ⟨fun X hX => ⟨_, op_cat, fun F As H x y hx hy hm G k => by
    obtain ⟨p, vs, rfl, h1, h2⟩ := q1.get hm hx
    obtain ⟨q, ws, rfl, h3, h4⟩ := q2.get hm hy
    refine ⟨p, q, vs, ws, rfl, rfl, h2, h4, ?_, fun r hr => k r _ hr (dvs_paired.mpr (paired_append (dvs_paired.mp h1) (dvs_paired.mp h3)))⟩
    rw [← h1.length, ← h3.length]
    exact Nat.le_trans hz (by decide)⟩⟩
/-- xs * k, a list -/
theorem dvs_flat {K : PySem.W.Frag} {F : Hp} {xs : List D} {vs : List V} (h : DVs K F xs vs) : ∀ n : Nat, DVs K F (List.replicate n xs).flatten (List.replicate n vs).flatten
  | 0 => rfl
  | n + 1 => by
    rw [List.replicate_succ, List.replicate_succ, List.flatten_cons, List.flatten_cons]
    exact dvs_paired.mpr (paired_append (dvs_paired.mp h) (dvs_paired.mp (dvs_flat h n)))
theorem on_rep {s1 : Sl} {xs : List D} (q1 : SqS M s1 true xs := by first | exact SqS.lst | exact SqS.tup | exact SqS.own rfl) (h0 : 0 ≤ j := by first | (simp; done) | omega) (h1 : j ≤ 1000 := by first | (simp; done) | (simp; omega) | omega) (hz : xs.length ≤ 1000 := by first | (simp; done) | (simp; omega) | omega) : OpN c M (binaryOp .Mult) s1 (.val (.int j)) (List.replicate j.toNat xs).flatten :=
  ⟨fun X hX => ⟨_, op_rep, fun F As H x y hx hy hm G k => by
    obtain ⟨p, vs, rfl, h1', h2⟩ := q1.get hm hx
    refine ⟨p, j, vs, rfl, hy, h2, by omega, by omega, ?_, fun r hr => k r _ hr (dvs_flat h1' _)⟩
    have : vs.length ≤ 1000 := by rw [← h1'.length]; exact hz
    have h3 : j.toNat ≤ 1000 := by omega
    exact Nat.le_trans (Nat.mul_le_mul this h3) (by decide)⟩⟩

/-! ### - a, not a; and, or; if -/
theorem ev_neg (ha : Ev c ρ M a (.int i)) : Ev c ρ M (.UnaryOp .USub a pos) (.int (-i)) := fun X hX F As σ H sr hm G k =>
  ⟨_, pe_un un_neg pe_w, ha X hX F As σ H sr hm _ fun x F1 H1 s1 r1 hm1 => ⟨i, r1, k _ F1 H1 s1 rfl hm1⟩⟩
theorem et_val {t : Bool} (ha : Ev c ρ M a (.bl t)) (he : ∀ (env : Env) whole, isTrue a env whole = (do let v ← whole; standAt a.pos; holding [v] (truthy v)) := by intro _ _; rfl) : ET c ρ M a t := fun X hX F As σ H sr hm G k =>
  ⟨_, pt_val pe_w (he X.env), ha X hX F As σ H sr hm _ fun x F1 H1 s1 r1 hm1 => ⟨t, r1, k F1 H1 s1 hm1⟩⟩
theorem et_not {t : Bool} (ha : ET c ρ M a t) : ET c ρ M (.UnaryOp .Not a pos) (!t) := fun X hX F As σ H sr hm G k =>
  ⟨_, pt_not pt_w, ha X hX F As σ H sr hm _ fun F1 H1 s1 hm1 => k F1 H1 s1 hm1⟩
theorem ew_and1 {t : Bool} (ha : ET c ρ M a t) : EW c ρ M (.BoolOp .And [a] pos) t := fun X hX F As σ H sr hm G k => ⟨_, pw_and1 pt_w, ha X hX F As σ H sr hm _ k⟩
theorem ew_or1 {t : Bool} (ha : ET c ρ M a t) : EW c ρ M (.BoolOp .Or [a] pos) t := fun X hX F As σ H sr hm G k => ⟨_, pw_or1 pt_w, ha X hX F As σ H sr hm _ k⟩
theorem ew_and {t u : Bool} {rest : List Expr} (ha : ET c ρ M a t) (hb : t = true → EW c ρ M (.BoolOp .And (b :: rest) pos) u) : EW c ρ M (.BoolOp .And (a :: b :: rest) pos) (t && u) := fun X hX F As σ H sr hm G k =>
  ⟨_, pw_and pt_w pw_w, ha X hX F As σ H sr hm _ fun F1 H1 s1 hm1 => by
    cases t with
    | true =>
      show WW X _ σ H1 G
      exact hb rfl X hX F1 As σ H1 (sr.mono s1 (List.prefix_refl _)) hm1 _ fun F2 H2 s2 hm2 => k F2 H2 (s1.trans s2) hm2
    | false => exact k F1 H1 s1 hm1⟩
theorem ew_or {t u : Bool} {rest : List Expr} (ha : ET c ρ M a t) (hb : t = false → EW c ρ M (.BoolOp .Or (b :: rest) pos) u) : EW c ρ M (.BoolOp .Or (a :: b :: rest) pos) (t || u) := fun X hX F As σ H sr hm G k =>
  ⟨_, pw_or pt_w pw_w, ha X hX F As σ H sr hm _ fun F1 H1 s1 hm1 => by
    cases t with
    | false =>
      show WW X _ σ H1 G
      exact hb rfl X hX F1 As σ H1 (sr.mono s1 (List.prefix_refl _)) hm1 _ fun F2 H2 s2 hm2 => k F2 H2 (s1.trans s2) hm2
    | true => exact k F1 H1 s1 hm1⟩
theorem EW.et {t : Bool} (h : EW c ρ M e t) : ET c ρ M e t := fun X hX F As σ H sr hm G k => ⟨_, PW.pt pw_w, h X hX F As σ H sr hm G k⟩
theorem ET.eq {t u : Bool} (h : ET c ρ M e t) (q : t = u) : ET c ρ M e u := q ▸ h
theorem ev_not {t : Bool} (ha : Ev c ρ M a (.bl t)) : Ev c ρ M (.UnaryOp .Not a pos) (.bl (!t)) := fun X hX F As σ H sr hm G k =>
  ⟨_, pe_not pe_w, ha X hX F As σ H sr hm _ fun x F1 H1 s1 r1 hm1 => ⟨t, r1, k _ F1 H1 s1 rfl hm1⟩⟩
theorem ev_one {op} {r : Sl} (ha : Er c ρ M a r) : Er c ρ M (.BoolOp op [a] pos) r := fun X hX F As σ H sr hm G k => ⟨_, pe_one pe_w, ha X hX F As σ H sr hm G k⟩
theorem ev_and {t u : Bool} {rest : List Expr} (ha : Ev c ρ M a (.bl t)) (hb : t = true → Ev c ρ M (.BoolOp .And (b :: rest) pos) (.bl u)) : Ev c ρ M (.BoolOp .And (a :: b :: rest) pos) (.bl (t && u)) := fun X hX F As σ H sr hm G k =>
  ⟨_, pe_and pe_w pe_w, ha X hX F As σ H sr hm _ fun x F1 H1 s1 r1 hm1 => ⟨t, r1, by
    cases t with
    | true =>
      show WE X _ σ H1 G
      exact hb rfl X hX F1 As σ H1 (sr.mono s1 (List.prefix_refl _)) hm1 _ fun v F2 H2 s2 r2 hm2 => k v F2 H2 (s1.trans s2) r2 hm2
    | false => exact k _ F1 H1 s1 rfl hm1⟩⟩
theorem ev_or {t u : Bool} {rest : List Expr} (ha : Ev c ρ M a (.bl t)) (hb : t = false → Ev c ρ M (.BoolOp .Or (b :: rest) pos) (.bl u)) : Ev c ρ M (.BoolOp .Or (a :: b :: rest) pos) (.bl (t || u)) := fun X hX F As σ H sr hm G k =>
  ⟨_, pe_or pe_w pe_w, ha X hX F As σ H sr hm _ fun x F1 H1 s1 r1 hm1 => ⟨t, r1, by
    cases t with
    | false =>
      show WE X _ σ H1 G
      exact hb rfl X hX F1 As σ H1 (sr.mono s1 (List.prefix_refl _)) hm1 _ fun v F2 H2 s2 r2 hm2 => k v F2 H2 (s1.trans s2) r2 hm2
    | true => exact k _ F1 H1 s1 rfl hm1⟩⟩
theorem er_if {t : Bool} {r : Sl} {e3 : Expr} (hc : ET c ρ M e3 t) (ha : t = true → Er c ρ M a r) (hb : t = false → Er c ρ M b r) : Er c ρ M (.IfExp e3 a b pos) r := fun X hX F As σ H sr hm G k =>
  ⟨_, pe_ifExp pt_w pe_w pe_w, hc X hX F As σ H sr hm _ fun F1 H1 s1 hm1 => by
    cases t with
    | true => exact ha rfl X hX F1 As σ H1 (sr.mono s1 (List.prefix_refl _)) hm1 _ fun v F2 H2 s2 r2 hm2 => k v F2 H2 (s1.trans s2) r2 hm2
    | false => exact hb rfl X hX F1 As σ H1 (sr.mono s1 (List.prefix_refl _)) hm1 _ fun v F2 H2 s2 r2 hm2 => k v F2 H2 (s1.trans s2) r2 hm2⟩
theorem ee_if {t : Bool} {Q : Sl → List C → Prop} {e3 : Expr} (hc : ET c ρ M e3 t) (ha : t = true → EE c ρ M a Q) (hb : t = false → EE c ρ M b Q) : EE c ρ M (.IfExp e3 a b pos) Q := fun X hX F As σ H sr hm G k =>
  ⟨_, pe_ifExp pt_w pe_w pe_w, hc X hX F As σ H sr hm _ fun F1 H1 s1 hm1 => by
    cases t with
    | true => exact ha rfl X hX F1 As σ H1 (sr.mono s1 (List.prefix_refl _)) hm1 _ fun v F2 As2 H2 r M2 s2 => k v F2 As2 H2 r M2 (s1.trans s2)
    | false => exact hb rfl X hX F1 As σ H1 (sr.mono s1 (List.prefix_refl _)) hm1 _ fun v F2 As2 H2 r M2 s2 => k v F2 As2 H2 r M2 (s1.trans s2)⟩

/-! ### arguments, displays -/
theorem ea_nil : ErA c ρ M [] [] := fun X hX F As σ H sr hm G k => ⟨_, pa_nil, k [] F H (Same.refl _) .nil hm⟩
theorem ea_cons {es : List Expr} {r : Sl} {rs : List Sl} (ha : Er c ρ M e r) (hr : ErA c ρ M es rs) (hs : ∀ env, starEach (e :: es) env = (false, eval e env) :: starEach es env := by intro _; rfl) : ErA c ρ M (e :: es) (r :: rs) := fun X hX F As σ H sr hm G k =>
  ⟨_, pa_cons pe_w pa_w (hs _), ha X hX F As σ H sr hm _ fun x F1 H1 s1 r1 hm1 => hr X hX F1 As σ H1 (sr.mono s1 (List.prefix_refl _)) hm1 _ fun xs F2 H2 s2 r2 hm2 =>
    k (x :: xs) F2 H2 (s1.trans s2) (.cons (r1.mono s2 (List.prefix_refl _)) r2) hm2⟩
theorem slrs_vals {K : PySem.W.Frag} {F : Hp} {As : List Addr} : ∀ {ds : List D} {vs : List V}, SlRs K F As (ds.map .val) vs → DVs K F ds vs
  | [], _, .nil => rfl
  | d :: ds, _, .cons r t => ⟨_, _, rfl, r, slrs_vals t⟩
theorem vals_slrs {K : PySem.W.Frag} {F : Hp} {As : List Addr} : ∀ {ds : List D} {vs : List V}, DVs K F ds vs → SlRs K F As (ds.map .val) vs
  | [], vs, h => by have h : vs = [] := h; subst h; exact .nil
  | d :: ds, _, ⟨v, r, h1, h2, h3⟩ => by subst h1; exact .cons h2 (vals_slrs h3)
theorem ev_tup {es : List Expr} {ds : List D} {x1} (h : ErA c ρ M es (ds.map .val)) (hz : ds.length ≤ 1000 := by first | decide | simp) : Ev c ρ M (.Tuple es x1 pos) (.tup ds) := fun X hX F As σ H sr hm G k =>
  ⟨_, pe_tup pa_w, h X hX F As σ H sr hm _ fun vs F1 H1 s1 r1 hm1 => by
    have hv := slrs_vals r1
    refine ⟨by rw [← hv.length]; exact Nat.le_trans hz (by decide), fun p hp => ?_⟩
    obtain ⟨_, fp⟩ := hm1.fresh hp
    exact k _ _ _ (s1.trans (same_new fp)) ⟨p, vs, rfl, .inl (.inl upd_same), hv.mono (same_new fp)⟩ (hm1.laid hp)⟩
theorem evn_lst {es : List Expr} {ds : List D} (h : ErA c ρ M es (ds.map .val)) (hz : ds.length ≤ 1000 := by first | decide | simp) : EvN c ρ M (.List es pos) ds := fun X hX F As σ H sr hm G k =>
  ⟨_, pe_lst pa_w, h X hX F As σ H sr hm _ fun vs F1 H1 s1 r1 hm1 => by
    have hv := slrs_vals r1
    exact ⟨by rw [← hv.length]; exact Nat.le_trans hz (by decide), fun p hp => evn_of hm1 hp hv s1 k⟩⟩
/-! with cells that change on the way -/
theorem ga_nil {Q : List Sl → List C → Prop} (q : Q [] M) : EA c ρ M [] Q := fun X hX F As σ H sr hm G k => ⟨_, pa_nil, k [] F As H [] M (Same.refl _) (List.prefix_refl _) .nil hm q⟩
theorem ga_cons {es : List Expr} {Q : List Sl → List C → Prop} (ha : EE c ρ M e fun r M1 => EA c ρ M1 es fun rs M2 => Q (r :: rs) M2) (hs : ∀ env, starEach (e :: es) env = (false, eval e env) :: starEach es env := by intro _; rfl) : EA c ρ M (e :: es) Q := fun X hX F As σ H sr hm G k =>
  ⟨_, pa_cons pe_w pa_w (hs _), ha X hX F As σ H sr hm _ fun x F1 As1 H1 r M1 s1 p1 r1 hm1 hq => hq X hX F1 As1 σ H1 (sr.mono s1 p1) hm1 _ fun xs F2 As2 H2 rs M2 s2 p2 r2 hm2 q =>
    k (x :: xs) F2 As2 H2 (r :: rs) M2 (s1.trans s2) (p1.trans p2) (.cons (r1.mono s2 p2) r2) hm2 q⟩
theorem ErA.ga {es : List Expr} {rs : List Sl} {Q : List Sl → List C → Prop} (h : ErA c ρ M es rs) (q : Q rs M) : EA c ρ M es Q := fun X hX F As σ H sr hm G k =>
  h X hX F As σ H sr hm G fun vs F' H' s r hm' => k vs F' As H' rs M s (List.prefix_refl _) r hm' q
theorem ee_lst {es : List Expr} {Q : Sl → List C → Prop} (h : EA c ρ M es fun rs M1 => ∃ ds : List D, rs = ds.map .val ∧ ds.length ≤ 1000 ∧ Q (.val (.lst ds)) M1) : EE c ρ M (.List es pos) Q := fun X hX F As σ H sr hm G k =>
  ⟨_, pe_lst pa_w, h X hX F As σ H sr hm _ fun vs F1 As1 H1 rs M1 s1 p1 r1 hm1 hq => by
    obtain ⟨ds, rfl, hz, q⟩ := hq
    have hv := slrs_vals r1
    refine ⟨by rw [← hv.length]; exact Nat.le_trans hz (by decide), fun p hp => ?_⟩
    obtain ⟨_, fp⟩ := hm1.fresh hp
    exact k _ _ As1 _ (.val (.lst ds)) M1 (s1.trans (same_new fp)) p1 ⟨p, vs, rfl, upd_same, hv.mono (same_new fp)⟩ (hm1.laid hp) q⟩
theorem ee_tup {es : List Expr} {Q : Sl → List C → Prop} {x1} (h : EA c ρ M es fun rs M1 => ∃ ds : List D, rs = ds.map .val ∧ ds.length ≤ 1000 ∧ Q (.val (.tup ds)) M1) : EE c ρ M (.Tuple es x1 pos) Q := fun X hX F As σ H sr hm G k =>
  ⟨_, pe_tup pa_w, h X hX F As σ H sr hm _ fun vs F1 As1 H1 rs M1 s1 p1 r1 hm1 hq => by
    obtain ⟨ds, rfl, hz, q⟩ := hq
    have hv := slrs_vals r1
    refine ⟨by rw [← hv.length]; exact Nat.le_trans hz (by decide), fun p hp => ?_⟩
    obtain ⟨_, fp⟩ := hm1.fresh hp
    exact k _ _ As1 _ (.val (.tup ds)) M1 (s1.trans (same_new fp)) p1 ⟨p, vs, rfl, .inl (.inl upd_same), hv.mono (same_new fp)⟩ (hm1.laid hp) q⟩
/-- an operator whose left side changes cells, then the right -/
theorem ee_bin {op : Operator} {Q : Sl → List C → Prop} (ha : EE c ρ M a fun r1 M1 => EE c ρ M1 b fun r2 M2 => ∃ d, OpX c M2 (binaryOp op) r1 r2 d ∧ Q (.val d) M2) : EE c ρ M (.BinOp a op b pos) Q := fun X hX F As σ H sr hm G k => by
  -- the reading of the operator depends on the values: by cases on both
  refine ⟨_, pe_op (r := fun x y H' G' => ∃ r, OpR X (binaryOp op) r ∧ r x y H' G') (fun pins s σ' H' x y v u Q' I rx ry ⟨r, hr, q⟩ => hr pins s σ' H' x y v u Q' I rx ry q) pe_w pe_w, ?_⟩
  refine ha X hX F As σ H sr hm _ fun x F1 As1 H1 r1 M1 s1 p1 q1 hm1 hq => hq X hX F1 As1 σ H1 (sr.mono s1 p1) hm1 _ fun y F2 As2 H2 r2 M2 s2 p2 q2 hm2 hq2 => ?_
  obtain ⟨d, o, q⟩ := hq2
  obtain ⟨r, hr, h⟩ := o.run X hX
  exact ⟨r, hr, h F2 As2 H2 x y (q1.mono s2 p2) q2 hm2 G fun v F3 H3 s3 dv hm3 => k v F3 As2 H3 (.val d) M2 ((s1.trans s2).trans s3) (p1.trans p2) dv hm3 q⟩
end
end Dl

/-! DL3: sorts; built-in calls, subscripts -/
namespace Dl
open PySem L2

/-! ### sorts of ints -/
def insI (x : Int) : List Int → List Int
  | [] => [x]
  | y :: ys => if x ≤ y then x :: y :: ys else y :: insI x ys
def isort : List Int → List Int
  | [] => []
  | x :: xs => insI x (isort xs)
def insU (x : Int) : List Int → List Int
  | [] => [x]
  | y :: ys => if x < y then x :: y :: ys else if x = y then y :: ys else y :: insU x ys
/-- sorted(set(xs)) -/
def sset : List Int → List Int
  | [] => []
  | x :: xs => insU x (sset xs)
theorem insI_perm (x : Int) : ∀ l : List Int, (insI x l).Perm (x :: l)
  | [] => .refl _
  | y :: ys => by
    unfold insI; split
    · exact .refl _
    · exact ((insI_perm x ys).cons y).trans (.swap x y ys)
theorem isort_perm : ∀ l : List Int, (isort l).Perm l
  | [] => .refl _
  | x :: xs => (insI_perm x _).trans ((isort_perm xs).cons x)
theorem insI_sorted (x : Int) : ∀ l : List Int, l.Pairwise (· ≤ ·) → (insI x l).Pairwise (· ≤ ·)
  | [], _ => by simp [insI]
  | y :: ys, h => by
    unfold insI
    have h' := List.pairwise_cons.mp h
    split
    · rename_i hxy
      exact List.pairwise_cons.mpr ⟨fun z hz => by
        rcases List.mem_cons.mp hz with rfl | hz
        · exact hxy
        · exact Int.le_trans hxy (h'.1 z hz), h⟩
    · rename_i hxy
      refine List.pairwise_cons.mpr ⟨fun z hz => ?_, insI_sorted x ys h'.2⟩
      have := (insI_perm x ys).mem_iff.mp hz
      rcases List.mem_cons.mp this with rfl | hz
      · omega
      · exact h'.1 z hz
theorem isort_sorted : ∀ l : List Int, (isort l).Pairwise (· ≤ ·)
  | [] => .nil
  | x :: xs => insI_sorted x _ (isort_sorted xs)
theorem sorted_unique : ∀ {l r : List Int}, l.Pairwise (· ≤ ·) → r.Pairwise (· ≤ ·) → l.Perm r → l = r
  | [], r, _, _, p => (List.nil_perm.mp p).symm
  | x :: l, [], _, _, p => (List.perm_nil.mp p)
  | x :: l, y :: r, hl, hr, p => by
    have hl' := List.pairwise_cons.mp hl
    have hr' := List.pairwise_cons.mp hr
    have hxy : x = y := by
      have h1 : x ∈ y :: r := p.mem_iff.mp List.mem_cons_self
      have h2 : y ∈ x :: l := p.mem_iff.mpr List.mem_cons_self
      rcases List.mem_cons.mp h1 with h1 | h1
      · exact h1
      · rcases List.mem_cons.mp h2 with h2 | h2
        · exact h2.symm
        · have := hr'.1 x h1
          have := hl'.1 y h2
          omega
    subst hxy
    rw [sorted_unique hl'.2 hr'.2 (List.Perm.cons_inv p)]
theorem isort_unique {l r : List Int} (h : r.Pairwise (· ≤ ·)) (p : r.Perm l) : r = isort l := sorted_unique h (isort_sorted l) (p.trans (isort_perm l).symm)
theorem mem_insU {x z : Int} : ∀ {l : List Int}, z ∈ insU x l ↔ z = x ∨ z ∈ l
  | [] => by simp [insU]
  | y :: ys => by
    unfold insU
    split
    · simp
    · split
      · rename_i h; subst h; simp
      · rw [List.mem_cons, mem_insU, List.mem_cons]
        constructor
        · rintro (h | h | h) <;> simp [h]
        · rintro (h | h | h) <;> simp [h]
theorem insU_sorted (x : Int) : ∀ l : List Int, l.Pairwise (· < ·) → (insU x l).Pairwise (· < ·)
  | [], _ => by simp [insU]
  | y :: ys, h => by
    unfold insU
    have h' := List.pairwise_cons.mp h
    split
    · rename_i hxy
      exact List.pairwise_cons.mpr ⟨fun z hz => by
        rcases List.mem_cons.mp hz with rfl | hz
        · exact hxy
        · exact Int.lt_trans hxy (h'.1 z hz), h⟩
    · split
      · exact h
      · refine List.pairwise_cons.mpr ⟨fun z hz => ?_, insU_sorted x ys h'.2⟩
        rcases mem_insU.mp hz with rfl | hz
        · omega
        · exact h'.1 z hz
theorem sset_sorted : ∀ l : List Int, (sset l).Pairwise (· < ·)
  | [] => .nil
  | x :: xs => insU_sorted x _ (sset_sorted xs)
theorem mem_sset {z : Int} : ∀ {l : List Int}, z ∈ sset l ↔ z ∈ l
  | [] => Iff.rfl
  | x :: xs => by unfold sset; rw [mem_insU, mem_sset, List.mem_cons]
theorem asc_unique : ∀ {l r : List Int}, l.Pairwise (· < ·) → r.Pairwise (· < ·) → (∀ z, z ∈ l ↔ z ∈ r) → l = r
  | [], [], _, _, _ => rfl
  | [], y :: r, _, _, h => absurd ((h y).mpr List.mem_cons_self) (by simp)
  | x :: l, [], _, _, h => absurd ((h x).mp List.mem_cons_self) (by simp)
  | x :: l, y :: r, hl, hr, h => by
    have hl' := List.pairwise_cons.mp hl
    have hr' := List.pairwise_cons.mp hr
    have hxy : x = y := by
      rcases List.mem_cons.mp ((h x).mp List.mem_cons_self) with h1 | h1
      · exact h1
      · rcases List.mem_cons.mp ((h y).mpr List.mem_cons_self) with h2 | h2
        · exact h2.symm
        · have := hr'.1 x h1
          have := hl'.1 y h2
          omega
    subst hxy
    rw [asc_unique hl'.2 hr'.2 fun z => ⟨fun hz => by
      rcases List.mem_cons.mp ((h z).mp (List.mem_cons_of_mem _ hz)) with e | e
      · have := hl'.1 z hz; omega
      · exact e, fun hz => by
      rcases List.mem_cons.mp ((h z).mpr (List.mem_cons_of_mem _ hz)) with e | e
      · have := hr'.1 z hz; omega
      · exact e⟩]
theorem sset_unique {l r : List Int} (h : r.Pairwise (· < ·)) (m : ∀ z, z ∈ r ↔ z ∈ l) : r = sset l := asc_unique h (sset_sorted l) fun z => (m z).trans mem_sset.symm
theorem sset_id {l : List Int} (h : l.Pairwise (· < ·)) : sset l = l := (sset_unique h fun _ => Iff.rfl).symm
theorem insU_len (x : Int) : ∀ l : List Int, (insU x l).length ≤ l.length + 1
  | [] => by simp [insU]
  | y :: ys => by
    unfold insU
    split
    · simp
    · split
      · simp
      · have := insU_len x ys; simp; omega
theorem sset_len : ∀ l : List Int, (sset l).length ≤ l.length
  | [] => Nat.le_refl _
  | x :: xs => by have := insU_len x (sset xs); have := sset_len xs; simp [sset]; omega

/-! ### set(xs), a list or a tuple of ints -/
section
variable {X : Cx}
def rSetI (K : PySem.W.Frag) (w : World) : List V → Hp → VK → Prop := fun xs H Q => ∃ (l : Addr) (ns : List Int), xs = [V.ref l] ∧ (SqL K H l (ns.map V.int) ∨ SqT K H l (ns.map V.int)) ∧ ns.length ≤ 1000 ∧
  ∀ (p : Addr) (S : Int → Bool) (n : Nat), H p = none → (∀ k, S k = decide (k ∈ ns)) → n ≤ ns.length → Q (.ref p) (upd H p (SetO w p S n))
theorem cr_setI (hc : X.calm = true) : CallR X (.type "set") (rSetI X.K X.w) := by
  intro pins s σ H xs us Q I r h
  obtain ⟨l, ns, rfl, hq, hz, q⟩ := h
  have hd := I.ok.hd hc
  have er : us = [Value.ref l] := by
    cases r with
    | cons r rr => cases rr; cases r; rfl
  subst er
  have tail : ∀ (h' : Heap) (tk n : Nat), SetR X.w h' s.heap.objs.size (fun j => decide (j ∈ ns)) n → n ≤ ns.length → (∀ b o, s.heap.get? b = some o → h'.get? b = some o) → EP X pins σ Q (.ref s.heap.objs.size) { s with heap := h', toks := tk } := fun h' tk n R hn k => by
    refine ⟨.ref _, upd H s.heap.objs.size (SetO X.w s.heap.objs.size (fun j => decide (j ∈ ns)) n), I.laid (t' := tk) k (Nat.le_refl _) (setO_new R), rfl, ?_⟩
    exact q _ _ _ (I.hok.fresh (Nat.le_refl _)) (fun _ => rfl) hn
  rcases hq with hq | hq
  · obtain ⟨its, rv, pl, _⟩ := I.list hq
    exact call_set_lstI ns hd pl.isList (ints_of_vals rv) (by unfold scanBound; omega) tail
  · obtain ⟨its, rv, pt, _⟩ := I.tuple hq
    exact call_set_tupI ns hd (show s.heap.IsTuple l its.toArray from pt) (ints_of_vals rv) (by unfold scanBound; omega) tail
end

section
variable {c : Ctx} {ρ : List Sl} {M : List C} {a b e : Expr} {pos p1 p2 p3 : Pos} {i j : Int}
/-! ### calls of built-ins by values -/
structure CallX (c : Ctx) (M : List C) (f : Value) (rs : List Sl) (d : D) : Prop where
  run : ∀ X, c.Is X → ∃ r, CallR X f r ∧ ∀ F As H vs, SlRs c.K F As rs vs → HM c.K F As M H → ∀ G : VK, (∀ v F' H', Same F F' → DV c.K F' d v → HM c.K F' As M H' → G v H') → r vs H G
structure CallN (c : Ctx) (M : List C) (f : Value) (rs : List Sl) (ds : List D) : Prop where
  run : ∀ X, c.Is X → ∃ r, CallR X f r ∧ ∀ F As H vs, SlRs c.K F As rs vs → HM c.K F As M H → ∀ G : VK, (∀ p ws, H p = none → DVs c.K F ds ws → G (.ref p) (upd H p (.lst ws))) → r vs H G
abbrev Glo (c : Ctx) (x : Str) : Prop := c.sc.names.lookup x = some .globalImplicit
theorem ev_callB {x : Str} {id : String} {es : List Expr} {rs : List Sl} {d : D} (ha : ErA c ρ M (e :: es) rs) (o : CallX c M (.builtin id) rs d) (hm0 : c.mg x = none) (hv : bootBuiltins x = some (.builtin id) := by decide +kernel) (hg : Glo c x := by rfl) (hn : x ≠ "__name__" := by decide)
    (hdb : (x == ("__debug__" : Str)) = false := by decide) (he : ∀ env, starEach (e :: es) env = (false, eval e env) :: starEach es env := by intro _; rfl) (hpl : ∀ env, (backTo pos (starEach es env)).any (·.1) = false := by intro _; rfl) :
    Ev c ρ M (.Call (.Name x p1) (e :: es) [] pos) d := fun X hX F As σ H sr hm G k => by
  obtain ⟨r, hr, h⟩ := o.run X hX
  cases hX with
  | mk X k0 m0 nd calm room po =>
    exact ⟨_, pe_callB hr hg hm0 hv pa_w hn hdb (he _) (hpl _), ha X (.mk X k0 m0 nd calm room po) F As σ H sr hm _ fun vs F1 H1 s1 r1 hm1 => h F1 As H1 vs r1 hm1 G fun v F2 H2 s2 dv hm2 => k v F2 H2 (s1.trans s2) dv hm2⟩
theorem ev_callT {x : Str} {id : String} {es : List Expr} {rs : List Sl} {d : D} (ha : ErA c ρ M (e :: es) rs) (o : CallX c M (.type id) rs d) (hm0 : c.mg x = none) (hv : bootBuiltins x = some (.type id) := by decide +kernel) (hg : Glo c x := by rfl) (hn : x ≠ "__name__" := by decide)
    (hdb : (x == ("__debug__" : Str)) = false := by decide) (he : ∀ env, starEach (e :: es) env = (false, eval e env) :: starEach es env := by intro _; rfl) (hpl : ∀ env, (backTo pos (starEach es env)).any (·.1) = false := by intro _; rfl) :
    Ev c ρ M (.Call (.Name x p1) (e :: es) [] pos) d := fun X hX F As σ H sr hm G k => by
  obtain ⟨r, hr, h⟩ := o.run X hX
  cases hX with
  | mk X k0 m0 nd calm room po =>
    exact ⟨_, pe_callTy hr hg hm0 hv pa_w hn hdb (he _) (hpl _), ha X (.mk X k0 m0 nd calm room po) F As σ H sr hm _ fun vs F1 H1 s1 r1 hm1 => h F1 As H1 vs r1 hm1 G fun v F2 H2 s2 dv hm2 => k v F2 H2 (s1.trans s2) dv hm2⟩
theorem evn_callB {x : Str} {id : String} {es : List Expr} {rs : List Sl} {ds : List D} (ha : ErA c ρ M (e :: es) rs) (o : CallN c M (.builtin id) rs ds) (hm0 : c.mg x = none) (hv : bootBuiltins x = some (.builtin id) := by decide +kernel) (hg : Glo c x := by rfl) (hn : x ≠ "__name__" := by decide)
    (hdb : (x == ("__debug__" : Str)) = false := by decide) (he : ∀ env, starEach (e :: es) env = (false, eval e env) :: starEach es env := by intro _; rfl) (hpl : ∀ env, (backTo pos (starEach es env)).any (·.1) = false := by intro _; rfl) :
    EvN c ρ M (.Call (.Name x p1) (e :: es) [] pos) ds := fun X hX F As σ H sr hm G k => by
  obtain ⟨r, hr, h⟩ := o.run X hX
  cases hX with
  | mk X k0 m0 nd calm room po =>
    exact ⟨_, pe_callB hr hg hm0 hv pa_w hn hdb (he _) (hpl _), ha X (.mk X k0 m0 nd calm room po) F As σ H sr hm _ fun vs F1 H1 s1 r1 hm1 => h F1 As H1 vs r1 hm1 G fun p ws hp hv => evn_of hm1 hp hv s1 k⟩
theorem evn_callT {x : Str} {id : String} {es : List Expr} {rs : List Sl} {ds : List D} (ha : ErA c ρ M (e :: es) rs) (o : CallN c M (.type id) rs ds) (hm0 : c.mg x = none) (hv : bootBuiltins x = some (.type id) := by decide +kernel) (hg : Glo c x := by rfl) (hn : x ≠ "__name__" := by decide)
    (hdb : (x == ("__debug__" : Str)) = false := by decide) (he : ∀ env, starEach (e :: es) env = (false, eval e env) :: starEach es env := by intro _; rfl) (hpl : ∀ env, (backTo pos (starEach es env)).any (·.1) = false := by intro _; rfl) :
    EvN c ρ M (.Call (.Name x p1) (e :: es) [] pos) ds := fun X hX F As σ H sr hm G k => by
  obtain ⟨r, hr, h⟩ := o.run X hX
  cases hX with
  | mk X k0 m0 nd calm room po =>
    exact ⟨_, pe_callTy hr hg hm0 hv pa_w hn hdb (he _) (hpl _), ha X (.mk X k0 m0 nd calm room po) F As σ H sr hm _ fun vs F1 H1 s1 r1 hm1 => h F1 As H1 vs r1 hm1 G fun p ws hp hv => evn_of hm1 hp hv s1 k⟩
theorem slrs1 {K : PySem.W.Frag} {F : Hp} {As : List Addr} {r : Sl} {vs : List V} (h : SlRs K F As [r] vs) : ∃ v, vs = [v] ∧ SlR K F As r v := by
  cases h with
  | cons h1 h2 => cases h2; exact ⟨_, rfl, h1⟩
theorem slrs2 {K : PySem.W.Frag} {F : Hp} {As : List Addr} {r r' : Sl} {vs : List V} (h : SlRs K F As [r, r'] vs) : ∃ v w, vs = [v, w] ∧ SlR K F As r v ∧ SlR K F As r' w := by
  cases h with
  | cons h1 h2 =>
    obtain ⟨w, rfl, h3⟩ := slrs1 h2
    exact ⟨_, w, rfl, h1, h3⟩
section
variable {s : Sl} {t : Bool} {ds : List D} {ns : List Int}
theorem cx_len (q : SqS M s t ds := by first | exact SqS.lst | exact SqS.tup | exact SqS.own rfl) : CallX c M (.builtin "len") [s] (.int ds.length) := ⟨fun X hX => by
  cases hX with
  | mk X k0 m0 nd calm room po =>
    exact ⟨_, call_len_seq, fun F As H vs r hm G k => by
      obtain ⟨v, rfl, r1⟩ := slrs1 r
      obtain ⟨p, ws, rfl, h1, h2⟩ := q.sq hm r1
      exact ⟨p, ws, rfl, h2, k _ F H (Same.refl _) (by show V.int _ = V.int _; rw [h1.length]) hm⟩⟩⟩
theorem ev_len (ha : Er c ρ M a s) (hm0 : c.mg "len" = none) (q : SqS M s t ds := by first | exact SqS.lst | exact SqS.tup | exact SqS.own rfl) (hg : Glo c "len" := by rfl) (he : ∀ env, starEach [a] env = (false, eval a env) :: starEach [] env := by intro _; rfl) : Ev c ρ M (.Call (.Name "len" p1) [a] [] pos) (.int ds.length) :=
  ev_callB (ea_cons ha ea_nil he) (cx_len q) hm0 PySem.boot_len hg (by decide) (by decide) he
theorem cx_abs : CallX c M (.builtin "abs") [.val (.int i)] (.int (if i < 0 then -i else i)) := ⟨fun X hX => ⟨_, call_abs, fun F As H vs r hm G k => by
  obtain ⟨v, rfl, r1⟩ := slrs1 r
  have r1 : v = .int i := r1
  subst r1
  exact ⟨i, rfl, k _ F H (Same.refl _) rfl hm⟩⟩⟩
theorem cx_int : CallX c M (.type "int") [.val (.int i)] (.int i) := ⟨fun X hX => ⟨_, call_int1, fun F As H vs r hm G k => by
  obtain ⟨v, rfl, r1⟩ := slrs1 r
  have r1 : v = .int i := r1
  subst r1
  exact .inl ⟨i, rfl, k _ F H (Same.refl _) rfl hm⟩⟩⟩
theorem cx_intB {t : Bool} : CallX c M (.type "int") [.val (.bl t)] (.int (if t then 1 else 0)) := ⟨fun X hX => ⟨_, call_int1, fun F As H vs r hm G k => by
  obtain ⟨v, rfl, r1⟩ := slrs1 r
  have r1 : v = .bl t := r1
  subst r1
  exact .inr ⟨t, rfl, k _ F H (Same.refl _) rfl hm⟩⟩⟩
theorem cx_max2 : CallX c M (.builtin "max") [.val (.int i), .val (.int j)] (.int (max i j)) := ⟨fun X hX => by
  cases hX with
  | mk X k0 m0 nd calm room po =>
    exact ⟨_, call_max2 calm, fun F As H vs r hm G k => by
      obtain ⟨v, w, rfl, r1, r2⟩ := slrs2 r
      have r1 : v = .int i := r1
      have r2 : w = .int j := r2
      subst r1; subst r2
      exact ⟨i, j, rfl, k _ F H (Same.refl _) (by show V.int _ = V.int _; congr 1; split <;> omega) hm⟩⟩⟩
theorem cx_min2 : CallX c M (.builtin "min") [.val (.int i), .val (.int j)] (.int (min i j)) := ⟨fun X hX => by
  cases hX with
  | mk X k0 m0 nd calm room po =>
    exact ⟨_, call_min2 calm, fun F As H vs r hm G k => by
      obtain ⟨v, w, rfl, r1, r2⟩ := slrs2 r
      have r1 : v = .int i := r1
      have r2 : w = .int j := r2
      subst r1; subst r2
      exact ⟨i, j, rfl, k _ F H (Same.refl _) (by show V.int _ = V.int _; congr 1; split <;> omega) hm⟩⟩⟩
/-- the greatest of ints -/
def maxL : List Int → Int
  | [] => 0
  | [x] => x
  | x :: y :: r => max x (maxL (y :: r))
theorem maxL_spec : ∀ {l : List Int}, l ≠ [] → maxL l ∈ l ∧ ∀ y ∈ l, y ≤ maxL l
  | [], h => absurd rfl h
  | [x], _ => by simp [maxL]
  | x :: y :: r, _ => by
    have ih := maxL_spec (l := y :: r) (by simp)
    unfold maxL
    refine ⟨?_, fun z hz => ?_⟩
    · by_cases h : x ≤ maxL (y :: r)
      · rw [Int.max_eq_right h]; exact List.mem_cons_of_mem _ ih.1
      · rw [Int.max_eq_left (by omega)]; exact List.mem_cons_self
    · rcases List.mem_cons.mp hz with rfl | hz
      · omega
      · have := ih.2 z hz; omega
theorem maxL_unique {l : List Int} {m : Int} (h : m ∈ l) (g : ∀ y ∈ l, y ≤ m) : m = maxL l := by
  have ne : l ≠ [] := fun z => by subst z; cases h
  have := maxL_spec ne
  have := g _ this.1
  have := (maxL_spec ne).2 m h
  omega
theorem cx_maxL (q : SqS M s true (ns.map D.int) := by first | exact SqS.lst | exact SqS.tup | exact SqS.own rfl) (h : 0 < ns.length := by simp) : CallX c M (.builtin "max") [s] (.int (maxL ns)) := ⟨fun X hX => by
  cases hX with
  | mk X k0 m0 nd calm room po =>
    exact ⟨_, cr_max calm, fun F As H vs r hm G k => by
      obtain ⟨v, rfl, r1⟩ := slrs1 r
      obtain ⟨p, ws, rfl, h1, h2⟩ := q.get hm r1
      have := dvs_ints.mp h1
      subst this
      exact ⟨p, ns, rfl, .inl (.inl h2), h, fun m hm1 hm2 => k _ F H (Same.refl _) (by show V.int _ = V.int _; rw [maxL_unique hm1 hm2]) hm⟩⟩⟩
theorem cx_all {bs : List Bool} (q : SqS M s true (bs.map D.bl) := by first | exact SqS.lst | exact SqS.tup | exact SqS.own rfl) : CallX c M (.builtin "all") [s] (.bl (bs.all id)) := ⟨fun X hX => by
  cases hX with
  | mk X k0 m0 nd calm room po =>
    exact ⟨_, cr_all calm, fun F As H vs r hm G k => by
      obtain ⟨v, rfl, r1⟩ := slrs1 r
      obtain ⟨p, ws, rfl, h1, h2⟩ := q.get hm r1
      have := dvs_bls.mp h1
      subst this
      exact ⟨p, bs, rfl, .inl (.inl h2), k _ F H (Same.refl _) rfl hm⟩⟩⟩
theorem cx_any {bs : List Bool} (q : SqS M s true (bs.map D.bl) := by first | exact SqS.lst | exact SqS.tup | exact SqS.own rfl) : CallX c M (.builtin "any") [s] (.bl (bs.any id)) := ⟨fun X hX => by
  cases hX with
  | mk X k0 m0 nd calm room po =>
    exact ⟨_, cr_any calm, fun F As H vs r hm G k => by
      obtain ⟨v, rfl, r1⟩ := slrs1 r
      obtain ⟨p, ws, rfl, h1, h2⟩ := q.get hm r1
      have := dvs_bls.mp h1
      subst this
      exact ⟨p, bs, rfl, .inl (.inl h2), k _ F H (Same.refl _) rfl hm⟩⟩⟩
theorem cx_sum (q : SqS M s true (ns.map D.int) := by first | exact SqS.lst | exact SqS.tup | exact SqS.own rfl) : CallX c M (.builtin "sum") [s] (.int ns.sum) := ⟨fun X hX => by
  cases hX with
  | mk X k0 m0 nd calm room po =>
    exact ⟨_, cr_sum calm, fun F As H vs r hm G k => by
      obtain ⟨v, rfl, r1⟩ := slrs1 r
      obtain ⟨p, ws, rfl, h1, h2⟩ := q.get hm r1
      have := dvs_ints.mp h1
      subst this
      exact ⟨p, ns, rfl, .inl (.inl h2), k _ F H (Same.refl _) rfl hm⟩⟩⟩
theorem cn_sorted (q : SqS M s true (ns.map D.int) := by first | exact SqS.lst | exact SqS.tup | exact SqS.own rfl) : CallN c M (.builtin "sorted") [s] ((isort ns).map D.int) := ⟨fun X hX => by
  cases hX with
  | mk X k0 m0 nd calm room po =>
    exact ⟨_, cr_sortedI, fun F As H vs r hm G k => by
      obtain ⟨v, rfl, r1⟩ := slrs1 r
      obtain ⟨p, ws, rfl, h1, h2⟩ := q.get hm r1
      have := dvs_ints.mp h1
      subst this
      exact ⟨p, ns, rfl, .inl (.inl h2), fun ns' l hp hs hl => k l _ hl (dvs_ints.mpr (by rw [isort_unique hs hp]))⟩⟩⟩
theorem cn_list (q : SqS M s t ds := by first | exact SqS.lst | exact SqS.tup | exact SqS.own rfl) : CallN c M (.type "list") [s] ds := ⟨fun X hX => by
  cases hX with
  | mk X k0 m0 nd calm room po =>
    exact ⟨_, call_list_of, fun F As H vs r hm G k => by
      obtain ⟨v, rfl, r1⟩ := slrs1 r
      obtain ⟨p, ws, rfl, h1, h2⟩ := q.sq hm r1
      exact ⟨p, ws, rfl, h2, fun l hl => k l ws hl h1⟩⟩⟩
theorem cx_tuple (q : SqS M s t ds := by first | exact SqS.lst | exact SqS.tup | exact SqS.own rfl) : CallX c M (.type "tuple") [s] (.tup ds) := ⟨fun X hX => by
  cases hX with
  | mk X k0 m0 nd calm room po =>
    exact ⟨_, call_tuple_of, fun F As H vs r hm G k => by
      obtain ⟨v, rfl, r1⟩ := slrs1 r
      cases q with
      | tup => 
        obtain ⟨p, ws, rfl, h1, h2⟩ := r1
        exact ⟨p, ws, rfl, .inr ⟨same_t hm.same h1, k _ F H (Same.refl _) ⟨p, ws, rfl, h1, h2⟩ hm⟩⟩
      | lst =>
        obtain ⟨p, ws, rfl, h1, h2⟩ := r1
        refine ⟨p, ws, rfl, .inl ⟨.inl (.inl (hm.same _ _ h1)), fun l hl => ?_⟩⟩
        obtain ⟨_, fl⟩ := hm.fresh hl
        exact k _ _ _ (same_new fl) ⟨l, ws, rfl, .inl (.inl upd_same), h2.mono (same_new fl)⟩ (hm.laid hl)
      | own h =>
        obtain ⟨p, ws, rfl, h1, h2⟩ := (SqS.own h).get hm r1
        refine ⟨p, ws, rfl, .inl ⟨.inl (.inl h2), fun l hl => ?_⟩⟩
        obtain ⟨_, fl⟩ := hm.fresh hl
        exact k _ _ _ (same_new fl) ⟨l, ws, rfl, .inl (.inl upd_same), h1.mono (same_new fl)⟩ (hm.laid hl)⟩⟩
/-- sorted(set(xs)) -/
theorem evn_sset (ha : Er c ρ M a s) (q : SqS M s t (ns.map D.int)) (hz : ns.length < 64) (hm1 : c.mg "sorted" = none) (hm2 : c.mg "set" = none) (hg1 : Glo c "sorted" := by rfl) (hg2 : Glo c "set" := by rfl)
    (he : ∀ env, starEach [a] env = (false, eval a env) :: starEach [] env := by intro _; rfl) : EvN c ρ M (.Call (.Name "sorted" p1) [.Call (.Name "set" p2) [a] [] p3] [] pos) ((sset ns).map D.int) := fun X hX F As σ H sr hm G k => by
  cases hX with
  | mk X k0 m0 nd calm room po =>
    refine ⟨_, pe_callB (cr_sortedSet calm) hg1 hm1 (by decide +kernel) (pa_cons (pe_callTy (cr_setI calm) hg2 hm2 PyProof.Rows.boot_set (pa_cons pe_w pa_nil (he _)) (by decide) (by decide) (he _)) pa_nil), ?_⟩
    refine ha X (.mk X k0 m0 nd calm room po) F As σ H sr hm _ fun v F1 H1 s1 r1 hm1 => ?_
    obtain ⟨l, ws, rfl, h1, h2⟩ := q.sq hm1 r1
    have := dvs_ints.mp h1
    subst this
    refine ⟨l, ns, rfl, h2, by omega, fun p S n hp hS hn => ⟨p, S, n, rfl, upd_same, by omega, fun ms r hs hmem _ hr => ?_⟩⟩
    obtain ⟨_, fp⟩ := hm1.fresh hp
    have hm2 := hm1.laid (o := SetO X.w p S n) hp
    refine evn_of hm2 hr (dvs_ints.mpr ?_) (s1.trans (same_new fp)) k
    rw [sset_unique hs fun z => ?_]
    rw [hmem z, hS z, decide_eq_true_iff]

/-! ### subscripts -/
theorem ev_ix {d : D} (ha : Er c ρ M a s) (hb : Ev c ρ M b (.int i)) (q : SqS M s t ds := by first | exact SqS.lst | exact SqS.tup | exact SqS.own rfl) (hd : atI ds i = some d := by rfl) (hs : PlainIx b := by exact fun _ _ => rfl) : Ev c ρ M (.Subscript a b pos) d := fun X hX F As σ H sr hm G k => by
  have key : ∀ {α : Type} {xs : List D} {ys : List V} {K : PySem.W.Frag} {F : Hp}, DVs K F xs ys → atI xs i = some d → ∃ v, atI ys i = some v ∧ DV K F d v := fun {α xs ys K F} h e => by
    unfold atI at e ⊢
    rw [← h.length]
    cases z : ixN xs.length i with
    | none => rw [z] at e; cases e
    | some n =>
      rw [z] at e
      obtain ⟨v, h1, h2⟩ := h.get (i := n) e
      exact ⟨v, h1, h2⟩
  cases hX with
  | mk X k0 m0 nd calm room po =>
    cases t with
    | true =>
      refine ⟨_, pe_ix ix_list pe_w pe_w hs, ha X (.mk X k0 m0 nd calm room po) F As σ H sr hm _ fun x F1 H1 s1 r1 hm1 => hb X (.mk X k0 m0 nd calm room po) F1 As σ H1 (sr.mono s1 (List.prefix_refl _)) hm1 _ fun y F2 H2 s2 r2 hm2 => ?_⟩
      obtain ⟨p, vs, rfl, h1, h2⟩ := q.get hm2 (r1.mono s2 (List.prefix_refl _))
      obtain ⟨v, h3, h4⟩ := key (α := Unit) h1 hd
      exact ⟨p, vs, i, v, rfl, r2, .inl (.inl h2), h3, k v F2 H2 (s1.trans s2) h4 hm2⟩
    | false =>
      refine ⟨_, pe_ix ix_tup pe_w pe_w hs, ha X (.mk X k0 m0 nd calm room po) F As σ H sr hm _ fun x F1 H1 s1 r1 hm1 => hb X (.mk X k0 m0 nd calm room po) F1 As σ H1 (sr.mono s1 (List.prefix_refl _)) hm1 _ fun y F2 H2 s2 r2 hm2 => ?_⟩
      obtain ⟨p, vs, rfl, h1, h2⟩ := q.get hm2 (r1.mono s2 (List.prefix_refl _))
      obtain ⟨v, h3, h4⟩ := key (α := Unit) h1 hd
      exact ⟨p, vs, i, v, rfl, r2, h2, h3, k v F2 H2 (s1.trans s2) h4 hm2⟩
end
end
end Dl

/-! DL4: calls of defs -/
namespace Dl
open PySem L2

/-! ### the frame rule for a def -/
def frSp (sp : Sp) : Sp := fun vs H G E => ∃ bs : List Addr, (∀ b ∈ bs, ∃ o, H b = some o ∧ FrOk o) ∧ sp vs (dels H bs) (fun v H' => (∀ b ∈ bs, H' b = none) → G v (puts H' H bs)) E
theorem dels_some {H : Hp} {bs : List Addr} {b : Addr} {o : HO} (h : dels H bs b = some o) : b ∉ bs ∧ H b = some o := by
  unfold dels at h
  split at h
  · cases h
  · rename_i n; exact ⟨n, h⟩
theorem dels_ne {H : Hp} {bs : List Addr} {b : Addr} (h : b ∉ bs) : dels H bs b = H b := by unfold dels; rw [if_neg h]
theorem dels_none {H : Hp} {bs : List Addr} {b : Addr} (h : H b = none) : dels H bs b = none := by unfold dels; split <;> first | rfl | exact h
theorem puts_in {H' H : Hp} {bs : List Addr} {b : Addr} (h : b ∈ bs) : puts H' H bs b = H b := by unfold puts; rw [if_pos h]
theorem puts_ne {H' H : Hp} {bs : List Addr} {b : Addr} (h : b ∉ bs) : puts H' H bs b = H' b := by unfold puts; rw [if_neg h]
section
variable {P : Program} {w : World} {K : PySem.W.Frag} {mg : Str → Option Value} {base : Heap} {k : Nat} {f : Addr} {fd : FuncData} {ps : List Str} {sp : Sp}
/-- a call with some objects set aside -/
theorem code_frame {A : Around} {outer : List Env} {s : Shared} {H : Hp} {cd : Code} {Q : VK} {E : XK} {bs : List Addr} (e0 : Env0 P w K mg base A outer s H) (hbs : ∀ b ∈ bs, ∃ o, H b = some o ∧ FrOk o)
    (h : Env0 P w K mg base A outer s (dels H bs) → codeAny (model P w) A cd (L2.CR CX0 outer P w (dels H bs) s (fun v H' => (∀ b ∈ bs, H' b = none) → Q v (puts H' H bs)) E) s) : codeAny (model P w) A cd (L2.CR CX0 outer P w H s Q E) s := by
  have nt : ∀ b xs, H b = some (.tup xs) → b ∉ bs := fun b xs e z => by
    obtain ⟨o, ho, fr⟩ := hbs b z
    rw [e] at ho; cases ho; exact fr.not.1 _ rfl
  have nf : ∀ b u v, H b = some (.frz u v) → b ∉ bs := fun b u v e z => by
    obtain ⟨o, ho, fr⟩ := hbs b z
    rw [e] at ho; cases ho; exact fr.not.2.1 _ _ rfl
  have nb : ∀ b ps, H b = some (.tbl ps) → b ∉ bs := fun b ps e z => by
    obtain ⟨o, ho, fr⟩ := hbs b z
    rw [e] at ho; cases ho; exact fr.not.2.2.1 _ rfl
  have no : ∀ b x, H b = some (.own x) → b ∉ bs := fun b x e z => by
    obtain ⟨o, ho, fr⟩ := hbs b z
    rw [e] at ho; cases ho; exact fr.not.2.2.2 _ rfl
  have e1 : Env0 P w K mg base A outer s (dels H bs) := ⟨e0.frames, e0.mod, fun b o e => ⟨(e0.bs b o e).1, dels_none (e0.bs b o e).2⟩, e0.bsz, e0.funs, fun b hb => dels_none (e0.frf b hb), fun b o e => by
    obtain ⟨n, e'⟩ := dels_some e
    refine (e0.hok b o e').stay (fun c v _ q => q) (fun c q => ?_) fun c xs q => ?_
    · rw [dels_ne (no c _ q)]; exact q
    · rw [dels_ne (nt c _ q)]; exact q, e0.bare⟩
  refine codeAny_mono (h e1) fun r s' hq => ?_
  cases r with
  | error e => exact hq
  | ok fl =>
    cases fl with
    | ret u =>
      obtain ⟨v, H', os, bare, un, hok, rv, q⟩ := hq
      have hin : ∀ b ∈ bs, H' b = none ∧ ∀ o, s.heap.get? b = some o → s'.heap.get? b = some o := fun b hb => by
        obtain ⟨o, ho, fr⟩ := hbs b hb
        obtain ⟨ob, hob, _⟩ := fr.get (e0.hok b o ho)
        have nfr : b ∉ frs outer := fun z => by rw [e0.frf b z] at ho; cases ho
        have dn : dels H bs b = none := by unfold dels; rw [if_pos hb]
        exact ⟨un.free b ob hob dn (by simp), fun o' ho' => un.keep b o' ho' dn nfr (by simp)⟩
      refine ⟨v, puts H' H bs, os, bare, ⟨fun b o e n h1 h2 => un.keep b o e (dels_none n) h1 h2, fun b o e n h1 h2 => un.slot b o e (dels_none n) h1 h2, fun b o e n h2 => ?_, un.there, fun b xs e => ?_, fun b o u e => ?_, fun b ps e => ?_⟩, fun b o e => ?_, rv, q fun b hb => (hin b hb).1⟩
      · have nbs : b ∉ bs := fun z => by
          obtain ⟨o', ho', _⟩ := hbs b z
          rw [n] at ho'; cases ho'
        rw [puts_ne nbs]; exact un.free b o e (dels_none n) h2
      · rw [puts_ne (nt b xs e)]; exact un.tups b xs (by rw [dels_ne (nt b xs e)]; exact e)
      · rw [puts_ne (nf b o u e)]; exact un.frzs b o u (by rw [dels_ne (nf b o u e)]; exact e)
      · obtain ⟨more, z⟩ := un.tbls b ps (by rw [dels_ne (nb b ps e)]; exact e)
        exact ⟨more, by rw [puts_ne (nb b ps e)]; exact z⟩
      · by_cases hb : b ∈ bs
        · rw [puts_in hb] at e
          obtain ⟨o', ho', fr⟩ := hbs b hb
          rw [e] at ho'; cases ho'
          exact fr.obj (e0.hok b o e) (hin b hb).2
        · rw [puts_ne hb] at e
          have pn : ∀ c u, H' c = some u → c ∉ bs := fun c u z h => by rw [(hin c h).1] at z; cases z
          refine (hok b o e).stay (fun c v _ q => q) (fun c q => ?_) fun c xs q => ?_
          · rw [puts_ne (pn c _ q)]; exact q
          · rw [puts_ne (pn c _ q)]; exact q
    | next => exact False.elim hq
    | brk => exact False.elim hq
    | cont => exact False.elim hq
theorem FnOk.frame (F : FnOk P w K mg base CX0 k f fd ps sp) : FnOk P w K mg base CX0 k f fd ps (frSp sp) :=
  ⟨fun vs H Q E ⟨bs, _, h⟩ => F.len _ _ _ _ h, fun A outer s H args us vs Q E hr e0 hb hv ⟨bs, hbs, h⟩ => code_frame e0 hbs fun e1 => F.run A outer s (dels H bs) args us vs _ E hr e1 hb hv h⟩
theorem FnR.frame (F : FnR P w K mg base CX0 k f sp) : FnR P w K mg base CX0 k f (frSp sp) := fun A outer s H us vs Q E hr e0 hv ⟨bs, hbs, h⟩ => code_frame e0 hbs fun e1 => F A outer s (dels H bs) us vs _ E hr e1 hv h
theorem fnr_of (F : FnOk P w K mg base CX0 k f fd ps sp) (hb : Binds K fd ps []) : FnR P w K mg base CX0 k f sp := by
  have := FnOk.raw F hb (.nil : Vals [] [])
  exact this.imp fun vs H Q E h => by rw [List.append_nil]; exact h
end

/-! ### promises of three forms -/
/-- a value comes of values -/
def spV (K : PySem.W.Frag) (R : List D → D → Prop) : Sp := fun vs H G _ => ∃ ds d, DVs K H ds vs ∧ R ds d ∧ ∀ v H', Same H H' → DV K H' d v → G v H'
/-- a new list comes of values -/
def spN (K : PySem.W.Frag) (R : List D → List D → Prop) : Sp := fun vs H G _ => ∃ ds rs, DVs K H ds vs ∧ R ds rs ∧ ∀ p H' ws, Same H H' → H' p = none → DVs K H' rs ws → G (.ref p) (upd H' p (.lst ws))
theorem spN_V {K : PySem.W.Frag} {R : List D → List D → Prop} {vs : List V} {H : Hp} {G : VK} {E : XK} (h : spV K (fun ds d => ∃ rs, d = .lst rs ∧ R ds rs) vs H G E) : spN K R vs H G E := by
  obtain ⟨ds, d, h1, ⟨rs, rfl, h2⟩, h3⟩ := h
  exact ⟨ds, rs, h1, h2, fun p H' ws s hp hw => h3 _ _ (s.trans (same_new hp)) ⟨p, ws, rfl, upd_same, hw.mono (same_new hp)⟩⟩
/-- the box of draws -/
structure Bx where
  a : Int
  b : Int
  n : Int
def boxD (s : Bx) : List D := [.int s.a, .int s.b, .int s.n]
def boxO (s : Bx) : HO := .lst [.int s.a, .int s.b, .int s.n]
theorem box_cr {K : PySem.W.Frag} {F : Hp} {As : List Addr} {s : Bx} {o : HO} : CR K F As (.lst (boxD s)) o ↔ o = boxO s := by
  constructor
  · rintro ⟨vs, rfl, v1, r1, rfl, h1, v2, r2, rfl, h2, v3, r3, rfl, h3, h4⟩
    have h1 : v1 = _ := h1
    have h2 : v2 = _ := h2
    have h3 : v3 = _ := h3
    have h4 : r3 = [] := h4
    subst h1 h2 h3 h4
    rfl
  · rintro rfl
    exact ⟨_, rfl, _, _, rfl, rfl, _, _, rfl, rfl, _, _, rfl, rfl, rfl⟩
/-- the box is drawn from: its address is the first argument; any outcome that R allows may come -/
def spB (K : PySem.W.Frag) (Pre : Bx → List D → Prop) (R : Bx → List D → D → Bx → Prop) : Sp := fun vs H G _ => ∃ (b : Addr) (F : Hp) (st : Bx) (ds : List D) (us : List V), vs = .ref b :: us ∧ F b = none ∧ H = upd F b (boxO st) ∧ DVs K F ds us ∧ Pre st ds ∧
  ∀ d st' v F', R st ds d st' → Same F F' → F' b = none → DV K F' d v → G v (upd F' b (boxO st'))

theorem HM.back {K : PySem.W.Frag} {F F' : Hp} {As : List Addr} {M : List C} {H : Hp} (h : HM K F As M H) (s : Same F F') (n : ∀ a ∈ As, F' a = none) : HM K F' As M (puts F' H As) :=
  ⟨h.nd, h.len, fun i a cc ea ec => by
    obtain ⟨o, h1, h2⟩ := h.cell i a cc ea ec
    exact ⟨o, by rw [puts_in (List.mem_iff_getElem?.mpr ⟨i, ea⟩)]; exact h1, h2.mono s (List.prefix_refl _)⟩, n, fun a ha => by rw [puts_ne ha]⟩
theorem HM.bare {K : PySem.W.Frag} {F : Hp} {As : List Addr} {M : List C} {H : Hp} (h : HM K F As M H) : dels H As = F := by
  funext a
  unfold dels
  split
  · rename_i ha; exact (h.off a ha).symm
  · rename_i ha; exact h.out a ha
theorem HM.frs {K : PySem.W.Frag} {F : Hp} {As : List Addr} {M : List C} {H : Hp} (h : HM K F As M H) : ∀ b ∈ As, ∃ o, H b = some o ∧ FrOk o := fun b hb => by
  obtain ⟨i, ei⟩ := List.mem_iff_getElem?.mp hb
  have hi : i < M.length := by rw [← h.len]; exact (List.getElem?_eq_some_iff.mp ei).1
  obtain ⟨o, h1, h2⟩ := h.cell i b M[i] ei (List.getElem?_eq_getElem hi)
  exact ⟨o, h1, h2.fr⟩
/-- a promise of the first form in any state -/
theorem callV {K : PySem.W.Frag} {F : Hp} {As : List Addr} {M : List C} {H : Hp} {R : List D → D → Prop} {ds : List D} {d : D} {vs : List V} {G : VK} {E : XK} (hm : HM K F As M H) (hv : DVs K F ds vs) (hr : R ds d)
    (k : ∀ v F' H', Same F F' → DV K F' d v → HM K F' As M H' → G v H') : frSp (spV K R) vs H G E := by
  refine ⟨As, hm.frs, ds, d, by rw [hm.bare]; exact hv, hr, fun v F' s dv n => ?_⟩
  rw [hm.bare] at s
  exact k v F' _ s dv (hm.back s n)
theorem callN {K : PySem.W.Frag} {F : Hp} {As : List Addr} {M : List C} {H : Hp} {R : List D → List D → Prop} {ds rs : List D} {vs : List V} {G : VK} {E : XK} (hm : HM K F As M H) (hv : DVs K F ds vs) (hr : R ds rs)
    (k : ∀ p F' H' ws, Same F F' → HM K F' As M H' → H' p = none → DVs K F' rs ws → G (.ref p) (upd H' p (.lst ws))) : frSp (spN K R) vs H G E := by
  refine ⟨As, hm.frs, ds, rs, by rw [hm.bare]; exact hv, hr, fun p F' ws s hp hw n => ?_⟩
  rw [hm.bare] at s
  have np : p ∉ As := fun z => by
    have := n p z
    rw [upd_same] at this; cases this
  have n' : ∀ a ∈ As, F' a = none := fun a ha => by
    have := n a ha
    rw [upd_ne (fun z => by subst z; exact np ha)] at this
    exact this
  have e : puts (upd F' p (.lst ws)) H As = upd (puts F' H As) p (.lst ws) := by
    funext a
    by_cases ha : a = p
    · subst ha; rw [puts_ne np, upd_same, upd_same]
    · rw [upd_ne ha]
      by_cases hb : a ∈ As
      · rw [puts_in hb, puts_in hb]
      · rw [puts_ne hb, puts_ne hb, upd_ne ha]
  rw [e]
  exact k p F' _ ws s (hm.back s n') (by rw [puts_ne np]; exact hp) hw
theorem callB {K : PySem.W.Frag} {F : Hp} {As : List Addr} {M : List C} {H : Hp} {Pre : Bx → List D → Prop} {R : Bx → List D → D → Bx → Prop} {ds : List D} {st : Bx} {vs : List V} {G : VK} {E : XK} {j : Nat} {b : Addr} (hm : HM K F As M H)
    (hb : As[j]? = some b) (hj : M[j]? = some (.lst (boxD st))) (hv : DVs K F ds vs) (hr : Pre st ds)
    (k : ∀ d st' v F' H', R st ds d st' → Same F F' → DV K F' d v → HM K F' As (M.set j (.lst (boxD st'))) H' → G v H') : frSp (spB K Pre R) (.ref b :: vs) H G E := by
  obtain ⟨o, ho, hc⟩ := hm.cell j b _ hb hj
  have ho' : H b = some (boxO st) := by rw [ho, box_cr.mp hc]
  have bA : b ∈ As := List.mem_iff_getElem?.mpr ⟨j, hb⟩
  have fb : F b = none := hm.off b bA
  have e1 : dels H (As.filter fun a => decide (a ≠ b)) = upd F b (boxO st) := by
    funext a
    by_cases ha : a = b
    · subst ha; rw [upd_same, dels_ne (by simp), ho']
    · rw [upd_ne ha]
      by_cases hA : a ∈ As
      · unfold dels; rw [if_pos (by simp [hA, ha])]; exact (hm.off a hA).symm
      · rw [dels_ne (by simp [hA])]; exact hm.out a hA
  refine ⟨As.filter fun a => decide (a ≠ b), fun a ha => hm.frs a (List.mem_filter.mp ha).1, b, F, st, ds, vs, rfl, fb, e1, hv, hr, fun d st' v F' rr s fb' dv n => ?_⟩
  have n' : ∀ a ∈ As, F' a = none := fun a ha => by
    by_cases hab : a = b
    · subst hab; exact fb'
    · have := n a (by simp [ha, hab])
      rw [upd_ne hab] at this; exact this
  have e2 : puts (upd F' b (boxO st')) H (As.filter fun a => decide (a ≠ b)) = upd (puts F' H As) b (boxO st') := by
    funext a
    by_cases ha : a = b
    · subst ha; rw [puts_ne (by simp), upd_same, upd_same]
    · rw [upd_ne ha]
      by_cases hA : a ∈ As
      · rw [puts_in (by simp [hA, ha]), puts_in hA]
      · rw [puts_ne (by simp [hA]), puts_ne hA, upd_ne ha]
  rw [e2]
  exact k d st' v F' _ rr s dv ((hm.back s n').set hb (box_cr.mpr rfl))

/-- x(e, ..) by a promise of values, however they are bound -/
theorem pe_callR {X : Cx} {CX : CXT} {k : Nat} {f : Addr} {sp : Sp} {E : XK} {x : Str} {p pos : Pos} {e : Expr} {es : List Expr} {t : TA} (Fn : FnR X.prog X.w X.K X.mg X.base CX k f sp) (hr : Room k X.A) (hk : PySem.W.keepIn X.K (.ref f) = true) (hg : Gl X x) (hm : X.mg x = some (.ref f)) (hx : Passes CX X E)
    (ha : PA X (e :: es) t) (hdb : (x == ("__debug__" : Str)) = false) (he : starEach (e :: es) X.env = (false, eval e X.env) :: starEach es X.env) (hpl : (backTo pos (starEach es X.env)).any (·.1) = false) : PE X (.Call (.Name x p) (e :: es) [] pos) (fun σ H Q => t σ H fun vs H1 => sp vs H1 Q E) :=
  ⟨fun pins s σ H Q I h => wpAny_Call_Name_kw (ld_glob I hg hm (PySem.W.callWith_K (h₀ := X.base) I.ok.mod.kin hk (thn (ha.run pos pins s σ H _ I h) fun us s1 ⟨vs, H1, I1, r, q⟩ => ⟨I1.kIn, wpAny_call (run_fnR Fn hr hx I1 r q)⟩) he hpl) hdb)⟩

/-! ### a def as callers see it -/
/-- the def x of the text keeps the promise sp -/
structure Def (P : Program) (w : World) (K : PySem.W.Frag) (mg : Str → Option Value) (base : Heap) (x : Str) (k : Nat) (sp : Sp) : Prop where
  ok : ∃ f : Addr, mg x = some (.ref f) ∧ PySem.W.keepIn K (.ref f) = true ∧ FnR P w K mg base CX0 k f sp
section
variable {c : Ctx} {ρ : List Sl} {M : List C} {a b e : Expr} {pos p1 p2 p3 : Pos} {x : Str} {k : Nat} {es : List Expr}
theorem we_call {sp : Sp} {X : Cx} (d : Def c.P c.w c.K c.mg c.base x k sp) (hX : c.Is X) (hk : k ≤ c.k) (hg : Glo c x) {σ : L2.St} {H : Hp} {G : VK} (ha : WA X (e :: es) σ H fun vs H1 => frSp sp vs H1 G E0)
    (hdb : (x == ("__debug__" : Str)) = false := by decide) (he : ∀ env, starEach (e :: es) env = (false, eval e env) :: starEach es env := by intro _; rfl) (hpl : ∀ env, (backTo pos (starEach es env)).any (·.1) = false := by intro _; rfl) :
    WE X (.Call (.Name x p1) (e :: es) [] pos) σ H G := by
  obtain ⟨f, h1, h2, h4⟩ := d.ok
  cases hX with
  | mk X k0 m0 nd calm room po => exact ⟨_, pe_callR (FnR.frame h4) (room.mono hk) h2 hg h1 pass0 pa_w hdb (he _) (hpl _), ha⟩
section
variable {R : List D → D → Prop} {ds : List D} {d : D}
/-- f(a, ..): a value -/
theorem ev_call (df : Def c.P c.w c.K c.mg c.base x k (spV c.K R)) (ha : ErA c ρ M (e :: es) (ds.map .val)) (hr : R ds d) (hk : k ≤ c.k := by first | exact Nat.le_of_ble_eq_true rfl | assumption) (hg : Glo c x := by rfl) (hdb : (x == ("__debug__" : Str)) = false := by decide)
    (he : ∀ env, starEach (e :: es) env = (false, eval e env) :: starEach es env := by intro _; rfl) (hpl : ∀ env, (backTo pos (starEach es env)).any (·.1) = false := by intro _; rfl) : Ev c ρ M (.Call (.Name x p1) (e :: es) [] pos) d := fun X hX F As σ H sr hm G k =>
  we_call df hX hk hg (ha X hX F As σ H sr hm _ fun vs F1 H1 s1 r1 hm1 => callV hm1 (slrs_vals r1) hr fun v F2 H2 s2 dv hm2 => k v F2 H2 (s1.trans s2) dv hm2) hdb he hpl
/-- .. a new list -/
theorem evn_call {R : List D → List D → Prop} {rs : List D} (df : Def c.P c.w c.K c.mg c.base x k (spN c.K R)) (ha : ErA c ρ M (e :: es) (ds.map .val)) (hr : R ds rs) (hk : k ≤ c.k := by first | exact Nat.le_of_ble_eq_true rfl | assumption) (hg : Glo c x := by rfl) (hdb : (x == ("__debug__" : Str)) = false := by decide)
    (he : ∀ env, starEach (e :: es) env = (false, eval e env) :: starEach es env := by intro _; rfl) (hpl : ∀ env, (backTo pos (starEach es env)).any (·.1) = false := by intro _; rfl) : EvN c ρ M (.Call (.Name x p1) (e :: es) [] pos) rs := fun X hX F As σ H sr hm G k =>
  we_call df hX hk hg (ha X hX F As σ H sr hm _ fun vs F1 H1 s1 r1 hm1 => callN hm1 (slrs_vals r1) hr fun p F2 H2 ws s2 hm2 hp hw => evn_of hm2 hp hw (s1.trans s2) k) hdb he hpl
/-- .. drawn from the box in the cell j -/
theorem ee_callB {Pre : Bx → List D → Prop} {R : Bx → List D → D → Bx → Prop} {Q : Sl → List C → Prop} (df : Def c.P c.w c.K c.mg c.base x k (spB c.K Pre R)) (ha : EA c ρ M (e :: es) fun rs M1 => ∃ j st ds, rs = .own j :: ds.map .val ∧ M1[j]? = some (.lst (boxD st)) ∧ Pre st ds ∧ ∀ d st', R st ds d st' → Q (.val d) (M1.set j (.lst (boxD st'))))
    (hk : k ≤ c.k := by first | exact Nat.le_of_ble_eq_true rfl | assumption) (hg : Glo c x := by rfl) (hdb : (x == ("__debug__" : Str)) = false := by decide) (he : ∀ env, starEach (e :: es) env = (false, eval e env) :: starEach es env := by intro _; rfl) (hpl : ∀ env, (backTo pos (starEach es env)).any (·.1) = false := by intro _; rfl) :
    EE c ρ M (.Call (.Name x p1) (e :: es) [] pos) Q := fun X hX F As σ H sr hm G k =>
  we_call df hX hk hg (ha X hX F As σ H sr hm _ fun vs F1 As1 H1 rs M1 s1 p1 r1 hm1 hq => by
    obtain ⟨j, st, ds, rfl, hj, hr, q⟩ := hq
    cases r1 with
    | cons ra rb =>
      obtain ⟨b, hb, rfl⟩ := ra
      exact callB hm1 hb hj (slrs_vals rb) hr fun d st' v F2 H2 rr s2 dv hm2 => k v F2 As1 H2 (.val d) _ (s1.trans s2) p1 dv hm2 (q d st' rr)) hdb he hpl
end
end
end Dl

/-! DL5: targets, what is walked, comprehensions -/
namespace Dl
open PySem L2
theorem pg_w {X : Cx} {tg : Expr} : PG X tg (WG X tg) := ⟨fun pins s σ H v u Q I r ⟨_, h, q⟩ => h.run pins s σ H v u Q I r q⟩
/-! ### targets -/
def EG (c : Ctx) (ρ : List Sl) (tg : Expr) (r : Sl) (ρ' : List Sl) (js : List Nat) : Prop := ∀ X, c.Is X → ∀ F As σ H v, SR c.K F As ρ σ → Same F H → SlR c.K F As r v →
  ∀ R : L2.St → Hp → Prop, (∀ σ', SR c.K F As ρ' σ' → σ'.length = σ.length → (∀ i, i ∉ js → σ'[i]? = σ[i]?) → R σ' H) → WG X tg v σ H R
section
variable {c : Ctx} {ρ : List Sl} {M : List C} {a b e : Expr} {pos p1 p2 p3 : Pos}
theorem eg_name (i : Nat) {x : Str} {r : Sl} (hi : c.N[i]? = some x := by rfl) (hx : Loc c.sc x := by first | exact Or.inl rfl | exact Or.inr rfl) (hf : c.fn x = true ∨ c.sc.names.lookup x = some .local := by first | exact .inl rfl | exact .inr rfl) :
    EG c ρ (.Name x pos) r (ρ.set i r) [i] := fun X hX F As σ H v sr hm hr R k => by
  cases hX with
  | mk X k0 m0 nd calm room po =>
    exact ⟨_, pg_name nd hi hx hf, k _ (sr.set hr) (by simp) fun j hj => by rw [List.getElem?_set_ne (fun z => hj (by simp [z]))]⟩
theorem eg_two (i j : Nat) {x y : Str} {d1 d2 : D} {kk : Nat} (hi : c.N[i]? = some x := by rfl) (hx : Loc c.sc x := by first | exact Or.inl rfl | exact Or.inr rfl) (hf : c.fn x = true ∨ c.sc.names.lookup x = some .local := by first | exact .inl rfl | exact .inr rfl)
    (hj : c.N[j]? = some y := by rfl) (hy : Loc c.sc y := by first | exact Or.inl rfl | exact Or.inr rfl) (hfy : c.fn y = true ∨ c.sc.names.lookup y = some .local := by first | exact .inl rfl | exact .inr rfl) :
    EG c ρ (.Tuple [.Name x p1, .Name y p2] kk pos) (.val (.tup [d1, d2])) ((ρ.set i (.val d1)).set j (.val d2)) [i, j] := fun X hX F As σ H v sr hm hr R k => by
  cases hX with
  | mk X k0 m0 nd calm room po =>
    obtain ⟨t, vs, rfl, h1, v1, r1, rfl, h2, v2, r2, rfl, h3, h4⟩ := hr
    have h4 : r2 = [] := h4
    subst h4
    refine ⟨_, pg_tup calm (pgs_cons (pg_name nd hi hx hf) (pgs_cons (pg_name nd hj hy hfy) pgs_nil)), t, _, rfl, same_t hm h1, rfl, v1, _, rfl, v2, _, rfl, rfl, ?_⟩
    exact k _ ((sr.set (s := .val d1) h2).set (s := .val d2) h3) (by simp) fun l hl => by
      rw [List.getElem?_set_ne (fun z => hl (by simp [z])), List.getElem?_set_ne (fun z => hl (by simp [z]))]
end

/-! ### what is walked -/
structure IterOk (K : PySem.W.Frag) (As : List Addr) (M : List C) (F : Hp) (ks : List Nat) (J : It) (ds : List D) : Prop where
  inn : ∀ k ∈ ks, k < M.length
  ex : ∃ (G : Hp → Prop) (Y : Nat → Hp → V → Hp → Prop), Walk J ds.length G Y ∧ (∀ F' As' M' H', Same F F' → As <+: As' → HM K F' As' M' H' → (∀ k ∈ ks, M'[k]? = M[k]?) → G H') ∧
    ∀ i d F' As' M' H' x H'', ds[i]? = some d → Same F F' → As <+: As' → HM K F' As' M' H' → (∀ k ∈ ks, M'[k]? = M[k]?) → Y i H' x H'' → ∃ F'', Same F' F'' ∧ HM K F'' As' M' H'' ∧ DV K F'' d x
def EI (c : Ctx) (ρ : List Sl) (M : List C) (tg it : Expr) (ks : List Nat) (ds : List D) : Prop := ∀ X, c.Is X → ∀ F As σ H, SR c.K F As ρ σ → HM c.K F As M H →
  ∀ R : It → Hp → Prop, (∀ J F' H', Same F F' → HM c.K F' As M H' → IterOk c.K As M F' ks J ds → R J H') → WI X tg it σ H R
/-- the cells that a slot reads -/
def Sl.cells : Sl → List Nat
  | .own k => [k]
  | _ => []
section
variable {c : Ctx} {ρ : List Sl} {M : List C} {a b e tg : Expr} {pos p1 p2 p3 : Pos}
theorem iter_lst {K : PySem.W.Frag} {As : List Addr} {F : Hp} {s : Sl} {ds : List D} {a : Addr} (q : SqS M s true ds) (r : SlR K F As s (.ref a)) (hl : As.length = M.length) : IterOk K As M F s.cells (Itl K a) ds := by
  have get : ∀ F' As' M' H', Same F F' → As <+: As' → HM K F' As' M' H' → (∀ k ∈ s.cells, M'[k]? = M[k]?) → ∃ vs, H' a = some (.lst vs) ∧ DVs K F' ds vs := fun F' As' M' H' sm p hm hk => by
    have q' : SqS M' s true ds := by
      cases q with
      | lst => exact .lst
      | own h => exact .own ((hk _ (by simp [Sl.cells])).trans h)
    obtain ⟨a', vs, e, h1, h2⟩ := q'.get hm (r.mono sm p)
    cases e
    exact ⟨vs, h2, h1⟩
  refine ⟨fun k hk => ?_, fun H => ∃ vs, H a = some (.lst vs) ∧ vs.length = ds.length, fun i H x H' => H' = H ∧ ∀ vs, H a = some (.lst vs) → vs[i]? = some x, ⟨fun i H hi ⟨vs, h1, h2⟩ => ?_, fun H ⟨vs, h1, h2⟩ => ?_, fun i H x H' hi g y => ?_⟩, fun F' As' M' H' sm p hm hk => ?_, fun i d F' As' M' H' x H'' hd sm p hm hk y => ?_⟩
  · cases q with
    | lst => cases hk
    | own h =>
      rename_i k1
      have : k = k1 := by simpa [Sl.cells] using hk
      subst this
      exact (List.getElem?_eq_some_iff.mp h).1
  · have hi' : i < vs.length := by omega
    exact ⟨vs, vs[i], .inl (.inl h1), List.getElem?_eq_getElem hi'⟩
  · exact ⟨vs, .inl (.inl h1), by omega⟩
  · exact ⟨y.1, fun vs h => y.2 vs (.inl (.inl h))⟩
  · obtain ⟨vs, h1, h2⟩ := get F' As' M' H' sm p hm hk
    exact ⟨vs, h1, h2.length.symm⟩
  · obtain ⟨vs, h1, h2⟩ := get F' As' M' H' sm p hm hk
    obtain ⟨rfl, y⟩ := y
    obtain ⟨v, h3, h4⟩ := h2.get hd
    have := y vs h1
    rw [h3] at this; cases this
    exact ⟨F', Same.refl _, hm, h4⟩
theorem iter_tup {K : PySem.W.Frag} {As : List Addr} {F : Hp} {ds : List D} {a : Addr} (r : DV K F (.tup ds) (.ref a)) : IterOk K As M F [] (Itt K a) ds := by
  obtain ⟨a', vs, e, h1, h2⟩ := r
  cases e
  have hz := h2.length
  refine ⟨fun k hk => (nomatch hk), fun H => SqT K H a vs, YAt vs, by rw [hz]; exact walk_tup, fun F' As' M' H' sm p hm _ => same_t (sm.trans hm.same) h1, fun i d F' As' M' H' x H'' hd sm p hm _ y => ?_⟩
  obtain ⟨rfl, y⟩ := y
  obtain ⟨v, h3, h4⟩ := h2.get hd
  rw [y] at h3; cases h3
  exact ⟨F', Same.refl _, hm, h4.mono sm⟩
theorem ei_list {s : Sl} {ds : List D} (ha : Er c ρ M e s) (q : SqS M s true ds := by first | exact SqS.lst | exact SqS.tup | exact SqS.own rfl) : EI c ρ M tg e s.cells ds := fun X hX F As σ H sr hm R k => by
  cases hX with
  | mk X k0 m0 nd calm room po =>
    refine ⟨_, pi_list pe_w, ha X (.mk X k0 m0 nd calm room po) F As σ H sr hm _ fun v F1 H1 s1 r1 hm1 => ?_⟩
    obtain ⟨p, vs, rfl, h1, h2⟩ := q.get hm1 r1
    exact ⟨p, rfl, ⟨vs, .inl (.inl h2)⟩, k _ F1 H1 s1 hm1 (iter_lst q r1 hm1.len)⟩
theorem ei_tup {ds : List D} (ha : Ev c ρ M e (.tup ds)) : EI c ρ M tg e [] ds := fun X hX F As σ H sr hm R k => by
  cases hX with
  | mk X k0 m0 nd calm room po =>
    refine ⟨_, pi_tup pe_w, ha X (.mk X k0 m0 nd calm room po) F As σ H sr hm _ fun v F1 H1 s1 r1 hm1 => ?_⟩
    obtain ⟨p, vs, rfl, h1, h2⟩ := id r1
    exact ⟨p, rfl, ⟨vs, same_t hm1.same h1⟩, k _ F1 H1 s1 hm1 (iter_tup r1)⟩
/-- lo, lo + 1, .., n of them -/
def rng (lo : Int) (n : Nat) : List Int := (List.range n).map fun (i : Nat) => lo + (i : Int)
theorem rng_get {lo : Int} {n i : Nat} {x : Int} : (rng lo n)[i]? = some x ↔ i < n ∧ x = lo + i := by
  unfold rng
  rw [List.getElem?_map]
  by_cases h : i < n
  · rw [List.getElem?_range h]; simp [h]; constructor <;> intro z <;> exact z.symm
  · rw [List.getElem?_eq_none_iff.mpr (by simp; omega)]; simp [h]
theorem rng_len {lo : Int} {n : Nat} : (rng lo n).length = n := by simp [rng]
theorem iter_fn {K : PySem.W.Frag} {As : List Addr} {F : Hp} {J : It} {n : Nat} {f : Nat → Int} (w : Walk J n (fun _ => True) (YFn fun i => .int (f i))) : IterOk K As M F [] J (((List.range n).map f).map D.int) := by
  refine ⟨fun k hk => (nomatch hk), fun _ => True, YFn fun i => .int (f i), by simpa using w, fun _ _ _ _ _ _ _ _ => trivial, fun i d F' As' M' H' x H'' hd sm p hm _ y => ?_⟩
  obtain ⟨rfl, rfl⟩ := y
  rw [List.getElem?_map, List.getElem?_map] at hd
  by_cases h : i < n
  · rw [List.getElem?_range h] at hd
    simp at hd
    subst hd
    exact ⟨F', Same.refl _, hm, rfl⟩
  · rw [List.getElem?_eq_none_iff.mpr (by simp; omega)] at hd
    simp at hd
theorem ei_range1 {i : Int} (ha : Ev c ρ M a (.int i)) (hb : -100000 ≤ i ∧ i ≤ 100000) (hm0 : c.mg "range" = none) (hg : Glo c "range" := by rfl) (hs : ∀ env, starEach [a] env = [(false, eval a env)] := by intro _; rfl) :
    EI c ρ M tg (.Call (.Name "range" p1) [a] [] pos) [] ((rng 0 i.toNat).map D.int) := fun X hX F As σ H sr hm R k => by
  cases hX with
  | mk X k0 m0 nd calm room po =>
    refine ⟨_, pi_range1 hg hm0 (pa_cons pe_w pa_nil (hs _)) (hs _), ha X (.mk X k0 m0 nd calm room po) F As σ H sr hm _ fun v F1 H1 s1 r1 hm1 => ?_⟩
    have r1 : v = .int i := r1
    subst r1
    exact ⟨i, rfl, by omega, by omega, k _ F1 H1 s1 hm1 (iter_fn (f := fun j => 0 + (j : Int)) walk_range)⟩
theorem ei_range2 {i j : Int} (ha : Ev c ρ M a (.int i)) (hb : Ev c ρ M b (.int j)) (hbd : -100000 ≤ i ∧ i ≤ 100000 ∧ -100000 ≤ j ∧ j ≤ 100000) (hm0 : c.mg "range" = none) (hg : Glo c "range" := by rfl)
    (hs : ∀ env, starEach [a, b] env = [(false, eval a env), (false, eval b env)] := by intro _; rfl) (hs2 : ∀ env, starEach [b] env = [(false, eval b env)] := by intro _; rfl) :
    EI c ρ M tg (.Call (.Name "range" p1) [a, b] [] pos) [] ((rng i (j - i).toNat).map D.int) := fun X hX F As σ H sr hm R k => by
  cases hX with
  | mk X k0 m0 nd calm room po =>
    refine ⟨_, pi_range2 hg hm0 (pa_cons pe_w (pa_cons pe_w pa_nil (hs2 _)) ((hs _).trans (by rw [hs2]))) (hs _) (hs2 _), ha X (.mk X k0 m0 nd calm room po) F As σ H sr hm _ fun v F1 H1 s1 r1 hm1 => hb X (.mk X k0 m0 nd calm room po) F1 As σ H1 (sr.mono s1 (List.prefix_refl _)) hm1 _ fun u F2 H2 s2 r2 hm2 => ?_⟩
    have r1 : v = .int i := r1
    have r2 : u = .int j := r2
    subst r1; subst r2
    exact ⟨i, j, rfl, by omega, k _ F2 H2 (s1.trans s2) hm2 (iter_fn (f := fun l => i + (l : Int)) walk_range)⟩
/-- hi, hi - 1, .., n of them -/
def rngD (hi : Int) (n : Nat) : List Int := (List.range n).map fun (i : Nat) => hi + (i : Int) * (-1)
theorem ei_rangeD {i j : Int} {e3 : Expr} (ha : Ev c ρ M a (.int i)) (hb : Ev c ρ M b (.int j)) (hc : Ev c ρ M e3 (.int (-1))) (hbd : -100000 ≤ i ∧ i ≤ 100000 ∧ -100000 ≤ j ∧ j ≤ 100000) (hm0 : c.mg "range" = none) (hg : Glo c "range" := by rfl)
    (hs : ∀ env, starEach [a, b, e3] env = [(false, eval a env), (false, eval b env), (false, eval e3 env)] := by intro _; rfl) (hs2 : ∀ env, starEach [b, e3] env = [(false, eval b env), (false, eval e3 env)] := by intro _; rfl) (hs3 : ∀ env, starEach [e3] env = [(false, eval e3 env)] := by intro _; rfl) :
    EI c ρ M tg (.Call (.Name "range" p1) [a, b, e3] [] pos) [] ((rngD i (i - j).toNat).map D.int) := fun X hX F As σ H sr hm R k => by
  cases hX with
  | mk X k0 m0 nd calm room po =>
    refine ⟨_, pi_range3 hg hm0 (pa_cons pe_w (pa_cons pe_w (pa_cons pe_w pa_nil (hs3 _)) ((hs2 _).trans (by rw [hs3]))) ((hs _).trans (by rw [hs2]))) ((hs _).trans (by rw [hs2])) (by rw [hs2]; rfl), ha X (.mk X k0 m0 nd calm room po) F As σ H sr hm _ fun v F1 H1 s1 r1 hm1 => hb X (.mk X k0 m0 nd calm room po) F1 As σ H1 (sr.mono s1 (List.prefix_refl _)) hm1 _ fun u F2 H2 s2 r2 hm2 => hc X (.mk X k0 m0 nd calm room po) F2 As σ H2 (sr.mono (s1.trans s2) (List.prefix_refl _)) hm2 _ fun z F3 H3 s3 r3 hm3 => ?_⟩
    have r1 : v = .int i := r1
    have r2 : u = .int j := r2
    have r3 : z = .int (-1) := r3
    subst r1; subst r2; subst r3
    exact ⟨i, j, -1, (i - j).toNat, rfl, RgC.neg (by omega) (by omega) (by omega) (by omega), k _ F3 H3 ((s1.trans s2).trans s3) hm3 (iter_fn (f := fun l => i + (l : Int) * (-1)) walk_rangeC)⟩
end

/-! ### comprehensions -/
def relS (scope sc : Scope) : Scope := { scope with names := scope.names.map fun (n, k) => if (k == .free && sc.kind == .function && sc.names.lookup n == some .cell) then (n, .cell) else (n, k) }
def Ctx.blk (c : Ctx) (scope : Scope) : Ctx := { c with sc := relS scope c.sc, fn := fun x => scope.names.lookup x == some .cell }
theorem blk_is {c : Ctx} {X : Cx} (hX : c.Is X) (s : Shared) (H : Hp) (scope : Scope) (cl : List (Str × Addr)) (C : Addr) (fp : List Addr) : (c.blk scope).Is (X.blk s H scope (compEnvC scope cl C X.env) fp) := by
  cases hX with
  | mk X k0 m0 nd calm room po => exact .mk (X.blk s H scope (compEnvC scope cl C X.env) fp) k0 m0 nd calm room PassesOwn.never
def wipeR (ρ : List Sl) : List Nat → List Sl
  | [] => ρ
  | v :: vs => (wipeR ρ vs).set v .un
theorem SR.setUn {K : PySem.W.Frag} {F : Hp} {As : List Addr} {ρ : List Sl} {σ : L2.St} (h : SR K F As ρ σ) (i : Nat) (o : Option V) : SR K F As (ρ.set i .un) (σ.set i o) := by
  refine ⟨by simp [h.len], fun j d q z => ?_⟩
  by_cases e : i = j
  · subst e
    have hi : i < ρ.length := by
      have := (List.getElem?_eq_some_iff.mp q).1
      simpa using this
    rw [List.getElem?_set_self hi] at q
    cases q
    exact absurd rfl z
  · rw [List.getElem?_set_ne e] at q ⊢
    exact h.get j _ q z
theorem SR.wipe {K : PySem.W.Frag} {F : Hp} {As : List Addr} {ρ : List Sl} {σ : L2.St} (h : SR K F As ρ σ) : ∀ vs : List Nat, SR K F As (wipeR ρ vs) (wipe σ vs)
  | [] => h
  | v :: vs => (SR.wipe h vs).setUn v none
theorem wipe_get {σ : L2.St} {i : Nat} : ∀ {vs : List Nat}, i ∉ vs → (wipe σ vs)[i]? = σ[i]?
  | [], _ => rfl
  | v :: vs, h => by
    unfold wipe
    rw [List.getElem?_set_ne (fun z => h (by simp [z])), wipe_get fun z => h (List.mem_cons_of_mem _ z)]
theorem wipe_in {σ : L2.St} {i : Nat} (hi : i < σ.length) : ∀ {vs : List Nat}, i ∈ vs → (wipe σ vs)[i]? = some none
  | [], h => nomatch h
  | v :: vs, h => by
    unfold wipe
    by_cases e : v = i
    · subst e; rw [List.getElem?_set_self (by rw [wipe_length]; exact hi)]
    · rw [List.getElem?_set_ne e]
      rcases List.mem_cons.mp h with h | h
      · exact absurd h.symm e
      · exact wipe_in hi h
theorem wipe_ext {σ σ' : L2.St} {vs : List Nat} (hl : σ'.length = σ.length) (h : ∀ i : Nat, i ∉ vs → σ'[i]? = σ[i]?) : wipe σ' vs = wipe σ vs := by
  apply List.ext_getElem?
  intro i
  by_cases hi : i ∈ vs
  · by_cases hz : i < σ.length
    · rw [wipe_in hz hi, wipe_in (by omega) hi]
    · rw [List.getElem?_eq_none_iff.mpr (by rw [wipe_length]; omega), List.getElem?_eq_none_iff.mpr (by rw [wipe_length]; omega)]
  · rw [wipe_get hi, wipe_get hi, h i hi]
theorem wipe_wipe {σ : L2.St} {vs : List Nat} : wipe (wipe σ vs) vs = wipe σ vs := wipe_ext (wipe_length _ _) fun i hi => wipe_get hi
theorem HM.unlast {K : PySem.W.Frag} {F : Hp} {As : List Addr} {M : List C} {H : Hp} {a : Addr} {cc : C} (h : HM K F (As ++ [a]) (M ++ [cc]) H) : HM K F As M (del H a) ∧ ∃ o, H a = some o ∧ CR K F As cc o := by
  have hl : As.length = M.length := by have := h.len; simpa using this
  have na : a ∉ As := by
    have := h.nd
    rw [List.nodup_append] at this
    exact fun z => this.2.2 a z a (by simp) rfl
  refine ⟨⟨(List.nodup_append.mp h.nd).1, hl, fun i b c' eb ec => ?_, fun b hb => h.off b (List.mem_append_left _ hb), fun b hb => ?_⟩, ?_⟩
  · obtain ⟨o, h1, h2⟩ := h.cell i b c' (by rw [List.getElem?_append_left (List.getElem?_eq_some_iff.mp eb).1]; exact eb) (by rw [List.getElem?_append_left (List.getElem?_eq_some_iff.mp ec).1]; exact ec)
    exact ⟨o, by rw [del_ne (fun z => na (by rw [← z]; exact List.mem_iff_getElem?.mpr ⟨i, eb⟩))]; exact h1, CR.flat h2⟩
  · by_cases e : b = a
    · subst e; rw [del_same]; exact (h.off b (by simp)).symm
    · rw [del_ne e]
      exact h.out b fun z => by
        rcases List.mem_append.mp z with z | z
        · exact hb z
        · exact e (by simpa using z)
  · obtain ⟨o, h1, h2⟩ := h.cell As.length a cc (by simp) (by rw [hl]; simp)
    exact ⟨o, h1, CR.flat h2⟩
/-- the tests of a comprehension -/
def ETs (c : Ctx) (ρ : List Sl) (M : List C) (es : List Expr) (b : Bool) : Prop := ∀ X, c.Is X → ∀ F As σ H, SR c.K F As ρ σ → HM c.K F As M H → ∀ G : Bool → Hp → Prop, (∀ F' H', Same F F' → HM c.K F' As M H' → G b H') → WTs X es σ H G
section
variable {c : Ctx} {ρ : List Sl} {M : List C} {a b e tg iter elt : Expr} {pos p1 p2 p3 : Pos} {ifs : List Expr} {scope : Scope}
theorem ets_nil : ETs c ρ M [] true := fun X hX F As σ H sr hm G k => ⟨_, pts_nil, k F H (Same.refl _) hm⟩
theorem ets_one {t : Bool} (h : ET c ρ M e t) : ETs c ρ M [e] t := fun X hX F As σ H sr hm G k => ⟨_, pts_one pt_w, h X hX F As σ H sr hm G k⟩
/-- what a comprehension asks, turn by turn -/
structure LcOk (c : Ctx) (ρ : List Sl) (M : List C) (tg : Expr) (ifs : List Expr) (elt : Expr) (scope : Scope) (vs ks : List Nat) (ds : List D) (Ms : Nat → List C) (outs : Nat → List D) : Prop where
  m0 : Ms 0 = M
  o0 : outs 0 = []
  ml : ∀ i, (Ms i).length = M.length
  mks : ∀ i, ∀ k ∈ ks, (Ms i)[k]? = M[k]?
  len : ∀ i, i ≤ ds.length → (outs i).length ≤ i
  sz : ds.length ≤ 1000000
  turn : ∀ i d, ds[i]? = some d → ∃ ρ2 js b, EG (c.blk scope) (wipeR ρ vs) tg (.val d) ρ2 js ∧ (∀ j ∈ js, j ∈ vs) ∧ ETs (c.blk scope) ρ2 (Ms i) ifs b ∧
    (b = true → EE (c.blk scope) ρ2 (Ms i) elt fun r M' => ∃ y, r = .val y ∧ M' = Ms (i + 1) ∧ outs (i + 1) = outs i ++ [y]) ∧ (b = false → Ms (i + 1) = Ms i ∧ outs (i + 1) = outs i)
def gBlk (X : Cx) (scope : Scope) (tg : Expr) : TG := fun v σ H R => ∀ (s : Shared) (H' : Hp) (C : Addr) (cl : List (Str × Addr)) (fp : List Addr), WG (X.blk s H' scope (compEnvC scope cl C X.env) fp) tg v σ H R
def tBlk (X : Cx) (scope : Scope) (ifs : List Expr) : TT := fun σ H R => ∀ (s : Shared) (H' : Hp) (C : Addr) (cl : List (Str × Addr)) (fp : List Addr), WTs (X.blk s H' scope (compEnvC scope cl C X.env) fp) ifs σ H R
def eBlk (X : Cx) (scope : Scope) (elt : Expr) : TE := fun σ H R => ∀ (s : Shared) (H' : Hp) (C : Addr) (cl : List (Str × Addr)) (fp : List Addr), WE (X.blk s H' scope (compEnvC scope cl C X.env) fp) elt σ H R
theorem lc_ok {vs ks : List Nat} {ds : List D} {Ms : Nat → List C} {outs : Nat → List D} {X : Cx} (hX : c.Is X) (L : LcOk c ρ M tg ifs elt scope vs ks ds Ms outs) (hi : EI c ρ M tg iter ks ds) {F : Hp} {As : List Addr} {σ : L2.St} {H : Hp} (sr : SR c.K F As ρ σ) (hm : HM c.K F As M H) {G : VK}
    (k : ∀ p F' H', Same F F' → HM c.K F' (As ++ [p]) (Ms ds.length ++ [.lst (outs ds.length)]) H' → G (.ref p) H') :
    tLc (WI X tg iter) (gBlk X scope tg) (tBlk X scope ifs) (eBlk X scope elt) vs σ H G := by
  refine hi X hX F As σ H sr hm _ fun J F1 H1 s1 hm1 it Dl hD => ?_
  obtain ⟨Gd, Y, W, hG, hY⟩ := it.ex
  have app : ∀ (i : Nat) (z : C) (q : Nat), q ∈ ks → (Ms i ++ [z])[q]? = M[q]? := fun i z q hq => by
    rw [List.getElem?_append_left (by have := L.ml i; have := it.inn q hq; omega)]
    exact L.mks i q hq
  refine lc_it (g := gBlk X scope tg) (tt := tBlk X scope ifs) (te := eBlk X scope elt) (vs := vs) (σ := σ) (H1 := H1) (D := Dl) (Qd := G (.ref Dl)) W (fun i H' => ∃ F', Same F1 F' ∧ HM c.K F' (As ++ [Dl]) (Ms i ++ [.lst (outs i)]) H') ?_ ?_ ?_ ?_
  · refine ⟨F1, Same.refl _, ?_⟩
    rw [L.m0, L.o0]
    exact hm1.made (c := .lst []) hD ⟨[], rfl, rfl⟩
  · rintro i H' _ ⟨F', s', h'⟩
    exact hG F' _ _ H' s' (List.prefix_append _ _) h' (app i _)
  · rintro i x H' H'' hlt ⟨F', s', h'⟩ y
    have hd : ds[i]? = some ds[i] := List.getElem?_eq_getElem hlt
    obtain ⟨F2, s2, hm2, dv⟩ := hY i ds[i] F' _ _ H' x H'' hd s' (List.prefix_append _ _) h' (app i _) y
    obtain ⟨ρ2, js, bb, hg, hjs, ht, he, hf⟩ := L.turn i ds[i] hd
    have hol := L.len i (Nat.le_of_lt hlt)
    have hsz := L.sz
    intro sh Hh Ch clh fph
    have srw : SR (c.blk scope).K F2 As (wipeR ρ vs) (wipe σ vs) := ((sr.mono ((s1.trans s').trans s2) (List.prefix_refl _)).wipe vs)
    obtain ⟨hmu, oD, hoD, wsD, rfl, dvD⟩ := hm2.unlast
    refine hg _ (blk_is hX sh Hh scope clh Ch fph) F2 As (wipe σ vs) H'' x srw hm2.same dv _ fun σ2 sr2 hl2 hn2 => ⟨?_, fun sh Hh Ch clh fph => ?_⟩
    · rw [wipe_ext hl2 fun j hj => hn2 j fun z => hj (hjs j z)]; exact wipe_wipe
    · refine WTs.frame hoD (.lst wsD) (ht _ (blk_is hX sh Hh scope clh Ch fph) F2 As σ2 _ sr2 hmu _ fun F3 H3 s3 hm3 n3 => ?_)
      cases bb with
      | false =>
        show ∃ F', _ ∧ _
        obtain ⟨e1, e2⟩ := hf rfl
        refine ⟨F3, ((s'.trans s2).trans s3), ?_⟩
        rw [e1, e2]
        exact hm3.made (c := .lst (outs i)) n3 ⟨wsD, rfl, dvD.mono s3⟩
      | true =>
        show eBlk X scope elt σ2 _ _
        intro sh Hh Ch clh fph
        have hu : (upd H3 Dl (.lst wsD)) Dl = some (.lst wsD) := upd_same
        refine WE.frame hu (.lst wsD) ?_
        have ed : del (upd H3 Dl (.lst wsD)) Dl = H3 := by
          funext z
          unfold del upd
          split
          · rename_i e; rw [e]; exact n3.symm
          · rfl
        rw [ed]
        refine he rfl _ (blk_is hX sh Hh scope clh Ch fph) F3 As σ2 H3 (sr2.mono s3 (List.prefix_refl _)) hm3 _ fun v F4 As4 H4 r M4 s4 p4 r4 hm4 ⟨yd, e1, e2, e3⟩ n4 => ?_
        subst e1; subst e2
        have eAs : As4 = As := by
          have l1 := hm4.len
          have l2 := hm3.len
          have l3 := L.ml i
          have l4 := L.ml (i + 1)
          exact (p4.eq_of_length (by omega)).symm
        subst eAs
        refine ⟨wsD, upd_same, ?_, F4, (((s'.trans s2).trans s3).trans s4), ?_⟩
        · have := dvD.length
          rw [← this]
          exact Nat.lt_of_le_of_lt (Nat.le_trans hol (Nat.le_trans (Nat.le_of_lt hlt) hsz)) (by decide)
        · rw [upd_upd, e3]
          refine hm4.made (c := .lst (outs i ++ [yd])) n4 ⟨wsD ++ [v], rfl, ?_⟩
          exact dvs_paired.mpr (paired_append (dvs_paired.mp (dvD.mono (s3.trans s4))) (.cons r4 .nil))
  · rintro H' ⟨F', s', h'⟩
    exact k Dl F' H' (s1.trans s') h'
/-- [elt for tg in iter if ..] -/
theorem ee_lc {own : List (Str × Nat)} {ks : List Nat} {ds : List D} {Ms : Nat → List C} {outs : Nat → List D} (hi : EI c ρ M tg iter ks ds) (L : LcOk c ρ M tg ifs elt scope (own.map (·.2)) ks ds Ms outs) (ok : blkC c.N c.sc scope own = true := by kernel_rfl)
    (hs : ∀ (env : Env) x, foldedSetIterable iter env x = pure x := by intro _ _; rfl) : EE c ρ M (.ListComp elt [⟨tg, iter, ifs, 0⟩] scope pos) fun r M' => r = .own M.length ∧ M' = Ms ds.length ++ [.lst (outs ds.length)] := fun X hX F As σ H sr hm G k => by
  have hq := lc_ok (G := G) hX L hi sr hm fun p F' H' s hm' => k _ F' (As ++ [p]) H' (.own M.length) _ s (List.prefix_append _ _) ⟨p, by rw [← hm.len]; simp, rfl⟩ hm' ⟨rfl, rfl⟩
  cases hX with
  | mk X k0 m0 nd calm room po =>
    exact ⟨_, pe_lc calm nd pi_w (blkOk_by ok) (fun s H C cl fp => ⟨fun pins s' σ' H' v u Q I r h => pg_w.run pins s' σ' H' v u Q I r (h s H C cl fp)⟩)
      (fun s H C cl fp => ⟨fun pins s' σ' H' Q I h => pts_w.run pins s' σ' H' Q I (h s H C cl fp)⟩) (fun s H C cl fp => ⟨fun pins s' σ' H' Q I h => pe_w.run pins s' σ' H' Q I (h s H C cl fp)⟩) (hs _), hq⟩
/-- a plain one: items of a list, nothing changes -/
theorem lc_plain {α : Type} {xs : List α} {enc : α → D} {t : α → Bool} {f : α → D} {vs ks : List Nat} {ρ2 : α → List Sl} {js : List Nat} (hz : xs.length ≤ 1000000) (hjs : ∀ j ∈ js, j ∈ vs) (hg : ∀ x ∈ xs, EG (c.blk scope) (wipeR ρ vs) tg (.val (enc x)) (ρ2 x) js)
    (ht : ∀ x ∈ xs, ETs (c.blk scope) (ρ2 x) M ifs (t x)) (he : ∀ x ∈ xs, t x = true → Ev (c.blk scope) (ρ2 x) M elt (f x)) :
    LcOk c ρ M tg ifs elt scope vs ks (xs.map enc) (fun _ => M) (fun i => ((xs.take i).filter t).map f) := by
  refine ⟨rfl, by simp, fun _ => rfl, fun _ _ _ => rfl, fun i hi => ?_, by simpa using hz, fun i d hd => ?_⟩
  · rw [List.length_map]
    exact Nat.le_trans (List.length_filter_le _ _) (by rw [List.length_take]; exact Nat.min_le_left _ _)
  · rw [List.getElem?_map] at hd
    cases e : xs[i]? with
    | none => rw [e] at hd; cases hd
    | some x =>
      rw [e] at hd
      cases hd
      have hx : x ∈ xs := List.mem_of_getElem? e
      refine ⟨ρ2 x, js, t x, hg x hx, hjs, ht x hx, fun h => ((he x hx h).ee ⟨f x, rfl, rfl, ?_⟩), fun h => ⟨rfl, ?_⟩⟩
      · simp only [List.take_add_one, e, Option.toList_some, List.filter_append, List.map_append]
        rw [List.filter_cons, if_pos h]; rfl
      · simp only [List.take_add_one, e, Option.toList_some, List.filter_append, List.map_append]
        rw [List.filter_cons, if_neg (by rw [h]; decide)]; simp
theorem evn_lc {α : Type} {xs : List α} {enc : α → D} {t : α → Bool} {f : α → D} {own : List (Str × Nat)} {ks : List Nat} {ρ2 : α → List Sl} {js : List Nat} (hi : EI c ρ M tg iter ks (xs.map enc)) (hz : xs.length ≤ 1000000) (hjs : ∀ j ∈ js, j ∈ own.map (·.2) := by decide)
    (hg : ∀ x ∈ xs, EG (c.blk scope) (wipeR ρ (own.map (·.2))) tg (.val (enc x)) (ρ2 x) js)
    (ht : ∀ x ∈ xs, ETs (c.blk scope) (ρ2 x) M ifs (t x)) (he : ∀ x ∈ xs, t x = true → Ev (c.blk scope) (ρ2 x) M elt (f x)) (ok : blkC c.N c.sc scope own = true := by kernel_rfl)
    (hs : ∀ (env : Env) x, foldedSetIterable iter env x = pure x := by intro _ _; rfl) : EvN c ρ M (.ListComp elt [⟨tg, iter, ifs, 0⟩] scope pos) ((xs.filter t).map f) := by
  refine (ee_lc hi (lc_plain (ks := ks) hz hjs hg ht he) ok hs).mono fun r M' ⟨h1, h2⟩ => ⟨h1, ?_⟩
  rw [h2]
  simp
end
end Dl

/-! DL6: statements -/
namespace Dl
open PySem L2
/-- own n becomes a value -/
def frzM (n : Nat) (d : D) : Mx → Mx
  | .o k => if k = n then .d d else .o k
  | s => s
def frzS (n : Nat) (d : D) : Sl → Sl
  | .own k => if k = n then .val d else .own k
  | .mix is => .mix (is.map (frzM n d))
  | s => s
theorem MxR.freeze {K : PySem.W.Frag} {F F' : Hp} {As0 : List Addr} {p : Addr} {n : Nat} {d : D} (s : Same F F') (dv : DV K F' d (.ref p)) (hl : As0.length = n) : ∀ {m : Mx} {v : V}, MxR K F (As0 ++ [p]) m v → MxR K F' As0 (frzM n d m) v
  | .d _, _, h => DV.mono s h
  | .o k, _, ⟨a, h1, rfl⟩ => by
    show MxR K F' As0 (if k = n then .d d else .o k) (.ref a)
    split
    · rename_i e
      rw [e, ← hl] at h1
      simp at h1
      subst h1
      exact dv
    · rename_i e
      have : k < As0.length := by
        have := (List.getElem?_eq_some_iff.mp h1).1
        simp at this; omega
      rw [List.getElem?_append_left this] at h1
      exact ⟨a, h1, rfl⟩
theorem SlR.freeze {K : PySem.W.Frag} {F F' : Hp} {As0 : List Addr} {p : Addr} {n : Nat} {d : D} (s : Same F F') (dv : DV K F' d (.ref p)) (hl : As0.length = n) : ∀ {m : Sl} {v : V}, SlR K F (As0 ++ [p]) m v → SlR K F' As0 (frzS n d m) v
  | .un, _, _ => trivial
  | .val _, _, h => DV.mono s h
  | .own k, v, h => by
    have := MxR.freeze (m := .o k) (v := v) s dv hl h
    show SlR K F' As0 (if k = n then .val d else .own k) v
    have this : MxR K F' As0 (if k = n then .d d else .o k) v := this
    split
    · rename_i e; rw [if_pos e] at this; exact this
    · rename_i e; rw [if_neg e] at this; exact this
  | .mix is, _, ⟨q, vs, h1, h2, h3⟩ => by
    refine ⟨q, vs, h1, s _ _ h2, ?_⟩
    clear h2
    induction h3 with
    | nil => exact .nil
    | cons a b ih => exact .cons (MxR.freeze s dv hl a) ih
theorem SR.freeze {K : PySem.W.Frag} {F F' : Hp} {As0 : List Addr} {p : Addr} {n : Nat} {d : D} {ρ : List Sl} {σ : L2.St} (sr : SR K F (As0 ++ [p]) ρ σ) (s : Same F F') (dv : DV K F' d (.ref p)) (hl : As0.length = n) : SR K F' As0 (ρ.map (frzS n d)) σ := by
  refine ⟨by simpa using sr.len, fun j t q z => ?_⟩
  rw [List.getElem?_map] at q
  cases e : ρ[j]? with
  | none => rw [e] at q; cases q
  | some sl =>
    rw [e] at q
    cases q
    obtain ⟨v, h1, h2⟩ := sr.get j sl e (fun y => z (by subst y; rfl))
    exact ⟨v, h1, SlR.freeze s dv hl h2⟩
/-- slots may be forgotten -/
inductive Wk : List Sl → List Sl → Prop
  | nil : Wk [] []
  | keep {s : Sl} {l r : List Sl} : Wk l r → Wk (s :: l) (s :: r)
  | drop {s : Sl} {l r : List Sl} : Wk l r → Wk (s :: l) (.un :: r)
theorem Wk.refl : ∀ l : List Sl, Wk l l
  | [] => .nil
  | _ :: l => .keep (Wk.refl l)
theorem Wk.weak : ∀ {l r : List Sl}, Wk l r → Weak l r
  | _, _, .nil => ⟨rfl, fun _ => .inl rfl⟩
  | _, _, .keep h => ⟨by simp [h.weak.1], fun i => by
      cases i with
      | zero => exact .inl rfl
      | succ i => exact h.weak.2 i⟩
  | _, _, .drop h => ⟨by simp [h.weak.1], fun i => by
      cases i with
      | zero => exact .inr rfl
      | succ i => exact h.weak.2 i⟩
section
variable {c : Ctx} {ρ : List Sl} {M : List C} {a b e tg iter elt : Expr} {pos p1 p2 p3 : Pos} {D0 : DE} {rest : List Stmt}
theorem es_nil (h : D0.nx ρ M) : ES c ρ M [] D0 := fun X hX F As B σ H E sr hm hb pb ends => ⟨_, pss_nil, ends.nx F As ρ M σ H (Same.refl _) pb sr hm h⟩
/-- a statement by its reading, then the rest -/
theorem ws_cons {X : Cx} {st : Stmt} {E : Ends} {σ : L2.St} {H : Hp} {t : TS} (h : PS X st t) (q : t { E with nx := WS X rest E } σ H) : WS X (st :: rest) E σ H := ⟨_, pss_cons h pss_w, q⟩
theorem EndsR.cons {X : Cx} {E : Ends} {F : Hp} {B : List Addr} (hX : c.Is X) (hb : B.length = c.m) (ends : EndsR c.K D0 E F B) : EndsR c.K { D0 with nx := fun ρ' M' => ES c ρ' M' rest D0 } { E with nx := WS X rest E } F B :=
  ⟨fun F' As' ρ' M' σ' H' s p sr hm h => h X hX F' As' B σ' H' E sr hm hb p (ends.mono s (List.prefix_refl _)), ends.rt, ends.bk, ends.ct⟩
theorem es_weak {ρ' : List Sl} {ss : List Stmt} (w : Wk ρ ρ') (k : ES c ρ' M ss D0) : ES c ρ M ss D0 := fun X hX F As B σ H E sr hm hb pb ends => k X hX F As B σ H E (sr.weak w.weak) hm hb pb ends
/-- x = e -/
theorem es_asg (i : Nat) {x : Str} {r : Sl} (he : Er c ρ M e r) (k : ES c (ρ.set i r) M rest D0) (hi : c.N[i]? = some x := by rfl) (hx : Loc c.sc x := by first | exact Or.inl rfl | exact Or.inr rfl)
    (hf : c.fn x = true ∨ c.sc.names.lookup x = some .local := by first | exact .inl rfl | exact .inr rfl) (hs : ∀ env, swapsWith e (some (.Name x p1)) pos.line env = pure false := by intro _; rfl) : ES c ρ M (.Assign [.Name x p1] e pos :: rest) D0 := fun X hX F As B σ H E sr hm hb pb ends => by
  cases hX with
  | mk X k0 m0 nd calm room po =>
    refine ws_cons (ps_set nd hi hx pe_w (hs _) hf) (he X (.mk X k0 m0 nd calm room po) F As σ H sr hm _ fun v F1 H1 s1 r1 hm1 => ?_)
    exact k X (.mk X k0 m0 nd calm room po) F1 As B _ H1 E ((sr.mono s1 (List.prefix_refl _)).set r1) hm1 hb pb (ends.mono s1 (List.prefix_refl _))
/-- .. where cells change or come -/
theorem es_asgE (i : Nat) {x : Str} (he : EE c ρ M e fun r M' => ES c (ρ.set i r) M' rest D0) (hi : c.N[i]? = some x := by rfl) (hx : Loc c.sc x := by first | exact Or.inl rfl | exact Or.inr rfl)
    (hf : c.fn x = true ∨ c.sc.names.lookup x = some .local := by first | exact .inl rfl | exact .inr rfl) (hs : ∀ env, swapsWith e (some (.Name x p1)) pos.line env = pure false := by intro _; rfl) : ES c ρ M (.Assign [.Name x p1] e pos :: rest) D0 := fun X hX F As B σ H E sr hm hb pb ends => by
  cases hX with
  | mk X k0 m0 nd calm room po =>
    refine ws_cons (ps_set nd hi hx pe_w (hs _) hf) (he X (.mk X k0 m0 nd calm room po) F As σ H sr hm _ fun v F1 As1 H1 r M1 s1 p1 r1 hm1 k => ?_)
    exact k X (.mk X k0 m0 nd calm room po) F1 As1 B _ H1 E ((sr.mono s1 p1).set r1) hm1 hb (pb.trans p1) (ends.mono s1 (List.prefix_refl _))
theorem es_asgN (i : Nat) {x : Str} {ds : List D} (he : EvN c ρ M e ds) (k : ES c (ρ.set i (.own M.length)) (M ++ [.lst ds]) rest D0) (hi : c.N[i]? = some x := by rfl) (hx : Loc c.sc x := by first | exact Or.inl rfl | exact Or.inr rfl)
    (hf : c.fn x = true ∨ c.sc.names.lookup x = some .local := by first | exact .inl rfl | exact .inr rfl) (hs : ∀ env, swapsWith e (some (.Name x p1)) pos.line env = pure false := by intro _; rfl) : ES c ρ M (.Assign [.Name x p1] e pos :: rest) D0 :=
  es_asgE i (EE.mono he fun r M' ⟨h1, h2⟩ => by subst h1; subst h2; exact k) hi hx hf hs
/-- y = [.. for ..] on one line, y a local name -/
theorem es_asgLc (i : Nat) {y : Str} {own : List (Str × Nat)} {ks : List Nat} {ds : List D} {Ms : Nat → List C} {outs : Nat → List D} {ifs : List Expr} {scope : Scope} (hi : EI c ρ M tg iter ks ds) (L : LcOk c ρ M tg ifs elt scope (own.map (·.2)) ks ds Ms outs)
    (k : ES c (ρ.set i (.own M.length)) (Ms ds.length ++ [.lst (outs ds.length)]) rest D0) (hN : c.N[i]? = some y := by rfl) (hy : c.sc.names.lookup y = some .local := by rfl) (hk : c.sc.kind = .function := by rfl) (hl : (p1.line == p2.line) = true := by rfl)
    (ha : (scope.names.any fun (n, k) => n == y && (k == .local || k == .cell)) = false := by kernel_rfl) (ok : blkC c.N c.sc scope own = true := by kernel_rfl) (hs : ∀ (env : Env) x, foldedSetIterable iter env x = pure x := by intro _ _; rfl) :
    ES c ρ M (.Assign [.Name y p1] (.ListComp elt [⟨tg, iter, ifs, 0⟩] scope p2) pos :: rest) D0 := fun X hX F As B σ H E sr hm hb pb ends => by
  have hq : ∀ G : VK, (∀ p F' H', Same F F' → HM c.K F' (As ++ [p]) (Ms ds.length ++ [.lst (outs ds.length)]) H' → G (.ref p) H') → tLc (WI X tg iter) (gBlk X scope tg) (tBlk X scope ifs) (eBlk X scope elt) (own.map (·.2)) σ H G := fun G kk => lc_ok (G := G) hX L hi sr hm kk
  cases hX with
  | mk X k0 m0 nd calm room po =>
    refine ws_cons (ps_setLc calm nd hN hy (sw_true hk hy hl ha) pi_w (blkOk_by ok) (fun s H C cl fp => ⟨fun pins s' σ' H' v u Q I r h => pg_w.run pins s' σ' H' v u Q I r (h s H C cl fp)⟩)
      (fun s H C cl fp => ⟨fun pins s' σ' H' Q I h => pts_w.run pins s' σ' H' Q I (h s H C cl fp)⟩) (fun s H C cl fp => ⟨fun pins s' σ' H' Q I h => pe_w.run pins s' σ' H' Q I (h s H C cl fp)⟩) (hs _)) (hq _ fun p F' H' s hm' => ?_)
    refine k X (.mk X k0 m0 nd calm room po) F' (As ++ [p]) B _ H' E ((sr.mono s (List.prefix_append _ _)).set (s := .own M.length) ⟨p, by rw [← hm.len]; simp, rfl⟩) hm' hb (pb.trans (List.prefix_append _ _)) (ends.mono s (List.prefix_refl _))
/-- .. of the plain kind -/
theorem es_asgLcP (i : Nat) {y : Str} {own : List (Str × Nat)} {ks : List Nat} {α : Type} {xs : List α} {enc : α → D} {t : α → Bool} {f : α → D} {ρ2 : α → List Sl} {js : List Nat} {ifs : List Expr} {scope : Scope} (hi : EI c ρ M tg iter ks (xs.map enc)) (hz : xs.length ≤ 1000000) (hjs : ∀ j ∈ js, j ∈ own.map (·.2) := by decide)
    (hg : ∀ x ∈ xs, EG (c.blk scope) (wipeR ρ (own.map (·.2))) tg (.val (enc x)) (ρ2 x) js)
    (ht : ∀ x ∈ xs, ETs (c.blk scope) (ρ2 x) M ifs (t x)) (he : ∀ x ∈ xs, t x = true → Ev (c.blk scope) (ρ2 x) M elt (f x))
    (k : ES c (ρ.set i (.own M.length)) (M ++ [.lst ((xs.filter t).map f)]) rest D0) (hN : c.N[i]? = some y := by rfl) (hy : c.sc.names.lookup y = some .local := by rfl) (hk : c.sc.kind = .function := by rfl) (hl : (p1.line == p2.line) = true := by rfl)
    (ha : (scope.names.any fun (n, k) => n == y && (k == .local || k == .cell)) = false := by kernel_rfl) (ok : blkC c.N c.sc scope own = true := by kernel_rfl) (hs : ∀ (env : Env) x, foldedSetIterable iter env x = pure x := by intro _ _; rfl) :
    ES c ρ M (.Assign [.Name y p1] (.ListComp elt [⟨tg, iter, ifs, 0⟩] scope p2) pos :: rest) D0 := by
  refine es_asgLc i hi (lc_plain (ks := ks) hz hjs hg ht he) ?_ hN hy hk hl ha ok hs
  have e : (xs.take (xs.map enc).length) = xs := by simp
  rw [e]; exact k
/-- a, b = x, y: two local names -/
theorem es_par (i j : Nat) {x y : Str} {kt k2} {pt2 : Pos} (ha : EA c ρ M [a, b] fun rs M' => ∃ r1 r2, rs = [r1, r2] ∧ ES c ((ρ.set i r1).set j r2) M' rest D0) (hij : i ≠ j := by decide) (hi : c.N[i]? = some x := by rfl) (hj : c.N[j]? = some y := by rfl)
    (hx : c.sc.names.lookup x = some .local := by rfl) (hy : c.sc.names.lookup y = some .local := by rfl)
    (hw : ∀ env : Env, env.scope = c.sc → swappedStores [.Tuple [.Name x p1, .Name y p2] kt p3] (.Tuple [a, b] k2 pt2) env = pure (some [x, y]) := by (rintro ⟨_, _, _, _, _, _, _, _, _⟩ h; cases h; rfl))
    (hs : ∀ env : Env, swapsWithSole [.Tuple [.Name x p1, .Name y p2] kt p3] (.Tuple [a, b] k2 pt2) pos.line env = pure false := by intro _; rfl) :
    ES c ρ M (.Assign [.Tuple [.Name x p1, .Name y p2] kt p3] (.Tuple [a, b] k2 pt2) pos :: rest) D0 := fun X hX F As B σ H E sr hm hb pb ends => by
  cases hX with
  | mk X k0 m0 nd calm room po =>
    refine ws_cons (ps_par calm nd hi hj hij hx hy pa_w (hw _ rfl) (hs _)) (ha X (.mk X k0 m0 nd calm room po) F As σ H sr hm _ fun vs F1 As1 H1 rs M1 s1 p1 r1 hm1 ⟨ra, rb, e1, k⟩ => ?_)
    subst e1
    obtain ⟨v, u, rfl, h1, h2⟩ := slrs2 r1
    exact ⟨v, u, rfl, k X (.mk X k0 m0 nd calm room po) F1 As1 B _ H1 E (((sr.mono s1 p1).set h1).set h2) hm1 hb (pb.trans p1) (ends.mono s1 (List.prefix_refl _))⟩
theorem es_par3 (i j l : Nat) {x y z : Str} {e3 : Expr} {kt k2} {pt2 pz : Pos} (ha : EA c ρ M [a, b, e3] fun rs M' => ∃ r1 r2 r3, rs = [r1, r2, r3] ∧ ES c (((ρ.set i r1).set j r2).set l r3) M' rest D0) (hij : i ≠ j := by decide) (hil : i ≠ l := by decide) (hjl : j ≠ l := by decide) (hi : c.N[i]? = some x := by rfl) (hj : c.N[j]? = some y := by rfl) (hl : c.N[l]? = some z := by rfl)
    (hx : c.sc.names.lookup x = some .local := by rfl) (hy : c.sc.names.lookup y = some .local := by rfl) (hz : c.sc.names.lookup z = some .local := by rfl)
    (hw : ∀ env : Env, env.scope = c.sc → swappedStores [.Tuple [.Name x p1, .Name y p2, .Name z pz] kt p3] (.Tuple [a, b, e3] k2 pt2) env = pure (some [x, y, z]) := by (rintro ⟨_, _, _, _, _, _, _, _, _⟩ h; cases h; rfl))
    (hs : ∀ env : Env, swapsWithSole [.Tuple [.Name x p1, .Name y p2, .Name z pz] kt p3] (.Tuple [a, b, e3] k2 pt2) pos.line env = pure false := by intro _; rfl) :
    ES c ρ M (.Assign [.Tuple [.Name x p1, .Name y p2, .Name z pz] kt p3] (.Tuple [a, b, e3] k2 pt2) pos :: rest) D0 := fun X hX F As B σ H E sr hm hb pb ends => by
  cases hX with
  | mk X k0 m0 nd calm room po =>
    refine ws_cons (ps_par3 calm nd hi hj hl hij hil hjl hx hy hz pa_w (hw _ rfl) (hs _)) (ha X (.mk X k0 m0 nd calm room po) F As σ H sr hm _ fun vs F1 As1 H1 rs M1 s1 p1 r1 hm1 ⟨ra, rb, rc, e1, k⟩ => ?_)
    subst e1
    cases r1 with
    | cons h1 r2 =>
      obtain ⟨v, u, rfl, h2, h3⟩ := slrs2 r2
      exact ⟨_, v, u, rfl, k X (.mk X k0 m0 nd calm room po) F1 As1 B _ H1 E ((((sr.mono s1 p1).set h1).set h2).set h3) hm1 hb (pb.trans p1) (ends.mono s1 (List.prefix_refl _))⟩
/-- target = e, the target by EG -/
theorem es_asgG {r : Sl} {ρ' : List Sl} {js : List Nat} (he : Er c ρ M e r) (hg : EG c ρ tg r ρ' js) (k : ES c ρ' M rest D0) (hs : ∀ env : Env, swapsWithSole [tg] e pos.line env = pure false := by intro _; rfl)
    (hw : ∀ env : Env, env.scope = c.sc → swappedStores [tg] e env = pure none := by (intro _ _; rfl)) (h1 : ∀ env : Env, (assignEach [tg] env).map (·.2) = [assign tg env] := by intro _; rfl) : ES c ρ M (.Assign [tg] e pos :: rest) D0 := fun X hX F As B σ H E sr hm hb pb ends => by
  have hX' := hX
  cases hX with
  | mk X k0 m0 nd calm room po =>
    refine ws_cons (ps_asg pe_w pg_w (hs _) (hw _ rfl) (h1 _)) (he X hX' F As σ H sr hm _ fun v F1 H1 s1 r1 hm1 => ?_)
    exact hg X hX' F1 As σ H1 v (sr.mono s1 (List.prefix_refl _)) hm1.same r1 _ fun σ' sr' _ _ => k X hX' F1 As B σ' H1 E sr' hm1 hb pb (ends.mono s1 (List.prefix_refl _))
/-- the last cell, no longer changed, becomes a value -/
theorem es_freeze {ds : List D} {M0 : List C} {ss : List Stmt} (k : ES c (ρ.map (frzS M0.length (.lst ds))) M0 ss D0) (hm0 : c.m ≤ M0.length) : ES c ρ (M0 ++ [.lst ds]) ss D0 := fun X hX F As B σ H E sr hm hb pb ends => by
  have hl := hm.len
  obtain ⟨As0, p, rfl⟩ : ∃ As0 p, As = As0 ++ [p] := by
    have hne : As ≠ [] := fun z => by subst z; simp at hl
    exact ⟨As.dropLast, As.getLast hne, (List.dropLast_concat_getLast hne).symm⟩
  have hl0 : As0.length = M0.length := by simpa using hl
  obtain ⟨F', s, hm', dv⟩ := hm.freeze
  refine k X hX F' As0 B σ H E (sr.freeze s dv hl0) hm' hb (List.prefix_of_prefix_length_le pb (List.prefix_append _ _) (by omega)) (ends.mono s (List.prefix_refl _))
/-- return e -/
theorem es_ret {r : Sl} (he : Er c ρ M e r) (k : D0.rt r M) : ES c ρ M (.Return (some e) pos :: rest) D0 := fun X hX F As B σ H E sr hm hb pb ends =>
  ws_cons (ps_ret pe_w) (he X hX F As σ H sr hm _ fun v F1 H1 s1 r1 hm1 => ends.rt F1 As r v M H1 s1 pb r1 hm1 k)
theorem es_retE (he : EE c ρ M e D0.rt) : ES c ρ M (.Return (some e) pos :: rest) D0 := fun X hX F As B σ H E sr hm hb pb ends =>
  ws_cons (ps_ret pe_w) (he X hX F As σ H sr hm _ fun v F1 As1 H1 r M1 s1 p1 r1 hm1 k => ends.rt F1 As1 r v M1 H1 s1 (pb.trans p1) r1 hm1 k)
theorem es_retN {ds : List D} (he : EvN c ρ M e ds) (k : D0.rt (.own M.length) (M ++ [.lst ds])) : ES c ρ M (.Return (some e) pos :: rest) D0 := es_retE (EE.mono he fun r M' ⟨h1, h2⟩ => by subst h1; subst h2; exact k)
/-- if -/
theorem es_if {t : Bool} {s1 s2 : List Stmt} (ht : ET c ρ M e t) (h1 : t = true → ES c ρ M s1 { D0 with nx := fun ρ' M' => ES c ρ' M' rest D0 }) (h2 : t = false → ES c ρ M s2 { D0 with nx := fun ρ' M' => ES c ρ' M' rest D0 }) : ES c ρ M (.If e s1 s2 pos :: rest) D0 := fun X hX F As B σ H E sr hm hb pb ends =>
  ws_cons (ps_if pt_w pss_w pss_w) (ht X hX F As σ H sr hm _ fun F1 H1 sm hm1 => by
    have ends' := (ends.cons (rest := rest) hX hb).mono sm (List.prefix_refl _)
    cases t with
    | true => exact h1 rfl X hX F1 As B σ H1 _ (sr.mono sm (List.prefix_refl _)) hm1 hb pb ends'
    | false => exact h2 rfl X hX F1 As B σ H1 _ (sr.mono sm (List.prefix_refl _)) hm1 hb pb ends')
/-- e, for what it does -/
theorem es_expr (he : EE c ρ M e fun _ M' => ES c ρ M' rest D0) (hs : ∀ env, swapsWith e none pos.line env = pure false := by intro _; rfl) : ES c ρ M (.Expr e pos :: rest) D0 := fun X hX F As B σ H E sr hm hb pb ends =>
  ws_cons (ps_expr pe_w (hs _)) (he X hX F As σ H sr hm _ fun v F1 As1 H1 r M1 s1 p1 r1 hm1 k => k X hX F1 As1 B σ H1 E (sr.mono s1 p1) hm1 hb (pb.trans p1) (ends.mono s1 (List.prefix_refl _)))
/-- for tg in iter: body -/
theorem es_for {ks : List Nat} {ds : List D} {body : List Stmt} (Iv : Nat → List Sl → List C → Prop) (hi : EI c ρ M tg iter ks ds) (h0 : Iv 0 ρ M) (hk : ∀ i ρ' M', Iv i ρ' M' → ∀ k ∈ ks, M'[k]? = M[k]?) (hm0 : c.m ≤ M.length) (hml : ∀ i ρ' M', Iv i ρ' M' → M.length ≤ M'.length)
    (hs : ∀ i d ρ' M', ds[i]? = some d → Iv i ρ' M' → ∃ ρ2 js, EG c ρ' tg (.val d) ρ2 js ∧ ES { c with m := M.length } ρ2 M' body { nx := fun ρ3 M3 => ∃ ρ4, Wk ρ3 ρ4 ∧ Iv (i + 1) ρ4 M3, ct := fun ρ3 M3 => ∃ ρ4, Wk ρ3 ρ4 ∧ Iv (i + 1) ρ4 M3, bk := fun ρ3 M3 => ES c ρ3 M3 rest D0, rt := D0.rt })
    (hd : ∀ ρ' M', Iv ds.length ρ' M' → ES c ρ' M' rest D0) (hf : ∀ (env : Env) x, foldedSetIterable iter env x = pure x := by intro _ _; rfl) : ES c ρ M (.For tg iter body [] pos :: rest) D0 := fun X hX F As B σ H E sr hm hb pb ends => by
  have hX' : ({ c with m := M.length } : Ctx).Is X := by
    cases hX with
    | mk X k0 m0 nd calm room po => exact .mk X k0 M.length nd calm room po
  have hXc := hX
  cases hX with
  | mk X k0 m0 nd calm room po =>
    refine ws_cons (ps_for po calm pi_w pg_w pss_w (hf _)) (hi X hXc F As σ H sr hm _ fun J F1 H1 s1 hm1 it => ?_)
    obtain ⟨Gd, Y, W, hG, hY⟩ := it.ex
    refine for_it (g := WG X tg) (tb := WS X body) (D := { E with nx := WS X rest E }) W (fun i σ' H' => ∃ F' As' ρ' M', Same F1 F' ∧ As <+: As' ∧ SR X.K F' As' ρ' σ' ∧ HM X.K F' As' M' H' ∧ Iv i ρ' M') ?_ ?_ ?_ ?_
    · exact ⟨F1, As, ρ, M, Same.refl _, List.prefix_refl _, sr.mono s1 (List.prefix_refl _), hm1, h0⟩
    · rintro i σ' H' _ ⟨F', As', ρ', M', s', p', sr', hm', iv⟩
      exact hG F' As' M' H' s' p' hm' (hk i ρ' M' iv)
    · rintro i x σ' H' H'' hlt ⟨F', As', ρ', M', s', p', sr', hm', iv⟩ y
      have hdi : ds[i]? = some ds[i] := List.getElem?_eq_getElem hlt
      obtain ⟨F2, s2, hm2, dv⟩ := hY i ds[i] F' As' M' H' x H'' hdi s' p' hm' (hk i ρ' M' iv) y
      obtain ⟨ρ2, js, hg, hbody⟩ := hs i ds[i] ρ' M' hdi iv
      refine hg X hXc F2 As' σ' H'' x (sr'.mono s2 (List.prefix_refl _)) hm2.same dv _ fun σ2 sr2 _ _ => ?_
      refine hbody X hX' F2 As' As σ2 H'' _ sr2 hm2 hm1.len p' ⟨fun F3 As3 ρ3 M3 σ3 H3 s3 p3 sr3 hm3 ⟨ρ4, w, iv3⟩ => ?_, fun F3 As3 r v M3 H3 s3 p3 r3 hm3 k => ?_, fun F3 As3 ρ3 M3 σ3 H3 s3 p3 sr3 hm3 k => ?_, fun F3 As3 ρ3 M3 σ3 H3 s3 p3 sr3 hm3 ⟨ρ4, w, iv3⟩ => ?_⟩
      · exact ⟨F3, As3, ρ4, M3, (s'.trans s2).trans s3, p3, sr3.weak w.weak, hm3, iv3⟩
      · exact ends.rt F3 As3 r v M3 H3 (((s1.trans s').trans s2).trans s3) (pb.trans p3) r3 hm3 k
      · exact k X hXc F3 As3 B σ3 H3 E sr3 hm3 hb (pb.trans p3) (ends.mono (((s1.trans s').trans s2).trans s3) (List.prefix_refl _))
      · exact ⟨F3, As3, ρ4, M3, (s'.trans s2).trans s3, p3, sr3.weak w.weak, hm3, iv3⟩
    · rintro σ' H' ⟨F', As', ρ', M', s', p', sr', hm', iv⟩
      exact hd ρ' M' iv X hXc F' As' B σ' H' E sr' hm' hb (pb.trans p') (ends.mono (s1.trans s') (List.prefix_refl _))
/-- while e: body -/
theorem es_while {body : List Stmt} (Iv : Nat → List Sl → List C → Prop) (n : Nat) (h0 : Iv n ρ M) (hm0 : c.m ≤ M.length)
    (hs : ∀ n ρ' M', Iv n ρ' M' → ∃ t, ET c ρ' M' e t ∧ (t = true → ES { c with m := M.length } ρ' M' body { nx := fun ρ3 M3 => ∃ ρ4 n', Wk ρ3 ρ4 ∧ n' < n ∧ Iv n' ρ4 M3, ct := fun ρ3 M3 => ∃ ρ4 n', Wk ρ3 ρ4 ∧ n' < n ∧ Iv n' ρ4 M3, bk := fun ρ3 M3 => ES c ρ3 M3 rest D0, rt := D0.rt }) ∧ (t = false → ES c ρ' M' rest D0)) :
    ES c ρ M (.While e body [] pos :: rest) D0 := fun X hX F As B σ H E sr hm hb pb ends => by
  have hX' : ({ c with m := M.length } : Ctx).Is X := by
    cases hX with
    | mk X k0 m0 nd calm room po => exact .mk X k0 M.length nd calm room po
  have hXc := hX
  cases hX with
  | mk X k0 m0 nd calm room po =>
    refine ws_cons (ps_while po pt_w pss_w) ?_
    refine ⟨fun n σ' H' => ∃ F' As' ρ' M', Same F F' ∧ As <+: As' ∧ SR X.K F' As' ρ' σ' ∧ HM X.K F' As' M' H' ∧ Iv n ρ' M', ⟨n, F, As, ρ, M, Same.refl _, List.prefix_refl _, sr, hm, h0⟩, ?_⟩
    rintro n σ' H' ⟨F', As', ρ', M', s', p', sr', hm', iv⟩
    obtain ⟨t, ht, h1, h2⟩ := hs n ρ' M' iv
    refine ht X hXc F' As' σ' H' sr' hm' _ fun F2 H2 s2 hm2 => ?_
    cases t with
    | false => exact h2 rfl X hXc F2 As' B σ' H2 E (sr'.mono s2 (List.prefix_refl _)) hm2 hb (pb.trans p') (ends.mono (s'.trans s2) (List.prefix_refl _))
    | true =>
      refine ⟨fun σ3 H3 => ∃ n', n' < n ∧ ∃ F' As' ρ' M', Same F F' ∧ As <+: As' ∧ SR X.K F' As' ρ' σ3 ∧ HM X.K F' As' M' H3 ∧ Iv n' ρ' M', fun σ3 H3 ⟨n', h, z⟩ => ⟨n', h, z⟩, ?_⟩
      refine h1 rfl X hX' F2 As' As σ' H2 _ (sr'.mono s2 (List.prefix_refl _)) hm2 hm.len p' ⟨fun F3 As3 ρ3 M3 σ3 H3 s3 p3 sr3 hm3 ⟨ρ4, n', w, hn, iv3⟩ => ?_, fun F3 As3 r v M3 H3 s3 p3 r3 hm3 k => ?_, fun F3 As3 ρ3 M3 σ3 H3 s3 p3 sr3 hm3 k => ?_, fun F3 As3 ρ3 M3 σ3 H3 s3 p3 sr3 hm3 ⟨ρ4, n', w, hn, iv3⟩ => ?_⟩
      · exact ⟨n', hn, F3, As3, ρ4, M3, (s'.trans s2).trans s3, p3, sr3.weak w.weak, hm3, iv3⟩
      · exact ends.rt F3 As3 r v M3 H3 ((s'.trans s2).trans s3) (pb.trans p3) r3 hm3 k
      · exact k X hXc F3 As3 B σ3 H3 E sr3 hm3 hb (pb.trans p3) (ends.mono ((s'.trans s2).trans s3) (List.prefix_refl _))
      · exact ⟨n', hn, F3, As3, ρ4, M3, (s'.trans s2).trans s3, p3, sr3.weak w.weak, hm3, iv3⟩
end
end Dl

/-! DL7: a def's entry; methods of lists; stores -/
namespace Dl
open PySem L2
/-! ### from a body to a promise -/
section
variable {P : Program} {w : World} {K : PySem.W.Frag} {mg : Str → Option Value} {base : Heap}
/-- the context of a def's body -/
abbrev ctxOf (P : Program) (w : World) (K : PySem.W.Frag) (mg : Str → Option Value) (base : Heap) (N : List Str) (st : Stmt) (k m : Nat) : Ctx := ⟨P, w, K, mg, base, N, defScope st, fun _ => true, k, m⟩
def rho (N : List Str) (rs : List Sl) : List Sl := rs ++ List.replicate (N.length - rs.length) .un
theorem sr_start {F : Hp} {As : List Addr} {N : List Str} {rs : List Sl} {vs : List V} (h : SlRs K F As rs vs) : SR K F As (rho N rs) (L2.start N vs) := by
  have hl := Paired.length h
  have get : ∀ (i : Nat) (r : Sl), (rho N rs)[i]? = some r → r ≠ .un → ∃ v, (L2.start N vs)[i]? = some (some v) ∧ SlR K F As r v := fun i r e hr => by
    unfold rho at e
    unfold L2.start
    by_cases hi : i < rs.length
    · rw [List.getElem?_append_left hi] at e
      obtain ⟨v, h1, h2⟩ := paired_get h e
      rw [List.getElem?_append_left (by simp; omega), List.getElem?_map, h1]
      exact ⟨v, rfl, h2⟩
    · rw [List.getElem?_append_right (by omega)] at e
      have := List.mem_of_getElem? e
      exact absurd (List.eq_of_mem_replicate this) hr
  exact ⟨by simp [rho, L2.start, hl], fun i d e z => get i _ e z⟩
/-- the wanted ends -/
def Gives (d : D) (r : Sl) (M : List C) : Prop := r = .val d ∨ ∃ k ds, r = .own k ∧ M[k]? = some (.lst ds) ∧ d = .lst ds
theorem Gives.dv {F : Hp} {As : List Addr} {M : List C} {H : Hp} {d : D} {r : Sl} {v : V} (g : Gives d r M) (hm : HM K F As M H) (hr : SlR K F As r v) : DV K H d v := by
  rcases g with rfl | ⟨k, ds, rfl, h, rfl⟩
  · exact DV.mono hm.same hr
  · obtain ⟨a, vs, rfl, h1, h2⟩ := (SqS.own h).get hm hr
    exact ⟨a, vs, rfl, h2, h1.mono hm.same⟩
variable {x qual : Str} {st : Stmt} {f : Addr} {fd : FuncData} {N ps : List Str} {k : Nat}
theorem okV {R : List D → D → Prop} (Fn : Fun K x qual st f fd) (S : FnScope N ps (defScope st)) (hlen : ∀ ds d, R ds d → ds.length = ps.length)
    (h : ∀ ds d, R ds d → ES (ctxOf P w K mg base N st k 0) (rho N (ds.map .val)) [] (defBody st) { nx := fun _ _ => d = .non, rt := Gives d }) : FnOk P w K mg base CX0 (k + 1) f fd ps (spV K R) := by
  refine Fn.ok S (fun vs H Q E ⟨ds, d, h1, h2, _⟩ => by rw [← h1.length]; exact hlen ds d h2) fun cdv A outer s H vs Q E hr ⟨ds, d, h1, h2, h3⟩ => ?_
  refine h ds d h2 _ (.mk (cxOf CX0 P w K mg base N qual (defScope st) f cdv A outer s H E).nox k 0 S.nd rfl hr PassesOwn.never) H [] [] (L2.start N vs) H _ (sr_start (vals_slrs h1)) ⟨.nil, rfl, fun i a c e => by simp at e, fun a h => (nomatch h), fun _ _ => rfl⟩ rfl (List.prefix_refl _)
    ⟨fun F' As' ρ' M' σ' H' s' p' sr' hm' z => ?_, fun F' As' r v M' H' s' p' r' hm' z => ?_, fun _ _ _ _ _ _ _ _ _ _ z => z.elim, fun _ _ _ _ _ _ _ _ _ _ z => z.elim⟩
  · have z : d = .non := z
    subst z
    exact h3 _ _ (s'.trans hm'.same) rfl
  · exact h3 _ _ (s'.trans hm'.same) (Gives.dv z hm' r')
theorem okN {R : List D → List D → Prop} (Fn : Fun K x qual st f fd) (S : FnScope N ps (defScope st)) (hlen : ∀ ds d, R ds d → ds.length = ps.length)
    (h : ∀ ds rs, R ds rs → ES (ctxOf P w K mg base N st k 0) (rho N (ds.map .val)) [] (defBody st) { nx := fun _ _ => False, rt := fun r M => ∃ k, r = .own k ∧ M[k]? = some (.lst rs) }) : FnOk P w K mg base CX0 (k + 1) f fd ps (spN K R) := by
  refine Fn.ok S (fun vs H Q E ⟨ds, d, h1, h2, _⟩ => by rw [← h1.length]; exact hlen ds d h2) fun cdv A outer s H vs Q E hr ⟨ds, rs, h1, h2, h3⟩ => ?_
  refine h ds rs h2 _ (.mk (cxOf CX0 P w K mg base N qual (defScope st) f cdv A outer s H E).nox k 0 S.nd rfl hr PassesOwn.never) H [] [] (L2.start N vs) H _ (sr_start (vals_slrs h1)) ⟨.nil, rfl, fun i a c e => by simp at e, fun a h => (nomatch h), fun _ _ => rfl⟩ rfl (List.prefix_refl _)
    ⟨fun F' As' ρ' M' σ' H' s' p' sr' hm' z => False.elim z, fun F' As' r v M' H' s' p' r' hm' z => ?_, fun _ _ _ _ _ _ _ _ _ _ z => z.elim, fun _ _ _ _ _ _ _ _ _ _ z => z.elim⟩
  obtain ⟨j, rfl, hj⟩ := z
  obtain ⟨a, ha, rfl⟩ := r'
  obtain ⟨o, ho, ws, rfl, hw⟩ := hm'.cell j a _ ha hj
  have fa : F' a = none := hm'.off a (List.mem_iff_getElem?.mpr ⟨j, ha⟩)
  have sd : Same F' (del H' a) := fun b o e => by
    rw [del_ne (ne_of_none e fa)]; exact hm'.same b o e
  have := h3 a (del H' a) ws (s'.trans sd) del_same (hw.mono sd)
  have e : upd (del H' a) a (.lst ws) = H' := by
    funext b
    by_cases hb : b = a
    · subst hb; rw [upd_same]; exact ho.symm
    · rw [upd_ne hb, del_ne hb]
  rw [e] at this; exact this
/-- how a def with a box ends -/
def GivesB (R : D → Bx → Prop) (r : Sl) (M : List C) : Prop := ∃ d s', R d s' ∧ M[0]? = some (.lst (boxD s')) ∧ (r = .val d ∨ ∃ k ds, r = .own (k + 1) ∧ M[k + 1]? = some (.lst ds) ∧ d = .lst ds)
theorem okB {Pre : Bx → List D → Prop} {R : Bx → List D → D → Bx → Prop} (Fn : Fun K x qual st f fd) (S : FnScope N ps (defScope st)) (hlen : ∀ s ds, Pre s ds → ds.length + 1 = ps.length)
    (h : ∀ s ds, Pre s ds → ES (ctxOf P w K mg base N st k 1) (rho N (.own 0 :: ds.map .val)) [.lst (boxD s)] (defBody st) { nx := fun _ M => GivesB (R s ds) (.val .non) M, rt := GivesB (R s ds) }) :
    FnOk P w K mg base CX0 (k + 1) f fd ps (spB K Pre R) := by
  refine Fn.ok S (fun vs H Q E ⟨b, F, s0, ds, us, e, _, _, h1, h2, _⟩ => by subst e; rw [← hlen _ _ h2, h1.length]; rfl) fun cdv A outer s H vs Q E hr ⟨b, F, s0, ds, us, e, fb, eH, h1, h2, h3⟩ => ?_
  subst e; subst eH
  have hm0 : HM K F [b] [.lst (boxD s0)] (upd F b (boxO s0)) := ⟨by simp, rfl, fun i a c e1 e2 => by
      cases i with
      | zero =>
        simp at e1 e2
        subst e1; subst e2
        exact ⟨_, upd_same, box_cr.mpr rfl⟩
      | succ i => simp at e1, fun a ha => by
      have : a = b := by simpa using ha
      subst this; exact fb, fun a ha => by
      have : a ≠ b := by simpa using ha
      rw [upd_ne this]⟩
  have back : ∀ {F' : Hp} {As' : List Addr} {M' : List C} {H' : Hp} {s1 : Bx}, HM K F' As' M' H' → [b] <+: As' → M'[0]? = some (.lst (boxD s1)) → Same F' (del H' b) ∧ upd (del H' b) b (boxO s1) = H' := fun {F' As' M' H' s1} hm' p' hM => by
    have h0 : As'[0]? = some b := pfx_get p' (k := 0) rfl
    obtain ⟨o, ho, hc⟩ := hm'.cell 0 b _ h0 hM
    have := box_cr.mp hc
    subst this
    have fb' : F' b = none := hm'.off b (List.mem_iff_getElem?.mpr ⟨0, h0⟩)
    refine ⟨fun c o e => by rw [del_ne (ne_of_none e fb')]; exact hm'.same c o e, ?_⟩
    funext c
    by_cases hb : c = b
    · subst hb; rw [upd_same]; exact ho.symm
    · rw [upd_ne hb, del_ne hb]
  have fin : ∀ {F' : Hp} {As' : List Addr} {r : Sl} {v : V} {M' : List C} {H' : Hp}, Same F F' → [b] <+: As' → SlR K F' As' r v → HM K F' As' M' H' → GivesB (R s0 ds) r M' → Q v H' := fun {F' As' r v M' H'} s' p' r' hm' ⟨d, s1, hR, z1, z2⟩ => by
    obtain ⟨sd, e⟩ := back hm' p' z1
    have := h3 d s1 v (del H' b) hR (s'.trans sd) del_same (by
      rcases z2 with rfl | ⟨j, ds', rfl, hj, rfl⟩
      · exact DV.mono sd r'
      · obtain ⟨a, ha, rfl⟩ := r'
        obtain ⟨o, ho, ws, rfl, hw⟩ := hm'.cell (j + 1) a _ ha hj
        have nab : a ≠ b := fun z => by
          subst z
          have h0 : As'[0]? = some a := pfx_get p' (k := 0) rfl
          obtain ⟨q1, e1⟩ := List.getElem?_eq_some_iff.mp h0
          obtain ⟨q2, e2⟩ := List.getElem?_eq_some_iff.mp ha
          have := (List.getElem_inj hm'.nd).mp (e1.trans e2.symm)
          omega
        exact ⟨a, ws, rfl, by rw [del_ne nab]; exact ho, hw.mono sd⟩)
    rw [e] at this; exact this
  refine h s0 ds h2 _ (.mk (cxOf CX0 P w K mg base N qual (defScope st) f cdv A outer s (upd F b (boxO s0)) E).nox k 1 S.nd rfl hr PassesOwn.never) F [b] [b] (L2.start N (.ref b :: us)) _ _ (sr_start (.cons ⟨b, rfl, rfl⟩ (vals_slrs h1))) hm0 rfl (List.prefix_refl _)
    ⟨fun F' As' ρ' M' σ' H' s' p' sr' hm' z => fin (r := .val .non) s' p' rfl hm' z, fun F' As' r v M' H' s' p' r' hm' z => fin s' p' r' hm' z, fun _ _ _ _ _ _ _ _ _ _ z => z.elim, fun _ _ _ _ _ _ _ _ _ _ z => z.elim⟩
end
section
variable {c : Ctx} {ρ : List Sl} {M : List C} {a b e o tg iter elt : Expr} {pos p1 p2 p3 apos : Pos} {D0 : DE} {rest : List Stmt}
/-- xs.append(e) -/
theorem ee_append {j : Nat} {ds : List D} {d : D} {Q : Sl → List C → Prop} (ho : Er c ρ M o (.own j)) (hj : M[j]? = some (.lst ds)) (ha : Ev c ρ M e d) (hz : ds.length < 100000) (q : Q (.val .non) (M.set j (.lst (ds ++ [d]))))
    (hbase : ∀ env, attributeBase o "append" env (eval o env) = eval o env := by intro _; rfl) (hline : (apos.endLine == pos.line) = true := by rfl) (hs : ∀ env, starEach [e] env = (false, eval e env) :: starEach [] env := by intro _; rfl)
    (hfew : ∀ env, ((backTo pos (starEach [e] env)).all (fun x => !x.1) && (backToKw pos (keywordEach [] env)).all (fun x => x.1.isSome) && decide (([e] : List Expr).length + ([] : List Keyword).length + (if ([] : List Keyword).isEmpty then 0 else 1) < 30)) = true := by intro _; rfl) :
    EE c ρ M (.Call (.Attribute o "append" apos) [e] [] pos) Q := fun X hX F As σ H sr hm G k => by
  cases hX with
  | mk X k0 m0 nd calm room po =>
    refine ⟨_, pe_bm PySem.F.plainAttrs_list PySem.F.slot_list_append PySem.F.type_list_append mt_append pe_w (pa_cons pe_w pa_nil (hs _)) (hbase _) (hfew _) hline (hs _), ?_⟩
    refine ho X (.mk X k0 m0 nd calm room po) F As σ H sr hm _ fun v F1 H1 s1 r1 hm1 => ?_
    obtain ⟨l, hl, rfl⟩ := r1
    obtain ⟨ob, hob, vs, rfl, hv⟩ := hm1.cell j l _ hl hj
    refine ⟨.inl ⟨rfl, vs, .inl (.inl hob)⟩, ha X (.mk X k0 m0 nd calm room po) F1 As σ H1 (sr.mono s1 (List.prefix_refl _)) hm1 _ fun y F2 H2 s2 r2 hm2 => ?_⟩
    obtain ⟨ob, hob, vs, rfl, hv⟩ := hm2.cell j l _ hl hj
    refine ⟨l, vs, y, rfl, rfl, hob, ?_, ?_⟩
    · rw [← hv.length]; exact Nat.lt_of_lt_of_le hz (by decide)
    · exact k _ F2 As _ (.val .non) _ (s1.trans s2) (List.prefix_refl _) rfl (hm2.set (c := .lst (ds ++ [d])) hl ⟨_, rfl, dvs_paired.mpr (paired_append (dvs_paired.mp hv) (.cons r2 .nil))⟩) q
/-- xs.extend(ys) -/
theorem ee_extend {j : Nat} {ds ds2 : List D} {s : Sl} {Q : Sl → List C → Prop} (ho : Er c ρ M o (.own j)) (hj : M[j]? = some (.lst ds)) (ha : Er c ρ M e s) (hz : ds.length + ds2.length < 100000) (q : Q (.val .non) (M.set j (.lst (ds ++ ds2)))) (q2 : SqS M s true ds2 := by first | exact SqS.lst | exact SqS.tup | exact SqS.own rfl)
    (hbase : ∀ env, attributeBase o "extend" env (eval o env) = eval o env := by intro _; rfl) (hline : (apos.endLine == pos.line) = true := by rfl) (hs : ∀ env, starEach [e] env = (false, eval e env) :: starEach [] env := by intro _; rfl)
    (hfew : ∀ env, ((backTo pos (starEach [e] env)).all (fun x => !x.1) && (backToKw pos (keywordEach [] env)).all (fun x => x.1.isSome) && decide (([e] : List Expr).length + ([] : List Keyword).length + (if ([] : List Keyword).isEmpty then 0 else 1) < 30)) = true := by intro _; rfl) :
    EE c ρ M (.Call (.Attribute o "extend" apos) [e] [] pos) Q := fun X hX F As σ H sr hm G k => by
  cases hX with
  | mk X k0 m0 nd calm room po =>
    refine ⟨_, pe_bm PySem.F.plainAttrs_list PySem.F.slot_list_extend PySem.F.type_list_extend mt_extend pe_w (pa_cons pe_w pa_nil (hs _)) (hbase _) (hfew _) hline (hs _), ?_⟩
    refine ho X (.mk X k0 m0 nd calm room po) F As σ H sr hm _ fun v F1 H1 s1 r1 hm1 => ?_
    obtain ⟨l, hl, rfl⟩ := r1
    obtain ⟨ob, hob, vs, rfl, hv⟩ := hm1.cell j l _ hl hj
    refine ⟨.inl ⟨rfl, vs, .inl (.inl hob)⟩, ha X (.mk X k0 m0 nd calm room po) F1 As σ H1 (sr.mono s1 (List.prefix_refl _)) hm1 _ fun y F2 H2 s2 r2 hm2 => ?_⟩
    obtain ⟨ob, hob, vs, rfl, hv⟩ := hm2.cell j l _ hl hj
    obtain ⟨b, ws, rfl, hw, hb⟩ := q2.get hm2 r2
    refine ⟨l, b, vs, ws, rfl, rfl, hob, hb, ?_, ?_⟩
    · rw [← hv.length, ← hw.length]; exact Nat.le_trans (Nat.le_of_lt hz) (by decide)
    · exact k _ F2 As _ (.val .non) _ (s1.trans s2) (List.prefix_refl _) rfl (hm2.set (c := .lst (ds ++ ds2)) hl ⟨_, rfl, dvs_paired.mpr (paired_append (dvs_paired.mp hv) (dvs_paired.mp hw))⟩) q
/-- xs.pop() -/
theorem ee_pop {j : Nat} {ds : List D} {d : D} {Q : Sl → List C → Prop} (ho : Er c ρ M o (.own j)) (hj : M[j]? = some (.lst (ds ++ [d]))) (q : Q (.val d) (M.set j (.lst ds)))
    (hbase : ∀ env, attributeBase o "pop" env (eval o env) = eval o env := by intro _; rfl) (hline : (apos.endLine == pos.line) = true := by rfl) :
    EE c ρ M (.Call (.Attribute o "pop" apos) [] [] pos) Q := fun X hX F As σ H sr hm G k => by
  cases hX with
  | mk X k0 m0 nd calm room po =>
    refine ⟨_, pe_bm0 PySem.F.plainAttrs_list PySem.F.slot_list_pop PySem.F.type_list_pop mt_pop pe_w (hbase _) hline, ?_⟩
    refine ho X (.mk X k0 m0 nd calm room po) F As σ H sr hm _ fun v F1 H1 s1 r1 hm1 => ?_
    obtain ⟨l, hl, rfl⟩ := r1
    obtain ⟨ob, hob, vs, rfl, hv⟩ := hm1.cell j l _ hl hj
    have hln := hv.length
    obtain ⟨v, h1, h2⟩ := hv.get (i := ds.length) (d := d) (by simp)
    refine ⟨.inl ⟨rfl, vs, .inl (.inl hob)⟩, l, vs, v, rfl, rfl, hob, ?_, ?_⟩
    · rw [← h1]; congr 1; simp at hln; omega
    · refine k _ F1 As _ (.val d) _ s1 (List.prefix_refl _) h2 (hm1.set (c := .lst ds) hl ⟨_, rfl, ?_⟩) q
      have e : vs = vs.dropLast ++ [v] := by
        have hne : vs ≠ [] := fun z => by subst z; simp at hln
        have hg : vs.getLast hne = v := by
          rw [List.getLast_eq_getElem]
          have := List.getElem?_eq_some_iff.mp h1
          obtain ⟨q1, q2⟩ := this
          rw [← q2]; congr 1; simp at hln; omega
        rw [← hg]; exact (List.dropLast_concat_getLast hne).symm
      rw [e] at hv
      clear h1 h2 hln hob e
      generalize vs.dropLast = us at hv ⊢
      have hp := dvs_paired.mp hv
      refine dvs_paired.mpr ?_
      clear hv hj q
      induction ds generalizing us with
      | nil =>
        cases us with
        | nil => exact .nil
        | cons u us =>
          cases hp with
          | cons h1 h2 => 
            have := Paired.length h2
            simp at this
      | cons d1 ds ih =>
        cases us with
        | nil =>
          cases hp with
          | cons h1 h2 =>
            have := Paired.length h2
            simp at this
        | cons u us =>
          cases hp with
          | cons h1 h2 => exact .cons h1 (ih us h2)
/-- xs[i] = e -/
theorem es_setL {j n : Nat} {ds : List D} {d : D} {i : Int} (he : Ev c ρ M e d) (ho : Er c ρ M o (.own j)) (hj : M[j]? = some (.lst ds)) (hi : Ev c ρ M a (.int i)) (hn : ixN ds.length i = some n) (k : ES c ρ (M.set j (.lst (ds.set n d))) rest D0)
    (hs : ∀ env : Env, swapsWithSole [.Subscript o a p1] e pos.line env = pure false := by intro _; rfl) (hw : ∀ env : Env, swappedStores [.Subscript o a p1] e env = pure none := by (intro _; rfl)) (h1 : ∀ env : Env, (assignEach [.Subscript o a p1] env).map (·.2) = [assign (.Subscript o a p1) env] := by intro _; rfl)
    (has : ∀ (env : Env) v, assign (.Subscript o a p1) env v = (do
      let ov ← holding [v] (eval o env)
      let iv ← holding [v, ov] (eval a env)
      standAt p1
      holding [v, ov, iv] (setItem ov iv v)
      release [v, ov, iv] []) := by intro _ _; rfl) : ES c ρ M (.Assign [.Subscript o a p1] e pos :: rest) D0 := fun X hX F As B σ H E sr hm hb pb ends => by
  have hX' := hX
  cases hX with
  | mk X k0 m0 nd calm room po =>
    refine ws_cons (ps_asg pe_w (pg_sub pe_w pe_w set_list (has _)) (hs _) (hw _) (h1 _)) (he X hX' F As σ H sr hm _ fun v F1 H1 s1 r1 hm1 => ?_)
    refine ho X hX' F1 As σ H1 (sr.mono s1 (List.prefix_refl _)) hm1 _ fun u F2 H2 s2 r2 hm2 => hi X hX' F2 As σ H2 (sr.mono (s1.trans s2) (List.prefix_refl _)) hm2 _ fun y F3 H3 s3 r3 hm3 => ?_
    obtain ⟨l, hl, rfl⟩ := r2
    obtain ⟨ob, hob, vs, rfl, hv⟩ := hm3.cell j l _ hl hj
    refine ⟨l, vs, i, n, rfl, r3, hob, by rw [← hv.length]; exact hn, ?_⟩
    exact k X hX' F3 As B σ _ E (sr.mono ((s1.trans s2).trans s3) (List.prefix_refl _)) (hm3.set (c := .lst (ds.set n d)) hl ⟨_, rfl, dvs_paired.mpr (paired_set (R := fun d v => DV X.K F3 d v) (DV.mono (s2.trans s3) r1) n (dvs_paired.mp hv))⟩) hb pb (ends.mono ((s1.trans s2).trans s3) (List.prefix_refl _))
end
end Dl

/-! DL8: more expressions -/
namespace Dl
open PySem L2
section
variable {c : Ctx} {ρ : List Sl} {M : List C} {a b e o tg iter elt : Expr} {pos p1 p2 p3 p4 apos : Pos} {D0 : DE} {rest : List Stmt}
/-! ### tests and operators whose sides change cells -/
def GT (c : Ctx) (ρ : List Sl) (M : List C) (e : Expr) (Q : Bool → List C → Prop) : Prop := ∀ X, c.Is X → ∀ F As σ H, SR c.K F As ρ σ → HM c.K F As M H → ∀ G : Bool → Hp → Prop, (∀ t F' As' H' M', Same F F' → As <+: As' → HM c.K F' As' M' H' → Q t M' → G t H') → WT X e σ H G
theorem ET.gt {t : Bool} {Q : Bool → List C → Prop} (h : ET c ρ M e t) (q : Q t M) : GT c ρ M e Q := fun X hX F As σ H sr hm G k => h X hX F As σ H sr hm G fun F' H' s hm' => k t F' As H' M s (List.prefix_refl _) hm' q
theorem opR_any {X : Cx} {f : Value → Value → Sem Value} : OpR X f fun x y H' G' => ∃ r, OpR X f r ∧ r x y H' G' := fun pins s σ' H' x y v u Q' I rx ry ⟨r, hr, q⟩ => hr pins s σ' H' x y v u Q' I rx ry q
theorem gt_cmp {op : CmpOp} {Q : Bool → List C → Prop} (ha : EE c ρ M a fun r1 M1 => EE c ρ M1 b fun r2 M2 => ∃ t, OpX c M2 (compareOp op) r1 r2 (.bl t) ∧ Q t M2) (hk : behindInMarks op b = false := by first | exact nomark _ | rfl) : GT c ρ M (.Compare a [op] [b] pos) Q := fun X hX F As σ H sr hm G k => by
  refine ⟨_, pt_cmpR opR_any pe_w pe_w hk, ?_⟩
  refine ha X hX F As σ H sr hm _ fun x F1 As1 H1 r1 M1 s1 p1 q1 hm1 hq => hq X hX F1 As1 σ H1 (sr.mono s1 p1) hm1 _ fun y F2 As2 H2 r2 M2 s2 p2 q2 hm2 hq2 => ?_
  obtain ⟨t, o, q⟩ := hq2
  obtain ⟨r, hr, h⟩ := o.run X hX
  exact ⟨r, hr, h F2 As2 H2 x y (q1.mono s2 p2) q2 hm2 _ fun v F3 H3 s3 dv hm3 => ⟨t, dv, k t F3 As2 H3 M2 ((s1.trans s2).trans s3) (p1.trans p2) hm3 q⟩⟩
theorem ee_cmp {op : CmpOp} {Q : Sl → List C → Prop} (ha : EE c ρ M a fun r1 M1 => EE c ρ M1 b fun r2 M2 => ∃ t, OpX c M2 (compareOp op) r1 r2 (.bl t) ∧ Q (.val (.bl t)) M2) (hk : behindInMarks op b = false := by first | exact nomark _ | rfl) : EE c ρ M (.Compare a [op] [b] pos) Q := fun X hX F As σ H sr hm G k => by
  refine ⟨_, pe_cmpR opR_any pe_w pe_w hk, ?_⟩
  refine ha X hX F As σ H sr hm _ fun x F1 As1 H1 r1 M1 s1 p1 q1 hm1 hq => hq X hX F1 As1 σ H1 (sr.mono s1 p1) hm1 _ fun y F2 As2 H2 r2 M2 s2 p2 q2 hm2 hq2 => ?_
  obtain ⟨t, o, q⟩ := hq2
  obtain ⟨r, hr, h⟩ := o.run X hX
  exact ⟨r, hr, h F2 As2 H2 x y (q1.mono s2 p2) q2 hm2 _ fun v F3 H3 s3 dv hm3 => k v F3 As2 H3 (.val (.bl t)) M2 ((s1.trans s2).trans s3) (p1.trans p2) dv hm3 q⟩
theorem ee_ifG {Q : Sl → List C → Prop} {e3 : Expr} (hc : GT c ρ M e3 fun t M1 => (t = true → EE c ρ M1 a Q) ∧ (t = false → EE c ρ M1 b Q)) : EE c ρ M (.IfExp e3 a b pos) Q := fun X hX F As σ H sr hm G k =>
  ⟨_, pe_ifExp pt_w pe_w pe_w, hc X hX F As σ H sr hm _ fun t F1 As1 H1 M1 s1 p1 hm1 ⟨h1, h2⟩ => by
    cases t with
    | true => exact h1 rfl X hX F1 As1 σ H1 (sr.mono s1 p1) hm1 _ fun v F2 As2 H2 r M2 s2 p2 => k v F2 As2 H2 r M2 (s1.trans s2) (p1.trans p2)
    | false => exact h2 rfl X hX F1 As1 σ H1 (sr.mono s1 p1) hm1 _ fun v F2 As2 H2 r M2 s2 p2 => k v F2 As2 H2 r M2 (s1.trans s2) (p1.trans p2)⟩
/-- if, the test changes cells -/
theorem es_ifG {s1 s2 : List Stmt} (ht : GT c ρ M e fun t M1 => (t = true → ES c ρ M1 s1 { D0 with nx := fun ρ' M' => ES c ρ' M' rest D0 }) ∧ (t = false → ES c ρ M1 s2 { D0 with nx := fun ρ' M' => ES c ρ' M' rest D0 })) : ES c ρ M (.If e s1 s2 pos :: rest) D0 := fun X hX F As B σ H E sr hm hb pb ends =>
  ws_cons (ps_if pt_w pss_w pss_w) (ht X hX F As σ H sr hm _ fun t F1 As1 H1 M1 sm p1 hm1 ⟨h1, h2⟩ => by
    have ends' := (ends.cons (rest := rest) hX hb).mono sm (List.prefix_refl _)
    cases t with
    | true => exact h1 rfl X hX F1 As1 B σ H1 _ (sr.mono sm p1) hm1 hb (pb.trans p1) ends'
    | false => exact h2 rfl X hX F1 As1 B σ H1 _ (sr.mono sm p1) hm1 hb (pb.trans p1) ends')
/-- a new list, then its value: the cell is frozen at once -/
theorem EvN.ee {ds : List D} {Q : Sl → List C → Prop} (h : EvN c ρ M e ds) (q : Q (.val (.lst ds)) M) : EE c ρ M e Q := (EvN.ev h).ee q
theorem ee_freeze {M1 : List C} {ds : List D} {Q : Sl → List C → Prop} (h : EE c ρ M e fun r M' => r = .own M1.length ∧ M' = M1 ++ [.lst ds]) (hl : M.length ≤ M1.length) (q : Q (.val (.lst ds)) M1) : EE c ρ M e Q := fun X hX F As σ H sr hm G k =>
  h X hX F As σ H sr hm G fun v F' As' H' r M' s p r1 hm' ⟨e1, e2⟩ => by
    subst e1; subst e2
    have hl' := hm'.len
    obtain ⟨As0, a, rfl⟩ : ∃ As0 a, As' = As0 ++ [a] := by
      have hne : As' ≠ [] := fun z => by subst z; simp at hl'
      exact ⟨As'.dropLast, As'.getLast hne, (List.dropLast_concat_getLast hne).symm⟩
    have hl0 : As0.length = M1.length := by simpa using hl'
    obtain ⟨a', h1, rfl⟩ := r1
    have : a' = a := by
      rw [← hl0] at h1
      simpa using h1.symm
    subst this
    obtain ⟨F2, s2, hm2, dv⟩ := hm'.freeze
    exact k _ F2 As0 H' (.val (.lst ds)) M1 (s.trans s2) (List.prefix_of_prefix_length_le p (List.prefix_append _ _) (by rw [hm.len]; omega)) dv hm2 q
/-- an operator that makes a list: the sides change cells -/
theorem ee_binN {op : Operator} {Q : Sl → List C → Prop} (ha : EE c ρ M a fun r1 M1 => EE c ρ M1 b fun r2 M2 => ∃ ds, OpN c M2 (binaryOp op) r1 r2 ds ∧ Q (.val (.lst ds)) M2) : EE c ρ M (.BinOp a op b pos) Q := fun X hX F As σ H sr hm G k => by
  refine ⟨_, pe_op opR_any pe_w pe_w, ?_⟩
  refine ha X hX F As σ H sr hm _ fun x F1 As1 H1 r1 M1 s1 p1 q1 hm1 hq => hq X hX F1 As1 σ H1 (sr.mono s1 p1) hm1 _ fun y F2 As2 H2 r2 M2 s2 p2 q2 hm2 hq2 => ?_
  obtain ⟨ds, o, q⟩ := hq2
  obtain ⟨r, hr, h⟩ := o.run X hX
  refine ⟨r, hr, h F2 As2 H2 x y (q1.mono s2 p2) q2 hm2 _ fun p vs hp hv => ?_⟩
  obtain ⟨_, fp⟩ := hm2.fresh hp
  exact k _ _ As2 _ (.val (.lst ds)) M2 ((s1.trans s2).trans (same_new fp)) (p1.trans p2) ⟨p, vs, rfl, upd_same, hv.mono (same_new fp)⟩ (hm2.laid hp) q

/-! ### list(range(..)) -/
theorem rgV_rng (i j : Int) : rgV i j = (rng i (j - i).toNat).map V.int := by
  unfold rgV rng
  rw [List.map_map]; rfl
theorem evn_listR1 {i : Int} (ha : Ev c ρ M a (.int i)) (hb : -100000 ≤ i ∧ i ≤ 100000) (hm1 : c.mg "list" = none) (hm2 : c.mg "range" = none) (hg1 : Glo c "list" := by rfl) (hg2 : Glo c "range" := by rfl) (hs : ∀ env, starEach [a] env = [(false, eval a env)] := by intro _; rfl) :
    EvN c ρ M (.Call (.Name "list" p1) [.Call (.Name "range" p2) [a] [] p3] [] pos) ((rng 0 i.toNat).map D.int) := fun X hX F As σ H sr hm G k => by
  cases hX with
  | mk X k0 m0 nd calm room po =>
    refine ⟨_, pe_listRg calm hg1 hm1 (prg_1 hg2 hm2 pe_w (hs _)), ?_⟩
    refine ha X (.mk X k0 m0 nd calm room po) F As σ H sr hm _ fun v F1 H1 s1 r1 hm1 => ?_
    refine ⟨i, r1, ⟨by omega, by omega, by omega, by omega, by omega⟩, fun q hq => evn_of hm1 hq (dvs_ints.mpr ?_) s1 k⟩
    rw [rgV_rng]; simp
theorem evn_listR2 {i j : Int} (ha : Ev c ρ M a (.int i)) (hb : Ev c ρ M b (.int j)) (hbd : -100000 ≤ i ∧ i ≤ 100000 ∧ -100000 ≤ j ∧ j ≤ 100000) (hm1 : c.mg "list" = none) (hm2 : c.mg "range" = none) (hg1 : Glo c "list" := by rfl) (hg2 : Glo c "range" := by rfl)
    (hs : ∀ env, starEach [a, b] env = (false, eval a env) :: starEach [b] env := by intro _; rfl) (hs2 : ∀ env, starEach [b] env = (false, eval b env) :: starEach [] env := by intro _; rfl) :
    EvN c ρ M (.Call (.Name "list" p1) [.Call (.Name "range" p2) [a, b] [] p3] [] pos) ((rng i (j - i).toNat).map D.int) := fun X hX F As σ H sr hm G k => by
  cases hX with
  | mk X k0 m0 nd calm room po =>
    refine ⟨_, pe_listRg calm hg1 hm1 (prg_2 hg2 hm2 pe_w pe_w (hs _) (hs2 _) (by rw [hs2]; rfl)), ?_⟩
    refine ha X (.mk X k0 m0 nd calm room po) F As σ H sr hm _ fun v F1 H1 s1 r1 hm1 => hb X (.mk X k0 m0 nd calm room po) F1 As σ H1 (sr.mono s1 (List.prefix_refl _)) hm1 _ fun u F2 H2 s2 r2 hm2 => ?_
    refine ⟨i, j, r1, r2, ⟨by omega, by omega, by omega, by omega, by omega⟩, fun q hq => evn_of hm2 hq (dvs_ints.mpr ?_) (s1.trans s2) k⟩
    rw [rgV_rng]

/-! ### == of data -/
mutual
def toPy : D → PyData
  | .non => .none
  | .bl b => .bool b
  | .int i => .int i
  | .str x => .str x
  | .lst xs => .list (toPys xs)
  | .tup xs => .tuple (toPys xs)
  | .dic _ _ => .none
  | .slo _ _ => .none
  | .obj _ _ _ => .none
  | .scr _ => .none
def toPys : List D → List PyData
  | [] => []
  | x :: xs => toPy x :: toPys xs
end
mutual
/-- data of lists and tuples, of depth at most n -/
def plain : Nat → D → Bool
  | _, .non => true
  | _, .bl _ => true
  | _, .int _ => true
  | _, .str x => PyData.strOk x
  | 0, .lst _ => false
  | 0, .tup _ => false
  | n + 1, .lst xs => decide (xs.length ≤ 1000) && plains n xs
  | n + 1, .tup xs => decide (xs.length ≤ 1000) && plains n xs
  | _, .dic _ _ => false
  | _, .slo _ _ => false
  | _, .obj _ _ _ => false
  | _, .scr _ => false
def plains : Nat → List D → Bool
  | _, [] => true
  | n, x :: xs => plain n x && plains n xs
end
end
mutual
theorem plain_mono : ∀ {n m : Nat} {d : D}, n ≤ m → plain n d = true → plain m d = true
  | _, _, .non, _, _ => by simp [plain]
  | _, _, .bl _, _, _ => by simp [plain]
  | _, _, .int _, _, _ => by simp [plain]
  | _, _, .str _, _, h => by simpa [plain] using h
  | 0, _, .lst _, _, h => by simp [plain] at h
  | 0, _, .tup _, _, h => by simp [plain] at h
  | n + 1, 0, .lst _, l, _ => by omega
  | n + 1, 0, .tup _, l, _ => by omega
  | n + 1, m + 1, .lst xs, l, h => by simp [plain] at h ⊢; exact ⟨h.1, plains_mono (by omega) h.2⟩
  | n + 1, m + 1, .tup xs, l, h => by simp [plain] at h ⊢; exact ⟨h.1, plains_mono (by omega) h.2⟩
  | _, _, .dic _ _, _, h => by simp [plain] at h
  | _, _, .slo _ _, _, h => by simp [plain] at h
  | _, _, .obj _ _ _, _, h => by simp [plain] at h
  | _, _, .scr _, _, h => by simp [plain] at h
theorem plains_mono : ∀ {n m : Nat} {ds : List D}, n ≤ m → plains n ds = true → plains m ds = true
  | _, _, [], _, _ => by simp [plains]
  | _, _, d :: ds, l, h => by
    simp [plains] at h ⊢
    exact ⟨plain_mono l h.1, plains_mono l h.2⟩
end
theorem plain_items {n : Nat} {xs : List D} (h : (decide (xs.length ≤ 1000) && plains n xs) = true) : plains n xs = true := (Bool.and_eq_true_iff.mp h).2
mutual
theorem dp_of {K : PySem.W.Frag} {F H : Hp} (e : Same F H) : ∀ {n : Nat} {d : D} {v : V}, plain n d = true → DV K F d v → Dp K H v (toPy d)
  | _, .non, _, _, h => by cases (show _ = V.non from h); exact .non
  | _, .bl b, _, _, h => by cases (show _ = V.bl b from h); exact .bl b
  | _, .int i, _, _, h => by cases (show _ = V.int i from h); exact .int i
  | _, .str x, _, _, h => by cases (show _ = V.str x from h); exact .str x
  | 0, .lst _, _, p, _ => by simp [plain] at p
  | 0, .tup _, _, p, _ => by simp [plain] at p
  | n + 1, .lst xs, _, p, ⟨a, vs, e1, h1, h2⟩ => by subst e1; exact .lst (.inl (.inl (e _ _ h1))) (dps_of e (plain_items p) h2)
  | n + 1, .tup xs, _, p, ⟨a, vs, e1, h1, h2⟩ => by subst e1; exact .tup (same_t e h1) (dps_of e (plain_items p) h2)
  | _, .dic _ _, _, p, _ => by simp [plain] at p
  | _, .slo _ _, _, p, _ => by simp [plain] at p
  | _, .obj _ _ _, _, p, _ => by simp [plain] at p
  | _, .scr _, _, p, _ => by simp [plain] at p
theorem dps_of {K : PySem.W.Frag} {F H : Hp} (e : Same F H) : ∀ {n : Nat} {ds : List D} {vs : List V}, plains n ds = true → DVs K F ds vs → DpAll K H vs (toPys ds)
  | _, [], vs, _, h => by cases (show vs = [] from h); exact .nil
  | n, d :: ds, _, p, ⟨v, r, e1, h1, h2⟩ => by
    subst e1
    simp [plains] at p
    exact .cons (dp_of e p.1 h1) (dps_of e p.2 h2)
end
mutual
theorem lay_of : ∀ {n : Nat} {d : D}, plain n d = true → (toPy d).canLay0 = true ∧ (toPy d).depth ≤ n
  | _, .non, _ => by simp [toPy, PyData.canLay0, PyData.depth]
  | _, .bl b, _ => by simp [toPy, PyData.canLay0, PyData.depth]
  | _, .int i, _ => by simp [toPy, PyData.canLay0, PyData.depth]
  | _, .str x, p => by simp [plain] at p; simp [toPy, PyData.canLay0, PyData.depth, p]
  | 0, .lst _, p => by simp [plain] at p
  | 0, .tup _, p => by simp [plain] at p
  | n + 1, .lst xs, p => by
    have := lays_of (n := n) (ds := xs) (plain_items p)
    simp [toPy, PyData.canLay0, PyData.depth, this]
  | n + 1, .tup xs, p => by
    have := lays_of (n := n) (ds := xs) (plain_items p)
    simp [toPy, PyData.canLay0, PyData.depth, this]
  | _, .dic _ _, p => by simp [plain] at p
  | _, .slo _ _, p => by simp [plain] at p
  | _, .obj _ _ _, p => by simp [plain] at p
  | _, .scr _, p => by simp [plain] at p
theorem lays_of : ∀ {n : Nat} {ds : List D}, plains n ds = true → PyData.canLayAll0 (toPys ds) = true ∧ PyData.depthAll (toPys ds) ≤ n
  | _, [], _ => by simp [toPys, PyData.canLayAll0, PyData.depthAll]
  | n, d :: ds, p => by
    simp [plains] at p
    have h1 := lay_of p.1
    have h2 := lays_of p.2
    simp [toPys, PyData.canLayAll0, PyData.depthAll, h1, h2]
    omega
end
theorem shaped_of {n : Nat} {d : D} (h : plain n d = true) (hn : n ≤ 64) : SeqAt.shaped (toPy d) = true := by
  have := lay_of h
  unfold SeqAt.shaped
  rw [this.1]
  simp
  omega
theorem eqv_same {n : Nat} {d : D} (h : plain n d = true) : PyData.eqv (toPy d) (toPy d) = true := SeqAt.eqv_refl _ (lay_of h).1
/-- a slot read as data -/
inductive DS (M : List C) : Sl → D → Prop
  | val {d : D} : DS M (.val d) d
  | own {k : Nat} {ds : List D} (h : M[k]? = some (.lst ds)) : DS M (.own k) (.lst ds)
theorem DS.dv {K : PySem.W.Frag} {F : Hp} {As : List Addr} {M : List C} {H : Hp} {s : Sl} {d : D} {v : V} (q : DS M s d) (hm : HM K F As M H) (r : SlR K F As s v) : DV K H d v := by
  cases q with
  | val => exact DV.mono hm.same r
  | own h =>
    obtain ⟨a, vs, rfl, h1, h2⟩ := (SqS.own h).get hm r
    exact ⟨a, vs, rfl, h2, h1.mono hm.same⟩
section
variable {c : Ctx} {ρ : List Sl} {M : List C} {a b e o tg iter elt : Expr} {pos p1 p2 p3 p4 apos : Pos} {D0 : DE} {rest : List Stmt}
theorem ox_eqD {s1 s2 : Sl} {d d' : D} (h1 : plain 60 d = true) (h2 : plain 60 d' = true) (q1 : DS M s1 d := by first | exact DS.val | exact DS.own rfl) (q2 : DS M s2 d' := by first | exact DS.val | exact DS.own rfl) : OpX c M (compareOp .Eq) s1 s2 (.bl (PyData.eqv (toPy d) (toPy d'))) :=
  ⟨fun X hX => by
    cases hX with
    | mk X k0 m0 nd calm room po =>
      exact ⟨_, op_eqD room.units, fun F As H x y hx hy hm G k => ⟨_, _, dp_of (Same.refl _) h1 (q1.dv hm hx), dp_of (Same.refl _) h2 (q2.dv hm hy), shaped_of h1 (by decide), shaped_of h2 (by decide), k _ F H (Same.refl _) rfl hm⟩⟩⟩
theorem ox_neD {s1 s2 : Sl} {d d' : D} (h1 : plain 60 d = true) (h2 : plain 60 d' = true) (q1 : DS M s1 d := by first | exact DS.val | exact DS.own rfl) (q2 : DS M s2 d' := by first | exact DS.val | exact DS.own rfl) : OpX c M (compareOp .NotEq) s1 s2 (.bl (!PyData.eqv (toPy d) (toPy d'))) :=
  ⟨fun X hX => by
    cases hX with
    | mk X k0 m0 nd calm room po =>
      exact ⟨_, op_neD room.units, fun F As H x y hx hy hm G k => ⟨_, _, dp_of (Same.refl _) h1 (q1.dv hm hx), dp_of (Same.refl _) h2 (q2.dv hm hy), shaped_of h1 (by decide), shaped_of h2 (by decide), k _ F H (Same.refl _) rfl hm⟩⟩⟩
theorem plains_ints (n : Nat) : ∀ ns : List Int, plains n (ns.map D.int) = true
  | [] => by simp [plains]
  | m :: ms => by
    rw [List.map_cons]
    unfold plains
    rw [plains_ints n ms]
    simp [plain]
theorem plains_map {α : Type} {n : Nat} {f : α → D} : ∀ {xs : List α}, (∀ x ∈ xs, plain n (f x) = true) → plains n (xs.map f) = true
  | [], _ => by simp [plains]
  | x :: xs, h => by
    rw [List.map_cons]
    unfold plains
    rw [h x List.mem_cons_self, plains_map fun y hy => h y (List.mem_cons_of_mem _ hy)]
    rfl
end
end Dl

/-! DL9: isinstance; slotted objects; calls by keywords; defs with stars -/
namespace Dl
open PySem L2
section
variable {c : Ctx} {ρ : List Sl} {M : List C} {a b e o tg iter elt : Expr} {pos p1 p2 p3 p4 apos : Pos} {D0 : DE} {rest : List Stmt}
/-! ### isinstance -/
theorem boot_tList : bootBuiltins "list" = some (.type "list") := by decide +kernel
theorem boot_tTuple : bootBuiltins "tuple" = some (.type "tuple") := by decide +kernel
theorem boot_tInt : bootBuiltins "int" = some (.type "int") := by decide +kernel
theorem boot_tBool : bootBuiltins "bool" = some (.type "bool") := by decide +kernel
theorem boot_tStr : bootBuiltins "str" = some (.type "str") := by decide +kernel
theorem boot_tDict : bootBuiltins "dict" = some (.type "dict") := by decide +kernel
def kindD : D → String
  | .non => "NoneType"
  | .bl _ => "bool"
  | .int _ => "int"
  | .str _ => "str"
  | .lst _ => "list"
  | .tup _ => "tuple"
  | .dic _ _ => "dict"
  | .slo _ _ => "?"
  | .obj _ _ _ => "?"
  | .scr _ => "?"
def isPy : D → Bool
  | .slo _ _ => false
  | .obj _ _ _ => false
  | .scr _ => false
  | _ => true
theorem tyx_of {K : PySem.W.Frag} {H : Hp} {d : D} {v : V} (h : DV K H d v) (hp : isPy d = true) : TyX K H v (.type (kindD d)) := by
  cases d with
  | non => cases (show v = V.non from h); exact .base .non
  | bl b => cases (show v = V.bl b from h); exact .base (.bl b)
  | int b => cases (show v = V.int b from h); exact .base (.int b)
  | str b => cases (show v = V.str b from h); exact .base (.str b)
  | lst ds => obtain ⟨a, vs, rfl, h1, _⟩ := h; exact .base (.lst h1)
  | tup ds =>
    obtain ⟨a, vs, rfl, h1, _⟩ := h
    rcases h1 with (h1 | ⟨o, h1⟩) | h1
    · exact .base (.tup h1)
    · exact .fTuple h1
    · obtain ⟨ob, its, n, h2, h3, h4⟩ := h1
      exact .kTuple h2 h3
  | dic ks ds => obtain ⟨a, vs, rfl, h1, _⟩ := h; exact .base (.dK h1)
  | slo C ds => cases hp
  | obj C fs ds => cases hp
  | scr ns => cases hp
theorem ev_isi {s : Sl} {d : D} {T : Str} {t kd : String} (r : Bool) (ha : Er c ρ M e s) (hm0 : c.mg "isinstance" = none) (hmT : c.mg T = none) (q : DS M s d := by first | exact DS.val | exact DS.own rfl) (hkd : kindD d = kd := by rfl) (hvT : bootBuiltins T = some (.type t) := by first | exact boot_tList | exact boot_tTuple | exact boot_tInt | exact boot_tBool | exact boot_tStr | exact boot_tDict) (hb : kitB kd t = some r := by kernel_rfl) (hp : isPy d = true := by rfl)
    (hg : Glo c "isinstance" := by rfl) (hgT : Glo c T := by rfl) (hnT : T ≠ "__name__" := by decide) (hdT : (T == ("__debug__" : Str)) = false := by decide)
    (he : ∀ env, starEach [e, .Name T p2] env = (false, eval e env) :: starEach [.Name T p2] env := by intro _; rfl) : Ev c ρ M (.Call (.Name "isinstance" p1) [e, .Name T p2] [] pos) (.bl r) := fun X hX F As σ H sr hm G k => by
  cases hX with
  | mk X k0 m0 nd calm room po =>
    refine ⟨_, pe_callB call_isi hg hm0 (by decide +kernel) (pa_cons pe_w (pa_cons (pe_bltn (v := .ty t) hgT hmT hvT rfl hnT hdT) pa_nil) (he _)) (by decide) (by decide) (he _), ?_⟩
    refine ha X (.mk X k0 m0 nd calm room po) F As σ H sr hm _ fun v F1 H1 s1 r1 hm1 => ?_
    exact ⟨v, .ty t, .type (kindD d), .type t, r, rfl, .ty t, tyx_of (q.dv hm1 r1) hp, kit_ty (by rw [hkd]; exact hb), k _ F1 H1 s1 rfl hm1⟩
theorem ev_isi2 {s : Sl} {d : D} {T U : Str} {t u kd : String} {x1} (r r' : Bool) (ha : Er c ρ M e s) (hm0 : c.mg "isinstance" = none) (hmT : c.mg T = none) (hmU : c.mg U = none) (q : DS M s d := by first | exact DS.val | exact DS.own rfl) (hkd : kindD d = kd := by rfl) (hvT : bootBuiltins T = some (.type t) := by first | exact boot_tList | exact boot_tTuple | exact boot_tInt | exact boot_tBool | exact boot_tStr | exact boot_tDict) (hvU : bootBuiltins U = some (.type u) := by first | exact boot_tList | exact boot_tTuple | exact boot_tInt | exact boot_tBool | exact boot_tStr | exact boot_tDict) (hb : kitB kd t = some r := by kernel_rfl) (hb' : kitB kd u = some r' := by kernel_rfl) (hp : isPy d = true := by rfl)
    (hg : Glo c "isinstance" := by rfl) (hgT : Glo c T := by rfl) (hgU : Glo c U := by rfl) (hnT : T ≠ "__name__" := by decide) (hdT : (T == ("__debug__" : Str)) = false := by decide) (hnU : U ≠ "__name__" := by decide) (hdU : (U == ("__debug__" : Str)) = false := by decide)
    (he : ∀ env, starEach [e, .Tuple [.Name T p2, .Name U p3] x1 p4] env = (false, eval e env) :: starEach [.Tuple [.Name T p2, .Name U p3] x1 p4] env := by intro _; rfl) : Ev c ρ M (.Call (.Name "isinstance" p1) [e, .Tuple [.Name T p2, .Name U p3] x1 p4] [] pos) (.bl (r || r')) := fun X hX F As σ H sr hm G k => by
  cases hX with
  | mk X k0 m0 nd calm room po =>
    refine ⟨_, pe_callB call_isiT hg hm0 (by decide +kernel) (pa_cons pe_w (pa_cons (pe_tup (pa_cons (pe_bltn (v := .ty t) hgT hmT hvT rfl hnT hdT) (pa_cons (pe_bltn (v := .ty u) hgU hmU hvU rfl hnU hdU) pa_nil))) pa_nil) (he _)) (by decide) (by decide) (he _), ?_⟩
    refine ha X (.mk X k0 m0 nd calm room po) F As σ H sr hm _ fun v F1 H1 s1 r1 hm1 => ?_
    refine ⟨by show 2 ≤ sizeLine; decide, fun p hp' => ?_⟩
    obtain ⟨_, fp⟩ := hm1.fresh hp'
    have hm2 := hm1.laid (o := .tup [.ty t, .ty u]) hp'
    refine ⟨v, p, [.ty t, .ty u], .type (kindD d), [.type t, .type u], r || r', rfl, upd_same, .cons (.ty t) (.cons (.ty u) .nil), tyx_of (q.dv hm2 (r1.mono (same_new fp) (List.prefix_refl _))) hp, ?_, k _ _ _ (s1.trans (same_new fp)) rfl hm2⟩
    rw [hkd]
    refine kitAny_cons (kit_ty hb) (fun h => ?_) (fun h => by rw [h]; rfl)
    rw [h]
    exact kitAny_cons (kit_ty hb') (fun h => by rw [h]; exact kitAny_nil) (fun h => by rw [h]; rfl)

/-! ### slotted objects that do not change -/
theorem ev_slot {C : Addr} {fs : List D} {d : D} {f : Str} {p : Addr} {i : Nat} (ha : Ev c ρ M e (.slo C fs)) (cl : SlX.SCls c.K C) (t : SlX.Slot1 c.K C f p i) (hd : fs[i]? = some d := by rfl) (hb : ∀ env, attributeBase e f env (eval e env) = eval e env := by intro _; rfl) :
    Ev c ρ M (.Attribute e f pos) d := fun X hX F As σ H sr hm G k => by
  cases hX with
  | mk X k0 m0 nd calm room po =>
    refine ⟨_, SlX.pe_sl pe_w (hb _), ha X (.mk X k0 m0 nd calm room po) F As σ H sr hm _ fun v F1 H1 s1 r1 hm1 => ?_⟩
    obtain ⟨a, dx, vs, rfl, h1, h2⟩ := r1
    obtain ⟨w, h3, h4⟩ := h2.get hd
    exact ⟨a, C, dx, p, vs.map some, i, w, rfl, same_slt hm1.same h1, cl, t, by rw [List.getElem?_map, h3]; rfl, k _ F1 H1 s1 h4 hm1⟩
/-- a method of such a class -/
structure DefM (P : Program) (w : World) (K : PySem.W.Frag) (mg : Str → Option Value) (base : Heap) (C : Addr) (m : Str) (k : Nat) (sp : Sp) : Prop where
  cl : SlX.SCls K C
  ok : ∃ f : Addr, Meth K C m f ∧ FnR P w K mg base CX0 k f sp
section
variable {C : Addr} {m : Str} {k : Nat} {fs : List D} {es : List Expr}
theorem we_meth {sp : Sp} {X : Cx} {pl : Env → Sem Bool} (d : DefM c.P c.w c.K c.mg c.base C m k sp) (hX : c.Is X) (hk : k ≤ c.k) {F : Hp} {As : List Addr} {σ : L2.St} {H : Hp} {G : VK} (sr : SR c.K F As ρ σ) (hm : HM c.K F As M H) (ho : Ev c ρ M o (.slo C fs))
    (ha : ∀ v F1 H1, Same F F1 → DV c.K F1 (.slo C fs) v → HM c.K F1 As M H1 → WA X (e :: es) σ H1 fun vs H2 => frSp sp (v :: vs) H2 G E0)
    (hst : ∀ env, starEach (e :: es) env = (false, eval e env) :: starEach es env := by intro _; rfl) (hpl : ∀ env, (backTo pos (starEach es env)).any (·.1) = false := by intro _; rfl)
    (ht : ∀ env, eval (.Call (.Attribute o m apos) (e :: es) [] pos) env = (do
      let ov ← eval o env
      standAt apos.atName
      let (f, first) ← holding [ov] (getMethod ov m (pl env))
      callWith pos f first (backTo pos (starEach (e :: es) env)) (backToKw pos (keywordEach [] env))) := by intro _; rfl) : WE X (.Call (.Attribute o m apos) (e :: es) [] pos) σ H G := by
  obtain ⟨f, h1, h3⟩ := d.ok
  have cl := d.cl
  cases hX with
  | mk X k0 m0 nd calm room po =>
    refine ⟨_, SlX.pe_methSl pe_w cl h1 (FnR.frame h3) (room.mono hk) pass0 pa_w (hst _) (hpl _) (ht _), ho X (.mk X k0 m0 nd calm room po) F As σ H sr hm _ fun v F1 H1 s1 r1 hm1 => ?_⟩
    obtain ⟨a, dx, vs, rfl, h4, h5⟩ := id r1
    exact ⟨a, dx, vs.map some, rfl, same_slt hm1.same h4, ha _ F1 H1 s1 r1 hm1⟩
theorem we_meth0 {sp : Sp} {X : Cx} {pl : Env → Sem Bool} (d : DefM c.P c.w c.K c.mg c.base C m k sp) (hX : c.Is X) (hk : k ≤ c.k) {F : Hp} {As : List Addr} {σ : L2.St} {H : Hp} {G : VK} (sr : SR c.K F As ρ σ) (hm : HM c.K F As M H) (ho : Ev c ρ M o (.slo C fs))
    (ha : ∀ v F1 H1, Same F F1 → DV c.K F1 (.slo C fs) v → HM c.K F1 As M H1 → frSp sp [v] H1 G E0)
    (ht : ∀ env, eval (.Call (.Attribute o m apos) [] [] pos) env = (do
      let ov ← eval o env
      standAt apos.atName
      let (f, first) ← holding [ov] (getMethod ov m (pl env))
      callWith pos f first (backTo pos (starEach [] env)) (backToKw pos (keywordEach [] env))) := by intro _; rfl) : WE X (.Call (.Attribute o m apos) [] [] pos) σ H G := by
  obtain ⟨f, h1, h3⟩ := d.ok
  have cl := d.cl
  cases hX with
  | mk X k0 m0 nd calm room po =>
    refine ⟨_, SlX.pe_methSl0 pe_w cl h1 (FnR.frame h3) (room.mono hk) pass0 (ht _), ho X (.mk X k0 m0 nd calm room po) F As σ H sr hm _ fun v F1 H1 s1 r1 hm1 => ?_⟩
    obtain ⟨a, dx, vs, rfl, h4, h5⟩ := id r1
    exact ⟨a, dx, vs.map some, rfl, same_slt hm1.same h4, ha _ F1 H1 s1 r1 hm1⟩
theorem ev_meth {pl : Env → Sem Bool} {R : List D → D → Prop} {ds : List D} {d : D} (df : DefM c.P c.w c.K c.mg c.base C m k (spV c.K R)) (ho : Ev c ρ M o (.slo C fs)) (ha : ErA c ρ M (e :: es) (ds.map .val)) (hr : R (.slo C fs :: ds) d) (hk : k ≤ c.k := by first | exact Nat.le_of_ble_eq_true rfl | assumption)
    (hst : ∀ env, starEach (e :: es) env = (false, eval e env) :: starEach es env := by intro _; rfl) (hpl : ∀ env, (backTo pos (starEach es env)).any (·.1) = false := by intro _; rfl)
    (ht : ∀ env, eval (.Call (.Attribute o m apos) (e :: es) [] pos) env = (do
      let ov ← eval o env
      standAt apos.atName
      let (f, first) ← holding [ov] (getMethod ov m (pl env))
      callWith pos f first (backTo pos (starEach (e :: es) env)) (backToKw pos (keywordEach [] env))) := by intro _; rfl) : Ev c ρ M (.Call (.Attribute o m apos) (e :: es) [] pos) d := fun X hX F As σ H sr hm G k =>
  we_meth df hX hk sr hm ho (fun v F1 H1 s1 r1 hm1 => ha X hX F1 As σ H1 (sr.mono s1 (List.prefix_refl _)) hm1 _ fun vs F2 H2 s2 r2 hm2 =>
    callV (ds := .slo C fs :: ds) hm2 ⟨v, vs, rfl, DV.mono s2 r1, slrs_vals r2⟩ hr fun u F3 H3 s3 dv hm3 => k u F3 H3 ((s1.trans s2).trans s3) dv hm3) hst hpl ht
theorem evn_meth {pl : Env → Sem Bool} {R : List D → List D → Prop} {ds rs : List D} (df : DefM c.P c.w c.K c.mg c.base C m k (spN c.K R)) (ho : Ev c ρ M o (.slo C fs)) (ha : ErA c ρ M (e :: es) (ds.map .val)) (hr : R (.slo C fs :: ds) rs) (hk : k ≤ c.k := by first | exact Nat.le_of_ble_eq_true rfl | assumption)
    (hst : ∀ env, starEach (e :: es) env = (false, eval e env) :: starEach es env := by intro _; rfl) (hpl : ∀ env, (backTo pos (starEach es env)).any (·.1) = false := by intro _; rfl)
    (ht : ∀ env, eval (.Call (.Attribute o m apos) (e :: es) [] pos) env = (do
      let ov ← eval o env
      standAt apos.atName
      let (f, first) ← holding [ov] (getMethod ov m (pl env))
      callWith pos f first (backTo pos (starEach (e :: es) env)) (backToKw pos (keywordEach [] env))) := by intro _; rfl) : EvN c ρ M (.Call (.Attribute o m apos) (e :: es) [] pos) rs := fun X hX F As σ H sr hm G k =>
  we_meth df hX hk sr hm ho (fun v F1 H1 s1 r1 hm1 => ha X hX F1 As σ H1 (sr.mono s1 (List.prefix_refl _)) hm1 _ fun vs F2 H2 s2 r2 hm2 =>
    callN (ds := .slo C fs :: ds) hm2 ⟨v, vs, rfl, DV.mono s2 r1, slrs_vals r2⟩ hr fun p F3 H3 ws s3 hm3 hp hw => evn_of hm3 hp hw ((s1.trans s2).trans s3) k) hst hpl ht
theorem ev_meth0 {pl : Env → Sem Bool} {R : List D → D → Prop} {d : D} (df : DefM c.P c.w c.K c.mg c.base C m k (spV c.K R)) (ho : Ev c ρ M o (.slo C fs)) (hr : R [.slo C fs] d) (hk : k ≤ c.k := by first | exact Nat.le_of_ble_eq_true rfl | assumption)
    (ht : ∀ env, eval (.Call (.Attribute o m apos) [] [] pos) env = (do
      let ov ← eval o env
      standAt apos.atName
      let (f, first) ← holding [ov] (getMethod ov m (pl env))
      callWith pos f first (backTo pos (starEach [] env)) (backToKw pos (keywordEach [] env))) := by intro _; rfl) : Ev c ρ M (.Call (.Attribute o m apos) [] [] pos) d := fun X hX F As σ H sr hm G k =>
  we_meth0 df hX hk sr hm ho (fun v F1 H1 s1 r1 hm1 => callV (ds := [.slo C fs]) hm1 ⟨v, [], rfl, r1, rfl⟩ hr fun u F3 H3 s3 dv hm3 => k u F3 H3 (s1.trans s3) dv hm3) ht
theorem evn_meth0 {pl : Env → Sem Bool} {R : List D → List D → Prop} {rs : List D} (df : DefM c.P c.w c.K c.mg c.base C m k (spN c.K R)) (ho : Ev c ρ M o (.slo C fs)) (hr : R [.slo C fs] rs) (hk : k ≤ c.k := by first | exact Nat.le_of_ble_eq_true rfl | assumption)
    (ht : ∀ env, eval (.Call (.Attribute o m apos) [] [] pos) env = (do
      let ov ← eval o env
      standAt apos.atName
      let (f, first) ← holding [ov] (getMethod ov m (pl env))
      callWith pos f first (backTo pos (starEach [] env)) (backToKw pos (keywordEach [] env))) := by intro _; rfl) : EvN c ρ M (.Call (.Attribute o m apos) [] [] pos) rs := fun X hX F As σ H sr hm G k =>
  we_meth0 df hX hk sr hm ho (fun v F1 H1 s1 r1 hm1 => callN (ds := [.slo C fs]) hm1 ⟨v, [], rfl, r1, rfl⟩ hr fun p F3 H3 ws s3 hm3 hp hw => evn_of hm3 hp hw (s1.trans s3) k) ht
end
end
end Dl

/-! DL10: keywords, stars, slices, enumerate, zip, len of own objects, making slotted objects -/
namespace Dl
open PySem L2
section
variable {c : Ctx} {ρ : List Sl} {M : List C} {a b e o tg iter elt : Expr} {pos p1 p2 p3 p4 apos : Pos} {D0 : DE} {rest : List Stmt}
/-! ### calls by keywords alone -/
theorem pe_callK0 {X : Cx} {CX : CXT} {k : Nat} {f : Addr} {fd : FuncData} {ps ks : List Str} {sp : Sp} {E : XK} {x : Str} {p pos : Pos} {kws : List Keyword} {tk : TA} {g : List Value → List Value → List Value} {gV : List V → List V → List V}
    (Fn : FnOk X.prog X.w X.K X.mg X.base CX k f fd ps sp) (hr : Room k X.A) (hg : Gl X x) (hm : X.mg x = some (.ref f)) (hk : PySem.W.keepIn X.K (.ref f) = true) (hb : KBinds X.K fd ps ks g gV) (hx : Passes CX X E) (hkw : PK X kws tk)
    (hall : (backToKw pos (keywordEach kws X.env)).all (·.1.isSome) = true) (hks : (backToKw pos (keywordEach kws X.env)).filterMap (·.1) = ks) (hdb : (x == ("__debug__" : Str)) = false)
    (hpl : ((backTo pos (starEach [] X.env)).any (·.1) || (backToKw pos (keywordEach kws X.env)).any (·.1.isNone)) = false) : PE X (.Call (.Name x p) [] kws pos) (fun σ H Q => tk σ H fun zs H2 => sp (gV [] zs) H2 Q E) := by
  refine ⟨fun pins s σ H Q I h => wpAny_Call_Name_kw (ld_glob I hg hm ?_ hdb)⟩
  refine PySem.W.callWith_KW0 (h₀ := X.base) I.ok.mod.kin hk hall (thn (hkw.run pos pins s σ H _ I h) fun ws s2 ⟨zs, H2, I2, rz, q2⟩ => ⟨I2.kIn, ?_⟩) hpl
  rw [hks]
  exact run_fnk (us := []) (vs := []) Fn hr hb hx I2 .nil rz q2
/-- how keywords are brought into the parameters' order -/
def permV (n : Nat) (idx : List Nat) (vs zs : List V) : List V := if vs.length = 0 ∧ zs.length = n then idx.map fun i => zs.getD i .non else []
def permU (n : Nat) (idx : List Nat) (us ws : List Value) : List Value := if us.length = 0 ∧ ws.length = n then idx.map fun i => ws.getD i .none else []
def permD (idx : List Nat) (ds : List D) : List D := idx.map fun i => ds.getD i .non
theorem vals_getD {zs : List V} {ws : List Value} (h : Vals zs ws) (i : Nat) : RelV (zs.getD i .non) (ws.getD i .none) := by
  rw [List.getD_eq_getElem?_getD, List.getD_eq_getElem?_getD]
  cases e : zs[i]? with
  | none => rw [Vals.none_of h e]; exact rfl
  | some z =>
    obtain ⟨u, h1, h2⟩ := Vals.get h e
    rw [h1]; exact h2
theorem perm_rel {n : Nat} {idx : List Nat} {vs zs : List V} {us ws : List Value} (hv : Vals vs us) (h : Vals zs ws) : Vals (permV n idx vs zs) (permU n idx us ws) := by
  unfold permV permU
  rw [← h.length, ← hv.length]
  split
  · induction idx with
    | nil => exact .nil
    | cons i r ih => exact .cons (vals_getD h i) ih
  · exact .nil
theorem dvs_getD {K : PySem.W.Frag} {F : Hp} {ds : List D} {vs : List V} (h : DVs K F ds vs) (i : Nat) : DV K F (ds.getD i .non) (vs.getD i .non) := by
  rw [List.getD_eq_getElem?_getD, List.getD_eq_getElem?_getD]
  cases e : ds[i]? with
  | none =>
    have : vs[i]? = none := List.getElem?_eq_none_iff.mpr (by rw [← h.length]; exact List.getElem?_eq_none_iff.mp e)
    rw [this]; exact rfl
  | some z =>
    obtain ⟨u, h1, h2⟩ := h.get e
    rw [h1]; exact h2
theorem dvs_perm {K : PySem.W.Frag} {F : Hp} {n : Nat} {idx : List Nat} {ds : List D} {vs : List V} (h : DVs K F ds vs) (hn : ds.length = n) : DVs K F (permD idx ds) (permV n idx [] vs) := by
  unfold permV permD
  rw [if_pos ⟨rfl, by rw [← h.length]; exact hn⟩]
  clear hn
  induction idx with
  | nil => exact rfl
  | cons i r ih => exact ⟨_, _, rfl, dvs_getD h i, ih⟩
theorem kb_of {K : PySem.W.Frag} {x qual : Str} {st : Stmt} {f : Addr} {fd : FuncData} {ps ks : List Str} {idx : List Nat} (F : Fun K x qual st f fd) (hi : 0 < ps.length)
    (h : ∀ (kV doc pm : Value) (an : Option Addr) (cdv ct : Value) (ws : List Value), ws.length = ks.length → bindArgs (PySem.W.fnOf x qual (defArgs st) (defBody st) (defScope st) .none kV doc pm an cdv ct) ⟨[], ks.zip ws⟩ = pure (ps.zip (idx.map fun i => ws.getD i .none))) : KBinds K fd ps ks (permU ks.length idx) (permV ks.length idx) := by
  obtain ⟨oc, od, kV, doc, pm, an, cdv, ct, osl, rfl, lk, hcd⟩ := F.ex
  refine ⟨fun s us ws _ hl => ?_, fun h1 h2 => perm_rel h1 h2⟩
  by_cases hc : us.length = 0 ∧ ws.length = ks.length
  · have e : permU ks.length idx us ws = idx.map fun i => ws.getD i .none := by unfold permU; rw [if_pos hc]
    rw [e]
    have eu : us = [] := List.length_eq_zero_iff.mp hc.1
    subst eu
    exact .of_eq (h kV doc pm an cdv ct ws hc.2)
  · have e : permU ks.length idx us ws = [] := by unfold permU; rw [if_neg hc]
    rw [e] at hl
    simp at hl
    omega
/-- the def x, called by the keywords ks -/
structure DefK (P : Program) (w : World) (K : PySem.W.Frag) (mg : Str → Option Value) (base : Heap) (x : Str) (k : Nat) (ks : List Str) (idx : List Nat) (sp : Sp) : Prop where
  ok : ∃ (f : Addr) (fd : FuncData) (ps : List Str), mg x = some (.ref f) ∧ PySem.W.keepIn K (.ref f) = true ∧ KBinds K fd ps ks (permU ks.length idx) (permV ks.length idx) ∧ FnOk P w K mg base CX0 k f fd ps sp
def ErK (c : Ctx) (ρ : List Sl) (M : List C) (es : List Keyword) (ds : List D) : Prop := ∀ X, c.Is X → ∀ F As σ H, SR c.K F As ρ σ → HM c.K F As M H → ∀ G : List V → Hp → Prop, (∀ vs F' H', Same F F' → DVs c.K F' ds vs → HM c.K F' As M H' → G vs H') → WK X es σ H G
theorem ek_nil : ErK c ρ M [] [] := fun X hX F As σ H sr hm G k => ⟨_, pk_nil, k [] F H (Same.refl _) rfl hm⟩
theorem ek_cons {es : List Keyword} {d : D} {ds : List D} {nm : Option Str} {kpos : Pos} (ha : Ev c ρ M e d) (hr : ErK c ρ M es ds) : ErK c ρ M (⟨nm, e, kpos⟩ :: es) (d :: ds) := fun X hX F As σ H sr hm G k =>
  ⟨_, pk_cons pe_w pk_w, ha X hX F As σ H sr hm _ fun x F1 H1 s1 r1 hm1 => hr X hX F1 As σ H1 (sr.mono s1 (List.prefix_refl _)) hm1 _ fun xs F2 H2 s2 r2 hm2 =>
    k (x :: xs) F2 H2 (s1.trans s2) ⟨x, xs, rfl, DV.mono s2 r1, r2⟩ hm2⟩
section
variable {x : Str} {k : Nat} {ks : List Str} {idx : List Nat} {kws : List Keyword} {ds : List D}
theorem we_callK {sp : Sp} {X : Cx} (d : DefK c.P c.w c.K c.mg c.base x k ks idx sp) (hX : c.Is X) (hk : k ≤ c.k) (hg : Glo c x) {σ : L2.St} {H : Hp} {G : VK} (ha : WK X kws σ H fun zs H1 => frSp sp (permV ks.length idx [] zs) H1 G E0) (hdb : (x == ("__debug__" : Str)) = false)
    (hall : ∀ env, (backToKw pos (keywordEach kws env)).all (·.1.isSome) = true) (hks : ∀ env, (backToKw pos (keywordEach kws env)).filterMap (·.1) = ks) (hpl : ∀ env, ((backTo pos (starEach [] env)).any (·.1) || (backToKw pos (keywordEach kws env)).any (·.1.isNone)) = false) :
    WE X (.Call (.Name x p1) [] kws pos) σ H G := by
  obtain ⟨f, fd, ps, h1, h2, h3, h4⟩ := d.ok
  cases hX with
  | mk X k0 m0 nd calm room po => exact ⟨_, pe_callK0 (FnOk.frame h4) (room.mono hk) hg h1 h2 h3 pass0 pk_w (hall _) (hks _) hdb (hpl _), ha⟩
theorem ev_callK {R : List D → D → Prop} {d : D} (df : DefK c.P c.w c.K c.mg c.base x k ks idx (spV c.K R)) (ha : ErK c ρ M kws ds) (hr : R (permD idx ds) d) (hn : ds.length = ks.length := by rfl) (hk : k ≤ c.k := by first | exact Nat.le_of_ble_eq_true rfl | assumption) (hg : Glo c x := by rfl) (hdb : (x == ("__debug__" : Str)) = false := by decide)
    (hall : ∀ env, (backToKw pos (keywordEach kws env)).all (·.1.isSome) = true := by intro _; rfl) (hks : ∀ env, (backToKw pos (keywordEach kws env)).filterMap (·.1) = ks := by intro _; rfl) (hpl : ∀ env, ((backTo pos (starEach [] env)).any (·.1) || (backToKw pos (keywordEach kws env)).any (·.1.isNone)) = false := by intro _; rfl) :
    Ev c ρ M (.Call (.Name x p1) [] kws pos) d := fun X hX F As σ H sr hm G k =>
  we_callK df hX hk hg (ha X hX F As σ H sr hm _ fun vs F1 H1 s1 r1 hm1 => callV hm1 (dvs_perm r1 hn) hr fun v F2 H2 s2 dv hm2 => k v F2 H2 (s1.trans s2) dv hm2) hdb hall hks hpl
theorem evn_callK {R : List D → List D → Prop} {rs : List D} (df : DefK c.P c.w c.K c.mg c.base x k ks idx (spN c.K R)) (ha : ErK c ρ M kws ds) (hr : R (permD idx ds) rs) (hn : ds.length = ks.length := by rfl) (hk : k ≤ c.k := by first | exact Nat.le_of_ble_eq_true rfl | assumption) (hg : Glo c x := by rfl) (hdb : (x == ("__debug__" : Str)) = false := by decide)
    (hall : ∀ env, (backToKw pos (keywordEach kws env)).all (·.1.isSome) = true := by intro _; rfl) (hks : ∀ env, (backToKw pos (keywordEach kws env)).filterMap (·.1) = ks := by intro _; rfl) (hpl : ∀ env, ((backTo pos (starEach [] env)).any (·.1) || (backToKw pos (keywordEach kws env)).any (·.1.isNone)) = false := by intro _; rfl) :
    EvN c ρ M (.Call (.Name x p1) [] kws pos) rs := fun X hX F As σ H sr hm G k =>
  we_callK df hX hk hg (ha X hX F As σ H sr hm _ fun vs F1 H1 s1 r1 hm1 => callN hm1 (dvs_perm r1 hn) hr fun p F2 H2 ws s2 hm2 hp hw => evn_of hm2 hp hw (s1.trans s2) k) hdb hall hks hpl
end

/-! ### slices of lists -/
def cutL {α : Type} (xs : List α) (lo hi : Option Int) : List α := (xs.drop (HT.sIx xs.length 0 lo)).take (HT.sIx xs.length xs.length hi - HT.sIx xs.length 0 lo)
theorem paired_drop {α β : Type} {R : α → β → Prop} : ∀ {l₁ : List α} {l₂ : List β} (n : Nat), Paired R l₁ l₂ → Paired R (l₁.drop n) (l₂.drop n)
  | _, _, 0, r => r
  | _, _, _ + 1, .nil => .nil
  | _, _, n + 1, .cons _ t => paired_drop n t
theorem paired_take {α β : Type} {R : α → β → Prop} : ∀ {l₁ : List α} {l₂ : List β} (n : Nat), Paired R l₁ l₂ → Paired R (l₁.take n) (l₂.take n)
  | _, _, 0, _ => .nil
  | _, _, _ + 1, .nil => .nil
  | _, _, n + 1, .cons r t => .cons r (paired_take n t)
theorem dvs_cut {K : PySem.W.Frag} {F : Hp} {ds : List D} {vs : List V} (h : DVs K F ds vs) (lo hi : Option Int) : DVs K F (cutL ds lo hi) (cutV vs lo hi) := by
  unfold cutL cutV
  rw [h.length]
  exact dvs_paired.mpr (paired_take _ (paired_drop _ (dvs_paired.mp h)))
theorem cutL_map {α β : Type} (f : α → β) (xs : List α) (lo hi : Option Int) : cutL (xs.map f) lo hi = (cutL xs lo hi).map f := by
  unfold cutL
  rw [List.length_map, List.map_take, List.map_drop]
/-- a bound of a slice -/
def EO (c : Ctx) (ρ : List Sl) (M : List C) (e : Option Expr) (i : Option Int) : Prop := ∀ X, c.Is X → ∀ F As σ H, SR c.K F As ρ σ → HM c.K F As M H → ∃ t, PO X e t ∧ ∀ G : Option Int → Hp → Prop, (∀ F' H', Same F F' → HM c.K F' As M H' → G i H') → t σ H G
theorem eo_none : EO c ρ M none none := fun X hX F As σ H sr hm => ⟨_, po_none, fun G k => k F H (Same.refl _) hm⟩
theorem eo_some {i : Int} (h : Ev c ρ M e (.int i)) : EO c ρ M (some e) (some i) := fun X hX F As σ H sr hm => ⟨_, po_some pe_w, fun G k => h X hX F As σ H sr hm _ fun v F1 H1 s1 r1 hm1 => ⟨i, r1, k F1 H1 s1 hm1⟩⟩
def WO (X : Cx) (e : Option Expr) : TO := fun σ H G => ∃ t : TO, PO X e t ∧ t σ H G
theorem po_w {X : Cx} {e : Option Expr} : PO X e (WO X e) := ⟨fun pins s σ H Q I ⟨_, h, q⟩ => h.run pins s σ H Q I q⟩
theorem evn_cut {s : Sl} {ds : List D} {lo hi : Option Expr} {i j : Option Int} (ha : Er c ρ M e s) (hl : EO c ρ M lo i) (hh : EO c ρ M hi j) (q : SqS M s true ds := by first | exact SqS.lst | exact SqS.own rfl) : EvN c ρ M (.Subscript e (.Slice lo hi none p2) pos) (cutL ds i j) := fun X hX F As σ H sr hm G k => by
  have hX' := hX
  cases hX with
  | mk X k0 m0 nd calm room po =>
    refine ⟨_, pe_slice sl_list pe_w po_w po_w, ha X hX' F As σ H sr hm _ fun v F1 H1 s1 r1 hm1 => ?_⟩
    obtain ⟨t1, g1, k1⟩ := hl X hX' F1 As σ H1 (sr.mono s1 (List.prefix_refl _)) hm1
    refine ⟨t1, g1, k1 _ fun F2 H2 s2 hm2 => ?_⟩
    obtain ⟨t2, g2, k2⟩ := hh X hX' F2 As σ H2 (sr.mono (s1.trans s2) (List.prefix_refl _)) hm2
    refine ⟨t2, g2, k2 _ fun F3 H3 s3 hm3 => ?_⟩
    obtain ⟨a, vs, rfl, h1, h2⟩ := q.get hm3 (r1.mono (s2.trans s3) (List.prefix_refl _))
    exact ⟨a, vs, rfl, .inl (.inl h2), fun p hp => evn_of hm3 hp (dvs_cut h1 i j) ((s1.trans s2).trans s3) k⟩
/-- .. of the script -/
theorem evn_cutScr {ns : List Int} {lo hi : Option Expr} {i j : Option Int} (ha : Ev c ρ M e (.scr ns)) (hl : EO c ρ M lo i) (hh : EO c ρ M hi j) : EvN c ρ M (.Subscript e (.Slice lo hi none p2) pos) ((cutL ns i j).map D.int) := fun X hX F As σ H sr hm G k => by
  have hX' := hX
  cases hX with
  | mk X k0 m0 nd calm room po =>
    refine ⟨_, pe_slice sl_list pe_w po_w po_w, ha X hX' F As σ H sr hm _ fun v F1 H1 s1 r1 hm1 => ?_⟩
    obtain ⟨t1, g1, k1⟩ := hl X hX' F1 As σ H1 (sr.mono s1 (List.prefix_refl _)) hm1
    refine ⟨t1, g1, k1 _ fun F2 H2 s2 hm2 => ?_⟩
    obtain ⟨t2, g2, k2⟩ := hh X hX' F2 As σ H2 (sr.mono (s1.trans s2) (List.prefix_refl _)) hm2
    refine ⟨t2, g2, k2 _ fun F3 H3 s3 hm3 => ?_⟩
    obtain ⟨a, rfl, h2⟩ := r1
    refine ⟨a, _, rfl, (((s2.trans s3).trans hm3.same)).seq h2, fun p hp => evn_of hm3 hp ?_ ((s1.trans s2).trans s3) k⟩
    refine dvs_ints.mpr ?_
    show cutL (ns.map V.int) i j = _
    rw [cutL_map]

/-! ### enumerate(xs), zip(xs, ys) with two names as the target -/
theorem iter_pair {K : PySem.W.Frag} {As : List Addr} {F : Hp} {J : It} {n : Nat} {ks : List Nat} {G : Hp → Prop} {xs ys : Hp → Nat → Option V} {ds es : Nat → D} (inn : ∀ k ∈ ks, k < M.length)
    (w : Walk J n G (fun i H v H' => ∃ T x y, v = .ref T ∧ H T = none ∧ H' = upd H T (.tup [x, y]) ∧ xs H i = some x ∧ ys H i = some y)) (hG : ∀ F' As' M' H', Same F F' → As <+: As' → HM K F' As' M' H' → (∀ k ∈ ks, M'[k]? = M[k]?) → G H' ∧ ∀ i x y, i < n → xs H' i = some x → ys H' i = some y → DV K F' (ds i) x ∧ DV K F' (es i) y) :
    IterOk K As M F ks J ((List.range n).map fun i => .tup [ds i, es i]) := by
  refine ⟨inn, G, fun i H v H' => ∃ T x y, v = .ref T ∧ H T = none ∧ H' = upd H T (.tup [x, y]) ∧ xs H i = some x ∧ ys H i = some y, by simpa using w, fun F' As' M' H' s p hm hk => (hG F' As' M' H' s p hm hk).1, fun i d F' As' M' H' x H'' hd s p hm hk ⟨T, u, v, e1, e2, e3, e4, e5⟩ => ?_⟩
  subst e1; subst e3
  rw [List.getElem?_map] at hd
  by_cases hi : i < n
  · rw [List.getElem?_range hi] at hd
    cases hd
    obtain ⟨h1, h2⟩ := (hG F' As' M' H' s p hm hk).2 i u v hi e4 e5
    obtain ⟨_, fT⟩ := hm.fresh e2
    exact ⟨_, same_new fT, hm.laid e2, T, [u, v], rfl, .inl (.inl upd_same), u, [v], rfl, h1.mono (same_new fT), v, [], rfl, h2.mono (same_new fT), rfl⟩
  · rw [List.getElem?_eq_none_iff.mpr (by simp; omega)] at hd
    cases hd
theorem ei_enum {s : Sl} {ds : List D} {elts : List Expr} {kk : Nat} {tpos : Pos} (ha : Er c ρ M e s) (hm0 : c.mg "enumerate" = none) (q : SqS M s true ds := by first | exact SqS.lst | exact SqS.own rfl) (hg : Glo c "enumerate" := by rfl) (hs : ∀ env, starEach [e] env = [(false, eval e env)] := by intro _; rfl) :
    EI c ρ M (.Tuple elts kk tpos) (.Call (.Name "enumerate" p1) [e] [] pos) s.cells ((List.range ds.length).map fun (i : Nat) => .tup [.int (i : Int), ds.getD i .non]) := fun X hX F As σ H sr hm R k => by
  have hX' := hX
  cases hX with
  | mk X k0 m0 nd calm room po =>
    refine ⟨_, pi_enum hg hm0 (pa_cons pe_w pa_nil (hs _)) (hs _), ha X hX' F As σ H sr hm _ fun v F1 H1 s1 r1 hm1 => ?_⟩
    obtain ⟨a, vs, rfl, h1, h2⟩ := q.get hm1 r1
    refine ⟨a, vs, rfl, .inl (.inl h2), k _ F1 H1 s1 hm1 ?_⟩
    have get : ∀ F' As' M' H', Same F1 F' → As <+: As' → HM X.K F' As' M' H' → (∀ k ∈ s.cells, M'[k]? = M[k]?) → ∃ us, H' a = some (.lst us) ∧ DVs X.K F' ds us := fun F' As' M' H' sm p hm hk => by
      have q' : SqS M' s true ds := by
        cases q with
        | lst => exact .lst
        | own h => exact .own ((hk _ (by simp [Sl.cells])).trans h)
      obtain ⟨a', us, e, h1, h2⟩ := q'.get hm (r1.mono sm p)
      cases e
      exact ⟨us, h2, h1⟩
    refine iter_pair (n := ds.length) (G := fun H => ∃ us, H a = some (.lst us) ∧ us.length = ds.length) (xs := fun _ i => some (.int (i : Nat))) (ys := fun H i => match H a with | some (.lst us) => us[i]? | _ => none) (ds := fun i => .int (i : Int)) (es := fun i => ds.getD i .non) ?_ ⟨fun i H hi ⟨us, g1, g2⟩ => ?_, fun H ⟨us, g1, g2⟩ => ?_, fun i H x H' hi ⟨us, g1, g2⟩ y => ?_⟩ fun F' As' M' H' sm p hm hk => ?_
    · intro j hj
      cases q with
      | lst => cases hj
      | own h =>
        rename_i k1
        have : j = k1 := by simpa [Sl.cells] using hj
        subst this
        exact (List.getElem?_eq_some_iff.mp h).1
    · have hi' : i < us.length := by omega
      exact ⟨us, us[i], .inl (.inl g1), List.getElem?_eq_getElem hi'⟩
    · exact ⟨us, .inl (.inl g1), by omega⟩
    · obtain ⟨T, z, e1, e2, e3, e4⟩ := y
      refine ⟨T, .int (i : Nat), z, e1, e2, e3, rfl, ?_⟩
      rw [g1]; exact e4 us (.inl (.inl g1))
    · obtain ⟨us, g1, g2⟩ := get F' As' M' H' sm p hm hk
      refine ⟨⟨us, g1, g2.length.symm⟩, fun i x y hi ex ey => ?_⟩
      cases ex
      rw [g1] at ey
      have hd : ds[i]? = some ds[i] := List.getElem?_eq_getElem hi
      obtain ⟨w, w1, w2⟩ := g2.get hd
      have ey : us[i]? = some y := ey
      rw [w1] at ey; cases ey
      refine ⟨rfl, ?_⟩
      rw [List.getD_eq_getElem?_getD, hd]; exact w2
end
end Dl

/-! DL11: zip, defs with a star, len of own objects, making slotted objects -/
namespace Dl
open PySem L2
section
variable {c : Ctx} {ρ : List Sl} {M : List C} {a b e e2 o tg iter elt : Expr} {pos p1 p2 p3 p4 apos : Pos} {D0 : DE} {rest : List Stmt}
/-- zip of two frozen lists of one length -/
theorem ei_zip {ds es : List D} {elts : List Expr} {kk : Nat} {tpos : Pos} (ha : Ev c ρ M e (.lst ds)) (hb : Ev c ρ M e2 (.lst es)) (hl : ds.length = es.length) (hm0 : c.mg "zip" = none) (hg : Glo c "zip" := by rfl)
    (hs : ∀ env, starEach [e, e2] env = (false, eval e env) :: starEach [e2] env := by intro _; rfl) (hs2 : ∀ env, starEach [e2] env = (false, eval e2 env) :: starEach [] env := by intro _; rfl) :
    EI c ρ M (.Tuple elts kk tpos) (.Call (.Name "zip" p1) [e, e2] [] pos) [] ((List.range ds.length).map fun (i : Nat) => .tup [ds.getD i .non, es.getD i .non]) := fun X hX F As σ H sr hm R k => by
  have hX' := hX
  cases hX with
  | mk X k0 m0 nd calm room po =>
    refine ⟨_, pi_zip hg hm0 (pa_cons pe_w (pa_cons pe_w pa_nil (hs2 _)) (hs _)) (hs _) (by rw [hs2]; rfl), ha X hX' F As σ H sr hm _ fun v F1 H1 s1 r1 hm1 => hb X hX' F1 As σ H1 (sr.mono s1 (List.prefix_refl _)) hm1 _ fun u F2 H2 s2 r2 hm2 => ?_⟩
    obtain ⟨a, vs, rfl, h1, h2⟩ := DV.mono s2 r1
    obtain ⟨b, us, rfl, h3, h4⟩ := id r2
    refine ⟨a, b, vs, us, rfl, .inl (.inl (hm2.same _ _ h1)), .inl (.inl (hm2.same _ _ h3)), k _ F2 H2 (s1.trans s2) hm2 ?_⟩
    have l1 := h2.length
    have l2 := h4.length
    refine iter_pair (n := ds.length) (G := fun H => H a = some (.lst vs) ∧ H b = some (.lst us)) (xs := fun _ i => vs[i]?) (ys := fun _ i => us[i]?) (ds := fun i => ds.getD i .non) (es := fun i => es.getD i .non) (fun _ z => (nomatch z)) ⟨fun i H hi ⟨g1, g2⟩ => ?_, fun H ⟨g1, g2⟩ => ?_, fun i H x H' hi ⟨g1, g2⟩ y => ?_⟩ fun F' As' M' H' sm p hm hk => ?_
    · have i1 : i < vs.length := by omega
      have i2 : i < us.length := by omega
      exact ⟨vs, us, vs[i], us[i], .inl (.inl g1), .inl (.inl g2), List.getElem?_eq_getElem i1, List.getElem?_eq_getElem i2⟩
    · exact ⟨vs, us, .inl (.inl g1), .inl (.inl g2), by omega⟩
    · obtain ⟨T, z, z', e1, e2, e3, e4, e5⟩ := y
      exact ⟨T, z, z', e1, e2, e3, e4 vs (.inl (.inl g1)), e5 us (.inl (.inl g2))⟩
    · refine ⟨⟨hm.same _ _ (sm _ _ h1), hm.same _ _ (sm _ _ h3)⟩, fun i x y hi ex ey => ?_⟩
      have d1 : ds[i]? = some ds[i] := List.getElem?_eq_getElem hi
      have d2 : es[i]? = some (es[i]'(by omega)) := List.getElem?_eq_getElem (by omega)
      obtain ⟨w, w1, w2⟩ := h2.get d1
      obtain ⟨w', w3, w4⟩ := h4.get d2
      have ex : vs[i]? = some x := ex
      have ey : us[i]? = some y := ey
      rw [w1] at ex; cases ex
      rw [w3] at ey; cases ey
      rw [List.getD_eq_getElem?_getD, List.getD_eq_getElem?_getD, d1, d2]
      exact ⟨DV.mono sm w2, DV.mono sm w4⟩
/-- a cell that comes and goes within -/
theorem ee_dropL {d : D} (h : EE c ρ M e fun r M' => r = .val d ∧ ∃ ds, M' = M ++ [.lst ds]) : Ev c ρ M e d := fun X hX F As σ H sr hm G k =>
  h X hX F As σ H sr hm G fun v F' As' H' r M' s p r1 hm' ⟨e1, ds, e2⟩ => by
    subst e1; subst e2
    obtain ⟨t, rfl⟩ := p
    have hl := hm'.len
    have hl0 := hm.len
    obtain ⟨a, rfl⟩ : ∃ a, t = [a] := by
      have : t.length = 1 := by simp at hl; omega
      match t, this with
      | [a], _ => exact ⟨a, rfl⟩
    obtain ⟨F2, s2, hm2, dv⟩ := hm'.freeze
    exact k _ F2 H' (s.trans s2) (DV.mono s2 r1) hm2

/-! ### len(x) by an own __len__ -/
def rLenOwn (C : Addr) (sp : Sp) (E : XK) : List V → Hp → VK → Prop := fun xs H Q => ∃ a dx vs, xs = [V.ref a] ∧ SlX.Slt H a C dx vs ∧ sp [.ref a] H (fun z H' => ∃ i : Int, z = .int i ∧ 0 ≤ i ∧ i < 2 ^ 63 ∧ Q z H') E
theorem call_lenOwn {X : Cx} {C g : Addr} {CX : CXT} {n : Nat} {sp : Sp} {E : XK} (hs : PySem.W.findIn X.K (.ref C) "__len__" = some (some (.ref g))) (hf : PySem.W.isFn X.K (.ref g) = true) (Fn : FnR X.prog X.w X.K X.mg X.base CX n g sp) (hr : Room (n + 1) X.A) (hx : Passes CX X E) : CallR X (.builtin "len") (rLenOwn C sp E) := by
  intro pins s σ H xs us Q I r h
  obtain ⟨a, dx, vs, rfl, hsl, q⟩ := h
  obtain ⟨u, rfl, ru⟩ := r.one
  cases (show u = Value.ref a from ru)
  obtain ⟨sl, od, _, J, _⟩ := SlX.slt_inst I hsl
  obtain ⟨mF, hF⟩ := I.fr
  refine PySem.W.len_K hF I.ok.mod.kin J hs hf (wpAny_mono (wpAny_call (SlX.run_at (us := [.ref a]) (ws := [.ref a]) Fn hr.in1 I.env0.in1 hx I (.cons rfl .nil) q)) (fun w s' z => ?_) fun _ _ x => x)
  obtain ⟨z', H', I', rz, i, ei, i0, i1, qz⟩ := z
  subst ei
  obtain ⟨t, e⟩ := (show ∃ t, w = Value.int i t from rz)
  cases e
  exact ⟨⟨i0, i1⟩, .int i, H', I'.tok _, ⟨_, rfl⟩, qz⟩
structure DefL (P : Program) (w : World) (K : PySem.W.Frag) (mg : Str → Option Value) (base : Heap) (C : Addr) (k : Nat) (sp : Sp) : Prop where
  ok : ∃ g : Addr, PySem.W.findIn K (.ref C) "__len__" = some (some (.ref g)) ∧ PySem.W.isFn K (.ref g) = true ∧ FnR P w K mg base CX0 k g sp
theorem ev_lenOwn {C : Addr} {k : Nat} {fs : List D} {R : List D → D → Prop} {i : Int} (df : DefL c.P c.w c.K c.mg c.base C k (spV c.K R)) (ha : Ev c ρ M e (.slo C fs)) (hr : R [.slo C fs] (.int i)) (hi : 0 ≤ i ∧ i < 2 ^ 63) (hm0 : c.mg "len" = none) (hk : k + 1 ≤ c.k := by first | exact Nat.le_of_ble_eq_true rfl | assumption) (hg : Glo c "len" := by rfl)
    (he : ∀ env, starEach [e] env = (false, eval e env) :: starEach [] env := by intro _; rfl) : Ev c ρ M (.Call (.Name "len" p1) [e] [] pos) (.int i) := fun X hX F As σ H sr hm G k => by
  obtain ⟨g, h1, h2, h3⟩ := df.ok
  have hX' := hX
  cases hX with
  | mk X k0 m0 nd calm room po =>
    refine ⟨_, pe_callB (call_lenOwn h1 h2 (FnR.frame h3) (room.mono hk) pass0) hg hm0 PySem.boot_len (pa_cons pe_w pa_nil (he _)) (by decide) (by decide) (he _), ha X hX' F As σ H sr hm _ fun v F1 H1 s1 r1 hm1 => ?_⟩
    obtain ⟨a, dx, vs, rfl, h4, h5⟩ := id r1
    refine ⟨a, dx, vs.map some, rfl, same_slt hm1.same h4, callV (ds := [.slo C fs]) hm1 ⟨_, [], rfl, r1, rfl⟩ hr fun z F2 H2 s2 dv hm2 => ⟨i, dv, hi.1, hi.2, k _ F2 H2 (s1.trans s2) dv hm2⟩⟩

/-! ### a new slotted object -/
def spI (K : PySem.W.Frag) (C : Addr) (R : List D → List D → Prop) : Sp := fun vs H G _ => ∃ (a dx : Addr) (us : List V) (ds fs : List D) (H0 : Hp), vs = .ref a :: us ∧ H0 a = none ∧ H0 dx = none ∧ dx ≠ a ∧ H = upd (upd H0 dx (.own a)) a (.ins C dx []) ∧ DVs K H0 ds us ∧ R ds fs ∧
  ∀ H', Same H0 H' → DV K H' (.slo C fs) (.ref a) → G .non H'
structure DefI (P : Program) (w : World) (K : PySem.W.Frag) (mg : Str → Option Value) (base : Heap) (x : Str) (C : Addr) (k : Nat) (sp : Sp) : Prop where
  ok : ∃ f : Addr, mg x = some (.ref C) ∧ Mk K C f ∧ FnR P w K mg base CX0 k f sp
theorem ev_make {x : Str} {C : Addr} {k : Nat} {ds fs : List D} {es : List Expr} {R : List D → List D → Prop} (df : DefI c.P c.w c.K c.mg c.base x C k (spI c.K C R)) (ha : ErA c ρ M (e :: es) (ds.map .val)) (hr : R ds fs) (hk : k + 1 ≤ c.k := by first | exact Nat.le_of_ble_eq_true rfl | assumption) (hg : Glo c x := by rfl) (hdb : (x == ("__debug__" : Str)) = false := by decide)
    (he : ∀ env, starEach (e :: es) env = (false, eval e env) :: starEach es env := by intro _; rfl) (hpl : ∀ env, (backTo pos (starEach es env)).any (·.1) = false := by intro _; rfl) : Ev c ρ M (.Call (.Name x p1) (e :: es) [] pos) (.slo C fs) := fun X hX F As σ H sr hm G k => by
  obtain ⟨f, h1, h2, h3⟩ := df.ok
  have hX' := hX
  cases hX with
  | mk X k0 m0 nd calm room po =>
    refine ⟨_, StX.pe_makeR h2 (FnR.frame h3) (room.mono hk) hg h1 pass0 pa_w hdb (he _) (hpl _), ha X hX' F As σ H sr hm _ fun vs F1 H1 s1 r1 hm1 x dx hx hdx ne => ?_⟩
    obtain ⟨nx, fx⟩ := hm1.fresh hx
    obtain ⟨ndx, fdx⟩ := hm1.fresh hdx
    have e1 : dels (upd (upd H1 dx (.own x)) x (.ins C dx [])) As = upd (upd F1 dx (.own x)) x (.ins C dx []) := by
      funext b
      by_cases hb : b ∈ As
      · have b1 : b ≠ x := fun z => by subst z; exact nx hb
        have b2 : b ≠ dx := fun z => by subst z; exact ndx hb
        unfold dels
        rw [if_pos hb, upd_ne b1, upd_ne b2]; exact (hm1.off b hb).symm
      · rw [dels_ne hb]
        by_cases b1 : b = x
        · subst b1; rw [upd_same, upd_same]
        · rw [upd_ne b1, upd_ne b1]
          by_cases b2 : b = dx
          · subst b2; rw [upd_same, upd_same]
          · rw [upd_ne b2, upd_ne b2]; exact hm1.out b hb
    refine ⟨As, fun b hb => ?_, ?_⟩
    · obtain ⟨o, h4, h5⟩ := hm1.frs b hb
      have b1 : b ≠ x := fun z => by subst z; exact nx hb
      have b2 : b ≠ dx := fun z => by subst z; exact ndx hb
      exact ⟨o, by rw [upd_ne b1, upd_ne b2]; exact h4, h5⟩
    · refine ⟨x, dx, vs, ds, fs, F1, rfl, fx, fdx, ne, e1, slrs_vals r1, hr, fun H' sm dv n => ⟨rfl, ?_⟩⟩
      have e2 : puts H' (upd (upd H1 dx (.own x)) x (.ins C dx [])) As = puts H' H1 As := by
        funext b
        by_cases hb : b ∈ As
        · have b1 : b ≠ x := fun z => by subst z; exact nx hb
          have b2 : b ≠ dx := fun z => by subst z; exact ndx hb
          rw [puts_in hb, puts_in hb, upd_ne b1, upd_ne b2]
        · rw [puts_ne hb, puts_ne hb]
      rw [e2]
      exact k _ H' _ (s1.trans sm) dv (hm1.back sm n)
end
/-! ### def f(a, *v) -/
section
variable {P : Program} {w : World} {K : PySem.W.Frag} {mg : Str → Option Value} {base : Heap} {x qual : Str} {st : Stmt} {f : Addr} {fd : FuncData} {N ps : List Str} {k : Nat} {pv : Str}
theorem okStarV {R : List D → D → Prop} (Fn : Fun K x qual st f fd) (S : FnScope N (ps ++ [pv]) (defScope st)) (hlen : ∀ ds d, R ds d → ps.length ≤ ds.length ∧ ds.length ≤ 1000)
    (hb : ∀ (kV doc pm : Value) (an : Option Addr) (cdv ct : Value) (us rest : List Value), us.length = ps.length → bindArgs (PySem.W.fnOf x qual (defArgs st) (defBody st) (defScope st) .none kV doc pm an cdv ct) ⟨us ++ rest, []⟩ = (newTuple rest >>= fun t => pure (ps.zip us ++ [(pv, t)])))
    (h : ∀ (ws rest : List D) (d : D), ws.length = ps.length → R (ws ++ rest) d → ES (ctxOf P w K mg base N st k 0) (rho N ((ws ++ [D.tup rest]).map Sl.val)) [] (defBody st) { nx := fun _ _ => d = .non, rt := Gives d }) : FnR P w K mg base CX0 (k + 1) f (spV K R) := by
  obtain ⟨oc, od, kV, doc, pm, an, cdv, ct, osl, rfl, lk, hcd⟩ := Fn.ex
  refine (StX.fn_star (sp := fun vs H Q _ => ∃ (ws rest : List D) (d : D) (p : Addr) (us rs : List V), ws.length = ps.length ∧ vs = us ++ [.ref p] ∧ H p = some (.tup rs) ∧ DVs K H ws us ∧ DVs K H rest rs ∧ R (ws ++ rest) d ∧ ∀ v H', Same H H' → DV K H' d v → Q v H') lk hcd S StX.cxUp_none (hb kV doc pm an cdv ct) fun A outer s H vs Q E hr ⟨ws, rest, d, p, us, rs, hl, ev, hp, h1, h2, h3, h4⟩ => ?_).imp fun vs H Q E ⟨ds, d, h1, h2, h3⟩ => ?_
  · subst ev
    have hq : DVs K H (ws ++ [.tup rest]) (us ++ [.ref p]) := dvs_paired.mpr (paired_append (dvs_paired.mp h1) (.cons ⟨p, rs, rfl, .inl (.inl hp), h2⟩ .nil))
    obtain ⟨t, ht, q⟩ := h ws rest d hl h3 _ (.mk (cxOf CX0 P w K mg base N qual (defScope st) f cdv A outer s H E).nox k 0 S.nd rfl hr PassesOwn.never) H [] [] (L2.start N (us ++ [.ref p])) H { nx := fun _ H' => Q .non H', rt := Q } (sr_start (vals_slrs hq)) ⟨.nil, rfl, fun i a c e => by simp at e, fun a h => (nomatch h), fun _ _ => rfl⟩ rfl (List.prefix_refl _)
      ⟨fun F' As' ρ' M' σ' H' s' p' sr' hm' z => by
          have z : d = .non := z
          subst z
          exact h4 _ _ (s'.trans hm'.same) rfl, fun F' As' r v M' H' s' p' r' hm' z => h4 _ _ (s'.trans hm'.same) (Gives.dv z hm' r'), fun _ _ _ _ _ _ _ _ _ _ z => z.elim, fun _ _ _ _ _ _ _ _ _ _ z => z.elim⟩
    exact ⟨t, ht.nox, q⟩
  · obtain ⟨l1, l2⟩ := hlen ds d h2
    have hl := h1.length
    have e1 : ds.take ps.length ++ ds.drop ps.length = ds := List.take_append_drop _ _
    have q1 : DVs K H (ds.take ps.length) (vs.take ps.length) := dvs_paired.mpr (paired_take _ (dvs_paired.mp h1))
    have q2 : DVs K H (ds.drop ps.length) (vs.drop ps.length) := dvs_paired.mpr (paired_drop _ (dvs_paired.mp h1))
    refine ⟨vs.take ps.length, vs.drop ps.length, (List.take_append_drop _ _).symm, by rw [List.length_take]; omega, ?_, fun p hp => ⟨ds.take ps.length, ds.drop ps.length, d, p, vs.take ps.length, vs.drop ps.length, by rw [List.length_take]; omega, rfl, upd_same, q1.mono (same_new hp), q2.mono (same_new hp), by rw [e1]; exact h2, fun v H' s dv => h3 v H' ((same_new hp).trans s) dv⟩⟩
    rw [List.length_drop]
    exact Nat.le_trans (by omega : _ ≤ 1000) (by decide)
end
end Dl

/-! DLG: graphs as data; their objects; plain lemmas -/
namespace Dl
open PySem L2
/-! ### sequences that may be lists or tuples -/
def IsSeq (d : D) (ds : List D) : Prop := d = .lst ds ∨ d = .tup ds
section
variable {c : Ctx} {ρ : List Sl} {M : List C} {a b e tg : Expr} {pos p1 : Pos}
theorem ei_seq {d : D} {ds : List D} (ha : Ev c ρ M e d) (h : IsSeq d ds) : EI c ρ M tg e [] ds := by
  rcases h with rfl | rfl
  · exact ei_list (s := .val (.lst ds)) ha .lst
  · exact ei_tup ha
theorem ev_ixS {d x : D} {ds : List D} {i : Int} (ha : Ev c ρ M a d) (hb : Ev c ρ M b (.int i)) (h : IsSeq d ds) (hd : atI ds i = some x := by rfl) (hs : PlainIx b := by exact fun _ _ => rfl) : Ev c ρ M (.Subscript a b pos) x := by
  rcases h with rfl | rfl
  · exact ev_ix ha hb .lst hd hs
  · exact ev_ix ha hb .tup hd hs
theorem ev_lenS {d : D} {ds : List D} (ha : Ev c ρ M a d) (h : IsSeq d ds) (hm0 : c.mg "len" = none) (hg : Glo c "len" := by rfl) (he : ∀ env, starEach [a] env = (false, eval a env) :: starEach [] env := by intro _; rfl) : Ev c ρ M (.Call (.Name "len" p1) [a] [] pos) (.int ds.length) := by
  rcases h with rfl | rfl
  · exact ev_len ha hm0 .lst hg he
  · exact ev_len ha hm0 .tup hg he
end
theorem atI_of {α : Type} {xs : List α} {i : Int} {x : α} (h0 : 0 ≤ i) (h : xs[i.toNat]? = some x) : atI xs i = some x := by
  have := atI_nat h
  rwa [Int.toNat_of_nonneg h0] at this
theorem atI_getD {α : Type} {xs : List α} {i : Int} {z : α} (h0 : 0 ≤ i) (h1 : i < xs.length) : atI xs i = some (xs.getD i.toNat z) := by
  refine atI_of h0 ?_
  have : i.toNat < xs.length := by omega
  rw [List.getElem?_eq_getElem this, List.getD_eq_getElem?_getD, List.getElem?_eq_getElem this]; rfl
theorem atI_map {α : Type} {f : α → D} {xs : List α} {i : Int} {z : α} (h0 : 0 ≤ i) (h1 : i < xs.length) : atI (xs.map f) i = some (f (xs.getD i.toNat z)) := by
  refine atI_of h0 ?_
  have : i.toNat < xs.length := by omega
  rw [List.getElem?_map, List.getElem?_eq_getElem this, List.getD_eq_getElem?_getD, List.getElem?_eq_getElem this]; rfl
theorem ixN_of {n : Nat} {i : Int} (h0 : 0 ≤ i) (h1 : i < n) : ixN n i = some i.toNat := by
  have h : atI (List.range n) i = some i.toNat := atI_of h0 (List.getElem?_range (by omega))
  unfold atI at h
  rw [List.length_range] at h
  cases e : ixN n i with
  | none => rw [e] at h; cases h
  | some j =>
    rw [e] at h
    have h : (List.range n)[j]? = some i.toNat := h
    obtain ⟨q1, q2⟩ := List.getElem?_eq_some_iff.mp h
    rw [List.getElem_range] at q2
    rw [q2]

/-! ### graphs -/
abbrev Gr := List (Int × List Int)
def rowT (r : Int × List Int) : D := .tup [.int r.1, .tup (r.2.map D.int)]
def rowL (r : Int × List Int) : D := .lst [.int r.1, .lst (r.2.map D.int)]
def gT (g : Gr) : D := .tup (g.map rowT)
def gL (g : Gr) : D := .lst (g.map rowL)
def IsRow (r : Int × List Int) (d : D) : Prop := ∃ pd, IsSeq d [.int r.1, pd] ∧ IsSeq pd (r.2.map D.int)
def IsG (g : Gr) (d : D) : Prop := ∃ ps : List ((Int × List Int) × D), ps.map (·.1) = g ∧ IsSeq d (ps.map (·.2)) ∧ ∀ p ∈ ps, IsRow p.1 p.2
theorem isG_T (g : Gr) : IsG g (gT g) := ⟨g.map fun r => (r, rowT r), by rw [List.map_map]; exact List.map_id'' (fun _ => rfl) _, .inr (by unfold gT; rw [List.map_map]; rfl), fun p hp => by
  obtain ⟨r, _, rfl⟩ := List.mem_map.mp hp
  exact ⟨_, .inr rfl, .inr rfl⟩⟩
theorem isG_L (g : Gr) : IsG g (gL g) := ⟨g.map fun r => (r, rowL r), by rw [List.map_map]; exact List.map_id'' (fun _ => rfl) _, .inl (by unfold gL; rw [List.map_map]; rfl), fun p hp => by
  obtain ⟨r, _, rfl⟩ := List.mem_map.mp hp
  exact ⟨_, .inl rfl, .inl rfl⟩⟩
/-- a graph as [4] has it, small -/
structure WF (g : Gr) : Prop where
  len : g.length ≤ 24
  row : ∀ (i : Nat) (r : Int × List Int), g[i]? = some r → 0 ≤ r.1 ∧ r.1 ≤ 1000000 ∧ r.2.Pairwise (· < ·) ∧ ∀ p ∈ r.2, 0 ≤ p ∧ p < (i : Int)
def gdate (g : Gr) (i : Int) : Int := (g.getD i.toNat (0, [])).1
def gpar (g : Gr) (i : Int) : List Int := (g.getD i.toNat (0, [])).2
theorem asc_len : ∀ (l : List Int) (n : Nat), l.Pairwise (· < ·) → (∀ p ∈ l, 0 ≤ p ∧ p < (n : Int)) → l.length ≤ n
  | [], _, _, _ => Nat.zero_le _
  | x :: l, n, h, b => by
    have h' := List.pairwise_cons.mp h
    have hx := b x List.mem_cons_self
    have key : ∀ (l : List Int) (lo : Int), l.Pairwise (· < ·) → (∀ p ∈ l, lo < p ∧ p < (n : Int)) → (l.length : Int) ≤ n - lo - 1 ∨ l = [] := by
      intro l
      induction l with
      | nil => exact fun _ _ _ => .inr rfl
      | cons y r ih =>
        intro lo h b
        have h' := List.pairwise_cons.mp h
        have hy := b y List.mem_cons_self
        left
        rcases ih y h'.2 (fun p hp => ⟨h'.1 p hp, (b p (List.mem_cons_of_mem _ hp)).2⟩) with z | z
        · simp; omega
        · subst z; simp; omega
    rcases key l x h'.2 (fun p hp => ⟨h'.1 p hp, (b p (List.mem_cons_of_mem _ hp)).2⟩) with z | z
    · simp; omega
    · subst z; simp; omega
theorem getD_some {α : Type} {xs : List α} {i : Int} {z : α} (h0 : 0 ≤ i) (h1 : i < xs.length) : xs[i.toNat]? = some (xs.getD i.toNat z) := by
  have : i.toNat < xs.length := by omega
  rw [List.getElem?_eq_getElem this, List.getD_eq_getElem?_getD, List.getElem?_eq_getElem this]; rfl
section
variable {g : Gr} {i : Int}
theorem WF.at (h : WF g) (h0 : 0 ≤ i) (h1 : i < g.length) : 0 ≤ gdate g i ∧ gdate g i ≤ 1000000 ∧ (gpar g i).Pairwise (· < ·) ∧ ∀ p ∈ gpar g i, 0 ≤ p ∧ p < i := by
  have := h.row i.toNat _ (getD_some (z := (0, [])) h0 h1)
  refine ⟨this.1, this.2.1, this.2.2.1, fun p hp => ?_⟩
  have := this.2.2.2 p hp
  omega
theorem WF.parlen (h : WF g) (h0 : 0 ≤ i) (h1 : i < g.length) : (gpar g i).length ≤ 24 := by
  have w := h.at h0 h1
  have := asc_len (gpar g i) i.toNat w.2.2.1 fun p hp => ⟨(w.2.2.2 p hp).1, by have := (w.2.2.2 p hp).2; omega⟩
  have := h.len
  omega
end
/-- the object that Graph(graph) makes -/
def grO (C : Addr) (g : Gr) : D := .slo C [.lst ((g.map (·.1)).map D.int), .lst (g.map fun r => .tup (r.2.map D.int)), .dic [] []]
/-- builtins as they were -/
structure Bi (mg : Str → Option Value) : Prop where
  len : mg "len" = none
  int : mg "int" = none
  abs : mg "abs" = none
  max : mg "max" = none
  sorted : mg "sorted" = none
  set : mg "set" = none
  tuple : mg "tuple" = none
  list : mg "list" = none
  range : mg "range" = none
  enumerate : mg "enumerate" = none
  zip : mg "zip" = none
  isinstance : mg "isinstance" = none
  all : mg "all" = none
  dict : mg "dict" = none
  bool : mg "bool" = none
  str : mg "str" = none
theorem filt_true {α : Type} (xs : List α) : xs.filter (fun _ => true) = xs := List.filter_eq_self.mpr fun _ _ => rfl
theorem rng_mem {lo x : Int} {n : Nat} : x ∈ rng lo n ↔ lo ≤ x ∧ x < lo + n := by
  unfold rng
  rw [List.mem_map]
  constructor
  · rintro ⟨i, hi, rfl⟩
    have := List.mem_range.mp hi
    omega
  · intro h
    exact ⟨(x - lo).toNat, List.mem_range.mpr (by omega), by omega⟩
end Dl

/-! DL12: pairs of captured names; lists of cells; cells that are lent -/
namespace Dl
open PySem L2
section
variable {c : Ctx} {ρ : List Sl} {M : List C} {a b e : Expr} {pos p1 p2 p3 : Pos} {D0 : DE} {rest : List Stmt}
/-- a, b = x, y where a name is captured: by a tuple -/
theorem es_parC (i j : Nat) {x y : Str} {kt k2} {pt2 : Pos} (ha : EA c ρ M [a, b] fun rs M' => ∃ r1 r2, rs = [r1, r2] ∧ ES c ((ρ.set i r1).set j r2) M' rest D0) (hi : c.N[i]? = some x := by rfl) (hj : c.N[j]? = some y := by rfl)
    (hx : Loc c.sc x := by first | exact Or.inl rfl | exact Or.inr rfl) (hf : c.fn x = true ∨ c.sc.names.lookup x = some .local := by first | exact .inl rfl | exact .inr rfl) (hy : Loc c.sc y := by first | exact Or.inl rfl | exact Or.inr rfl) (hfy : c.fn y = true ∨ c.sc.names.lookup y = some .local := by first | exact .inl rfl | exact .inr rfl)
    (hw : ∀ env : Env, env.scope = c.sc → swappedStores [.Tuple [.Name x p1, .Name y p2] kt p3] (.Tuple [a, b] k2 pt2) env = pure none := by (rintro ⟨_, _, _, _, _, _, _, _, _⟩ h; cases h; rfl))
    (hs : ∀ env : Env, swapsWithSole [.Tuple [.Name x p1, .Name y p2] kt p3] (.Tuple [a, b] k2 pt2) pos.line env = pure false := by intro _; rfl) :
    ES c ρ M (.Assign [.Tuple [.Name x p1, .Name y p2] kt p3] (.Tuple [a, b] k2 pt2) pos :: rest) D0 := fun X hX F As B σ H E sr hm hb pb ends => by
  have hX' := hX
  cases hX with
  | mk X k0 m0 nd calm room po =>
    refine ws_cons (ps_asg (pe_tup pa_w) (pg_tup calm (pgs_cons (pg_name nd hi hx hf) (pgs_cons (pg_name nd hj hy hfy) pgs_nil))) (hs _) (hw _ rfl)) (ha X hX' F As σ H sr hm _ fun vs F1 As1 H1 rs M1 s1 p1 r1 hm1 ⟨ra, rb, e1, k⟩ => ?_)
    subst e1
    obtain ⟨v, u, rfl, h1, h2⟩ := slrs2 r1
    refine ⟨by simp; decide, fun p hp => ?_⟩
    obtain ⟨_, fp⟩ := hm1.fresh hp
    refine ⟨p, [v, u], rfl, .inl (.inl upd_same), rfl, v, _, rfl, u, _, rfl, rfl, ?_⟩
    have s2 := same_new (o := .tup [v, u]) fp
    exact k X hX' _ As1 B _ _ E ((((sr.mono s1 p1).mono s2 (List.prefix_refl _)).set (h1.mono s2 (List.prefix_refl _))).set (h2.mono s2 (List.prefix_refl _))) (hm1.laid hp) hb (pb.trans p1) (ends.mono (s1.trans s2) (List.prefix_refl _))
/-! ### mixed lists -/
def Mx.sl : Mx → Sl
  | .d x => .val x
  | .o k => .own k
theorem mx_sl {K : PySem.W.Frag} {F : Hp} {As : List Addr} : ∀ {m : Mx} {v : V}, SlR K F As m.sl v → MxR K F As m v
  | .d _, _, h => h
  | .o _, _, h => h
theorem mxs_sl {K : PySem.W.Frag} {F : Hp} {As : List Addr} : ∀ {is : List Mx} {vs : List V}, SlRs K F As (is.map Mx.sl) vs → Paired (MxR K F As) is vs
  | [], _, .nil => .nil
  | _ :: _, _, .cons h r => .cons (mx_sl h) (mxs_sl r)
theorem ee_mix {es : List Expr} {Q : Sl → List C → Prop} (h : EA c ρ M es fun rs M1 => ∃ is : List Mx, rs = is.map Mx.sl ∧ is.length ≤ 1000 ∧ Q (.mix is) M1) : EE c ρ M (.List es pos) Q := fun X hX F As σ H sr hm G k =>
  ⟨_, pe_lst pa_w, h X hX F As σ H sr hm _ fun vs F1 As1 H1 rs M1 s1 p1 r1 hm1 hq => by
    obtain ⟨is, rfl, hz, q⟩ := hq
    have hv := mxs_sl r1
    refine ⟨by rw [← Paired.length hv]; exact Nat.le_trans hz (by decide), fun p hp => ?_⟩
    obtain ⟨_, fp⟩ := hm1.fresh hp
    have s2 := same_new (o := .lst vs) fp
    exact k _ _ As1 _ (.mix is) M1 (s1.trans s2) p1 ⟨p, vs, rfl, upd_same, Paired.mapP hv fun _ _ z => MxR.mono s2 (List.prefix_refl _) z⟩ (hm1.laid hp) q⟩
theorem mxs_d {K : PySem.W.Frag} {F : Hp} {As : List Addr} : ∀ {ds : List D} {vs : List V}, Paired (MxR K F As) (ds.map .d) vs → DVs K F ds vs
  | [], _, .nil => rfl
  | _ :: _, _, .cons h r => ⟨_, _, rfl, h, mxs_d r⟩
theorem Er.unmix {ds : List D} (h : Er c ρ M e (.mix (ds.map .d))) : Ev c ρ M e (.lst ds) := fun X hX F As σ H sr hm G k =>
  h X hX F As σ H sr hm G fun v F' H' s ⟨p, vs, r1, r2, r3⟩ hm' => k v F' H' s ⟨p, vs, r1, r2, mxs_d r3⟩ hm'
end
/-! ### lent cells -/
def atomD : D → Bool
  | .non | .bl _ | .int _ | .str _ => true
  | _ => false
theorem dv_atom {K : PySem.W.Frag} {F F' : Hp} : ∀ {d : D} {v : V}, atomD d = true → DV K F d v → DV K F' d v
  | .non, _, _, h => h
  | .bl _, _, _, h => h
  | .int _, _, _, h => h
  | .str _, _, _, h => h
theorem dvs_atom {K : PySem.W.Frag} {F F' : Hp} : ∀ {ds : List D} {vs : List V}, ds.all atomD = true → DVs K F ds vs → DVs K F' ds vs
  | [], _, _, h => h
  | d :: ds, _, hz, ⟨v, r, h1, h2, h3⟩ => by
    rw [List.all_cons, Bool.and_eq_true] at hz
    exact ⟨v, r, h1, dv_atom hz.1 h2, dvs_atom hz.2 h3⟩
theorem atoms_ints (ns : List Int) : (ns.map D.int).all atomD = true := by
  induction ns with
  | nil => rfl
  | cons n ns ih => rw [List.map_cons, List.all_cons, ih]; rfl
def flatC : C → Bool
  | .lst ds => ds.all atomD
  | .dic _ => false
theorem cr_flat {K : PySem.W.Frag} {F F' : Hp} {As Bs : List Addr} : ∀ {cc : C} {o : HO}, flatC cc = true → CR K F As cc o → CR K F' Bs cc o
  | .lst _, _, hf, ⟨vs, h1, h2⟩ => ⟨vs, h1, dvs_atom hf h2⟩
/-- atoms, and tuples of atoms -/
def flatD : D → Bool
  | .tup ds => ds.all atomD
  | d => atomD d
def lendF (H F : Hp) (As1 : List Addr) : Hp := fun a => if a ∈ As1 then H a else F a
def backF (F' : Hp) (As1 : List Addr) : Hp := fun a => if a ∈ As1 then none else F' a
section
variable {K : PySem.W.Frag} {F F' : Hp} {As0 As1 Bs : List Addr} {M0 M0' M1 N : List C} {H H' : Hp}
theorem HM.lend_same (h : HM K F (As0 ++ As1) M H) : Same F (lendF H F As1) := fun a o e => by
  unfold lendF
  split
  · rename_i z; rw [h.off a (List.mem_append_right _ z)] at e; cases e
  · exact e
theorem nodup_mid {a : Addr} (h : (As0 ++ As1).Nodup) (h0 : a ∈ As0) : a ∉ As1 := fun z => (List.nodup_append.mp h).2.2 a h0 a z rfl
theorem HM.lend (h : HM K F (As0 ++ As1) (M0 ++ M1) H) (hl : As0.length = M0.length) : HM K (lendF H F As1) As0 M0 H := by
  refine ⟨(List.nodup_append.mp h.nd).1, hl, fun i b cc eb ec => ?_, fun b hb => ?_, fun b hb => ?_⟩
  · obtain ⟨o', h1, h2⟩ := h.cell i b cc (by rw [List.getElem?_append_left (List.getElem?_eq_some_iff.mp eb).1]; exact eb) (by rw [List.getElem?_append_left (List.getElem?_eq_some_iff.mp ec).1]; exact ec)
    exact ⟨o', h1, (CR.flat h2).mono h.lend_same (List.prefix_refl _)⟩
  · unfold lendF
    rw [if_neg (nodup_mid h.nd hb)]
    exact h.off b (List.mem_append_left _ hb)
  · unfold lendF
    split
    · rfl
    · rename_i z
      exact h.out b fun y => by
        rcases List.mem_append.mp y with y | y
        · exact hb y
        · exact z y
theorem HM.back_same (h : HM K F (As0 ++ As1) M H) (s : Same (lendF H F As1) F') : Same F (backF F' As1) := fun a o e => by
  unfold backF
  split
  · rename_i z; rw [h.off a (List.mem_append_right _ z)] at e; cases e
  · exact s _ _ (h.lend_same _ _ e)
/-- the lent cells are taken back; others may be new -/
theorem HM.back_lent (h : HM K F (As0 ++ As1) (M0 ++ M1) H) (hl : As0.length = M0.length) (s : Same (lendF H F As1) F') (h' : HM K F' (As0 ++ Bs) (M0' ++ N) H') (hl' : M0'.length = M0.length) (f0 : M0'.all flatC = true) (f1 : N.all flatC = true) : HM K (backF F' As1) (As0 ++ As1 ++ Bs) (M0' ++ M1 ++ N) H' := by
  have hl1 : As1.length = M1.length := by have := h.len; simp at this; omega
  have hlb : Bs.length = N.length := by have := h'.len; simp at this; omega
  have lent : ∀ a ∈ As1, ∃ o, H a = some o ∧ F' a = some o ∧ FrOk o := fun a ha => by
    obtain ⟨o, h1, h2⟩ := h.frs a (List.mem_append_right _ ha)
    exact ⟨o, h1, s a o (by unfold lendF; rw [if_pos ha]; exact h1), h2⟩
  have off1 : ∀ a ∈ As1, a ∉ As0 ++ Bs := fun a ha z => by
    obtain ⟨o, _, h2, _⟩ := lent a ha
    rw [h'.off a z] at h2; cases h2
  refine ⟨?_, by simp [hl, hl1, hlb, hl'], fun i b cc eb ec => ?_, fun b hb => ?_, fun b hb => ?_⟩
  · have nd := h'.nd
    have nd0 := h.nd
    rw [List.nodup_append] at nd nd0 ⊢
    refine ⟨by rw [List.nodup_append]; exact nd0, nd.2.1, fun x hx y hy => ?_⟩
    rcases List.mem_append.mp hx with hx | hx
    · exact nd.2.2 x hx y hy
    · exact fun z => off1 x hx (by rw [z]; exact List.mem_append_right _ hy)
  · by_cases hi : i < As0.length
    · rw [List.append_assoc, List.getElem?_append_left hi] at eb
      rw [List.append_assoc, List.getElem?_append_left (by omega)] at ec
      obtain ⟨o, q1, q2⟩ := h'.cell i b cc (by rw [List.getElem?_append_left hi]; exact eb) (by rw [List.getElem?_append_left (by omega)]; exact ec)
      exact ⟨o, q1, cr_flat (List.all_eq_true.mp f0 cc (List.mem_of_getElem? ec)) q2⟩
    · by_cases hi2 : i < As0.length + As1.length
      · rw [List.getElem?_append_left (by simp; omega), List.getElem?_append_right (by omega)] at eb
        rw [List.getElem?_append_left (by simp; omega), List.getElem?_append_right (by omega)] at ec
        have hb : b ∈ As1 := List.mem_of_getElem? eb
        obtain ⟨o, q1, q2⟩ := h.cell i b cc (by rw [List.getElem?_append_right (by omega)]; exact eb) (by rw [List.getElem?_append_right (by omega), ← hl']; exact ec)
        obtain ⟨o', y1, y2, _⟩ := lent b hb
        have : o' = o := by rw [q1] at y1; cases y1; rfl
        subst this
        have : H' b = F' b := h'.out b (off1 b hb)
        exact ⟨o', by rw [this]; exact y2, (CR.flat (Bs := As0 ++ As1 ++ Bs) q2).mono (h.back_same s) (List.prefix_refl _)⟩
      · rw [List.getElem?_append_right (by simp; omega)] at eb ec
        have hb : b ∈ Bs := List.mem_of_getElem? eb
        simp only [List.length_append] at eb ec
        obtain ⟨o, q1, q2⟩ := h'.cell (i - As1.length) b cc (by rw [List.getElem?_append_right (by omega), ← eb]; congr 1; omega) (by rw [List.getElem?_append_right (by omega), ← ec]; congr 1; omega)
        exact ⟨o, q1, cr_flat (List.all_eq_true.mp f1 cc (List.mem_of_getElem? ec)) q2⟩
  · unfold backF
    split
    · rfl
    · rename_i z
      refine h'.off b ?_
      rcases List.mem_append.mp hb with y | y
      · rcases List.mem_append.mp y with y | y
        · exact List.mem_append_left _ y
        · exact absurd y z
      · exact List.mem_append_right _ y
  · unfold backF
    rw [if_neg (fun z => hb (List.mem_append_left _ (List.mem_append_right _ z)))]
    exact h'.out b fun z => hb (by
      rcases List.mem_append.mp z with z | z
      · exact List.mem_append_left _ (List.mem_append_left _ z)
      · exact List.mem_append_right _ z)
theorem dv_back (h : HM K F (As0 ++ As1) (M0 ++ M1) H) (s : Same (lendF H F As1) F') : ∀ {d : D} {v : V}, flatD d = true → DV K F' d v → DV K (backF F' As1) d v
  | .tup ds, v, hf, ⟨a, vs, h1, h2, h3⟩ => by
    refine ⟨a, vs, h1, ?_, dvs_atom hf h3⟩
    rcases h2 with h2 | h2
    · left
      have na : a ∉ As1 := fun z => by
        obtain ⟨o, q1, q2⟩ := h.frs a (List.mem_append_right _ z)
        have q3 := s a o (by unfold lendF; rw [if_pos z]; exact q1)
        have q4 := q2.not
        rcases h2 with h2 | ⟨o', h2⟩
        · rw [q3] at h2; cases h2; exact q4.1 _ rfl
        · rw [q3] at h2; cases h2; exact q4.2.1 _ _ rfl
      unfold Rd backF
      rw [if_neg na]
      exact h2
    · exact .inr h2
  | .non, _, _, h => h
  | .bl _, _, _, h => h
  | .int _, _, _, h => h
  | .str _, _, _, h => h
end
def lendS (n : Nat) (L : List (List D)) (k : Nat) : Option D := if n ≤ k then (L[k - n]?).map D.lst else none
def lentM (n : Nat) (L : List (List D)) : Mx → Mx
  | .o k => match lendS n L k with | some d => .d d | none => .o k
  | s => s
def lentS (n : Nat) (L : List (List D)) : Sl → Sl
  | .own k => match lendS n L k with | some d => .val d | none => .own k
  | .mix is => .mix (is.map (lentM n L))
  | s => s
section
variable {K : PySem.W.Frag} {F F' : Hp} {As0 As1 : List Addr} {M0 : List C} {L : List (List D)} {H H' : Hp}
theorem lend_own (h : HM K F (As0 ++ As1) (M0 ++ L.map .lst) H) (hl : As0.length = M0.length) {k : Nat} {a : Addr} (e : (As0 ++ As1)[k]? = some a) : (lendS M0.length L k = none ∧ As0[k]? = some a) ∨ ∃ d, lendS M0.length L k = some d ∧ DV K (lendF H F As1) d (.ref a) := by
  have hl1 : As1.length = L.length := by have := h.len; simp at this; omega
  by_cases hk : M0.length ≤ k
  · right
    have hk2 := (List.getElem?_eq_some_iff.mp e).1
    rw [List.getElem?_append_right (by omega)] at e
    have ha : a ∈ As1 := List.mem_of_getElem? e
    have hL : k - M0.length < L.length := by simp at hk2; omega
    refine ⟨.lst L[k - M0.length], by unfold lendS; rw [if_pos hk, List.getElem?_eq_getElem hL]; rfl, ?_⟩
    obtain ⟨o, q1, vs, rfl, q2⟩ := h.cell k a (.lst L[k - M0.length]) (by rw [List.getElem?_append_right (by omega)]; exact e) (by rw [List.getElem?_append_right hk, List.getElem?_map, List.getElem?_eq_getElem hL]; rfl)
    exact ⟨a, vs, rfl, by unfold lendF; rw [if_pos ha]; exact q1, q2.mono h.lend_same⟩
  · left
    refine ⟨by unfold lendS; rw [if_neg hk], ?_⟩
    rw [List.getElem?_append_left (by omega)] at e
    exact e
theorem mx_lent (h : HM K F (As0 ++ As1) (M0 ++ L.map .lst) H) (hl : As0.length = M0.length) : ∀ {m : Mx} {v : V}, MxR K F (As0 ++ As1) m v → MxR K (lendF H F As1) As0 (lentM M0.length L m) v
  | .d _, _, q => DV.mono h.lend_same q
  | .o k, _, ⟨a, q1, q2⟩ => by
    show MxR K (lendF H F As1) As0 (match lendS M0.length L k with | some d => .d d | none => .o k) _
    rcases lend_own h hl q1 with ⟨z1, z2⟩ | ⟨d, z1, z2⟩
    · rw [z1]; exact ⟨a, z2, q2⟩
    · rw [z1, q2]; exact z2
theorem sl_lent (h : HM K F (As0 ++ As1) (M0 ++ L.map .lst) H) (hl : As0.length = M0.length) : ∀ {m : Sl} {v : V}, SlR K F (As0 ++ As1) m v → SlR K (lendF H F As1) As0 (lentS M0.length L m) v
  | .un, _, _ => trivial
  | .val _, _, q => DV.mono h.lend_same q
  | .own k, _, ⟨a, q1, q2⟩ => by
    show SlR K (lendF H F As1) As0 (match lendS M0.length L k with | some d => .val d | none => .own k) _
    rcases lend_own h hl q1 with ⟨z1, z2⟩ | ⟨d, z1, z2⟩
    · rw [z1]; exact ⟨a, z2, q2⟩
    · rw [z1, q2]; exact z2
  | .mix is, _, ⟨p, vs, q1, q2, q3⟩ => by
    refine ⟨p, vs, q1, h.lend_same _ _ q2, ?_⟩
    clear q2
    induction q3 with
    | nil => exact .nil
    | cons a b ih => exact .cons (mx_lent h hl a) ih
theorem SR.lent {ρ : List Sl} {σ : L2.St} (sr : SR K F (As0 ++ As1) ρ σ) (h : HM K F (As0 ++ As1) (M0 ++ L.map .lst) H) (hl : As0.length = M0.length) : SR K (lendF H F As1) As0 (ρ.map (lentS M0.length L)) σ := by
  refine ⟨by simpa using sr.len, fun j t q z => ?_⟩
  rw [List.getElem?_map] at q
  cases e : ρ[j]? with
  | none => rw [e] at q; cases q
  | some sl =>
    rw [e] at q
    cases q
    obtain ⟨v, h1, h2⟩ := sr.get j sl e (fun y => z (by subst y; rfl))
    exact ⟨v, h1, sl_lent h hl h2⟩
theorem split_as {As : List Addr} {M1 : List C} (h : HM K F As (M0 ++ M1) H) : ∃ As0 As1, As = As0 ++ As1 ∧ As0.length = M0.length := ⟨As.take M0.length, As.drop M0.length, (List.take_append_drop _ _).symm, by
  have := h.len
  simp at this ⊢
  omega⟩
end
section
variable {c : Ctx} {ρ : List Sl} {M : List C} {a b e : Expr}
/-- a test that only reads some cells: they are lent as values -/
theorem et_lend {t : Bool} (M0 : List C) (L : List (List D)) (h : ET c (ρ.map (lentS M0.length L)) M0 e t) (hM : M = M0 ++ L.map .lst := by rfl) (f0 : M0.all flatC = true := by rfl) : ET c ρ M e t := fun X hX F As σ H sr hm G k => by
  subst hM
  obtain ⟨As0, As1, rfl, hl⟩ := split_as hm
  refine h X hX _ As0 σ H (sr.lent hm hl) (hm.lend hl) G fun F' H' s hm' => k _ H' (hm.back_same s) ?_
  have := hm.back_lent (Bs := []) (N := []) (M0' := M0) hl s (by simpa using hm') rfl f0 rfl
  simpa using this
theorem ev_lend {d : D} (M0 : List C) (L : List (List D)) (h : Ev c (ρ.map (lentS M0.length L)) M0 e d) (hd : flatD d = true) (hM : M = M0 ++ L.map .lst := by rfl) (f0 : M0.all flatC = true := by rfl) : Ev c ρ M e d := fun X hX F As σ H sr hm G k => by
  subst hM
  obtain ⟨As0, As1, rfl, hl⟩ := split_as hm
  refine h X hX _ As0 σ H (sr.lent hm hl) (hm.lend hl) G fun v F' H' s r hm' => k v _ H' (hm.back_same s) (dv_back hm s hd r) ?_
  have := hm.back_lent (Bs := []) (N := []) (M0' := M0) hl s (by simpa using hm') rfl f0 rfl
  simpa using this
theorem evn_lend {rs : List D} (M0 : List C) (L : List (List D)) (h : EvN c (ρ.map (lentS M0.length L)) M0 e rs) (hd : rs.all atomD = true) (hM : M = M0 ++ L.map .lst := by rfl) (f0 : M0.all flatC = true := by rfl) : EvN c ρ M e rs := fun X hX F As σ H sr hm G k => by
  subst hM
  obtain ⟨As0, As1, rfl, hl⟩ := split_as hm
  refine h X hX _ As0 σ H (sr.lent hm hl) (hm.lend hl) G fun v F' As' H' r M' s p r1 hm' ⟨e1, e2⟩ => ?_
  subst e1; subst e2
  obtain ⟨Bs, rfl⟩ := p
  have hb := hm'.len
  have := hm.back_lent (Bs := Bs) (N := [.lst rs]) (M0' := M0) hl s hm' rfl f0 (by simp [flatC]; simpa using hd)
  obtain ⟨q, r2, r3⟩ := r1
  refine k v _ (As0 ++ As1 ++ Bs) H' (.own (M0 ++ L.map C.lst).length) _ (hm.back_same s) (List.prefix_append _ _) ⟨q, ?_, r3⟩ this ⟨rfl, rfl⟩
  rw [← hm.len, List.getElem?_append_right (Nat.le_refl _)]
  rw [List.getElem?_append_right (by omega)] at r2
  rw [← r2]
  congr 1
  omega
/-- xs[i] of a mixed list, where a cell stands -/
theorem er_ixM {pos : Pos} {is : List Mx} {i : Int} {k : Nat} (ha : Er c ρ M a (.mix is)) (hb : Ev c ρ M b (.int i)) (hi : atI is i = some (.o k) := by rfl) (hs : PlainIx b := by exact fun _ _ => rfl) : Er c ρ M (.Subscript a b pos) (.own k) := fun X hX F As σ H sr hm G kk => by
  have hX' := hX
  cases hX with
  | mk X k0 m0 nd calm room po =>
    refine ⟨_, pe_ix ix_list pe_w pe_w hs, ha X hX' F As σ H sr hm _ fun x F1 H1 s1 r1 hm1 => hb X hX' F1 As σ H1 (sr.mono s1 (List.prefix_refl _)) hm1 _ fun y F2 H2 s2 r2 hm2 => ?_⟩
    obtain ⟨p, vs, rfl, h1, h2⟩ := r1.mono s2 (List.prefix_refl _)
    have r2 : y = .int i := r2
    subst r2
    have hv : ∃ v, atI vs i = some v ∧ MxR X.K F2 As (.o k) v := by
      unfold atI at hi ⊢
      rw [← Paired.length h2]
      cases z : ixN is.length i with
      | none => rw [z] at hi; cases hi
      | some n =>
        rw [z] at hi
        exact paired_get h2 hi
    obtain ⟨v, e1, e2⟩ := hv
    exact ⟨p, vs, i, v, rfl, rfl, .inl (.inl (hm2.same _ _ h1)), e1, kk v F2 H2 (s1.trans s2) e2 hm2⟩
end
end Dl

/-! DL13: a list that a def changes and gives back; a subscript drawn; a list or another -/
namespace Dl
open PySem L2
/-- the first argument is a list of the caller's; the def changes it and gives it back -/
def spL (K : PySem.W.Frag) (Pre : List D → List D → Prop) (R : List D → List D → List D → Prop) : Sp := fun vs H G _ => ∃ (b : Addr) (F : Hp) (ws0 : List V) (ds0 ds : List D) (us : List V), vs = .ref b :: us ∧ F b = none ∧ H = upd F b (.lst ws0) ∧ DVs K F ds0 ws0 ∧ DVs K F ds us ∧ Pre ds0 ds ∧
  ∀ ds1 ws1 F', R ds0 ds ds1 → Same F F' → F' b = none → DVs K F' ds1 ws1 → G (.ref b) (upd F' b (.lst ws1))
theorem callL {K : PySem.W.Frag} {F : Hp} {As : List Addr} {M : List C} {H : Hp} {Pre : List D → List D → Prop} {R : List D → List D → List D → Prop} {ds ds0 : List D} {vs : List V} {G : VK} {E : XK} {j : Nat} {b : Addr} (hm : HM K F As M H)
    (hb : As[j]? = some b) (hj : M[j]? = some (.lst ds0)) (hv : DVs K F ds vs) (hr : Pre ds0 ds)
    (k : ∀ ds1 F' H', R ds0 ds ds1 → Same F F' → HM K F' As (M.set j (.lst ds1)) H' → G (.ref b) H') : frSp (spL K Pre R) (.ref b :: vs) H G E := by
  obtain ⟨o, ho, ws0, rfl, hc⟩ := hm.cell j b _ hb hj
  have bA : b ∈ As := List.mem_iff_getElem?.mpr ⟨j, hb⟩
  have fb : F b = none := hm.off b bA
  have e1 : dels H (As.filter fun a => decide (a ≠ b)) = upd F b (.lst ws0) := by
    funext a
    by_cases ha : a = b
    · subst ha; rw [upd_same, dels_ne (by simp), ho]
    · rw [upd_ne ha]
      by_cases hA : a ∈ As
      · unfold dels; rw [if_pos (by simp [hA, ha])]; exact (hm.off a hA).symm
      · rw [dels_ne (by simp [hA])]; exact hm.out a hA
  refine ⟨As.filter fun a => decide (a ≠ b), fun a ha => hm.frs a (List.mem_filter.mp ha).1, b, F, ws0, ds0, ds, vs, rfl, fb, e1, hc, hv, hr, fun ds1 ws1 F' rr s fb' dv n => ?_⟩
  have n' : ∀ a ∈ As, F' a = none := fun a ha => by
    by_cases hab : a = b
    · subst hab; exact fb'
    · have := n a (by simp [ha, hab])
      rw [upd_ne hab] at this; exact this
  have e2 : puts (upd F' b (.lst ws1)) H (As.filter fun a => decide (a ≠ b)) = upd (puts F' H As) b (.lst ws1) := by
    funext a
    by_cases ha : a = b
    · subst ha; rw [puts_ne (by simp), upd_same, upd_same]
    · rw [upd_ne ha]
      by_cases hA : a ∈ As
      · rw [puts_in (by simp [hA, ha]), puts_in hA]
      · rw [puts_ne (by simp [hA]), puts_ne hA, upd_ne ha]
  rw [e2]
  exact k ds1 F' _ rr s ((hm.back s n').set hb ⟨ws1, rfl, dv⟩)
section
variable {P : Program} {w : World} {K : PySem.W.Frag} {mg : Str → Option Value} {base : Heap} {k : Nat} {f : Addr} {fd : FuncData} {x qual : Str} {st : Stmt} {N ps : List Str}
theorem okL {Pre : List D → List D → Prop} {R : List D → List D → List D → Prop} (Fn : Fun K x qual st f fd) (S : FnScope N ps (defScope st)) (hlen : ∀ s ds, Pre s ds → ds.length + 1 = ps.length)
    (h : ∀ ds0 ds, Pre ds0 ds → ES (ctxOf P w K mg base N st k 1) (rho N (.own 0 :: ds.map .val)) [.lst ds0] (defBody st) { nx := fun _ _ => False, rt := fun r M => r = .own 0 ∧ ∃ ds1, R ds0 ds ds1 ∧ M[0]? = some (.lst ds1) }) :
    FnOk P w K mg base CX0 (k + 1) f fd ps (spL K Pre R) := by
  refine Fn.ok S (fun vs H Q E ⟨b, F, ws0, ds0, ds, us, e, _, _, _, h1, h2, _⟩ => by subst e; rw [← hlen _ _ h2, h1.length]; rfl) fun cdv A outer s H vs Q E hr ⟨b, F, ws0, ds0, ds, us, e, fb, eH, h0, h1, h2, h3⟩ => ?_
  subst e; subst eH
  have hm0 : HM K F [b] [.lst ds0] (upd F b (.lst ws0)) := ⟨by simp, rfl, fun i a c e1 e2 => by
      cases i with
      | zero =>
        simp at e1 e2
        subst e1; subst e2
        exact ⟨_, upd_same, ws0, rfl, h0⟩
      | succ i => simp at e1, fun a ha => by
      have : a = b := by simpa using ha
      subst this; exact fb, fun a ha => by
      have : a ≠ b := by simpa using ha
      rw [upd_ne this]⟩
  refine h ds0 ds h2 _ (.mk (cxOf CX0 P w K mg base N qual (defScope st) f cdv A outer s (upd F b (.lst ws0)) E).nox k 1 S.nd rfl hr PassesOwn.never) F [b] [b] (L2.start N (.ref b :: us)) _ _ (sr_start (.cons ⟨b, rfl, rfl⟩ (vals_slrs h1))) hm0 rfl (List.prefix_refl _)
    ⟨fun F' As' ρ' M' σ' H' s' p' sr' hm' z => z.elim, fun F' As' r v M' H' s' p' r' hm' z => ?_, fun _ _ _ _ _ _ _ _ _ _ z => z.elim, fun _ _ _ _ _ _ _ _ _ _ z => z.elim⟩
  obtain ⟨rfl, ds1, z1, z2⟩ := z
  have e0 : As'[0]? = some b := pfx_get p' (k := 0) rfl
  obtain ⟨a, ha, rfl⟩ := r'
  have : a = b := by rw [e0] at ha; cases ha; rfl
  subst this
  obtain ⟨o, ho, ws1, rfl, hc⟩ := hm'.cell 0 a _ e0 z2
  have fb' : F' a = none := hm'.off a (List.mem_iff_getElem?.mpr ⟨0, e0⟩)
  have sd : Same F' (del H' a) := fun c o e => by rw [del_ne (ne_of_none e fb')]; exact hm'.same c o e
  have := h3 ds1 ws1 (del H' a) z1 (s'.trans sd) del_same (hc.mono sd)
  have e : upd (del H' a) a (.lst ws1) = H' := by
    funext c
    by_cases hb : c = a
    · subst hb; rw [upd_same]; exact ho.symm
    · rw [upd_ne hb, del_ne hb]
  rw [e] at this; exact this
end
section
variable {c : Ctx} {ρ : List Sl} {M : List C} {a b e : Expr} {es : List Expr} {pos p1 p2 p3 : Pos} {x : Str} {k : Nat}
theorem ee_callL {Pre : List D → List D → Prop} {R : List D → List D → List D → Prop} {Q : Sl → List C → Prop} (df : Def c.P c.w c.K c.mg c.base x k (spL c.K Pre R)) (ha : EA c ρ M (e :: es) fun rs M1 => ∃ j ds0 ds, rs = .own j :: ds.map .val ∧ M1[j]? = some (.lst ds0) ∧ Pre ds0 ds ∧ ∀ ds1, R ds0 ds ds1 → Q (.own j) (M1.set j (.lst ds1)))
    (hk : k ≤ c.k := by first | exact Nat.le_of_ble_eq_true rfl | assumption) (hg : Glo c x := by rfl) (hdb : (x == ("__debug__" : Str)) = false := by decide) (he : ∀ env, starEach (e :: es) env = (false, eval e env) :: starEach es env := by intro _; rfl) (hpl : ∀ env, (backTo pos (starEach es env)).any (·.1) = false := by intro _; rfl) :
    EE c ρ M (.Call (.Name x p1) (e :: es) [] pos) Q := fun X hX F As σ H sr hm G k =>
  we_call df hX hk hg (ha X hX F As σ H sr hm _ fun vs F1 As1 H1 rs M1 s1 p1 r1 hm1 hq => by
    obtain ⟨j, ds0, ds, rfl, hj, hr, q⟩ := hq
    cases r1 with
    | cons ra rb =>
      obtain ⟨b, hb, rfl⟩ := ra
      exact callL hm1 hb hj (slrs_vals rb) hr fun ds1 F2 H2 rr s2 hm2 => k _ F2 As1 H2 (.own j) _ (s1.trans s2) p1 ⟨b, hb, rfl⟩ hm2 (q ds1 rr)) hdb he hpl
/-- xs[i] of a list of values, the index drawn -/
theorem ee_ix {ds : List D} {Q : Sl → List C → Prop} (ha : Ev c ρ M a (.lst ds)) (hb : EE c ρ M b fun r M1 => ∃ i d, r = .val (.int i) ∧ atI ds i = some d ∧ Q (.val d) M1) (hs : PlainIx b := by exact fun _ _ => rfl) : EE c ρ M (.Subscript a b pos) Q := fun X hX F As σ H sr hm G k => by
  have hX' := hX
  cases hX with
  | mk X k0 m0 nd calm room po =>
    refine ⟨_, pe_ix ix_list pe_w pe_w hs, ha X hX' F As σ H sr hm _ fun y F1 H1 s1 r1 hm1 => hb X hX' F1 As σ H1 (sr.mono s1 (List.prefix_refl _)) hm1 _ fun z F2 As2 H2 r M2 s2 p2 r2 hm2 hq => ?_⟩
    obtain ⟨i, d, rfl, hi, q⟩ := hq
    obtain ⟨p, vs, rfl, h1, h2⟩ := DV.mono s2 r1
    have hv : ∃ v, atI vs i = some v ∧ DV X.K F2 d v := by
      unfold atI at hi ⊢
      rw [← h2.length]
      cases z : ixN ds.length i with
      | none => rw [z] at hi; cases hi
      | some n =>
        rw [z] at hi
        exact h2.get hi
    obtain ⟨v, e1, e2⟩ := hv
    exact ⟨p, vs, i, v, rfl, r2, .inl (.inl (hm2.same _ _ h1)), e1, k v F2 As2 H2 (.val d) M2 (s1.trans s2) p2 e2 hm2 q⟩
/-- a or b, where a is a new list -/
theorem evn_or {ds ds2 : List D} (ha : EvN c ρ M a ds) (h0 : ds ≠ [] → ds2 = ds) (hb : ds = [] → EvN c ρ M b ds2) : EvN c ρ M (.BoolOp .Or [a, b] pos) ds2 := fun X hX F As σ H sr hm G k => by
  refine ⟨_, pe_orT pe_w (pe_one pe_w), ha X hX F As σ H sr hm _ fun v F1 As1 H1 r M1 s1 p1 r1 hm1 hq => ?_⟩
  obtain ⟨rfl, rfl⟩ := hq
  have hl := hm1.len
  have hl0 := hm.len
  obtain ⟨t, rfl⟩ := p1
  obtain ⟨p, rfl⟩ : ∃ p, t = [p] := by
    have : t.length = 1 := by simp at hl; omega
    match t, this with
    | [p], _ => exact ⟨p, rfl⟩
  obtain ⟨p', e1, rfl⟩ := r1
  have : p' = p := by rw [← hl0] at e1; simpa using e1.symm
  subst this
  obtain ⟨o, ho, vs, rfl, hv⟩ := hm1.cell As.length p' (.lst ds) (by simp) (by rw [hl0]; simp)
  refine ⟨!ds.isEmpty, ?_, ?_⟩
  · refine .inl ⟨vs, .inl (.inl ho), ?_⟩
    have := hv.length
    cases ds <;> cases vs <;> first | rfl | (simp at this)
  · cases ds with
    | nil =>
      obtain ⟨F2, s2, hm2, dv⟩ := hm1.freeze
      exact hb rfl X hX F2 As σ H1 (sr.mono (s1.trans s2) (List.prefix_refl _)) hm2 G fun v F3 As3 H3 r M3 s3 p3 r3 hm3 q => k v F3 As3 H3 r M3 ((s1.trans s2).trans s3) p3 r3 hm3 q
    | cons d ds =>
      have := h0 (fun z => nomatch z)
      subst this
      exact k _ F1 _ H1 (.own M.length) _ s1 (List.prefix_append _ _) ⟨p', by rw [← hl0]; simp, rfl⟩ hm1 ⟨rfl, rfl⟩
/-- zip of two tuples of one length -/
theorem ei_zipT {e e2 : Expr} {ds es : List D} {elts : List Expr} {kk : Nat} {tpos : Pos} (ha : Ev c ρ M e (.tup ds)) (hb : Ev c ρ M e2 (.tup es)) (hl : ds.length = es.length) (hm0 : c.mg "zip" = none) (hg : Glo c "zip" := by rfl)
    (hs : ∀ env, starEach [e, e2] env = (false, eval e env) :: starEach [e2] env := by intro _; rfl) (hs2 : ∀ env, starEach [e2] env = (false, eval e2 env) :: starEach [] env := by intro _; rfl) :
    EI c ρ M (.Tuple elts kk tpos) (.Call (.Name "zip" p1) [e, e2] [] pos) [] ((List.range ds.length).map fun (i : Nat) => .tup [ds.getD i .non, es.getD i .non]) := fun X hX F As σ H sr hm R k => by
  have hX' := hX
  cases hX with
  | mk X k0 m0 nd calm room po =>
    refine ⟨_, RZ.pi_zipA hg hm0 (pa_cons pe_w (pa_cons pe_w pa_nil (hs2 _)) (hs _)) (hs _) (by rw [hs2]; rfl), ha X hX' F As σ H sr hm _ fun v F1 H1 s1 r1 hm1 => hb X hX' F1 As σ H1 (sr.mono s1 (List.prefix_refl _)) hm1 _ fun u F2 H2 s2 r2 hm2 => ?_⟩
    obtain ⟨a, vs, rfl, h1, h2⟩ := DV.mono s2 r1
    obtain ⟨b, us, rfl, h3, h4⟩ := id r2
    refine ⟨a, b, vs, us, rfl, .inr ⟨same_t hm2.same h1, same_t hm2.same h3, k _ F2 H2 (s1.trans s2) hm2 ?_⟩⟩
    have l1 := h2.length
    have l2 := h4.length
    refine iter_pair (n := ds.length) (G := fun H => SqT X.K H a vs ∧ SqT X.K H b us) (xs := fun _ i => vs[i]?) (ys := fun _ i => us[i]?) (ds := fun i => ds.getD i .non) (es := fun i => es.getD i .non) (fun _ z => (nomatch z)) ⟨fun i H hi ⟨g1, g2⟩ => ?_, fun H ⟨g1, g2⟩ => ?_, fun i H x H' hi ⟨g1, g2⟩ y => ?_⟩ fun F' As' M' H' sm p hm hk => ?_
    · have i1 : i < vs.length := by omega
      have i2 : i < us.length := by omega
      exact ⟨vs, us, vs[i], us[i], g1, g2, List.getElem?_eq_getElem i1, List.getElem?_eq_getElem i2⟩
    · exact ⟨vs, us, g1, g2, by omega⟩
    · obtain ⟨T, z, z', e1, e2, e3, e4, e5⟩ := y
      exact ⟨T, z, z', e1, e2, e3, e4 vs g1, e5 us g2⟩
    · refine ⟨⟨same_t hm.same (same_t sm h1), same_t hm.same (same_t sm h3)⟩, fun i x y hi ex ey => ?_⟩
      have d1 : ds[i]? = some ds[i] := List.getElem?_eq_getElem hi
      have d2 : es[i]? = some (es[i]'(by omega)) := List.getElem?_eq_getElem (by omega)
      obtain ⟨w, w1, w2⟩ := h2.get d1
      obtain ⟨w', w3, w4⟩ := h4.get d2
      have ex : vs[i]? = some x := ex
      have ey : us[i]? = some y := ey
      rw [w1] at ex; cases ex
      rw [w3] at ey; cases ey
      rw [List.getD_eq_getElem?_getD, List.getD_eq_getElem?_getD, d1, d2]
      exact ⟨DV.mono sm w2, DV.mono sm w4⟩
end
end Dl

/-! DL14: comprehensions that draw -/
namespace Dl
open PySem L2
section
variable {c : Ctx} {ρ : List Sl} {M : List C} {a b e tg iter elt : Expr} {ifs : List Expr} {scope : Scope} {pos p1 p2 p3 : Pos}
structure LcR (c : Ctx) (ρ : List Sl) (M : List C) (tg : Expr) (ifs : List Expr) (elt : Expr) (scope : Scope) (vs ks : List Nat) (ds : List D) (Iv : Nat → List C → List D → Prop) : Prop where
  i0 : Iv 0 M []
  ml : ∀ i Mi o, Iv i Mi o → Mi.length = M.length
  mks : ∀ i Mi o, Iv i Mi o → ∀ k ∈ ks, Mi[k]? = M[k]?
  len : ∀ i Mi o, Iv i Mi o → o.length ≤ i
  sz : ds.length ≤ 1000000
  turn : ∀ i d Mi o, ds[i]? = some d → Iv i Mi o → ∃ ρ2 js b, EG (c.blk scope) (wipeR ρ vs) tg (.val d) ρ2 js ∧ (∀ j ∈ js, j ∈ vs) ∧ ETs (c.blk scope) ρ2 Mi ifs b ∧
    (b = true → EE (c.blk scope) ρ2 Mi elt fun r M' => ∃ y, r = .val y ∧ Iv (i + 1) M' (o ++ [y])) ∧ (b = false → Iv (i + 1) Mi o)
theorem lcr_ok {vs ks : List Nat} {ds : List D} {Iv : Nat → List C → List D → Prop} {X : Cx} (hX : c.Is X) (L : LcR c ρ M tg ifs elt scope vs ks ds Iv) (hi : EI c ρ M tg iter ks ds) {F : Hp} {As : List Addr} {σ : L2.St} {H : Hp} (sr : SR c.K F As ρ σ) (hm : HM c.K F As M H) {G : VK}
    (k : ∀ p F' H' Mn o, Iv ds.length Mn o → Same F F' → HM c.K F' (As ++ [p]) (Mn ++ [.lst o]) H' → G (.ref p) H') :
    tLc (WI X tg iter) (gBlk X scope tg) (tBlk X scope ifs) (eBlk X scope elt) vs σ H G := by
  refine hi X hX F As σ H sr hm _ fun J F1 H1 s1 hm1 it Dl hD => ?_
  obtain ⟨Gd, Y, W, hG, hY⟩ := it.ex
  have app : ∀ (i : Nat) (Mi : List C) (o : List D), Iv i Mi o → ∀ (z : C) (q : Nat), q ∈ ks → (Mi ++ [z])[q]? = M[q]? := fun i Mi o iv z q hq => by
    rw [List.getElem?_append_left (by have := L.ml i Mi o iv; have := it.inn q hq; omega)]
    exact L.mks i Mi o iv q hq
  refine lc_it (g := gBlk X scope tg) (tt := tBlk X scope ifs) (te := eBlk X scope elt) (vs := vs) (σ := σ) (H1 := H1) (D := Dl) (Qd := G (.ref Dl)) W (fun i H' => ∃ F' Mi o, Iv i Mi o ∧ Same F1 F' ∧ HM c.K F' (As ++ [Dl]) (Mi ++ [.lst o]) H') ?_ ?_ ?_ ?_
  · exact ⟨F1, M, [], L.i0, Same.refl _, hm1.made (c := .lst []) hD ⟨[], rfl, rfl⟩⟩
  · rintro i H' _ ⟨F', Mi, o, iv, s', h'⟩
    exact hG F' _ _ H' s' (List.prefix_append _ _) h' (app i Mi o iv _)
  · rintro i x H' H'' hlt ⟨F', Mi, o, iv, s', h'⟩ y
    have hd : ds[i]? = some ds[i] := List.getElem?_eq_getElem hlt
    obtain ⟨F2, s2, hm2, dv⟩ := hY i ds[i] F' _ _ H' x H'' hd s' (List.prefix_append _ _) h' (app i Mi o iv _) y
    obtain ⟨ρ2, js, bb, hg, hjs, ht, he, hf⟩ := L.turn i ds[i] Mi o hd iv
    have hol := L.len i Mi o iv
    have hsz := L.sz
    intro sh Hh Ch clh fph
    have srw : SR (c.blk scope).K F2 As (wipeR ρ vs) (wipe σ vs) := ((sr.mono ((s1.trans s').trans s2) (List.prefix_refl _)).wipe vs)
    obtain ⟨hmu, oD, hoD, wsD, rfl, dvD⟩ := hm2.unlast
    refine hg _ (blk_is hX sh Hh scope clh Ch fph) F2 As (wipe σ vs) H'' x srw hm2.same dv _ fun σ2 sr2 hl2 hn2 => ⟨?_, fun sh Hh Ch clh fph => ?_⟩
    · rw [wipe_ext hl2 fun j hj => hn2 j fun z => hj (hjs j z)]; exact wipe_wipe
    · refine WTs.frame hoD (.lst wsD) (ht _ (blk_is hX sh Hh scope clh Ch fph) F2 As σ2 _ sr2 hmu _ fun F3 H3 s3 hm3 n3 => ?_)
      cases bb with
      | false =>
        show ∃ F', _
        exact ⟨F3, Mi, o, hf rfl, ((s'.trans s2).trans s3), hm3.made (c := .lst o) n3 ⟨wsD, rfl, dvD.mono s3⟩⟩
      | true =>
        show eBlk X scope elt σ2 _ _
        intro sh Hh Ch clh fph
        have hu : (upd H3 Dl (.lst wsD)) Dl = some (.lst wsD) := upd_same
        refine WE.frame hu (.lst wsD) ?_
        have ed : del (upd H3 Dl (.lst wsD)) Dl = H3 := by
          funext z
          unfold del upd
          split
          · rename_i e; rw [e]; exact n3.symm
          · rfl
        rw [ed]
        refine he rfl _ (blk_is hX sh Hh scope clh Ch fph) F3 As σ2 H3 (sr2.mono s3 (List.prefix_refl _)) hm3 _ fun v F4 As4 H4 r M4 s4 p4 r4 hm4 ⟨yd, e1, iv4⟩ n4 => ?_
        subst e1
        have eAs : As4 = As := by
          have l1 := hm4.len
          have l2 := hm3.len
          have l3 := L.ml i Mi o iv
          have l4 := L.ml (i + 1) M4 _ iv4
          exact (p4.eq_of_length (by omega)).symm
        subst eAs
        refine ⟨wsD, upd_same, ?_, F4, M4, o ++ [yd], iv4, (((s'.trans s2).trans s3).trans s4), ?_⟩
        · have := dvD.length
          rw [← this]
          exact Nat.lt_of_le_of_lt (Nat.le_trans hol (Nat.le_trans (Nat.le_of_lt hlt) hsz)) (by decide)
        · rw [upd_upd]
          refine hm4.made (c := .lst (o ++ [yd])) n4 ⟨wsD ++ [v], rfl, ?_⟩
          exact dvs_paired.mpr (paired_append (dvs_paired.mp (dvD.mono (s3.trans s4))) (.cons r4 .nil))
  · rintro H' ⟨F', Mi, o, iv, s', h'⟩
    exact k Dl F' H' Mi o iv (s1.trans s') h'
/-- [elt for tg in iter if ..] -/
theorem ee_lcR {own : List (Str × Nat)} {ks : List Nat} {ds : List D} {Iv : Nat → List C → List D → Prop} (hi : EI c ρ M tg iter ks ds) (L : LcR c ρ M tg ifs elt scope (own.map (·.2)) ks ds Iv) (ok : blkC c.N c.sc scope own = true := by kernel_rfl)
    (hs : ∀ (env : Env) x, foldedSetIterable iter env x = pure x := by intro _ _; rfl) : EE c ρ M (.ListComp elt [⟨tg, iter, ifs, 0⟩] scope pos) fun r M' => ∃ Mn o, Iv ds.length Mn o ∧ r = .own M.length ∧ M' = Mn ++ [.lst o] := fun X hX F As σ H sr hm G k => by
  have hq := lcr_ok (G := G) hX L hi sr hm fun p F' H' Mn o iv s hm' => k _ F' (As ++ [p]) H' (.own M.length) _ s (List.prefix_append _ _) ⟨p, by rw [← hm.len]; simp, rfl⟩ hm' ⟨Mn, o, iv, rfl, rfl⟩
  cases hX with
  | mk X k0 m0 nd calm room po =>
    exact ⟨_, pe_lc calm nd pi_w (blkOk_by ok) (fun s H C cl fp => ⟨fun pins s' σ' H' v u Q I r h => pg_w.run pins s' σ' H' v u Q I r (h s H C cl fp)⟩)
      (fun s H C cl fp => ⟨fun pins s' σ' H' Q I h => pts_w.run pins s' σ' H' Q I (h s H C cl fp)⟩) (fun s H C cl fp => ⟨fun pins s' σ' H' Q I h => pe_w.run pins s' σ' H' Q I (h s H C cl fp)⟩) (hs _), hq⟩
/-- .. its list as a value -/
theorem ee_lcV {own : List (Str × Nat)} {ks : List Nat} {ds : List D} {Iv : Nat → List C → List D → Prop} {Q : Sl → List C → Prop} (hi : EI c ρ M tg iter ks ds) (L : LcR c ρ M tg ifs elt scope (own.map (·.2)) ks ds Iv) (q : ∀ Mn o, Iv ds.length Mn o → Q (.val (.lst o)) Mn) (ok : blkC c.N c.sc scope own = true := by kernel_rfl)
    (hs : ∀ (env : Env) x, foldedSetIterable iter env x = pure x := by intro _ _; rfl) : EE c ρ M (.ListComp elt [⟨tg, iter, ifs, 0⟩] scope pos) Q := fun X hX F As σ H sr hm G k =>
  ee_lcR hi L ok hs X hX F As σ H sr hm G fun v F' As' H' r M' s p r1 hm' ⟨Mn, o, iv, e1, e2⟩ => by
    subst e1; subst e2
    have hl := hm'.len
    have hl0 := hm.len
    have ml := L.ml _ _ _ iv
    obtain ⟨t, rfl⟩ := p
    obtain ⟨a, rfl⟩ : ∃ a, t = [a] := by
      have : t.length = 1 := by simp at hl; omega
      match t, this with
      | [a], _ => exact ⟨a, rfl⟩
    obtain ⟨a', h1, rfl⟩ := r1
    have : a' = a := by
      rw [← hl0] at h1
      simpa using h1.symm
    subst this
    obtain ⟨F2, s2, hm2, dv⟩ := hm'.freeze
    exact k _ F2 As H' (.val (.lst o)) Mn (s.trans s2) (List.prefix_refl _) dv hm2 (q Mn o iv)
end
end Dl

namespace Dl
open PySem L2
--@pre
def top (i : Nat) : Stmt := PySem.Challenge.pw_latedates_k17_levels_and_mended_dates.main.body.getD i (.Pass ⟨0, 0, 0, 0⟩)
abbrev s_tupled : Stmt := top 4
abbrev s_Graph : Stmt := top 6
abbrev s_Graph_init : Stmt := inClass (top 6) 1
abbrev s_Graph_len : Stmt := inClass (top 6) 2
abbrev s_Graph_commits : Stmt := inClass (top 6) 4
abbrev s_Graph_date : Stmt := inClass (top 6) 5
abbrev s_Graph_dates : Stmt := inClass (top 6) 6
abbrev s_Graph_parents : Stmt := inClass (top 6) 7
abbrev s_Graph_check : Stmt := inClass (top 6) 8
abbrev s_graph_at : Stmt := top 7
abbrev s_rising : Stmt := top 9
abbrev s_levels : Stmt := top 10
abbrev s_mended : Stmt := top 11
abbrev s_raised : Stmt := top 12
abbrev s_raised_by : Stmt := top 13
--@endpre
section
variable {P : Program} {w : World} {K : PySem.W.Frag} {mg : Str → Option Value} {base : Heap}
--@def tupled
mutual
def tupD : D → D
  | .lst xs => .tup (tupDs xs)
  | .tup xs => .tup (tupDs xs)
  | d => d
def tupDs : List D → List D
  | [] => []
  | x :: xs => tupD x :: tupDs xs
end
theorem tupDs_map : ∀ xs : List D, tupDs xs = xs.map tupD
  | [] => rfl
  | x :: xs => by rw [tupDs, tupDs_map xs]; rfl
def Rtupled (n : Nat) (ds : List D) (d : D) : Prop := ∃ x, ds = [x] ∧ plain n x = true ∧ d = tupD x
def N_tupled : List Str := ["thing", "part"]
theorem sc_tupled : FnScope N_tupled ["thing"] (defScope s_tupled) := ⟨rfl, rfl, rfl, by decide +kernel, rfl, by decide +kernel, by decide +kernel⟩
theorem plains_all {n : Nat} : ∀ {xs : List D}, plains n xs = true → ∀ x ∈ xs, plain n x = true
  | [], _, _, h => nomatch h
  | y :: ys, h, x, hx => by
    unfold plains at h
    have h := Bool.and_eq_true_iff.mp h
    rcases List.mem_cons.mp hx with rfl | hx
    · exact h.1
    · exact plains_all h.2 x hx
theorem ok_tupled {f : Addr} {fd : FuncData} (Fn : Fun K "tupled" "tupled" s_tupled f fd) (bd : Binds K fd ["thing"] []) (hmg : mg "tupled" = some (.ref f)) (B : Bi mg) : ∀ n : Nat, FnOk P w K mg base CX0 (n + 1) f fd ["thing"] (spV K (Rtupled n))
  | 0 => okV (k := 0) Fn sc_tupled (fun ds d ⟨x, h, _⟩ => by subst h; rfl) fun ds d ⟨x, h, hp, hd⟩ => by
    subst h; subst hd
    cases x with
    | non => exact es_ret (er_if (et_val (ev_isi2 false false (er_var 0) B.isinstance B.list B.tuple)) (fun h => (nomatch h)) (fun h => er_var 0)) (.inl rfl)
    | bl b => exact es_ret (er_if (et_val (ev_isi2 false false (er_var 0) B.isinstance B.list B.tuple)) (fun h => (nomatch h)) (fun h => er_var 0)) (.inl rfl)
    | int b => exact es_ret (er_if (et_val (ev_isi2 false false (er_var 0) B.isinstance B.list B.tuple)) (fun h => (nomatch h)) (fun h => er_var 0)) (.inl rfl)
    | str b => exact es_ret (er_if (et_val (ev_isi2 false false (er_var 0) B.isinstance B.list B.tuple)) (fun h => (nomatch h)) (fun h => er_var 0)) (.inl rfl)
    | _ => exact absurd hp (by simp [plain])
  | n + 1 => okV (k := n + 1) Fn sc_tupled (fun ds d ⟨x, h, _⟩ => by subst h; rfl) fun ds d ⟨x, h, hp, hd⟩ => by
    have T : Def P w K mg base "tupled" (n + 1) (spV K (Rtupled n)) := ⟨f, hmg, Fn.kp, fnr_of (ok_tupled Fn bd hmg B n) bd⟩
    subst h; subst hd
    cases x with
    | non => exact es_ret (er_if (et_val (ev_isi2 false false (er_var 0) B.isinstance B.list B.tuple)) (fun h => (nomatch h)) (fun h => er_var 0)) (.inl rfl)
    | bl b => exact es_ret (er_if (et_val (ev_isi2 false false (er_var 0) B.isinstance B.list B.tuple)) (fun h => (nomatch h)) (fun h => er_var 0)) (.inl rfl)
    | int b => exact es_ret (er_if (et_val (ev_isi2 false false (er_var 0) B.isinstance B.list B.tuple)) (fun h => (nomatch h)) (fun h => er_var 0)) (.inl rfl)
    | str b => exact es_ret (er_if (et_val (ev_isi2 false false (er_var 0) B.isinstance B.list B.tuple)) (fun h => (nomatch h)) (fun h => er_var 0)) (.inl rfl)
    | lst xs =>
      have hp : (decide (xs.length ≤ 1000) && plains n xs) = true := hp
      have hz := of_decide_eq_true (Bool.and_eq_true_iff.mp hp).1
      have hq := plains_all (plain_items hp)
      refine es_ret (er_if (et_val (ev_isi2 true false (er_var 0) B.isinstance B.list B.tuple)) (fun h => (ev_callT (ea_cons (EvN.ev (evn_lc (xs := xs) (enc := id) (t := fun _ => true) (f := tupD) (own := [("part", 1)]) (ei_seq (d := .lst xs) (ds := xs.map id) (er_var 0) (.inl (by rw [List.map_id]))) (by omega) (by decide) (fun x hx => eg_name 1) (fun x hx => ets_nil)
        (fun x hx ht => ev_call (ds := [x]) T (ea_cons (er_var 1) ea_nil) ⟨x, rfl, hq x hx, rfl⟩ (Nat.le_refl _)))) ea_nil) cx_tuple B.tuple)) (fun h => (nomatch h))) (.inl ?_)
      rw [filt_true, tupD, tupDs_map]
    | tup xs =>
      have hp : (decide (xs.length ≤ 1000) && plains n xs) = true := hp
      have hz := of_decide_eq_true (Bool.and_eq_true_iff.mp hp).1
      have hq := plains_all (plain_items hp)
      refine es_ret (er_if (et_val (ev_isi2 false true (er_var 0) B.isinstance B.list B.tuple)) (fun h => (ev_callT (ea_cons (EvN.ev (evn_lc (xs := xs) (enc := id) (t := fun _ => true) (f := tupD) (own := [("part", 1)]) (ei_seq (d := .tup xs) (ds := xs.map id) (er_var 0) (.inr (by rw [List.map_id]))) (by omega) (by decide) (fun x hx => eg_name 1) (fun x hx => ets_nil)
        (fun x hx ht => ev_call (ds := [x]) T (ea_cons (er_var 1) ea_nil) ⟨x, rfl, hq x hx, rfl⟩ (Nat.le_refl _)))) ea_nil) cx_tuple B.tuple)) (fun h => (nomatch h))) (.inl ?_)
      rw [filt_true, tupD, tupDs_map]
    | _ => exact absurd hp (by simp [plain])
--@end
--@def Graph
theorem tupD_ints {d : D} {ns : List Int} (h : IsSeq d (ns.map D.int)) : tupD d = .tup (ns.map D.int) := by
  have e : (ns.map D.int).map tupD = ns.map D.int := by
    rw [List.map_map]
    exact List.map_congr_left fun _ _ => rfl
  rcases h with rfl | rfl
  · rw [tupD, tupDs_map, e]
  · rw [tupD, tupDs_map, e]
/-- data of lists and tuples stays where such objects stay -/
theorem dv_keep {K : PySem.W.Frag} {F F' : Hp} (h : ∀ b o, F b = some o → ((∃ vs, o = .lst vs) ∨ (∃ vs, o = .tup vs) ∨ ∃ u z, o = .frz u z) → F' b = some o) : ∀ {n : Nat} {d : D} {v : V}, plain n d = true → DV K F d v → DV K F' d v := by
  have sq : ∀ {a : Addr} {vs : List V}, SqT K F a vs → SqT K F' a vs := fun {a vs} z => by
    rcases z with (z | ⟨o, z⟩) | z
    · exact .inl (.inl (h _ _ z (.inr (.inl ⟨_, rfl⟩))))
    · exact .inl (.inr ⟨o, h _ _ z (.inr (.inr ⟨_, _, rfl⟩))⟩)
    · exact .inr z
  have main : ∀ (n : Nat), (∀ (d : D) (v : V), plain n d = true → DV K F d v → DV K F' d v) ∧ ∀ (ds : List D) (vs : List V), plains n ds = true → DVs K F ds vs → DVs K F' ds vs := by
    have lift : ∀ n, (∀ (d : D) (v : V), plain n d = true → DV K F d v → DV K F' d v) → ∀ (ds : List D) (vs : List V), plains n ds = true → DVs K F ds vs → DVs K F' ds vs := fun n hd ds => by
      induction ds with
      | nil => exact fun vs _ z => z
      | cons d ds ih =>
        intro vs p ⟨v, r, e1, e2, e3⟩
        unfold plains at p
        have p := Bool.and_eq_true_iff.mp p
        exact ⟨v, r, e1, hd d v p.1 e2, ih r p.2 e3⟩
    intro n
    induction n with
    | zero =>
      have hd : ∀ (d : D) (v : V), plain 0 d = true → DV K F d v → DV K F' d v := fun d v p z => by
        cases d with
        | non => exact z
        | bl b => exact z
        | int b => exact z
        | str b => exact z
        | _ => exact absurd p (by simp [plain])
      exact ⟨hd, lift 0 hd⟩
    | succ n ih =>
      have hd : ∀ (d : D) (v : V), plain (n + 1) d = true → DV K F d v → DV K F' d v := fun d v p z => by
        cases d with
        | non => exact z
        | bl b => exact z
        | int b => exact z
        | str b => exact z
        | lst xs =>
          obtain ⟨a, vs, e1, e2, e3⟩ := z
          exact ⟨a, vs, e1, h _ _ e2 (.inl ⟨_, rfl⟩), ih.2 xs vs (plain_items p) e3⟩
        | tup xs =>
          obtain ⟨a, vs, e1, e2, e3⟩ := z
          exact ⟨a, vs, e1, sq e2, ih.2 xs vs (plain_items p) e3⟩
        | _ => exact absurd p (by simp [plain])
      exact ⟨hd, lift _ hd⟩
  exact fun {n d v} p z => (main n).1 d v p z
/-- what the walk asks of the class Graph -/
structure TGraph (K : PySem.W.Frag) (C p0 p1 p2 : Addr) : Prop where
  cl : SlX.SCls K C
  s0 : SlX.Slot1 K C "own_dates" p0 0
  s1 : SlX.Slot1 K C "own_parents" p1 1
  s2 : SlX.Slot1 K C "own_ways" p2 2
def RinitG (ds fs : List D) : Prop := ∃ g d, ds = [d] ∧ IsG g d ∧ g.length ≤ 1000 ∧ (∀ r ∈ g, r.2.length ≤ 1000) ∧ fs = [.lst ((g.map (·.1)).map D.int), .lst (g.map fun r => .tup (r.2.map D.int)), .dic [] []]
def N_Graph_init : List Str := ["self", "graph", "row"]
theorem sc_Graph_init : FnScope N_Graph_init ["self", "graph"] (defScope s_Graph_init) := ⟨rfl, rfl, rfl, by decide +kernel, rfl, by decide +kernel, by decide +kernel⟩
theorem ok_Graph_init {f C p0 p1 p2 : Addr} {fd : FuncData} (Fn : Fun K "__init__" "Graph.__init__" s_Graph_init f fd) (G : TGraph K C p0 p1 p2) (T : Def P w K mg base "tupled" 2 (spV K (Rtupled 1))) : FnOk P w K mg base CX0 3 f fd ["self", "graph"] (spI K C RinitG) := by
  refine Fn.ok (k := 2) sc_Graph_init (fun vs H Q E ⟨a, dx, us, ds, fs, H0, e, _, _, _, _, h1, ⟨g, d, h2, _⟩, _⟩ => ?_) fun cdv A outer s H vs Q E hr ⟨a, dx, us, ds, fs, H0, ev, ha, hdx, ne, eH, hds, ⟨g, d, ed, hg, hz, hz2, ef⟩, k⟩ => ?_
  · subst e; subst h2
    obtain ⟨v, r, e1, _, e2⟩ := h1
    have e2 : r = [] := e2
    subst e1; subst e2; rfl
  subst ev; subst ed; subst ef
  obtain ⟨gv, r, e1, hgv, e2⟩ := hds
  have e2 : r = [] := e2
  subst e1; subst e2
  obtain ⟨ps, hps, hsq, hrow⟩ := hg
  have hpl : ps.length = g.length := by rw [← hps, List.length_map]
  have hX : (ctxOf P w K mg base N_Graph_init s_Graph_init 2 0).Is (cxOf CX0 P w K mg base N_Graph_init "Graph.__init__" (defScope s_Graph_init) f cdv A outer s H E).nox := .mk (cxOf CX0 P w K mg base N_Graph_init "Graph.__init__" (defScope s_Graph_init) f cdv A outer s H E).nox 2 0 sc_Graph_init.nd rfl hr PassesOwn.never
  refine ⟨_, pss_cons (SlX.ps_sl (pv 0) pe_w) (pss_cons (SlX.ps_sl (pv 0) pe_w) (pss_one (SlX.ps_sl (pv 0) pe_dnewK))), ?_⟩
  -- the heap without the object
  have sH0 : Same H0 H := fun b o e => by
    rw [eH, upd_ne (ne_of_none e ha), upd_ne (ne_of_none e hdx)]; exact e
  have hgv0 : ∀ {F : Hp}, Same H0 F → SR K F [] (rho N_Graph_init [.un, .val d]) (L2.start N_Graph_init [.ref a, gv]) := fun {F} sF => sr_start (.cons trivial (.cons (DV.mono sF hgv) .nil))
  have hm0 : ∀ F : Hp, HM K F [] [] F := fun F => ⟨.nil, rfl, fun i a c e => by simp at e, fun a h => (nomatch h), fun _ _ => rfl⟩
  -- own_dates
  refine (evn_lc (c := ctxOf P w K mg base N_Graph_init s_Graph_init 2 0) (ρ := rho N_Graph_init [.un, .val d]) (M := []) (xs := ps) (enc := (·.2)) (t := fun _ => true) (f := fun p => .int p.1.1) (own := [("row", 2)]) (ei_seq (er_var 1) hsq) (by omega) (by decide) (fun x hx => eg_name 2) (fun x hx => ets_nil)
    (fun x hx ht => by
      obtain ⟨pd, h1, h2⟩ := hrow x hx
      exact ev_ixS (er_var 2) ev_int h1)) _ hX H [] _ H (hgv0 sH0) (hm0 H) _ fun v F1 As1 H1 r1 M1 s1 _ rr1 hm1 ⟨er, eM⟩ => ?_
  subst er; subst eM
  obtain ⟨q1, rr1, rfl⟩ := rr1
  obtain ⟨As', hAs⟩ : ∃ As', As1 = q1 :: As' := by
    cases As1 with
    | nil => simp at rr1
    | cons x y => simp at rr1; exact ⟨y, by rw [rr1]⟩
  have : As' = [] := by
    have := hm1.len
    rw [hAs] at this
    simpa using this
  subst this; subst hAs
  obtain ⟨o1, ho1, vs1, rfl, hv1⟩ := hm1.cell 0 q1 _ rfl rfl
  rw [filt_true] at hv1
  have hv1 : DVs K F1 ((g.map (·.1)).map D.int) vs1 := by
    rw [← hps, List.map_map, List.map_map]; exact hv1
  have hv1 := dvs_ints.mp hv1
  subst hv1
  have sF1 : Same H H1 := s1.trans hm1.same
  have fq1 : F1 q1 = none := hm1.off q1 (by simp)
  have aH : H a = some (.ins C dx []) := by rw [eH]; exact upd_same
  have dH : H dx = some (.own a) := by rw [eH, upd_ne ne]; exact upd_same
  refine ⟨_, rfl, a, C, dx, p0, [], 0, rfl, .inl ⟨sF1 _ _ aH, rfl⟩, G.cl, G.s0, ?_⟩
  have na1 : q1 ≠ a := fun z => by
    rw [z, s1 _ _ aH] at fq1; cases fq1
  have nd1 : q1 ≠ dx := fun z => by
    rw [z, s1 _ _ dH] at fq1; cases fq1
  generalize hH2 : SlX.slH H1 a C dx (SlX.putS 0 (.ref q1) []) = H2
  have g2 : ∀ b, b ≠ a → b ≠ dx → H2 b = H1 b := fun b h1 h2 => by rw [← hH2]; exact SlX.slH_ne h1 h2
  have sl2 : SlX.Slt H2 a C dx [some (.ref q1)] := by rw [← hH2]; exact SlX.slH_slt ne
  have s02 : Same H0 H2 := fun b o e => by
    rw [g2 b (ne_of_none e ha) (ne_of_none e hdx)]; exact sF1 _ _ (sH0 b o e)
  have l1 : H2 q1 = some (.lst ((g.map (·.1)).map V.int)) := by rw [g2 q1 na1 nd1]; exact ho1
  -- own_parents
  refine (evn_lc (c := ctxOf P w K mg base N_Graph_init s_Graph_init 2 0) (ρ := rho N_Graph_init [.un, .val d]) (M := []) (xs := ps) (enc := (·.2)) (t := fun _ => true) (f := fun p => .tup (p.1.2.map D.int)) (own := [("row", 2)]) (ei_seq (er_var 1) hsq) (by omega) (by decide) (fun x hx => eg_name 2) (fun x hx => ets_nil)
    (fun x hx ht => by
      obtain ⟨pd, h1, h2⟩ := hrow x hx
      have hx2 : x.1.2.length ≤ 1000 := hz2 x.1 (by rw [← hps]; exact List.mem_map_of_mem hx)
      have pp : plain 1 pd = true := by
        rcases h2 with rfl | rfl
        · show (decide ((x.1.2.map D.int).length ≤ 1000) && plains 0 (x.1.2.map D.int)) = true
          rw [plains_ints]; simpa using hx2
        · show (decide ((x.1.2.map D.int).length ≤ 1000) && plains 0 (x.1.2.map D.int)) = true
          rw [plains_ints]; simpa using hx2
      exact ev_call (ds := [pd]) T (ea_cons (ev_ixS (er_var 2) ev_int h1) ea_nil) ⟨pd, rfl, pp, (tupD_ints h2).symm⟩)) _ hX H2 [] _ H2 (hgv0 s02) (hm0 H2) _ fun v F3 As3 H3 r3 M3 s3 _ rr3 hm3 ⟨er, eM⟩ => ?_
  subst er; subst eM
  obtain ⟨q3, rr3, rfl⟩ := rr3
  obtain ⟨As', hAs⟩ : ∃ As', As3 = q3 :: As' := by
    cases As3 with
    | nil => simp at rr3
    | cons x y => simp at rr3; exact ⟨y, by rw [rr3]⟩
  have : As' = [] := by
    have := hm3.len
    rw [hAs] at this
    simpa using this
  subst this; subst hAs
  obtain ⟨o3, ho3, vs3, rfl, hv3⟩ := hm3.cell 0 q3 _ rfl rfl
  rw [filt_true] at hv3
  have hv3 : DVs K F3 (g.map fun r => .tup (r.2.map D.int)) vs3 := by
    rw [← hps, List.map_map]; exact hv3
  have fq3 : F3 q3 = none := hm3.off q3 (by simp)
  have sF3 : Same H2 H3 := s3.trans hm3.same
  refine ⟨_, rfl, a, C, dx, p1, _, 1, rfl, same_slt sF3 sl2, G.cl, G.s1, ?_⟩
  have aH2 : H2 a = some (SlX.SlO a C dx [some (.ref q1)]) := by
    rw [← hH2]; exact upd_same
  have dH2 : H2 dx = some (.xd []) := by
    rw [← hH2]; unfold SlX.slH; rw [upd_ne ne, upd_same]
  have na3 : q3 ≠ a := fun z => by
    rw [z, s3 _ _ aH2] at fq3; cases fq3
  have nd3 : q3 ≠ dx := fun z => by
    rw [z, s3 _ _ dH2] at fq3; cases fq3
  generalize hH4 : SlX.slH H3 a C dx (SlX.putS 1 (.ref q3) [some (.ref q1)]) = H4
  have g4 : ∀ b, b ≠ a → b ≠ dx → H4 b = H3 b := fun b h1 h2 => by rw [← hH4]; exact SlX.slH_ne h1 h2
  have sl4 : SlX.Slt H4 a C dx [some (.ref q1), some (.ref q3)] := by rw [← hH4]; exact SlX.slH_slt ne
  have s04 : Same H0 H4 := fun b o e => by
    rw [g4 b (ne_of_none e ha) (ne_of_none e hdx)]; exact sF3 _ _ (s02 b o e)
  have l1' : H4 q1 = some (.lst ((g.map (·.1)).map V.int)) := by rw [g4 q1 na1 nd1]; exact sF3 _ _ l1
  have l3 : H4 q3 = some (.lst vs3) := by rw [g4 q3 na3 nd3]; exact ho3
  have hpl3 : plains 1 (g.map fun r => D.tup (r.2.map D.int)) = true := plains_map fun r hr => by
    show (decide ((r.2.map D.int).length ≤ 1000) && plains 0 (r.2.map D.int)) = true
    rw [plains_ints]; simpa using hz2 r hr
  -- own_ways
  intro q5 hq5
  have na5 : q5 ≠ a := fun z => by
    rw [z, ← hH4] at hq5
    rw [show SlX.slH H3 a C dx (SlX.putS 1 (.ref q3) [some (.ref q1)]) a = some _ from upd_same] at hq5; cases hq5
  have dH4 : H4 dx = some (.xd []) := by
    rw [← hH4]; unfold SlX.slH; rw [upd_ne ne, upd_same]
  have nd5 : q5 ≠ dx := fun z => by
    rw [z, dH4] at hq5; cases hq5
  refine ⟨_, rfl, a, C, dx, p2, _, 2, rfl, same_slt (same_new hq5) sl4, G.cl, G.s2, ?_⟩
  generalize hH6 : SlX.slH (upd H4 q5 (.dK [])) a C dx (SlX.putS 2 (.ref q5) [some (.ref q1), some (.ref q3)]) = H6
  have g6 : ∀ b, b ≠ a → b ≠ dx → H6 b = upd H4 q5 (.dK []) b := fun b h1 h2 => by rw [← hH6]; exact SlX.slH_ne h1 h2
  have sl6 : SlX.Slt H6 a C dx ([V.ref q1, .ref q3, .ref q5].map some) := by rw [← hH6]; exact SlX.slH_slt ne
  refine k H6 (fun b o e => ?_) ⟨a, dx, [.ref q1, .ref q3, .ref q5], rfl, sl6, _, _, rfl, ⟨q1, _, rfl, ?_, dvs_ints.mpr rfl⟩, _, _, rfl, ⟨q3, vs3, rfl, ?_, ?_⟩, _, _, rfl, ⟨q5, [], rfl, ?_, rfl, rfl⟩, rfl⟩
  · rw [g6 b (ne_of_none e ha) (ne_of_none e hdx)]; exact same_new hq5 _ _ (s04 b o e)
  · rw [g6 q1 na1 nd1]; exact same_new hq5 _ _ l1'
  · rw [g6 q3 na3 nd3]; exact same_new hq5 _ _ l3
  · have : DV K H6 (.lst (g.map fun r => .tup (r.2.map D.int))) (.ref q3) := by
      refine dv_keep (F := upd F3 q3 (.lst vs3)) (n := 2) (fun b o e hb => ?_) ?_ ⟨q3, vs3, rfl, upd_same, hv3.mono (same_new fq3)⟩
      · by_cases hb3 : b = q3
        · subst hb3; rw [upd_same] at e; cases e
          rw [g6 b na3 nd3]; exact same_new hq5 _ _ l3
        · rw [upd_ne hb3] at e
          have nba : b ≠ a := fun z => by
            rw [z, s3 _ _ aH2] at e; cases e
            rcases hb with ⟨_, hb⟩ | ⟨_, hb⟩ | ⟨_, _, hb⟩ <;> cases hb
          have nbd : b ≠ dx := fun z => by
            rw [z, s3 _ _ dH2] at e; cases e
            rcases hb with ⟨_, hb⟩ | ⟨_, hb⟩ | ⟨_, _, hb⟩ <;> cases hb
          rw [g6 b nba nbd]
          exact same_new hq5 _ _ (by rw [g4 b nba nbd]; exact hm3.same _ _ e)
      · show (decide ((g.map fun r => D.tup (r.2.map D.int)).length ≤ 1000) && plains 1 _) = true
        rw [hpl3]; simpa using hz
    obtain ⟨a', vs', e1, e2, e3⟩ := this
    cases e1
    rw [g6 q3 na3 nd3, same_new hq5 _ _ l3] at e2
    cases e2
    exact e3
  · rw [g6 q5 na5 nd5]; exact upd_same
--@end
end
end Dl

namespace Dl
open PySem L2
section
variable {P : Program} {w : World} {K : PySem.W.Frag} {mg : Str → Option Value} {base : Heap}
--@def Graph_methods
section
variable {C p0 p1 p2 : Addr}
def Rlen (C : Addr) (ds : List D) (d : D) : Prop := ∃ g : Gr, ds = [grO C g] ∧ d = .int g.length
theorem sc_Graph_len : FnScope ["self"] ["self"] (defScope s_Graph_len) := ⟨rfl, rfl, rfl, by decide +kernel, rfl, by decide +kernel, by decide +kernel⟩
theorem ok_Graph_len {f : Addr} {fd : FuncData} (Fn : Fun K "__len__" "Graph.__len__" s_Graph_len f fd) (G : TGraph K C p0 p1 p2) (B : Bi mg) : FnOk P w K mg base CX0 1 f fd ["self"] (spV K (Rlen C)) :=
  okV (k := 0) Fn sc_Graph_len (fun ds d ⟨g, h, _⟩ => by subst h; rfl) fun ds d ⟨g, h, hd⟩ => by
    subst h; subst hd
    exact es_ret (ev_len (ev_slot (er_var 0) G.cl G.s0) B.len) (.inl (by simp))
def Rcommits (C : Addr) (ds rs : List D) : Prop := ∃ g : Gr, ds = [grO C g] ∧ g.length ≤ 1000 ∧ rs = (rng 0 g.length).map D.int
theorem sc_Graph_commits : FnScope ["self"] ["self"] (defScope s_Graph_commits) := ⟨rfl, rfl, rfl, by decide +kernel, rfl, by decide +kernel, by decide +kernel⟩
theorem ok_Graph_commits {f : Addr} {fd : FuncData} (Fn : Fun K "commits" "Graph.commits" s_Graph_commits f fd) (G : TGraph K C p0 p1 p2) (B : Bi mg) : FnOk P w K mg base CX0 1 f fd ["self"] (spN K (Rcommits C)) :=
  okN (k := 0) Fn sc_Graph_commits (fun ds d ⟨g, h, _⟩ => by subst h; rfl) fun ds d ⟨g, h, hz, hd⟩ => by
    subst h; subst hd
    exact es_retN (evn_listR1 (ev_len (ev_slot (er_var 0) G.cl G.s0) B.len) ⟨by omega, by simp; omega⟩ B.list B.range) ⟨0, rfl, by simp⟩
def Rdate (C : Addr) (ds : List D) (d : D) : Prop := ∃ (g : Gr) (i : Int), ds = [grO C g, .int i] ∧ 0 ≤ i ∧ i < g.length ∧ d = .int (gdate g i)
theorem sc_Graph_date : FnScope ["self", "commit"] ["self", "commit"] (defScope s_Graph_date) := ⟨rfl, rfl, rfl, by decide +kernel, rfl, by decide +kernel, by decide +kernel⟩
theorem ok_Graph_date {f : Addr} {fd : FuncData} (Fn : Fun K "date" "Graph.date" s_Graph_date f fd) (G : TGraph K C p0 p1 p2) : FnOk P w K mg base CX0 1 f fd ["self", "commit"] (spV K (Rdate C)) :=
  okV (k := 0) Fn sc_Graph_date (fun ds d ⟨g, i, h, _⟩ => by subst h; rfl) fun ds d ⟨g, i, h, h0, h1, hd⟩ => by
    subst h; subst hd
    refine es_ret (ev_ix (ev_slot (er_var 0) G.cl G.s0) (er_var 1) (hd := ?_)) (.inl rfl)
    rw [List.map_map]
    exact atI_map (f := D.int ∘ (·.1)) (z := (0, [])) h0 h1
def Rdates (C : Addr) (ds rs : List D) : Prop := ∃ g : Gr, ds = [grO C g] ∧ rs = (g.map (·.1)).map D.int
theorem sc_Graph_dates : FnScope ["self"] ["self"] (defScope s_Graph_dates) := ⟨rfl, rfl, rfl, by decide +kernel, rfl, by decide +kernel, by decide +kernel⟩
theorem ok_Graph_dates {f : Addr} {fd : FuncData} (Fn : Fun K "dates" "Graph.dates" s_Graph_dates f fd) (G : TGraph K C p0 p1 p2) (B : Bi mg) : FnOk P w K mg base CX0 1 f fd ["self"] (spN K (Rdates C)) :=
  okN (k := 0) Fn sc_Graph_dates (fun ds d ⟨g, h, _⟩ => by subst h; rfl) fun ds d ⟨g, h, hd⟩ => by
    subst h; subst hd
    exact es_retN (evn_callT (ea_cons (ev_slot (er_var 0) G.cl G.s0) ea_nil) cn_list B.list) ⟨0, rfl, rfl⟩
def Rparents (C : Addr) (ds : List D) (d : D) : Prop := ∃ (g : Gr) (i : Int), ds = [grO C g, .int i] ∧ 0 ≤ i ∧ i < g.length ∧ d = .tup ((gpar g i).map D.int)
theorem sc_Graph_parents : FnScope ["self", "commit"] ["self", "commit"] (defScope s_Graph_parents) := ⟨rfl, rfl, rfl, by decide +kernel, rfl, by decide +kernel, by decide +kernel⟩
theorem ok_Graph_parents {f : Addr} {fd : FuncData} (Fn : Fun K "parents" "Graph.parents" s_Graph_parents f fd) (G : TGraph K C p0 p1 p2) : FnOk P w K mg base CX0 1 f fd ["self", "commit"] (spV K (Rparents C)) :=
  okV (k := 0) Fn sc_Graph_parents (fun ds d ⟨g, i, h, _⟩ => by subst h; rfl) fun ds d ⟨g, i, h, h0, h1, hd⟩ => by
    subst h; subst hd
    exact es_ret (ev_ix (ev_slot (er_var 0) G.cl G.s1) (er_var 1) (hd := atI_map (f := fun r : Int × List Int => D.tup (r.2.map D.int)) (z := (0, [])) h0 h1)) (.inl rfl)
def Rcheck (C : Addr) (ds : List D) (d : D) : Prop := ∃ (g : Gr) (x : D) (ns : List Int), ds = [grO C g, x] ∧ IsSeq x (ns.map D.int) ∧ (∀ n ∈ ns, 0 ≤ n ∧ n < g.length) ∧ d = .non
def N_Graph_check : List Str := ["self", "commits", "commit"]
theorem sc_Graph_check : FnScope N_Graph_check ["self", "commits"] (defScope s_Graph_check) := ⟨rfl, rfl, rfl, by decide +kernel, rfl, by decide +kernel, by decide +kernel⟩
theorem ok_Graph_check {f : Addr} {fd : FuncData} (Fn : Fun K "check" "Graph.check" s_Graph_check f fd) (G : TGraph K C p0 p1 p2) (B : Bi mg) : FnOk P w K mg base CX0 1 f fd ["self", "commits"] (spV K (Rcheck C)) :=
  okV (k := 0) Fn sc_Graph_check (fun ds d ⟨g, x, ns, h, _⟩ => by subst h; rfl) fun ds d ⟨g, x, ns, h, hx, hn, hd⟩ => by
    subst h; subst hd
    refine es_for (fun i ρ M => ρ = [.val (grO C g), .val x, .un] ∧ M = []) (ei_seq (er_var 1) hx) ⟨rfl, rfl⟩ (fun _ _ _ _ _ z => (nomatch z)) (Nat.le_refl _) (fun _ _ _ ⟨_, h⟩ => by rw [h]; exact Nat.le_refl _) ?_ ?_
    · rintro i d ρ M hd ⟨rfl, rfl⟩
      rw [List.getElem?_map] at hd
      cases e : ns[i]? with
      | none => rw [e] at hd; cases hd
      | some n =>
        rw [e] at hd; cases hd
        have := hn n (List.mem_of_getElem? e)
        refine ⟨_, _, eg_name 2, es_if (et_not (et_chain ev_int (er_var 2) (ev_len (ev_slot (er_var 0) G.cl G.s0) B.len) ox_le ox_lt)) (fun ht => ?_) (fun _ => ?_)⟩
        · exfalso
          have h1 : decide ((0 : Int) ≤ n) = true := decide_eq_true this.1
          have h2 : decide (n < ((List.map D.int (g.map (·.1))).length : Int)) = true := decide_eq_true (by simp; omega)
          rw [h1, h2] at ht; cases ht
        · exact es_nil (es_nil ⟨_, .keep (.keep (.drop .nil)), rfl, rfl⟩)
    · rintro ρ M ⟨rfl, rfl⟩
      exact es_nil rfl
end
--@end
/-- what the program's parts keep, as callers see it -/
structure PG (P : Program) (w : World) (K : PySem.W.Frag) (mg : Str → Option Value) (base : Heap) (C p0 p1 p2 : Addr) : Prop where
  B : Bi mg
  G : TGraph K C p0 p1 p2
  init : DefI P w K mg base "Graph" C 3 (spI K C RinitG)
  len : DefL P w K mg base C 1 (spV K (Rlen C))
  commits : DefM P w K mg base C "commits" 1 (spN K (Rcommits C))
  date : DefM P w K mg base C "date" 1 (spV K (Rdate C))
  dates : DefM P w K mg base C "dates" 1 (spN K (Rdates C))
  parents : DefM P w K mg base C "parents" 1 (spV K (Rparents C))
  check : DefM P w K mg base C "check" 1 (spV K (Rcheck C))
theorem PG.made {C : Addr} {g : Gr} {d : D} (hw : WF g) (hg : IsG g d) : RinitG [d] [.lst ((g.map (·.1)).map D.int), .lst (g.map fun r => .tup (r.2.map D.int)), .dic [] []] :=
  ⟨g, d, rfl, hg, by have := hw.len; omega, fun r hr => by
    obtain ⟨i, e⟩ := List.mem_iff_getElem?.mp hr
    have hi := (List.getElem?_eq_some_iff.mp e).1
    have w := hw.row i r e
    have := asc_len r.2 i w.2.2.1 w.2.2.2
    have := hw.len
    omega, rfl⟩
--@def graph_at
def Rgraph_at (C : Addr) (ds : List D) (d : D) : Prop := ∃ (g : Gr) (x : D) (xs : List D), ds = x :: xs ∧ IsG g x ∧ WF g ∧ xs.length ≤ 10 ∧ (∀ y ∈ xs, ∃ ns : List Int, IsSeq y (ns.map D.int) ∧ ∀ n ∈ ns, 0 ≤ n ∧ n < g.length) ∧ d = grO C g
def N_graph_at : List Str := ["graph", "groups", "found", "commits"]
theorem sc_graph_at : FnScope N_graph_at ((["graph"] : List Str) ++ (["groups"] : List Str)) (defScope s_graph_at) := ⟨rfl, rfl, rfl, by decide +kernel, rfl, by decide +kernel, by decide +kernel⟩
theorem ok_graph_at {C p0 p1 p2 f : Addr} {fd : FuncData} (Fn : Fun K "graph_at" "graph_at" s_graph_at f fd) (T : PG P w K mg base C p0 p1 p2) : FnR P w K mg base CX0 5 f (spV K (Rgraph_at C)) := by
  refine okStarV (k := 4) (ps := ["graph"]) (pv := "groups") Fn sc_graph_at (fun ds d ⟨g, x, xs, h, _, _, hz, _⟩ => by subst h; simp; omega) (fun kV doc pm an cdv ct us rest hl => ?_) fun ws rest d hl ⟨g, x, xs, h, hg, hw, hz, hy, hd⟩ => ?_
  · exact StX.bind_star1 (B := fun us => bindArgs (PySem.W.fnOf "graph_at" "graph_at" (defArgs s_graph_at) (defBody s_graph_at) (defScope s_graph_at) .none kV doc pm an cdv ct) ⟨us, []⟩) (fun a => rfl) (fun a r rs => rfl) us rest hl
  · match ws, hl with
    | [y], _ =>
      simp only [List.cons_append, List.nil_append, List.cons.injEq] at h
      obtain ⟨rfl, rfl⟩ := h
      subst hd
      refine es_asg 2 (ev_make (ds := [y]) T.init (ea_cons (er_var 0) ea_nil) (PG.made (C := C) hw hg)) ?_
      refine es_for (fun i ρ M => ρ = [.val y, .val (.tup rest), .val (grO C g), .un] ∧ M = []) (ei_tup (er_var 1)) ⟨rfl, rfl⟩ (fun _ _ _ _ _ z => (nomatch z)) (Nat.le_refl _) (fun _ _ _ ⟨_, h⟩ => by rw [h]; exact Nat.le_refl _) ?_ ?_
      · rintro i d ρ M hd ⟨rfl, rfl⟩
        obtain ⟨ns, h1, h2⟩ := hy d (List.mem_of_getElem? hd)
        refine ⟨_, _, eg_name 3, es_expr (Er.ee (ev_meth (ds := [d]) T.check (er_var 2) (ea_cons (er_var 3) ea_nil) ⟨g, d, ns, rfl, h1, h2, rfl⟩) (es_nil ⟨_, .keep (.keep (.keep (.drop .nil))), rfl, rfl⟩))⟩
      · rintro ρ M ⟨rfl, rfl⟩
        exact es_ret (er_var 2) (.inl rfl)
--@end
--@def rising
/-- the least numbers, none less than those told, that rise along the parents -/
def risStep (acc : List Int) (r : List Int × Int) : List Int := acc ++ [maxL (r.2 :: r.1.map fun p => acc.getD p.toNat 0 + 1)]
def risM (g : Gr) (lows : List Int) : List Int := ((g.map (·.2)).zip lows).foldl risStep []
theorem risGo_len (l : List (List Int × Int)) : ∀ acc : List Int, (l.foldl risStep acc).length = acc.length + l.length := by
  induction l with
  | nil => intro acc; rfl
  | cons r l ih => intro acc; rw [List.foldl_cons, ih]; simp [risStep]; omega
theorem risM_len {g : Gr} {lows : List Int} (h : lows.length = g.length) : (risM g lows).length = g.length := by
  unfold risM; rw [risGo_len]; simp [h]
/-- the numbers of the first n commits -/
def risP (g : Gr) (lows : List Int) (n : Nat) : List Int := (((g.map (·.2)).zip lows).take n).foldl risStep []
theorem risP_len {g : Gr} {lows : List Int} {n : Nat} (h : lows.length = g.length) (hn : n ≤ g.length) : (risP g lows n).length = n := by
  unfold risP; rw [risGo_len]; simp [h]; omega
theorem risP_succ {g : Gr} {lows : List Int} {n : Nat} (h : lows.length = g.length) (hn : n < g.length) : risP g lows (n + 1) = risP g lows n ++ [maxL (lows.getD n 0 :: (gpar g n).map fun p => (risP g lows n).getD p.toNat 0 + 1)] := by
  unfold risP
  have e : ((g.map (·.2)).zip lows)[n]? = some (gpar g n, lows.getD n 0) := by
    have h1 : (g.map (·.2))[n]? = some (gpar g n) := by
      rw [List.getElem?_map, List.getElem?_eq_getElem hn]
      unfold gpar
      rw [List.getD_eq_getElem?_getD, show (n : Int).toNat = n from rfl, List.getElem?_eq_getElem hn]; rfl
    have h2 : lows[n]? = some (lows.getD n 0) := by
      have : n < lows.length := by omega
      rw [List.getElem?_eq_getElem this, List.getD_eq_getElem?_getD, List.getElem?_eq_getElem this]; rfl
    exact List.getElem?_zip_eq_some.mpr ⟨h1, h2⟩
  rw [List.take_add_one, e, List.foldl_append]
  rfl
theorem risP_all {g : Gr} {lows : List Int} (h : lows.length = g.length) : risP g lows g.length = risM g lows := by
  unfold risP risM
  rw [List.take_of_length_le (by simp [h])]
def Rrising (C : Addr) (ds : List D) (d : D) : Prop := ∃ (g : Gr) (lows : List Int), ds = [grO C g, .lst (lows.map D.int)] ∧ WF g ∧ lows.length = g.length ∧ d = .tup ((risM g lows).map D.int)
def N_rising : List Str := ["own", "lows", "found", "commit", "low", "parent"]
theorem sc_rising : FnScope N_rising ["own", "lows"] (defScope s_rising) := ⟨rfl, rfl, rfl, by decide +kernel, rfl, by decide +kernel, by decide +kernel⟩
theorem ok_rising {C p0 p1 p2 f : Addr} {fd : FuncData} (Fn : Fun K "rising" "rising" s_rising f fd) (T : PG P w K mg base C p0 p1 p2) : FnOk P w K mg base CX0 2 f fd ["own", "lows"] (spV K (Rrising C)) :=
  okV (k := 1) Fn sc_rising (fun ds d ⟨g, l, h, _⟩ => by subst h; rfl) fun ds d ⟨g, lows, h, hw, hl, hd⟩ => by
    subst h; subst hd
    refine es_asgN 2 (evn_lst (ds := []) ea_nil) ?_
    have hwl := hw.len
    refine es_for (fun i ρ M => ρ = [.val (grO C g), .val (.lst (lows.map D.int)), .own 0, .un, .un, .un] ∧ M = [.lst ((risP g lows i).map D.int)]) (ei_enum (er_var 1) T.B.enumerate) ⟨rfl, rfl⟩ (fun _ _ _ _ _ z => (List.not_mem_nil z).elim) (Nat.zero_le _) (fun _ _ _ ⟨_, h⟩ => by rw [h]; exact Nat.le_refl _) ?_ ?_
    · rintro i d ρ M hd ⟨rfl, rfl⟩
      have hi : i < lows.length := by
        have := (List.getElem?_eq_some_iff.mp hd).1
        simpa using this
      have hi' : i < g.length := by omega
      rw [List.getElem?_map, List.getElem?_range (by simpa using hi)] at hd
      cases hd
      have elow : (lows.map D.int).getD i .non = .int (lows.getD i 0) := by
        rw [List.getD_eq_getElem?_getD, List.getElem?_map, List.getElem?_eq_getElem hi, List.getD_eq_getElem?_getD, List.getElem?_eq_getElem hi]; rfl
      show ∃ ρ2 js, EG _ _ _ (.val (.tup [.int (i : Int), (lows.map D.int).getD i .non])) ρ2 js ∧ _
      rw [elow]
      refine ⟨_, _, eg_two 3 4, ?_⟩
      have hpar := (hw.at (i := (i : Int)) (by omega) (by omega)).2.2.2
      have hpl := hw.parlen (i := (i : Int)) (by omega) (by omega)
      have hrl := risP_len (lows := lows) hl (Nat.le_of_lt hi')
      refine es_expr (ee_append (ds := (risP g lows i).map D.int) (er_var 2) rfl (ev_callB (ea_cons (EvN.ev (evn_bin (EvN.ev (evn_lst (ds := [.int (lows.getD i 0)]) (ea_cons (er_var 4) ea_nil))) (EvN.ev (evn_lc (xs := gpar g i) (enc := D.int) (t := fun _ => true) (f := fun p => .int ((risP g lows i).getD p.toNat 0 + 1)) (own := [("parent", 5)]) (ei_tup (ev_meth (ds := [.int (i : Int)]) T.parents (er_var 0) (ea_cons (er_var 3) ea_nil) ⟨g, i, rfl, by omega, by omega, rfl⟩)) (by omega) (by decide) (fun x hx => eg_name 5) (fun x hx => ets_nil)
        (fun x hx ht => ev_bin (ev_ix (er_var 2) (er_var 5) (hd := atI_map (f := D.int) (z := 0) (hpar x hx).1 (by have := (hpar x hx).2; omega))) ev_int ox_add))) (on_cat (hz := by rw [filt_true, List.length_map]; simp only [List.length_cons, List.length_nil]; omega)))) ea_nil) (cx_maxL (ns := lows.getD i 0 :: (gpar g i).map fun p => (risP g lows i).getD p.toNat 0 + 1) ?_) T.B.max) (by simp; omega) ?_)
      · rw [filt_true, List.map_cons, List.map_map]; exact SqS.lst
      · refine es_nil ⟨_, .keep (.keep (.keep (.drop (.drop (.keep .nil))))), rfl, ?_⟩
        rw [risP_succ hl hi', List.map_append]; rfl
    · rintro ρ M ⟨rfl, rfl⟩
      refine es_ret (ev_callT (ea_cons (er_var 2) ea_nil) cx_tuple T.B.tuple) (.inl ?_)
      have e : ((List.range (lows.map D.int).length).map fun (i : Nat) => D.tup [.int (i : Int), (lows.map D.int).getD i .non]).length = g.length := by simp [hl]
      rw [e, risP_all hl]
--@end
end
end Dl

namespace Dl
open PySem L2
section
variable {P : Program} {w : World} {K : PySem.W.Frag} {mg : Str → Option Value} {base : Heap}
variable {C p0 p1 p2 : Addr}
theorem RinitG.of {g : Gr} {d : D} (hw : WF g) (hg : IsG g d) : RinitG [d] [.lst ((g.map (·.1)).map D.int), .lst (g.map fun r => .tup (r.2.map D.int)), .dic [] []] := PG.made (C := 0) hw hg
def ones (g : Gr) : List Int := List.replicate g.length 1
def gds (g : Gr) : List Int := g.map (·.1)
theorem gds_len (g : Gr) : (gds g).length = g.length := List.length_map ..
theorem ones_len (g : Gr) : (ones g).length = g.length := List.length_replicate
--@def levels
def Rlevels (ds : List D) (d : D) : Prop := ∃ (g : Gr) (x : D), ds = [x] ∧ IsG g x ∧ WF g ∧ d = .tup ((risM g (ones g)).map D.int)
theorem rep_ones (n : Nat) : (List.replicate n [D.int 1]).flatten = (List.replicate n (1 : Int)).map D.int := by
  induction n with
  | zero => rfl
  | succ n ih => rw [List.replicate_succ, List.flatten_cons, ih, List.replicate_succ]; rfl
theorem sc_levels : FnScope ["graph", "own"] ["graph"] (defScope s_levels) := ⟨rfl, rfl, rfl, by decide +kernel, rfl, by decide +kernel, by decide +kernel⟩
theorem ok_levels {f : Addr} {fd : FuncData} (Fn : Fun K "levels" "levels" s_levels f fd) (T : PG P w K mg base C p0 p1 p2) (Tr : Def P w K mg base "rising" 2 (spV K (Rrising C))) : FnOk P w K mg base CX0 5 f fd ["graph"] (spV K Rlevels) :=
  okV (k := 4) Fn sc_levels (fun ds d ⟨g, x, h, _⟩ => by subst h; rfl) fun ds d ⟨g, x, h, hg, hw, hd⟩ => by
    subst h; subst hd
    have hwl := hw.len
    refine es_asg 1 (ev_make (ds := [x]) T.init (ea_cons (er_var 0) ea_nil) (RinitG.of hw hg)) ?_
    refine es_ret (ev_call (ds := [grO C g, .lst (List.replicate ((g.length : Int)).toNat [D.int 1]).flatten]) Tr (ea_cons (er_var 1) (ea_cons (EvN.ev (evn_bin (EvN.ev (evn_lst (ds := [.int 1]) (ea_cons ev_int ea_nil))) (ev_lenOwn T.len (er_var 1) ⟨g, rfl, rfl⟩ ⟨by omega, by omega⟩ T.B.len) (on_rep (h0 := by omega) (h1 := by omega)))) ea_nil)) ⟨g, ones g, ?_, hw, ones_len g, rfl⟩) (.inl rfl)
    rw [rep_ones]; rfl
--@end
--@def mended
def Rmended (ds : List D) (d : D) : Prop := ∃ (g : Gr) (x : D), ds = [x] ∧ IsG g x ∧ WF g ∧ d = .tup ((risM g (gds g)).map D.int)
theorem sc_mended : FnScope ["graph", "own"] ["graph"] (defScope s_mended) := ⟨rfl, rfl, rfl, by decide +kernel, rfl, by decide +kernel, by decide +kernel⟩
theorem ok_mended {f : Addr} {fd : FuncData} (Fn : Fun K "mended" "mended" s_mended f fd) (T : PG P w K mg base C p0 p1 p2) (Tr : Def P w K mg base "rising" 2 (spV K (Rrising C))) : FnOk P w K mg base CX0 5 f fd ["graph"] (spV K Rmended) :=
  okV (k := 4) Fn sc_mended (fun ds d ⟨g, x, h, _⟩ => by subst h; rfl) fun ds d ⟨g, x, h, hg, hw, hd⟩ => by
    subst h; subst hd
    refine es_asg 1 (ev_make (ds := [x]) T.init (ea_cons (er_var 0) ea_nil) (RinitG.of hw hg)) ?_
    exact es_ret (ev_call (ds := [grO C g, .lst ((gds g).map D.int)]) Tr (ea_cons (er_var 1) (ea_cons (EvN.ev (evn_meth0 T.dates (er_var 1) ⟨g, rfl, rfl⟩)) ea_nil)) ⟨g, gds g, rfl, hw, gds_len g, rfl⟩) (.inl rfl)
--@end
--@def raised
def Rraised (ds rs : List D) : Prop := ∃ (g : Gr) (x : D), ds = [x] ∧ IsG g x ∧ WF g ∧ rs = ((rng 0 g.length).filter fun i => decide (gdate g i < (risM g (gds g)).getD i.toNat 0)).map D.int
def N_raised : List Str := ["graph", "own", "found", "commit"]
theorem sc_raised : FnScope N_raised ["graph"] (defScope s_raised) := ⟨rfl, rfl, rfl, by decide +kernel, rfl, by decide +kernel, by decide +kernel⟩
theorem ok_raised {f : Addr} {fd : FuncData} (Fn : Fun K "raised" "raised" s_raised f fd) (T : PG P w K mg base C p0 p1 p2) (Tm : Def P w K mg base "mended" 5 (spV K Rmended)) : FnOk P w K mg base CX0 6 f fd ["graph"] (spN K Rraised) :=
  okN (k := 5) Fn sc_raised (fun ds d ⟨g, x, h, _⟩ => by subst h; rfl) fun ds d ⟨g, x, h, hg, hw, hd⟩ => by
    subst h; subst hd
    have hwl := hw.len
    have hml := risM_len (gds_len g)
    refine es_parC 1 2 (ErA.ga (ea_cons (ev_make (ds := [x]) T.init (ea_cons (er_var 0) ea_nil) (RinitG.of hw hg)) (ea_cons (ev_call (ds := [x]) Tm (ea_cons (er_var 0) ea_nil) ⟨g, x, rfl, hg, hw, rfl⟩) ea_nil)) ⟨_, _, rfl, ?_⟩)
    refine es_retN (evn_lc (xs := rng 0 g.length) (enc := D.int) (t := fun i => decide (gdate g i < (risM g (gds g)).getD i.toNat 0)) (f := D.int) (own := [("commit", 3)]) (ei_list (EvN.ev (evn_meth0 T.commits (er_var 1) ⟨g, rfl, by omega, rfl⟩)) .lst) (by rw [rng_len]; omega) (by decide) (fun y hy => eg_name 3) (fun y hy => ?_) (fun y hy ht => er_var 3)) ⟨0, rfl, rfl⟩
    have hy := rng_mem.mp hy
    exact ets_one (et_cmp (ev_ix (er_var 2) (er_var 3) (hd := atI_map (f := D.int) (z := 0) hy.1 (by omega))) (ev_meth (ds := [.int y]) T.date (er_var 1) (ea_cons (er_var 3) ea_nil) ⟨g, y, rfl, hy.1, by omega, rfl⟩) ox_gt)
--@end
--@def raised_by
/-- the dates with one at nought -/
def zap (g : Gr) (i : Int) : List Int := (gds g).set i.toNat 0
theorem zap_len (g : Gr) (i : Int) : (zap g i).length = g.length := by unfold zap; rw [List.length_set, gds_len]
def Rraised_by (ds rs : List D) : Prop := ∃ (g : Gr) (x : D) (i : Int), ds = [x, .int i] ∧ IsG g x ∧ WF g ∧ 0 ≤ i ∧ i < g.length ∧ rs = ((rng 0 g.length).filter fun j => decide ((risM g (zap g i)).getD j.toNat 0 < (risM g (gds g)).getD j.toNat 0)).map D.int
def N_raised_by : List Str := ["graph", "commit", "own", "dates", "before", "behind", "place"]
theorem sc_raised_by : FnScope N_raised_by ["graph", "commit"] (defScope s_raised_by) := ⟨rfl, rfl, rfl, by decide +kernel, rfl, by decide +kernel, by decide +kernel⟩
theorem ok_raised_by {f : Addr} {fd : FuncData} (Fn : Fun K "raised_by" "raised_by" s_raised_by f fd) (T : PG P w K mg base C p0 p1 p2) (Tg : Def P w K mg base "graph_at" 5 (spV K (Rgraph_at C))) (Tr : Def P w K mg base "rising" 2 (spV K (Rrising C))) (Tm : Def P w K mg base "mended" 5 (spV K Rmended)) : FnOk P w K mg base CX0 6 f fd ["graph", "commit"] (spN K Rraised_by) :=
  okN (k := 5) Fn sc_raised_by (fun ds d ⟨g, x, i, h, _⟩ => by subst h; rfl) fun ds d ⟨g, x, i, h, hg, hw, hi0, hi1, hd⟩ => by
    subst h; subst hd
    have hwl := hw.len
    have hml := risM_len (gds_len g)
    have hzl := risM_len (zap_len g i)
    refine es_asg 2 (ev_call (ds := [x, .lst [.int i]]) Tg (ea_cons (er_var 0) (ea_cons (EvN.ev (evn_lst (ds := [.int i]) (ea_cons (er_var 1) ea_nil))) ea_nil)) ⟨g, x, [.lst [.int i]], rfl, hg, hw, by simp, ?_, rfl⟩) ?_
    · intro y hy
      rw [List.mem_singleton] at hy
      subst hy
      exact ⟨[i], .inl rfl, fun n hn => by rw [List.mem_singleton] at hn; subst hn; exact ⟨hi0, hi1⟩⟩
    refine es_asgN 3 (evn_meth0 T.dates (er_var 2) ⟨g, rfl, rfl⟩) ?_
    refine es_setL ev_int (er_var 3) rfl (er_var 1) (ixN_of hi0 (by simp; exact hi1)) ?_
    refine es_freeze (M0 := []) (ds := ((gds g).map D.int).set i.toNat (.int 0)) ?_ (Nat.le_refl _)
    have ez : ((gds g).map D.int).set i.toNat (.int 0) = (zap g i).map D.int := by unfold zap; rw [List.map_set]
    rw [ez]
    refine es_parC 4 5 (ErA.ga (ea_cons (ev_call (ds := [x]) Tm (ea_cons (er_var 0) ea_nil) ⟨g, x, rfl, hg, hw, rfl⟩) (ea_cons (ev_call (ds := [grO C g, .lst ((zap g i).map D.int)]) Tr (ea_cons (er_var 2) (ea_cons (er_var 3) ea_nil)) ⟨g, zap g i, rfl, hw, zap_len g i, rfl⟩) ea_nil)) ⟨_, _, rfl, ?_⟩)
    refine es_retN (evn_lc (xs := rng 0 g.length) (enc := D.int) (t := fun j => decide ((risM g (zap g i)).getD j.toNat 0 < (risM g (gds g)).getD j.toNat 0)) (f := D.int) (own := [("place", 6)]) (ei_list (EvN.ev (evn_meth0 T.commits (er_var 2) ⟨g, rfl, by omega, rfl⟩)) .lst) (by rw [rng_len]; omega) (by decide) (fun y hy => eg_name 6) (fun y hy => ?_) (fun y hy ht => er_var 6)) ⟨0, rfl, rfl⟩
    have hy := rng_mem.mp hy
    exact ets_one (et_cmp (ev_ix (er_var 5) (er_var 6) (hd := atI_map (f := D.int) (z := 0) hy.1 (by omega))) (ev_ix (er_var 4) (er_var 6) (hd := atI_map (f := D.int) (z := 0) hy.1 (by omega))) ox_lt)
--@end
end
end Dl

namespace Dl
open PySem L2
abbrev s_box : Stmt := top 15
abbrev s_take : Stmt := top 16
abbrev s_cells : Stmt := top 17
abbrev s_of : Stmt := top 18
abbrev s_lists : Stmt := top 19
abbrev s_same : Stmt := top 20
abbrev s_net : Stmt := top 21
abbrev s_numbers : Stmt := top 22
abbrev s_refill : Stmt := top 23
abbrev s_right : Stmt := top 24
abbrev s_law : Stmt := top 25
section
variable {P : Program} {w : World} {K : PySem.W.Frag} {mg : Str → Option Value} {base : Heap}
--@def _law_box
def absI (i : Int) : Int := if i < 0 then -i else i
theorem absI_nn (i : Int) : 0 ≤ absI i := by unfold absI; split <;> omega
theorem bit01 (t : Bool) : -(2 ^ 64) < (if t = true then (1 : Int) else 0) ∧ (if t = true then (1 : Int) else 0) < 2 ^ 64 := by cases t <;> decide
def mkBx (x k : Int) : Bx := ⟨absI x * (if decide ((10 : Int) ^ (18 : Int).toNat ≤ absI x) then 1 else 0), x % 2305843009213693951 + 39373 * k + 197, 0⟩
theorem mkBx_a (x k : Int) : 0 ≤ (mkBx x k).a := by
  show 0 ≤ absI x * _
  exact Int.mul_nonneg (absI_nn x) (by split <;> omega)
def Rbox (ds rs : List D) : Prop := ∃ (ns : List Int) (k : Int), ds = [.lst (ns.map D.int), .int k] ∧ 0 ≤ k ∧ k < ns.length ∧ k ≤ 100 ∧ rs = boxD (mkBx (ns.getD k.toNat 0) k)
def N_box : List Str := ["_law_script", "_law_k", "_law_cell"]
theorem sc_box : FnScope N_box ["_law_script", "_law_k"] (defScope s_box) := ⟨rfl, rfl, rfl, by decide +kernel, rfl, by decide +kernel, by decide +kernel⟩
theorem ok_box {f : Addr} {fd : FuncData} (Fn : Fun K "_law_box" "_law_box" s_box f fd) (B : Bi mg) : FnOk P w K mg base CX0 1 f fd ["_law_script", "_law_k"] (spN K Rbox) :=
  okN (k := 0) Fn sc_box (fun ds d ⟨ns, k, h, _⟩ => by subst h; rfl) fun ds d ⟨ns, k, h, h0, h1, h2, hd⟩ => by
    subst h; subst hd
    refine es_asg 2 (r := .val (.int (ns.getD k.toNat 0))) (er_if (et_cmp (er_var 1) (ev_len (er_var 0) B.len) ox_lt) (fun h => ev_ix (er_var 0) (er_var 1) (hd := atI_map (f := D.int) (z := 0) h0 h1)) (fun h => ?_)) ?_
    · exfalso
      have := of_decide_eq_false h
      simp at this; omega
    refine es_retN (evn_lst (ds := boxD (mkBx (ns.getD k.toNat 0) k)) (ea_cons (ev_bin (ev_callB (ea_cons (er_var 2) ea_nil) cx_abs B.abs) (ev_callT (ea_cons (ev_cmp (ev_callB (ea_cons (er_var 2) ea_nil) cx_abs B.abs) (ev_bin ev_int ev_int (ox_pow ⟨by decide, by decide, by decide⟩)) ox_ge) ea_nil) cx_intB B.int) (ox_mul (.inr ?_))) (ea_cons (ev_bin (ev_bin (ev_bin (ev_callT (ea_cons (er_var 2) ea_nil) cx_int B.int) ev_int (ox_mod (by decide))) (ev_bin ev_int (er_var 1) (ox_mul (.inr ⟨by omega, by omega⟩))) ox_add) ev_int ox_add) (ea_cons ev_int ea_nil))) (hz := by show 3 ≤ 1000; decide)) ⟨0, rfl, rfl⟩
    exact bit01 _
--@end
--@def _law_take
def N_take : List Str := ["_law_box_here", "_law_below_so", "_law_drawn", "_law_once", "_law_far", "_law_twice"]
theorem sc_take : FnScope N_take ["_law_box_here", "_law_below_so"] (defScope s_take) := ⟨rfl, rfl, rfl, by decide +kernel, rfl, by decide +kernel, by decide +kernel⟩
/-- a box that has been drawn from at most n times -/
structure Bok (s : Bx) (n : Int) : Prop where
  a : 0 ≤ s.a
  n0 : 0 ≤ s.n
  n1 : s.n ≤ n
def preTake (s : Bx) (ds : List D) : Prop := ∃ n : Int, ds = [.int n] ∧ 0 < n ∧ n < 1000000 ∧ Bok s 1000000000
def postTake (s : Bx) (ds : List D) (d : D) (s' : Bx) : Prop := ∃ n r : Int, ds = [.int n] ∧ d = .int r ∧ 0 ≤ r ∧ r < n ∧ Bok s' (s.n + 1)
theorem ok_take {f : Addr} {fd : FuncData} (Fn : Fun K "_law_take" "_law_take" s_take f fd) (B : Bi mg) : FnOk P w K mg base CX0 1 f fd ["_law_box_here", "_law_below_so"] (spB K preTake postTake) := by
  have hint := B.int
  refine okB (k := 0) Fn sc_take (fun s ds ⟨n, h, _⟩ => by subst h; rfl) fun s ds ⟨n, h, h1, h2, b⟩ => ?_
  subst h
  obtain ⟨ba, bn0, bn1⟩ := b
  refine es_if (et_cmp (ev_ix (er_var 0) ev_int) ev_int ox_gt) (fun ht => ?_) (fun hf => ?_)
  · have ht : decide ((0 : Int) < s.a) = true := ht
    have hpos := of_decide_eq_true ht
    refine es_asg 2 (ev_bin (ev_callT (ea_cons (ev_ix (er_var 0) ev_int) ea_nil) cx_int hint) (er_var 1) (ox_mod h1)) ?_
    refine es_setL (ev_bin (ev_ix (er_var 0) ev_int) (er_var 1) (ox_fdiv ⟨h1, by omega⟩)) (er_var 0) rfl ev_int rfl ?_
    refine es_ret (er_var 2) ⟨_, ⟨s.a / n, s.b, s.n⟩, ⟨n, s.a % n, rfl, rfl, Int.emod_nonneg _ (by omega), Int.emod_lt_of_pos _ h1, ⟨Int.ediv_nonneg ba (by omega), bn0, by show s.n ≤ s.n + 1; omega⟩⟩, rfl, .inl rfl⟩
  · refine es_nil ?_
    refine es_setL (ev_bin (ev_ix (er_var 0) ev_int) ev_int ox_add) (er_var 0) rfl ev_int rfl ?_
    refine es_asg 3 (ev_bin (ev_callT (ea_cons (ev_bin (ev_bin (ev_ix (er_var 0) ev_int) (ev_bin ev_int (ev_ix (er_var 0) ev_int) (ox_mul (.inl ⟨by decide, by decide⟩))) ox_add) (ev_bin ev_int (ev_ix (er_var 0) ev_int) ox_add) (ox_mul (.inr ⟨by omega, by omega⟩))) ea_nil) cx_int hint) ev_int (ox_mod (by decide))) ?_
    refine es_asg 4 (ev_bin (ev_bin (ev_callT (ea_cons (er_var 3) ea_nil) cx_int hint) ev_int (ox_mod (by decide))) ev_int ox_add) ?_
    refine es_asg 5 (ev_bin (ev_callT (ea_cons (ev_bin (ev_bin (ev_bin (er_var 3) (ev_ix (er_var 0) ev_int) ox_add) (ev_bin (ev_ix (er_var 0) ev_int) ev_int (ox_fdiv ⟨by decide, by decide⟩)) ox_add) (er_var 4) (ox_mul (.inr ⟨by omega, by omega⟩))) ea_nil) cx_int hint) ev_int (ox_mod (by decide))) ?_
    refine es_ret (ev_bin (ev_callT (ea_cons (ev_bin (ev_bin (ev_callT (ea_cons (ev_bin (ev_bin (er_var 5) ev_int (ox_mul (.inr ⟨by decide, by decide⟩))) (er_var 3) ox_add) ea_nil) cx_int hint) ev_int (ox_mod (by decide))) ev_int (ox_fdiv ⟨by decide, by decide⟩)) ea_nil) cx_int hint) (er_var 1) (ox_mod h1)) ?_
    exact ⟨_, ⟨s.a, s.b, s.n + 1⟩, ⟨n, _, rfl, rfl, Int.emod_nonneg _ (by omega), Int.emod_lt_of_pos _ h1, ⟨ba, by show 0 ≤ s.n + 1; omega, Int.le_refl _⟩⟩, rfl, .inl rfl⟩
--@end
--@def _law_of
def preOf (s : Bx) (ds : List D) : Prop := ∃ xs : List D, ds = [.lst xs] ∧ 0 < xs.length ∧ xs.length < 1000000 ∧ Bok s 1000000000
def postOf (s : Bx) (ds : List D) (d : D) (s' : Bx) : Prop := ∃ xs : List D, ds = [.lst xs] ∧ d ∈ xs ∧ Bok s' (s.n + 1)
def N_of : List Str := ["_law_box_here", "_law_some"]
theorem sc_of : FnScope N_of ["_law_box_here", "_law_some"] (defScope s_of) := ⟨rfl, rfl, rfl, by decide +kernel, rfl, by decide +kernel, by decide +kernel⟩
theorem ok_of {f : Addr} {fd : FuncData} (Fn : Fun K "_law_of" "_law_of" s_of f fd) (B : Bi mg) (Tt : Def P w K mg base "_law_take" 1 (spB K preTake postTake)) : FnOk P w K mg base CX0 2 f fd ["_law_box_here", "_law_some"] (spB K preOf postOf) := by
  refine okB (k := 1) Fn sc_of (fun s ds ⟨n, h, _⟩ => by subst h; rfl) fun s ds ⟨xs, h, h1, h2, b⟩ => ?_
  subst h
  refine es_retE (ee_ix (er_var 1) (ee_callB Tt (ErA.ga (ea_cons (er_var 0) (ea_cons (ev_len (er_var 1) B.len) ea_nil)) ⟨0, s, [.int xs.length], rfl, rfl, ⟨xs.length, rfl, by omega, by omega, b⟩, ?_⟩)))
  rintro d s' ⟨n, r, e1, rfl, r0, r1, b'⟩
  cases e1
  have hr : atI xs r = some (xs.getD r.toNat .non) := atI_getD r0 r1
  refine ⟨r, _, rfl, hr, xs.getD r.toNat .non, s', ⟨xs, rfl, ?_, b'⟩, rfl, .inl rfl⟩
  exact List.mem_of_getElem? (getD_some r0 r1)
--@end
--@def _law_cells
def cell0 (ns : List Int) : List Int := if cutL ns none (some 3) = [] then [0] else cutL ns none (some 3)
def cellStep (cs : List Int) (k : Nat) (x : Int) : List Int := cs.set (k % 3) (cs.getD (k % 3) 0 + x * ((k : Int) + 2))
def cellP (ns : List Int) : Nat → List Int
  | 0 => cell0 ns
  | n + 1 => cellStep (cellP ns n) n ((cutL ns (some 3) (some 63)).getD n 0)
def cellM (ns : List Int) : List Int := cellP ns (cutL ns (some 3) (some 63)).length
theorem cellP_len (ns : List Int) : ∀ n, (cellP ns n).length = (cell0 ns).length
  | 0 => rfl
  | n + 1 => by unfold cellP cellStep; rw [List.length_set, cellP_len ns n]
theorem cut_lo (ns : List Int) : cutL ns none (some 3) = ns.take 3 := by
  show (ns.drop 0).take (min 3 ns.length - 0) = ns.take 3
  rw [List.drop_zero, Nat.sub_zero]
  by_cases h : 3 ≤ ns.length
  · rw [Nat.min_eq_left h]
  · rw [Nat.min_eq_right (by omega), List.take_of_length_le (by omega), List.take_of_length_le (by omega)]
theorem cut_hi_len (ns : List Int) : (cutL ns (some 3) (some 63)).length ≤ 60 ∧ (0 < (cutL ns (some 3) (some 63)).length → 3 < ns.length) := by
  have e : (cutL ns (some 3) (some 63)).length = min (min 63 ns.length - min 3 ns.length) (ns.length - min 3 ns.length) := by
    show ((ns.drop (min 3 ns.length)).take (min 63 ns.length - min 3 ns.length)).length = _
    rw [List.length_take, List.length_drop]
  rw [e]; omega
theorem cell0_len (ns : List Int) : 0 < (cell0 ns).length ∧ (cell0 ns).length ≤ 3 ∧ (3 < ns.length → (cell0 ns).length = 3) := by
  unfold cell0
  rw [cut_lo]
  split
  · rename_i h
    refine ⟨by decide, by decide, fun z => ?_⟩
    have := congrArg List.length h
    rw [List.length_take, List.length_nil] at this
    exfalso; omega
  · rename_i h
    have : (ns.take 3).length ≠ 0 := fun z => h (List.length_eq_zero_iff.mp z)
    refine ⟨by omega, by simp; omega, fun z => by simp; omega⟩
theorem cellM_len (ns : List Int) : 0 < (cellM ns).length ∧ (cellM ns).length ≤ 3 := by
  unfold cellM; rw [cellP_len]; exact ⟨(cell0_len ns).1, (cell0_len ns).2.1⟩
def Rcells (ds rs : List D) : Prop := ∃ (ns : List Int), ds = [.scr ns, .int 3] ∧ rs = (cellM ns).map D.int
def N_cells : List Str := ["_law_script", "_law_most", "_law_cells_here", "_law_k", "_law_cell", "_law_at_so"]
theorem sc_cells : FnScope N_cells ["_law_script", "_law_most"] (defScope s_cells) := ⟨rfl, rfl, rfl, by decide +kernel, rfl, by decide +kernel, by decide +kernel⟩
theorem ok_cells {f : Addr} {fd : FuncData} (Fn : Fun K "_law_cells" "_law_cells" s_cells f fd) (B : Bi mg) : FnOk P w K mg base CX0 1 f fd ["_law_script", "_law_most"] (spN K Rcells) :=
  okN (k := 0) Fn sc_cells (fun ds d ⟨ns, h, _⟩ => by subst h; rfl) fun ds d ⟨ns, h, hd⟩ => by
    subst h; subst hd
    refine es_asgN 2 (ds := (cell0 ns).map D.int) (evn_or (ds := (cutL ns none (some 3)).map D.int) (evn_callT (ea_cons (EvN.ev (evn_cutScr (er_var 0) eo_none (eo_some (er_var 1)))) ea_nil) cn_list B.list) (fun h => ?_) (fun h => ?_)) ?_
    · unfold cell0
      rw [if_neg (fun z => h (by rw [z]; rfl))]
    · unfold cell0
      rw [if_pos (List.map_eq_nil_iff.mp h)]
      exact evn_lst (ds := [.int 0]) (ea_cons ev_int ea_nil)
    refine es_for (fun i ρ M => ρ = [.val (.scr ns), .val (.int 3), .own 0, .un, .un, .un] ∧ M = [.lst ((cellP ns i).map D.int)]) (ei_enum (EvN.ev (evn_cutScr (er_var 0) (eo_some (er_var 1)) (eo_some ev_int))) B.enumerate) ⟨rfl, rfl⟩ (fun _ _ _ _ _ z => (List.not_mem_nil z).elim) (Nat.zero_le _) (fun _ _ _ ⟨_, h⟩ => by rw [h]; exact Nat.le_refl _) ?_ ?_
    · rintro i d ρ M hd ⟨rfl, rfl⟩
      have hi : i < (cutL ns (some 3) (some 63)).length := by
        have := (List.getElem?_eq_some_iff.mp hd).1
        simpa using this
      have hc := cut_hi_len ns
      have hlen : (cellP ns i).length = 3 := by rw [cellP_len]; exact (cell0_len ns).2.2 (hc.2 (by omega))
      rw [List.getElem?_map, List.getElem?_range (by simpa using hi)] at hd
      cases hd
      have elow : ((cutL ns (some 3) (some 63)).map D.int).getD i .non = .int ((cutL ns (some 3) (some 63)).getD i 0) := by
        rw [List.getD_eq_getElem?_getD, List.getElem?_map, List.getElem?_eq_getElem hi, List.getD_eq_getElem?_getD, List.getElem?_eq_getElem hi]; rfl
      show ∃ ρ2 js, EG _ _ _ (.val (.tup [.int (i : Int), ((cutL ns (some 3) (some 63)).map D.int).getD i .non])) ρ2 js ∧ _
      rw [elow]
      refine ⟨_, _, eg_two 3 4, ?_⟩
      refine es_asg 5 (ev_bin (ev_callT (ea_cons (er_var 3) ea_nil) cx_int B.int) (er_var 1) (ox_mod (by decide))) ?_
      have em : ((i : Int) % 3).toNat = i % 3 := by omega
      refine es_setL (n := i % 3) (ds := (cellP ns i).map D.int) (ev_bin (ev_ix (er_var 2) (er_var 5) (hd := atI_map (f := D.int) (z := 0) (by omega) (by omega))) (ev_bin (er_var 4) (ev_bin (er_var 3) ev_int ox_add) (ox_mul (.inr ⟨by omega, by omega⟩))) ox_add) (er_var 2) rfl (er_var 5) ?_ ?_
      · rw [ixN_of (by omega) (by simp; omega), em]
      · refine es_nil ⟨_, .keep (.keep (.keep (.drop (.drop (.drop .nil))))), rfl, ?_⟩
        show [C.lst (((cellP ns i).map D.int).set (i % 3) _)] = _
        rw [em, ← List.map_set]; rfl
    · rintro ρ M ⟨rfl, rfl⟩
      refine es_ret (er_var 2) ⟨0, rfl, ?_⟩
      show some _ = _
      unfold cellM
      simp
--@end
--@def _law_lists
mutual
def lisD : D → D
  | .lst xs => .lst (lisDs xs)
  | .tup xs => .lst (lisDs xs)
  | d => d
def lisDs : List D → List D
  | [] => []
  | x :: xs => lisD x :: lisDs xs
end
theorem lisDs_map : ∀ xs : List D, lisDs xs = xs.map lisD
  | [] => rfl
  | x :: xs => by rw [lisDs, lisDs_map xs]; rfl
def Rlists (n : Nat) (ds : List D) (d : D) : Prop := ∃ x, ds = [x] ∧ plain n x = true ∧ d = lisD x
def N_lists : List Str := ["_law_matter", "_law_bit"]
theorem sc_lists : FnScope N_lists ["_law_matter"] (defScope s_lists) := ⟨rfl, rfl, rfl, by decide +kernel, rfl, by decide +kernel, by decide +kernel⟩
theorem ok_lists {f : Addr} {fd : FuncData} (Fn : Fun K "_law_lists" "_law_lists" s_lists f fd) (bd : Binds K fd ["_law_matter"] []) (hmg : mg "_law_lists" = some (.ref f)) (B : Bi mg) : ∀ n : Nat, FnOk P w K mg base CX0 (n + 1) f fd ["_law_matter"] (spV K (Rlists n))
  | 0 => okV (k := 0) Fn sc_lists (fun ds d ⟨x, h, _⟩ => by subst h; rfl) fun ds d ⟨x, h, hp, hd⟩ => by
    subst h; subst hd
    cases x with
    | non => exact es_ret (er_if (et_val (ev_isi2 false false (er_var 0) B.isinstance B.list B.tuple)) (fun h => (nomatch h)) (fun h => er_var 0)) (.inl rfl)
    | bl b => exact es_ret (er_if (et_val (ev_isi2 false false (er_var 0) B.isinstance B.list B.tuple)) (fun h => (nomatch h)) (fun h => er_var 0)) (.inl rfl)
    | int b => exact es_ret (er_if (et_val (ev_isi2 false false (er_var 0) B.isinstance B.list B.tuple)) (fun h => (nomatch h)) (fun h => er_var 0)) (.inl rfl)
    | str b => exact es_ret (er_if (et_val (ev_isi2 false false (er_var 0) B.isinstance B.list B.tuple)) (fun h => (nomatch h)) (fun h => er_var 0)) (.inl rfl)
    | _ => exact absurd hp (by simp [plain])
  | n + 1 => okV (k := n + 1) Fn sc_lists (fun ds d ⟨x, h, _⟩ => by subst h; rfl) fun ds d ⟨x, h, hp, hd⟩ => by
    have T : Def P w K mg base "_law_lists" (n + 1) (spV K (Rlists n)) := ⟨f, hmg, Fn.kp, fnr_of (ok_lists Fn bd hmg B n) bd⟩
    subst h; subst hd
    cases x with
    | non => exact es_ret (er_if (et_val (ev_isi2 false false (er_var 0) B.isinstance B.list B.tuple)) (fun h => (nomatch h)) (fun h => er_var 0)) (.inl rfl)
    | bl b => exact es_ret (er_if (et_val (ev_isi2 false false (er_var 0) B.isinstance B.list B.tuple)) (fun h => (nomatch h)) (fun h => er_var 0)) (.inl rfl)
    | int b => exact es_ret (er_if (et_val (ev_isi2 false false (er_var 0) B.isinstance B.list B.tuple)) (fun h => (nomatch h)) (fun h => er_var 0)) (.inl rfl)
    | str b => exact es_ret (er_if (et_val (ev_isi2 false false (er_var 0) B.isinstance B.list B.tuple)) (fun h => (nomatch h)) (fun h => er_var 0)) (.inl rfl)
    | lst xs =>
      have hp : (decide (xs.length ≤ 1000) && plains n xs) = true := hp
      have hz := of_decide_eq_true (Bool.and_eq_true_iff.mp hp).1
      have hq := plains_all (plain_items hp)
      refine es_ret (er_if (et_val (ev_isi2 true false (er_var 0) B.isinstance B.list B.tuple)) (fun h => (EvN.ev (evn_lc (xs := xs) (enc := id) (t := fun _ => true) (f := lisD) (own := [("_law_bit", 1)]) (ei_seq (d := .lst xs) (ds := xs.map id) (er_var 0) (.inl (by rw [List.map_id]))) (by omega) (by decide) (fun x hx => eg_name 1) (fun x hx => ets_nil)
        (fun x hx ht => ev_call (ds := [x]) T (ea_cons (er_var 1) ea_nil) ⟨x, rfl, hq x hx, rfl⟩ (Nat.le_refl _))))) (fun h => (nomatch h))) (.inl ?_)
      rw [filt_true, lisD, lisDs_map]
    | tup xs =>
      have hp : (decide (xs.length ≤ 1000) && plains n xs) = true := hp
      have hz := of_decide_eq_true (Bool.and_eq_true_iff.mp hp).1
      have hq := plains_all (plain_items hp)
      refine es_ret (er_if (et_val (ev_isi2 false true (er_var 0) B.isinstance B.list B.tuple)) (fun h => (EvN.ev (evn_lc (xs := xs) (enc := id) (t := fun _ => true) (f := lisD) (own := [("_law_bit", 1)]) (ei_seq (d := .tup xs) (ds := xs.map id) (er_var 0) (.inr (by rw [List.map_id]))) (by omega) (by decide) (fun x hx => eg_name 1) (fun x hx => ets_nil)
        (fun x hx ht => ev_call (ds := [x]) T (ea_cons (er_var 1) ea_nil) ⟨x, rfl, hq x hx, rfl⟩ (Nat.le_refl _))))) (fun h => (nomatch h))) (.inl ?_)
      rw [filt_true, lisD, lisDs_map]
    | _ => exact absurd hp (by simp [plain])
theorem lis_gT (g : Gr) : lisD (gT g) = gL g := by
  unfold gT gL
  rw [lisD, lisDs_map, List.map_map]
  congr 1
  refine List.map_congr_left fun r _ => ?_
  show lisD (rowT r) = rowL r
  unfold rowT rowL
  have e : (r.2.map D.int).map lisD = r.2.map D.int := by
    rw [List.map_map]
    exact List.map_congr_left fun _ _ => by simp [lisD]
  simp [lisD, lisDs, lisDs_map, e]
theorem plain_gT {g : Gr} (h : WF g) : plain 3 (gT g) = true := by
  show (decide ((g.map rowT).length ≤ 1000) && plains 2 (g.map rowT)) = true
  have := h.len
  rw [Bool.and_eq_true]
  refine ⟨decide_eq_true (by simp; omega), plains_map fun r hr => ?_⟩
  obtain ⟨i, e⟩ := List.mem_iff_getElem?.mp hr
  have hi := (List.getElem?_eq_some_iff.mp e).1
  have w := h.row i r e
  have := asc_len r.2 i w.2.2.1 w.2.2.2
  show (decide (2 ≤ 1000) && plains 1 [.int r.1, .tup (r.2.map D.int)]) = true
  simp only [plains, plain, Bool.and_eq_true, List.length_map, decide_eq_true_eq]
  exact ⟨by decide, trivial, ⟨by omega, plains_ints 0 r.2⟩, trivial⟩
--@end
--@def _law_refill
def preFill (ds0 ds : List D) : Prop := ∃ g0 g : Gr, ds0 = g0.map rowL ∧ WF g0 ∧ ds = [gT g] ∧ WF g
def postFill (ds0 ds ds1 : List D) : Prop := ∃ x : D, ds = [x] ∧ D.lst ds1 = lisD x
theorem plain_rowL {g : Gr} (h : WF g) {r : Int × List Int} (hr : r ∈ g) : plain 2 (rowL r) = true := by
  obtain ⟨i, e⟩ := List.mem_iff_getElem?.mp hr
  have hi := (List.getElem?_eq_some_iff.mp e).1
  have w := h.row i r e
  have := asc_len r.2 i w.2.2.1 w.2.2.2
  have := h.len
  show (decide (2 ≤ 1000) && plains 1 [.int r.1, .lst (r.2.map D.int)]) = true
  simp only [plains, plain, Bool.and_eq_true, List.length_map, decide_eq_true_eq]
  exact ⟨by decide, trivial, ⟨by omega, plains_ints 0 r.2⟩, trivial⟩
theorem plain_rows {g l : Gr} (h : WF g) (hl : ∀ r ∈ l, r ∈ g) (hz : l.length ≤ 1000) : plain 3 (.lst (l.map rowL)) = true := by
  show (decide ((l.map rowL).length ≤ 1000) && plains 2 (l.map rowL)) = true
  rw [Bool.and_eq_true]
  exact ⟨decide_eq_true (by simpa using hz), plains_map fun r hr => plain_rowL h (hl r hr)⟩
theorem plain_gL {g : Gr} (h : WF g) : plain 3 (gL g) = true := plain_rows h (fun _ z => z) (by have := h.len; omega)
theorem eqv_nil (ds : List D) : PyData.eqv (toPy (.lst ds)) (toPy (.lst [])) = ds.isEmpty := by
  cases ds <;> rfl
theorem sc_refill : FnScope ["_law_shelf", "_law_matter"] ["_law_shelf", "_law_matter"] (defScope s_refill) := ⟨rfl, rfl, rfl, by decide +kernel, rfl, by decide +kernel, by decide +kernel⟩
theorem ok_refill {f : Addr} {fd : FuncData} (Fn : Fun K "_law_refill" "_law_refill" s_refill f fd) (Tl : Def P w K mg base "_law_lists" 4 (spV K (Rlists 3))) : FnOk P w K mg base CX0 5 f fd ["_law_shelf", "_law_matter"] (spL K preFill postFill) :=
  okL (k := 4) Fn sc_refill (fun s ds ⟨g0, g, _, _, h, _⟩ => by subst h; rfl) fun ds0 ds ⟨g0, g, h0, hw0, h, hw⟩ => by
    subst h; subst h0
    have hwl0 := hw0.len
    have hwl := hw.len
    refine es_while (fun n ρ M => n ≤ g0.length ∧ ρ = [.own 0, .val (gT g)] ∧ M = [.lst ((g0.take n).map rowL)]) g0.length ⟨Nat.le_refl _, rfl, by rw [List.take_length]⟩ (Nat.le_refl _) ?_
    rintro n ρ M ⟨hn, rfl, rfl⟩
    have hp : plain 60 (.lst ((g0.take n).map rowL)) = true := plain_mono (by decide) (plain_rows hw0 (fun r hr => List.mem_of_mem_take hr) (by simp; omega))
    refine ⟨_, et_cmp (er_var 0) (EvN.ev (evn_lst (ds := []) ea_nil)) (ox_neD hp rfl), fun ht => ?_, fun hf => ?_⟩
    · rw [eqv_nil] at ht
      obtain ⟨m, rfl⟩ : ∃ m, n = m + 1 := by
        cases n with
        | zero => simp at ht
        | succ m => exact ⟨m, rfl⟩
      have ep : (g0.take (m + 1)).map rowL = (g0.take m).map rowL ++ [rowL (g0.getD m (0, []))] := by
        rw [List.take_add_one, List.map_append, List.getElem?_eq_getElem (by omega), List.getD_eq_getElem?_getD, List.getElem?_eq_getElem (by omega)]; rfl
      rw [ep]
      exact es_expr (ee_pop (ds := (g0.take m).map rowL) (er_var 0) rfl (es_nil ⟨_, m, .keep (.keep .nil), by omega, by omega, rfl, rfl⟩))
    · rw [eqv_nil] at hf
      have e0 : (g0.take n).map rowL = [] := by
        have hf : ((g0.take n).map rowL).isEmpty = true := by simpa using hf
        exact List.isEmpty_iff.mp hf
      rw [e0]
      refine es_expr (ee_extend (ds := []) (ds2 := g.map rowL) (er_var 0) rfl (s := .val (gL g)) ?_ (by simp; omega) ?_ SqS.lst)
      · exact ev_call (ds := [gT g]) Tl (ea_cons (er_var 1) ea_nil) ⟨gT g, rfl, plain_gT hw, (lis_gT g).symm⟩
      · exact es_ret (er_var 0) ⟨rfl, g.map rowL, ⟨gT g, rfl, (lis_gT g).symm⟩, rfl⟩
--@end
--@def _law_numbers
def Rnumbers (ds rs : List D) : Prop := ∃ (g : Gr) (lows : List Int), ds = [gT g, .lst (lows.map D.int)] ∧ WF g ∧ lows.length = g.length ∧ rs = (risM g lows).map D.int
def N_numbers : List Str := ["_law_graph_so", "_law_lows_so", "_law_found_so", "_law_k", "_law_own"]
theorem sc_numbers : FnScope N_numbers ["_law_graph_so", "_law_lows_so"] (defScope s_numbers) := ⟨rfl, rfl, rfl, by decide +kernel, rfl, by decide +kernel, by decide +kernel⟩
theorem ok_numbers {f : Addr} {fd : FuncData} (Fn : Fun K "_law_numbers" "_law_numbers" s_numbers f fd) (B : Bi mg) : FnOk P w K mg base CX0 1 f fd ["_law_graph_so", "_law_lows_so"] (spN K Rnumbers) :=
  okN (k := 0) Fn sc_numbers (fun ds d ⟨g, l, h, _⟩ => by subst h; rfl) fun ds d ⟨g, lows, h, hw, hl, hd⟩ => by
    subst h; subst hd
    refine es_asgN 2 (evn_lst (ds := []) ea_nil) ?_
    have hwl := hw.len
    refine es_for (fun i ρ M => ρ = [.val (gT g), .val (.lst (lows.map D.int)), .own 0, .un, .un] ∧ M = [.lst ((risP g lows i).map D.int)]) (ei_range1 (ev_len (er_var 0) B.len) ⟨by omega, by simp; omega⟩ B.range) ⟨rfl, rfl⟩ (fun _ _ _ _ _ z => (nomatch z)) (Nat.zero_le _) (fun _ _ _ ⟨_, h⟩ => by rw [h]; exact Nat.le_refl _) ?_ ?_
    · rintro i d ρ M hd ⟨rfl, rfl⟩
      rw [List.getElem?_map] at hd
      obtain ⟨x, hx, rfl⟩ := Option.map_eq_some_iff.mp hd
      obtain ⟨hi, rfl⟩ := rng_get.mp hx
      have hi' : i < g.length := by simp at hi; omega
      rw [Int.zero_add]
      refine ⟨_, _, eg_name 3, ?_⟩
      have hpar := (hw.at (i := (i : Int)) (by omega) (by omega)).2.2.2
      have hpl := hw.parlen (i := (i : Int)) (by omega) (by omega)
      have hrl := risP_len (lows := lows) hl (Nat.le_of_lt hi')
      refine es_expr (ee_append (ds := (risP g lows i).map D.int) (er_var 2) rfl (ev_callB (ea_cons (EvN.ev (evn_bin (EvN.ev (evn_lst (ds := [.int (lows.getD i 0)]) (ea_cons (ev_ix (er_var 1) (er_var 3) (hd := atI_map (f := D.int) (i := (i : Int)) (z := 0) (by omega) (by omega))) ea_nil))) (EvN.ev (evn_lc (xs := gpar g i) (enc := D.int) (t := fun _ => true) (f := fun p => .int ((risP g lows i).getD p.toNat 0 + 1)) (own := [("_law_own", 4)]) (ei_tup (ev_ix (t := false) (ds := [.int (gdate g i), .tup ((gpar g i).map D.int)]) (ev_ix (er_var 0) (er_var 3) (hd := atI_map (f := rowT) (i := (i : Int)) (z := (0, [])) (by omega) (by omega))) ev_int .tup rfl)) (by omega) (by decide) (fun x hx => eg_name 4) (fun x hx => ets_nil)
        (fun x hx ht => ev_bin (ev_ix (er_var 2) (er_var 4) (hd := atI_map (f := D.int) (z := 0) (hpar x hx).1 (by have := (hpar x hx).2; omega))) ev_int ox_add))) (on_cat (hz := by rw [filt_true, List.length_map]; simp only [List.length_cons, List.length_nil]; omega)))) ea_nil) (cx_maxL (ns := lows.getD i 0 :: (gpar g i).map fun p => (risP g lows i).getD p.toNat 0 + 1) ?_) B.max) (by simp; omega) ?_)
      · rw [filt_true, List.map_cons, List.map_map]; exact SqS.lst
      · refine es_nil ⟨_, .keep (.keep (.keep (.drop (.keep .nil)))), rfl, ?_⟩
        rw [risP_succ hl hi', List.map_append]; rfl
    · rintro ρ M ⟨rfl, rfl⟩
      refine es_ret (er_var 2) ⟨0, rfl, ?_⟩
      show some (C.lst ((risP g lows _).map D.int)) = _
      have e : ((rng 0 ((g.map rowT).length : Int).toNat).map D.int).length = g.length := by simp [rng_len]
      rw [e, risP_all hl]
--@end
end
end Dl

namespace Dl
open PySem L2
section
variable {P : Program} {w : World} {K : PySem.W.Frag} {mg : Str → Option Value} {base : Heap}
--@def _law_same
def Rsame (n : Nat) (ds : List D) (d : D) : Prop := ∃ x, ds = [x, x] ∧ plain n x = true ∧ d = .bl true
def N_same : List Str := ["_law_got", "_law_due", "_law_mine", "_law_its", "_law_own"]
theorem sc_same : FnScope N_same ["_law_got", "_law_due"] (defScope s_same) := ⟨rfl, rfl, rfl, by decide +kernel, rfl, by decide +kernel, by decide +kernel⟩
section
variable {k : Nat} {D0 : DE}
theorem same_non (B : Bi mg) (hD : D0.rt (.val (.bl true)) []) : ES (ctxOf P w K mg base N_same s_same k 0) [.val .non, .val .non, .un, .un, .un] [] (defBody s_same) D0 := by
  refine es_if (et_val (ev_isi2 false false (er_var 1) B.isinstance B.list B.tuple (hvT := boot_tList) (hvU := boot_tTuple))) (fun h => (nomatch h)) (fun _ => es_nil ?_)
  refine es_if (et_val (ev_isi false (er_var 1) B.isinstance B.dict (hvT := boot_tDict))) (fun h => (nomatch h)) (fun _ => es_nil ?_)
  refine es_if (ew_or (et_cmp (er_var 1) ev_non ox_isN) fun h => (ew_or1 (et_val (ev_isi2 false false (er_var 1) B.isinstance B.bool B.str (hvT := boot_tBool) (hvU := boot_tStr))))).et ?_ ?_
  · intro _
    refine es_ret (ev_and (ev_cmp (er_var 0) (er_var 1) (ox_eqD rfl rfl)) fun _ => (ev_and (ev_cmp (ev_isi false (er_var 0) B.isinstance B.bool (hvT := boot_tBool)) (ev_isi false (er_var 1) B.isinstance B.bool (hvT := boot_tBool)) ox_eqB) fun _ => (ev_one (ev_cmp (ev_cmp (er_var 0) ev_non ox_isN) (ev_cmp (er_var 1) ev_non ox_isN) ox_eqB)))) ?_
    exact hD
  · intro h; exact nomatch h
theorem same_bl (B : Bi mg) (b : Bool) (hD : D0.rt (.val (.bl true)) []) : ES (ctxOf P w K mg base N_same s_same k 0) [.val (.bl b), .val (.bl b), .un, .un, .un] [] (defBody s_same) D0 := by
  refine es_if (et_val (ev_isi2 false false (er_var 1) B.isinstance B.list B.tuple (hvT := boot_tList) (hvU := boot_tTuple))) (fun h => (nomatch h)) (fun _ => es_nil ?_)
  refine es_if (et_val (ev_isi false (er_var 1) B.isinstance B.dict (hvT := boot_tDict))) (fun h => (nomatch h)) (fun _ => es_nil ?_)
  refine es_if (ew_or (et_cmp (er_var 1) ev_non ox_isN) fun h => (ew_or1 (et_val (ev_isi2 true false (er_var 1) B.isinstance B.bool B.str (hvT := boot_tBool) (hvU := boot_tStr))))).et ?_ ?_
  · intro _
    refine es_ret (ev_and (ev_cmp (er_var 0) (er_var 1) ox_eqB) fun _ => (ev_and (ev_cmp (ev_isi true (er_var 0) B.isinstance B.bool (hvT := boot_tBool)) (ev_isi true (er_var 1) B.isinstance B.bool (hvT := boot_tBool)) ox_eqB) fun _ => (ev_one (ev_cmp (ev_cmp (er_var 0) ev_non ox_isN) (ev_cmp (er_var 1) ev_non ox_isN) ox_eqB)))) ?_
    cases b <;> exact hD
  · intro h; exact nomatch h
theorem same_int (B : Bi mg) (i : Int) (hD : D0.rt (.val (.bl true)) []) : ES (ctxOf P w K mg base N_same s_same k 0) [.val (.int i), .val (.int i), .un, .un, .un] [] (defBody s_same) D0 := by
  refine es_if (et_val (ev_isi2 false false (er_var 1) B.isinstance B.list B.tuple (hvT := boot_tList) (hvU := boot_tTuple))) (fun h => (nomatch h)) (fun _ => es_nil ?_)
  refine es_if (et_val (ev_isi false (er_var 1) B.isinstance B.dict (hvT := boot_tDict))) (fun h => (nomatch h)) (fun _ => es_nil ?_)
  refine es_if (ew_or (et_cmp (er_var 1) ev_non ox_isN) fun h => (ew_or1 (et_val (ev_isi2 false false (er_var 1) B.isinstance B.bool B.str (hvT := boot_tBool) (hvU := boot_tStr))))).et ?_ ?_
  · intro h; exact nomatch h
  · intro _
    refine es_nil (es_ret (ev_and (ev_isi true (er_var 0) B.isinstance B.int (hvT := boot_tInt)) fun _ => (ev_and (ev_not (ev_isi false (er_var 0) B.isinstance B.bool (hvT := boot_tBool))) fun _ => (ev_one (ev_cmp (er_var 0) (er_var 1) ox_eqI)))) ?_)
    rw [decide_eq_true rfl]; exact hD
theorem same_str (B : Bi mg) (x : Str) (hD : D0.rt (.val (.bl true)) []) : ES (ctxOf P w K mg base N_same s_same k 0) [.val (.str x), .val (.str x), .un, .un, .un] [] (defBody s_same) D0 := by
  refine es_if (et_val (ev_isi2 false false (er_var 1) B.isinstance B.list B.tuple (hvT := boot_tList) (hvU := boot_tTuple))) (fun h => (nomatch h)) (fun _ => es_nil ?_)
  refine es_if (et_val (ev_isi false (er_var 1) B.isinstance B.dict (hvT := boot_tDict))) (fun h => (nomatch h)) (fun _ => es_nil ?_)
  refine es_if (ew_or (et_cmp (er_var 1) ev_non ox_isN) fun h => (ew_or1 (et_val (ev_isi2 false true (er_var 1) B.isinstance B.bool B.str (hvT := boot_tBool) (hvU := boot_tStr))))).et ?_ ?_
  · intro _
    refine es_ret (ev_and (ev_cmp (er_var 0) (er_var 1) ox_eqS) fun _ => (ev_and (ev_cmp (ev_isi false (er_var 0) B.isinstance B.bool (hvT := boot_tBool)) (ev_isi false (er_var 1) B.isinstance B.bool (hvT := boot_tBool)) ox_eqB) fun _ => (ev_one (ev_cmp (ev_cmp (er_var 0) ev_non ox_isN) (ev_cmp (er_var 1) ev_non ox_isN) ox_eqB)))) ?_
    rw [decide_eq_true rfl]; exact hD
  · intro h; exact nomatch h
theorem same_atom (B : Bi mg) (x : D) (hx : plain 0 x = true) (hD : D0.rt (.val (.bl true)) []) : ES (ctxOf P w K mg base N_same s_same k 0) [.val x, .val x, .un, .un, .un] [] (defBody s_same) D0 := by
  cases x with
  | non => exact same_non B hD
  | bl b => exact same_bl B b hD
  | int i => exact same_int B i hD
  | str x => exact same_str B x hD
  | _ => exact absurd hx (by simp [plain])
end
theorem all_true {n : Nat} : ((List.range n).map fun _ => D.bl true) = (List.replicate n true).map D.bl := by
  rw [List.map_replicate, List.map_const', List.length_range]
theorem rep_all (n : Nat) : (List.replicate n true).all id = true := by
  rw [List.all_eq_true]; intro x hx; rw [List.eq_of_mem_replicate hx]; rfl
theorem getD_in {xs : List D} {i : Nat} (h : i < xs.length) : xs.getD i .non ∈ xs := by
  rw [List.getD_eq_getElem?_getD, List.getElem?_eq_getElem h]; exact List.getElem_mem h
theorem ok_same {f : Addr} {fd : FuncData} (Fn : Fun K "_law_same" "_law_same" s_same f fd) (bd : Binds K fd ["_law_got", "_law_due"] []) (hmg : mg "_law_same" = some (.ref f)) (B : Bi mg) : ∀ n : Nat, FnOk P w K mg base CX0 (n + 1) f fd ["_law_got", "_law_due"] (spV K (Rsame n))
  | 0 => okV (k := 0) Fn sc_same (fun ds d ⟨x, h, _⟩ => by subst h; rfl) fun ds d ⟨x, h, hp, hd⟩ => by
    subst h; subst hd
    exact same_atom B x hp (.inl rfl)
  | n + 1 => okV (k := n + 1) Fn sc_same (fun ds d ⟨x, h, _⟩ => by subst h; rfl) fun ds d ⟨x, h, hp, hd⟩ => by
    have T : Def P w K mg base "_law_same" (n + 1) (spV K (Rsame n)) := ⟨f, hmg, Fn.kp, fnr_of (ok_same Fn bd hmg B n) bd⟩
    subst h; subst hd
    cases x with
    | non => exact same_atom B .non rfl (.inl rfl)
    | bl b => exact same_atom B (.bl b) rfl (.inl rfl)
    | int b => exact same_atom B (.int b) rfl (.inl rfl)
    | str b => exact same_atom B (.str b) hp (.inl rfl)
    | lst xs =>
      have hp : (decide (xs.length ≤ 1000) && plains n xs) = true := hp
      have hz := of_decide_eq_true (Bool.and_eq_true_iff.mp hp).1
      have hq := plains_all (plain_items hp)
      refine es_if (et_val (ev_isi2 true false (er_var 1) B.isinstance B.list B.tuple (hvT := boot_tList) (hvU := boot_tTuple))) (fun h => ?_) (fun h => (nomatch h))
      refine es_if (ew_or (et_cmp (ev_isi true (er_var 0) B.isinstance B.list (hvT := boot_tList)) (ev_isi true (er_var 1) B.isinstance B.list (hvT := boot_tList)) ox_neB) fun _ => (ew_or1 (et_cmp (ev_isi false (er_var 0) B.isinstance B.tuple (hvT := boot_tTuple)) (ev_isi false (er_var 1) B.isinstance B.tuple (hvT := boot_tTuple)) ox_neB))).et (fun h => (nomatch h)) (fun _ => es_nil ?_)
      refine es_ret (ev_and (ev_cmp (ev_len (er_var 0) B.len) (ev_len (er_var 1) B.len) ox_eqI) fun _ => (ev_one (ev_callB (ea_cons (EvN.ev (evn_lc (xs := List.range xs.length) (enc := fun (i : Nat) => .tup [xs.getD i .non, xs.getD i .non]) (t := fun _ => true) (f := fun _ => .bl true) (own := [("_law_mine", 2), ("_law_its", 3)]) (ei_zip (er_var 0) (er_var 1) rfl B.zip) (by simp; omega) (by decide) (fun x hx => (eg_two 2 3)) (fun x hx => ets_nil)
        (fun x hx ht => (ev_call (ds := [xs.getD x .non, xs.getD x .non]) T (ea_cons (er_var 2) (ea_cons (er_var 3) ea_nil)) ⟨_, rfl, hq _ (getD_in (List.mem_range.mp hx)), rfl⟩ (Nat.le_refl _))))) ea_nil) (cx_all (bs := List.replicate xs.length true) (by rw [filt_true, all_true]; exact SqS.lst)) B.all))) (.inl ?_)
      rw [decide_eq_true rfl, rep_all]; rfl
    | tup xs =>
      have hp : (decide (xs.length ≤ 1000) && plains n xs) = true := hp
      have hz := of_decide_eq_true (Bool.and_eq_true_iff.mp hp).1
      have hq := plains_all (plain_items hp)
      refine es_if (et_val (ev_isi2 false true (er_var 1) B.isinstance B.list B.tuple (hvT := boot_tList) (hvU := boot_tTuple))) (fun h => ?_) (fun h => (nomatch h))
      refine es_if (ew_or (et_cmp (ev_isi false (er_var 0) B.isinstance B.list (hvT := boot_tList)) (ev_isi false (er_var 1) B.isinstance B.list (hvT := boot_tList)) ox_neB) fun _ => (ew_or1 (et_cmp (ev_isi true (er_var 0) B.isinstance B.tuple (hvT := boot_tTuple)) (ev_isi true (er_var 1) B.isinstance B.tuple (hvT := boot_tTuple)) ox_neB))).et (fun h => (nomatch h)) (fun _ => es_nil ?_)
      refine es_ret (ev_and (ev_cmp (ev_len (er_var 0) B.len) (ev_len (er_var 1) B.len) ox_eqI) fun _ => (ev_one (ev_callB (ea_cons (EvN.ev (evn_lc (xs := List.range xs.length) (enc := fun (i : Nat) => .tup [xs.getD i .non, xs.getD i .non]) (t := fun _ => true) (f := fun _ => .bl true) (own := [("_law_mine", 2), ("_law_its", 3)]) (ei_zipT (er_var 0) (er_var 1) rfl B.zip) (by simp; omega) (by decide) (fun x hx => (eg_two 2 3)) (fun x hx => ets_nil)
        (fun x hx ht => (ev_call (ds := [xs.getD x .non, xs.getD x .non]) T (ea_cons (er_var 2) (ea_cons (er_var 3) ea_nil)) ⟨_, rfl, hq _ (getD_in (List.mem_range.mp hx)), rfl⟩ (Nat.le_refl _))))) ea_nil) (cx_all (bs := List.replicate xs.length true) (by rw [filt_true, all_true]; exact SqS.lst)) B.all))) (.inl ?_)
      rw [decide_eq_true rfl, rep_all]; rfl
    | _ => exact absurd hp (by simp [plain])
--@end
end
end Dl

namespace Dl
open PySem L2
--@def draws
section
variable {c : Ctx} {ρ : List Sl} {M : List C} {a b e : Expr} {pos p1 : Pos} {Q : Sl → List C → Prop}
theorem ee_take (T : Def c.P c.w c.K c.mg c.base "_law_take" 1 (spB c.K preTake postTake)) {s : Bx} {M' : List C} {n : Int} (ha : Er c ρ M a (.own 0)) (he : Ev c ρ M e (.int n)) (hM : M = .lst (boxD s) :: M') (bk : Bok s 1000000000) (h0 : 0 < n) (h1 : n < 1000000)
    (q : ∀ r s', 0 ≤ r → r < n → Bok s' (s.n + 1) → Q (.val (.int r)) (.lst (boxD s') :: M')) (hk : 1 ≤ c.k := by first | exact Nat.le_of_ble_eq_true rfl | assumption) (hg : Glo c "_law_take" := by rfl)
    (he1 : ∀ env, starEach [a, e] env = (false, eval a env) :: starEach [e] env := by intro _; rfl) (he2 : ∀ env, starEach [e] env = (false, eval e env) :: starEach [] env := by intro _; rfl) (hpl : ∀ env, (backTo pos (starEach [e] env)).any (·.1) = false := by intro _; rfl) :
    EE c ρ M (.Call (.Name "_law_take" p1) [a, e] [] pos) Q := by
  subst hM
  refine ee_callB T (ErA.ga (ea_cons ha (ea_cons he ea_nil he2) he1) ⟨0, s, [.int n], rfl, rfl, ⟨n, rfl, h0, h1, bk⟩, ?_⟩) hk hg (by decide) he1 hpl
  rintro d s' ⟨n', r, e1, rfl, r0, r1, b'⟩
  cases e1
  exact q r s' r0 r1 b'
theorem ee_ofI (T : Def c.P c.w c.K c.mg c.base "_law_of" 2 (spB c.K preOf postOf)) (ha : Er c ρ M a (.own 0)) (he : EE c ρ M e fun r M1 => ∃ (s : Bx) (ns : List Int) (M' : List C), r = .val (.lst (ns.map D.int)) ∧ M1 = .lst (boxD s) :: M' ∧ Bok s 1000000000 ∧ 0 < ns.length ∧ ns.length < 1000000 ∧ ∀ i s', i ∈ ns → Bok s' (s.n + 1) → Q (.val (.int i)) (.lst (boxD s') :: M'))
    (hk : 2 ≤ c.k := by first | exact Nat.le_of_ble_eq_true rfl | assumption) (hg : Glo c "_law_of" := by rfl)
    (he1 : ∀ env, starEach [a, e] env = (false, eval a env) :: starEach [e] env := by intro _; rfl) (he2 : ∀ env, starEach [e] env = (false, eval e env) :: starEach [] env := by intro _; rfl) (hpl : ∀ env, (backTo pos (starEach [e] env)).any (·.1) = false := by intro _; rfl) :
    EE c ρ M (.Call (.Name "_law_of" p1) [a, e] [] pos) Q := by
  refine ee_callB T (ga_cons (Er.ee ha (ga_cons (EE.mono he fun r M1 ⟨s, ns, M', e1, e2, bk, h0, h1, q⟩ => ?_) he2)) he1) hk hg (by decide) he1 hpl
  subst e1; subst e2
  refine ga_nil ⟨0, s, [.lst (ns.map D.int)], rfl, rfl, ⟨ns.map D.int, rfl, by simpa using h0, by simpa using h1, bk⟩, ?_⟩
  rintro d s' ⟨xs, e1, hd, b'⟩
  cases e1
  obtain ⟨i, hi, rfl⟩ := List.mem_map.mp hd
  exact q i s' hi b'
end
--@end
section
variable {P : Program} {w : World} {K : PySem.W.Frag} {mg : Str → Option Value} {base : Heap}
--@def _law_graph
def preNet (s : Bx) (ds : List D) : Prop := ∃ n : Int, ds = [.int n] ∧ 0 ≤ n ∧ n ≤ 24 ∧ Bok s 900000000
def postNet (s : Bx) (ds : List D) (d : D) (s' : Bx) : Prop := ∃ g : Gr, d = gT g ∧ WF g ∧ Bok s' (s.n + 300)
def N_net : List Str := ["_law_box_here", "_law_many_so", "_law_rows_so", "_law_here", "_law_low", "_law_k", "_law_far", "_law_date_so", "_law_near", "_law_many_here", "_law_some", "_law_turn"]
theorem sc_net : FnScope N_net ["_law_box_here", "_law_many_so"] (defScope s_net) := ⟨rfl, rfl, rfl, by decide +kernel, rfl, by decide +kernel, by decide +kernel⟩
/-- the rows so far -/
def Rows (g : Gr) : Prop := ∀ (i : Nat) (r : Int × List Int), g[i]? = some r → 0 ≤ r.1 ∧ r.1 ≤ 1000000 ∧ r.2.Pairwise (· < ·) ∧ ∀ p ∈ r.2, 0 ≤ p ∧ p < (i : Int)
theorem Rows.snoc {g : Gr} {r : Int × List Int} (h : Rows g) (hr : 0 ≤ r.1 ∧ r.1 ≤ 1000000 ∧ r.2.Pairwise (· < ·) ∧ ∀ p ∈ r.2, 0 ≤ p ∧ p < (g.length : Int)) : Rows (g ++ [r]) := fun i q e => by
  by_cases hi : i < g.length
  · rw [List.getElem?_append_left hi] at e; exact h i q e
  · rw [List.getElem?_append_right (by omega)] at e
    have : i - g.length = 0 := by
      have := (List.getElem?_eq_some_iff.mp e).1
      simp at this; omega
    rw [this] at e
    cases e
    have : i = g.length := by omega
    subst this
    exact hr
theorem Bok.up {s : Bx} {n m : Int} (h : Bok s n) (hm : n ≤ m) : Bok s m := ⟨h.a, h.n0, Int.le_trans h.n1 hm⟩
theorem ok_net {f : Addr} {fd : FuncData} (Fn : Fun K "_law_graph" "_law_graph" s_net f fd) (B : Bi mg) (Tt : Def P w K mg base "_law_take" 1 (spB K preTake postTake)) (To : Def P w K mg base "_law_of" 2 (spB K preOf postOf)) : FnOk P w K mg base CX0 3 f fd ["_law_box_here", "_law_many_so"] (spB K preNet postNet) := by
  refine okB (k := 2) Fn sc_net (fun s ds ⟨n, h, _⟩ => by subst h; rfl) fun s0 ds ⟨n, h, hn0, hn1, bk0⟩ => ?_
  subst h
  have bb := bk0.n1
  refine es_par3 2 3 4 (ga_cons (EE.mono (evn_lst (ds := []) ea_nil) fun r M1 ⟨e1, e2⟩ => ?_))
  subst e1; subst e2
  refine ga_cons (Er.ee ev_int (ga_cons (Er.ee ev_bl (ga_nil ⟨_, _, _, rfl, ?_⟩))))
  refine es_for (fun i ρ M => ∃ (g : Gr) (s : Bx) (here : Int) (low : Bool), ρ = [.own 0, .val (.int n), .own 1, .val (.int here), .val (.bl low), .un, .un, .un, .un, .un, .un, .un] ∧ M = [.lst (boxD s), .lst (g.map rowT)] ∧ g.length = i ∧ Rows g ∧ Bok s (s0.n + 10 * i) ∧ 0 ≤ here ∧ here ≤ 10 + 5 * i) (ei_range1 (er_var 1) ⟨by omega, by omega⟩ B.range) ⟨[], s0, 10, false, rfl, rfl, rfl, (fun i r e => nomatch e), ⟨bk0.a, bk0.n0, by omega⟩, by decide, by decide⟩ (fun _ _ _ _ _ z => (nomatch z)) (by show 1 ≤ 2; decide) (fun _ _ _ ⟨_, _, _, _, _, h, _⟩ => by rw [h]; exact Nat.le_refl _) ?_ ?_
  · rintro i d ρ M hd ⟨g, s, here, low, rfl, rfl, hgl, hrows, bk, hh0, hh1⟩
    rw [List.getElem?_map] at hd
    obtain ⟨x, hx, rfl⟩ := Option.map_eq_some_iff.mp hd
    obtain ⟨hi, rfl⟩ := rng_get.mp hx
    rw [Int.zero_add]
    have hi24 : i < 24 := by omega
    refine ⟨_, _, eg_name 5, ?_⟩
    -- here, low
    refine es_par 3 4 (ga_cons (ee_bin (Er.ee (er_var 3) (ee_ofI To (er_var 0) (EvN.ee (evn_lst (ds := [.int 0, .int 1, .int 1, .int 2, .int 5]) (ea_cons ev_int (ea_cons ev_int (ea_cons ev_int (ea_cons ev_int (ea_cons ev_int ea_nil)))))) ⟨s, [0, 1, 1, 2, 5], _, rfl, rfl, bk.up (by omega), by decide, by decide, fun up s1 hup bk1 => ?_⟩)))))
    refine ⟨_, ox_add, ga_cons (ee_cmp (ee_take Tt (er_var 0) ev_int rfl (bk1.up (by have := bk.n1; omega)) (by decide) (by decide) fun r2 s2 r20 r21 bk2 => Er.ee (ev_bin ev_int (ev_callT (ea_cons (er_var 4) ea_nil) cx_intB B.int) ox_add) ⟨_, ox_lt, ga_nil ⟨_, _, rfl, ?_⟩⟩))⟩
    have hup' : 0 ≤ up ∧ up ≤ 5 := by
      simp at hup
      omega
    generalize hlow : decide (r2 < 1 + (if low = true then 1 else 0)) = low2
    -- far
    refine es_asgE 6 (ee_ofI To (er_var 0) (ee_lst (ga_cons (Er.ee ev_int (ga_cons (Er.ee ev_int (ga_cons (Er.ee ev_int (ga_cons (ee_take Tt (er_var 0) ev_int rfl (bk2.up (by have := bk.n1; have := bk1.n1; omega)) (by decide) (by decide) fun r3 s3 r30 r31 bk3 => ga_cons (Er.ee (ev_neg ev_int) (ga_nil ⟨[.int 0, .int 0, .int 0, .int r3, .int (-3)], rfl, by simp, ⟨s3, [0, 0, 0, r3, -3], _, rfl, rfl, bk3.up (by have := bk.n1; have := bk1.n1; have := bk2.n1; omega), by simp, by simp, fun far s4 hfar bk4 => ?_⟩⟩))))))))))))
    have hfar' : -3 ≤ far ∧ far ≤ 9 := by
      simp at hfar
      omega
    -- date
    refine es_asgE 7 (EE.mono (Q := fun r M' => ∃ (date : Int) (s5 : Bx), r = .val (.int date) ∧ M' = [.lst (boxD s5), .lst (g.map rowT)] ∧ date ≤ 1000 ∧ Bok s5 (s4.n + 1)) (ee_if (et_val (er_var 4)) (fun _ => ee_take Tt (er_var 0) ev_int rfl (bk4.up (by have := bk.n1; have := bk1.n1; have := bk2.n1; have := bk3.n1; omega)) (by decide) (by decide) fun r5 s5 r50 r51 bk5 => ⟨r5, s5, rfl, rfl, by omega, bk5⟩) (fun _ => Er.ee (ev_bin (er_var 3) (er_var 6) ox_add) ⟨_, s4, rfl, rfl, by omega, ⟨bk4.a, bk4.n0, by omega⟩⟩)) ?_)
    rintro r M' ⟨date, s5, rfl, rfl, hdate, bk5⟩
    -- near
    refine es_asgE 8 (EE.mono (Q := fun r M' => ∃ (near : List Int) (s6 : Bx), r = .val (.lst (near.map D.int)) ∧ M' = [.lst (boxD s6), .lst (g.map rowT)] ∧ near.length ≤ 24 ∧ (∀ x ∈ near, 0 ≤ x ∧ x < (i : Int)) ∧ Bok s6 (s5.n + 1)) (ee_ifG (gt_cmp (ee_take Tt (er_var 0) ev_int rfl (bk5.up (by have := bk.n1; have := bk1.n1; have := bk2.n1; have := bk3.n1; have := bk4.n1; omega)) (by decide) (by decide) fun r6 s6 r60 r61 bk6 => Er.ee ev_int ⟨_, ox_eqI, fun _ => EvN.ee (evn_listR1 (er_var 5) ⟨by omega, by omega⟩ B.list B.range) ⟨_, s6, rfl, rfl, by rw [rng_len]; omega, fun x hx => by have := rng_mem.mp hx; omega, bk6⟩, fun _ => EvN.ee (evn_listR2 (ev_callB (ea_cons ev_int (ea_cons (ev_bin (er_var 5) ev_int ox_sub) ea_nil)) cx_max2 B.max) (er_var 5) ⟨by omega, by omega, by omega, by omega⟩ B.list B.range) ⟨_, s6, rfl, rfl, by rw [rng_len]; omega, fun x hx => by have := rng_mem.mp hx; omega, bk6⟩⟩))) ?_)
    rintro r M' ⟨near, s6, rfl, rfl, hnl, hnear, bk6⟩
    have c0 := bk.n1
    have c1 := bk1.n1
    have c2 := bk2.n1
    have c3 := bk3.n1
    have c4 := bk4.n1
    have c5 := bk5.n1
    have c6 := bk6.n1
    -- how many
    have hpn : plain 60 (.lst (near.map D.int)) = true := by
      show (decide ((near.map D.int).length ≤ 1000) && plains 59 (near.map D.int)) = true
      rw [Bool.and_eq_true]
      exact ⟨decide_eq_true (by simp; omega), plains_ints 59 near⟩
    refine es_asgE 9 (ee_bin (ee_ofI To (er_var 0) (EvN.ee (evn_lst (ds := [.int 0, .int 1, .int 1, .int 1, .int 2, .int 3]) (ea_cons ev_int (ea_cons ev_int (ea_cons ev_int (ea_cons ev_int (ea_cons ev_int (ea_cons ev_int ea_nil))))))) ⟨s6, [0, 1, 1, 1, 2, 3], _, rfl, rfl, bk6.up (by omega), by decide, by decide, fun few s7 hfew bk7 => Er.ee (ev_callT (ea_cons (ev_cmp (er_var 8) (EvN.ev (evn_lst (ds := []) ea_nil)) (ox_neD hpn rfl)) ea_nil) cx_intB B.int) ⟨_, ox_mul (.inr (bit01 _)), ?_⟩⟩)))
    rw [eqv_nil]
    have hfew' : 0 ≤ few ∧ few ≤ 3 := by
      simp at hfew
      omega
    have hm : ∃ m : Nat, few * (if (!(near.map D.int).isEmpty) = true then 1 else 0) = (m : Int) ∧ m ≤ 3 ∧ (0 < m → 0 < near.length) := by
      cases near with
      | nil => exact ⟨0, by simp, by omega, by omega⟩
      | cons y ys => exact ⟨few.toNat, by simp; omega, by omega, fun _ => by simp⟩
    obtain ⟨m, em, hm3, hmp⟩ := hm
    rw [em]
    have c7 := bk7.n1
    -- some
    refine es_asgE 10 (ee_binN (EvN.ee (evn_bin (EvN.ev (evn_lst (ds := [.int ((i : Int) - 1)]) (ea_cons (ev_bin (er_var 5) ev_int ox_sub) ea_nil))) (ev_callT (ea_cons (ev_and (er_var 4) fun _ => (ev_one (ev_cmp (er_var 5) ev_int ox_gt))) ea_nil) cx_intB B.int) (on_rep (h0 := by split <;> decide) (h1 := by split <;> decide))) ?_))
    refine ee_lcV (own := [("_law_turn", 11)]) (Iv := fun j Mi o => ∃ (sj : Bx) (ns : List Int), Mi = [.lst (boxD sj), .lst (g.map rowT)] ∧ o = ns.map D.int ∧ ns.length = j ∧ (∀ x ∈ ns, x ∈ near) ∧ Bok sj (s7.n + j)) (ei_range1 (er_var 9) ⟨by omega, by omega⟩ B.range) ⟨⟨s7, [], rfl, rfl, rfl, (fun x hx => nomatch hx), ⟨bk7.a, bk7.n0, by omega⟩⟩, fun j Mi o ⟨_, _, h, _⟩ => by rw [h]; rfl, fun j Mi o _ k hk => (nomatch hk), fun j Mi o ⟨_, ns, _, h, h2, _⟩ => by rw [h]; simp; omega, by rw [List.length_map, rng_len]; omega, ?_⟩ ?_
    · rintro j d Mi o hd ⟨sj, ns, rfl, rfl, hnl2, hin, bkj⟩
      have hj : j < m := by
        have := (List.getElem?_eq_some_iff.mp hd).1
        simpa [rng_len] using this
      have cj := bkj.n1
      refine ⟨_, _, true, eg_name 11, by decide, ets_nil, fun _ => ?_, fun h => (nomatch h)⟩
      refine ee_ofI To (er_var 0) (Er.ee (er_var 8) ⟨sj, near, _, rfl, rfl, bkj.up (by omega), hmp (by omega), by omega, fun y s' hy b' => ⟨_, rfl, s', ns ++ [y], rfl, by simp, by simp [hnl2], fun x hx => ?_, b'.up (by omega)⟩⟩)
      rcases List.mem_append.mp hx with z | z
      · exact hin x z
      · rw [List.mem_singleton] at z; rw [z]; exact hy
    · rintro Mn o ⟨s8, ns, rfl, rfl, hnl2, hin, bk8⟩
      rw [List.length_map, rng_len] at hnl2 bk8
      have c8 := bk8.n1
      generalize ht : (if (low2 && decide (0 < (i : Int))) = true then (1 : Int) else 0) = t
      have ht' : ∃ pre : List Int, (List.replicate t.toNat [D.int ((i : Int) - 1)]).flatten = pre.map D.int ∧ pre.length ≤ 1 ∧ ∀ x ∈ pre, 0 ≤ x ∧ x < (i : Int) := by
        by_cases hb : (low2 && decide (0 < (i : Int))) = true
        · rw [if_pos hb] at ht
          subst ht
          have := of_decide_eq_true (Bool.and_eq_true_iff.mp hb).2
          exact ⟨[(i : Int) - 1], rfl, by simp, fun x hx => by rw [List.mem_singleton] at hx; omega⟩
        · rw [if_neg hb] at ht
          subst ht
          exact ⟨[], rfl, by simp, fun x hx => nomatch hx⟩
      obtain ⟨pre, ep, hpl, hpre⟩ := ht'
      rw [ep]
      refine ⟨_, on_cat (hz := by simp; omega), ?_⟩
      rw [← List.map_append]
      have hall : ∀ x ∈ pre ++ ns, 0 ≤ x ∧ x < (i : Int) := fun x hx => by
        rcases List.mem_append.mp hx with z | z
        · exact hpre x z
        · exact hnear x (hin x z)
      have hlen : (pre ++ ns).length ≤ 4 := by simp; omega
      generalize pre ++ ns = some at hall hlen
      refine es_expr (ee_append (j := 1) (ds := g.map rowT) (d := rowT (max 0 date, sset some)) (er_var 2) rfl (ev_tup (ds := [.int (max 0 date), .tup ((sset some).map D.int)]) (ea_cons (ev_callB (ea_cons ev_int (ea_cons (er_var 7) ea_nil)) cx_max2 B.max) (ea_cons (ev_callT (ea_cons (EvN.ev (evn_sset (er_var 10) SqS.lst (by omega) B.sorted B.set)) ea_nil) cx_tuple B.tuple) ea_nil))) (by simp; omega) (es_nil ⟨_, .keep (.keep (.keep (.keep (.keep (.drop (.drop (.drop (.drop (.drop (.drop (.drop .nil))))))))))), g ++ [(max 0 date, sset some)], s8, here + up, low2, rfl, by simp, by simp [hgl], hrows.snoc ⟨by simp; omega, by simp; omega, sset_sorted some, fun p hp => ?_⟩, bk8.up (by push_cast; omega), by omega, by push_cast; omega⟩))
      rw [hgl]
      exact hall p (mem_sset.mp hp)
  · rintro ρ M ⟨g, s, here, low, rfl, rfl, hgl, hrows, bk, hh0, hh1⟩
    have hgl : g.length = n.toNat := by simpa [rng_len] using hgl
    refine es_ret (ev_callT (ea_cons (er_var 2) ea_nil) cx_tuple B.tuple) ⟨gT g, s, ⟨g, rfl, ⟨by omega, hrows⟩, bk.up ?_⟩, rfl, .inl rfl⟩
    rw [List.length_map, rng_len]; omega
--@end
end
end Dl

namespace Dl
open PySem L2
--@def plainG
section
variable {c : Ctx} {ρ : List Sl} {M : List C} {a b e : Expr} {pos p1 : Pos} {Q : Sl → List C → Prop}
theorem ev_lenG {g : Gr} (ha : Ev c ρ M a (gT g)) (hm0 : c.mg "len" = none) (hg : Glo c "len" := by rfl) (he : ∀ env, starEach [a] env = (false, eval a env) :: starEach [] env := by intro _; rfl) : Ev c ρ M (.Call (.Name "len" p1) [a] [] pos) (.int g.length) := by
  have := ev_len (pos := pos) (p1 := p1) (t := false) (ds := g.map rowT) ha hm0 .tup hg he
  rwa [List.length_map] at this
end
theorem gds_getD (g : Gr) (i : Nat) : (gds g).getD i 0 = (g.getD i (0, [])).1 := by
  unfold gds
  rw [List.getD_eq_getElem?_getD, List.getD_eq_getElem?_getD, List.getElem?_map]
  cases g[i]? <;> rfl
theorem cut_take {α : Type} (xs : List α) {k : Int} (h : 0 ≤ k) : cutL xs none (some k) = xs.take k.toNat := by
  unfold cutL HT.sIx
  simp only [if_neg (show ¬ k < 0 by omega), List.drop_zero, Nat.sub_zero]
  by_cases hz : k.toNat ≤ xs.length
  · rw [Nat.min_eq_left hz]
  · rw [Nat.min_eq_right (by omega), List.take_of_length_le (by omega), List.take_of_length_le (by omega)]
theorem cut_drop {α : Type} (xs : List α) {k : Int} (h : 0 ≤ k) : cutL xs (some k) none = xs.drop k.toNat := by
  unfold cutL HT.sIx
  simp only [if_neg (show ¬ k < 0 by omega)]
  by_cases hz : k.toNat ≤ xs.length
  · rw [Nat.min_eq_left hz, List.take_of_length_le (by simp)]
  · rw [Nat.min_eq_right (by omega), List.drop_of_length_le (l := xs) (Nat.le_refl _), List.drop_of_length_le (l := xs) (by omega)]; simp
theorem zap_cut {g : Gr} {i : Int} (h0 : 0 ≤ i) (h1 : i < g.length) : cutL ((gds g).map D.int) none (some i) ++ [D.int 0] ++ cutL ((gds g).map D.int) (some (i + 1)) none = (zap g i).map D.int := by
  rw [cut_take _ h0, cut_drop _ (by omega)]
  unfold zap
  rw [List.set_eq_take_append_cons_drop, if_pos (by rw [gds_len]; omega), List.map_append, List.map_cons, List.map_take, List.map_drop, show (i + 1).toNat = i.toNat + 1 by omega]
  simp
def levD (g : Gr) : D := .tup ((risM g (ones g)).map D.int)
def menD (g : Gr) : D := .tup ((risM g (gds g)).map D.int)
def raiD (g : Gr) : List D := ((rng 0 g.length).filter fun i => decide (gdate g i < (risM g (gds g)).getD i.toNat 0)).map D.int
def rbyD (g : Gr) (k : Int) : List D := ((rng 0 g.length).filter fun j => decide ((risM g (zap g k)).getD j.toNat 0 < (risM g (gds g)).getD j.toNat 0)).map D.int
theorem plain_ints {n : Nat} (ns : List Int) (h : ns.length ≤ 1000) : plain (n + 1) (.lst (ns.map D.int)) = true := by
  show (decide ((ns.map D.int).length ≤ 1000) && plains n (ns.map D.int)) = true
  rw [Bool.and_eq_true]
  exact ⟨decide_eq_true (by simpa using h), plains_ints n ns⟩
theorem plain_intsT {n : Nat} (ns : List Int) (h : ns.length ≤ 1000) : plain (n + 1) (.tup (ns.map D.int)) = true := by
  show (decide ((ns.map D.int).length ≤ 1000) && plains n (ns.map D.int)) = true
  rw [Bool.and_eq_true]
  exact ⟨decide_eq_true (by simpa using h), plains_ints n ns⟩
theorem filt_len (n : Nat) (p : Int → Bool) (h : n ≤ 24) : ((rng 0 n).filter p).length ≤ 1000 := Nat.le_trans (List.length_filter_le _ _) (by rw [rng_len]; omega)
theorem plain_rai {g : Gr} (h : WF g) {n : Nat} : plain (n + 1) (.lst (raiD g)) = true := plain_ints _ (filt_len _ _ h.len)
theorem plain_rby {g : Gr} (h : WF g) {k : Int} {n : Nat} : plain (n + 1) (.lst (rbyD g k)) = true := plain_ints _ (filt_len _ _ h.len)
theorem plain_lev {g : Gr} (h : WF g) {n : Nat} : plain (n + 1) (levD g) = true := plain_intsT _ (by rw [risM_len (ones_len g)]; have := h.len; omega)
theorem plain_men {g : Gr} (h : WF g) {n : Nat} : plain (n + 1) (menD g) = true := plain_intsT _ (by rw [risM_len (gds_len g)]; have := h.len; omega)
--@end
section
variable {P : Program} {w : World} {K : PySem.W.Frag} {mg : Str → Option Value} {base : Heap}
/-- what right calls -/
structure TR (P : Program) (w : World) (K : PySem.W.Frag) (mg : Str → Option Value) (base : Heap) : Prop where
  B : Bi mg
  take : Def P w K mg base "_law_take" 1 (spB K preTake postTake)
  of : Def P w K mg base "_law_of" 2 (spB K preOf postOf)
  net : Def P w K mg base "_law_graph" 3 (spB K preNet postNet)
  refill : Def P w K mg base "_law_refill" 5 (spL K preFill postFill)
  numbers : Def P w K mg base "_law_numbers" 1 (spN K Rnumbers)
  same : Def P w K mg base "_law_same" 4 (spV K (Rsame 3))
  lists : Def P w K mg base "_law_lists" 4 (spV K (Rlists 3))
  levels : Def P w K mg base "levels" 5 (spV K Rlevels)
  mended : Def P w K mg base "mended" 5 (spV K Rmended)
  raised : Def P w K mg base "raised" 6 (spN K Rraised)
  raised_by : Def P w K mg base "raised_by" 6 (spN K Rraised_by)
  levelsK : DefK P w K mg base "levels" 5 ["graph"] [0] (spV K Rlevels)
  mendedK : DefK P w K mg base "mended" 5 ["graph"] [0] (spV K Rmended)
  raisedK : DefK P w K mg base "raised" 6 ["graph"] [0] (spN K Rraised)
  raised_byK : DefK P w K mg base "raised_by" 6 ["commit", "graph"] [1, 0] (spN K Rraised_by)
--@def _law_right
def preRight (s : Bx) (ds : List D) : Prop := ds = [] ∧ Bok s 1000
def postRight (s : Bx) (ds : List D) (d : D) (s' : Bx) : Prop := d = .bl true
def N_right : List Str := ["_law_box_here", "_law_shelf", "_law_turn", "_law_net", "_law_dates_so", "_law_soft", "_law_row_so", "_law_low", "_law_high", "_law_due", "_law_k", "_law_got", "_law_less_so", "_law_some", "_law_own"]
theorem sc_right : FnScope N_right ["_law_box_here"] (defScope s_right) := ⟨rfl, rfl, rfl, by decide +kernel, rfl, by decide +kernel, by decide +kernel⟩
theorem ok_right {f : Addr} {fd : FuncData} (Fn : Fun K "_law_right" "_law_right" s_right f fd) (T : TR P w K mg base) : FnOk P w K mg base CX0 7 f fd ["_law_box_here"] (spB K preRight postRight) := by
  refine okB (k := 6) Fn sc_right (fun s ds ⟨h, _⟩ => by subst h; rfl) fun s0 ds ⟨h, bk0⟩ => ?_
  subst h
  have bb := bk0.n1
  have B := T.B
  refine es_asgN 1 (evn_lst (ds := []) ea_nil) ?_
  refine es_for (fun i ρ M => ∃ (g0 : Gr) (s : Bx), ρ = [.own 0, .own 1, .un, .un, .un, .un, .un, .un, .un, .un, .un, .un, .un, .un, .un] ∧ M = [.lst (boxD s), .lst (g0.map rowL)] ∧ WF g0 ∧ Bok s (s0.n + 400 * i)) (ei_range1 ev_int ⟨by decide, by decide⟩ B.range) ⟨[], s0, rfl, rfl, ⟨by decide, fun i r e => nomatch e⟩, ⟨bk0.a, bk0.n0, by omega⟩⟩ (fun _ _ _ _ _ z => (nomatch z)) (by show 1 ≤ 2; decide) (fun _ _ _ ⟨_, _, _, h, _⟩ => by rw [h]; exact Nat.le_refl _) ?_ ?_
  · rintro i d ρ M hd ⟨g0, s, rfl, rfl, hw0, bk⟩
    have hi : i < 3 := by
      have := (List.getElem?_eq_some_iff.mp hd).1
      simpa [rng_len] using this
    have c0 := bk.n1
    refine ⟨_, _, eg_name 2, ?_⟩
    refine es_asgE 3 (ee_callB T.net (ga_cons (Er.ee (er_var 0) (ga_cons (ee_ofI T.of (er_var 0) (EvN.ee (evn_lst (ds := [.int 0, .int 1, .int 4, .int 9, .int 16, .int 24]) (ea_cons ev_int (ea_cons ev_int (ea_cons ev_int (ea_cons ev_int (ea_cons ev_int (ea_cons ev_int ea_nil))))))) ⟨s, [0, 1, 4, 9, 16, 24], _, rfl, rfl, bk.up (by omega), by decide, by decide, fun many s1 hmany bk1 => ga_nil ⟨0, s1, [.int many], rfl, rfl, ⟨many, rfl, by simp at hmany; omega, by simp at hmany; omega, bk1.up (by omega)⟩, ?_⟩⟩))))))
    rintro d' s2 ⟨g, rfl, hw, bk2⟩
    have c1 := bk1.n1
    have c2 := bk2.n1
    have hwl := hw.len
    have hll := risM_len (ones_len g)
    have hml := risM_len (gds_len g)
    -- dates, soft
    refine es_parC 4 5 (ga_cons (EvN.ee (evn_lc (xs := g) (enc := rowT) (t := fun _ => true) (f := fun r => .int r.1) (own := [("_law_row_so", 6)]) (ei_tup (er_var 3)) (by omega) (by decide) (fun x hx => eg_name 6) (fun x hx => ets_nil) (fun x hx ht => ev_ix (t := false) (ds := [.int x.1, .tup (x.2.map D.int)]) (er_var 6) ev_int .tup rfl)) ?_))
    have ed : ((g.filter fun _ => true).map fun r => D.int r.1) = (gds g).map D.int := by rw [filt_true, gds, List.map_map]; rfl
    rw [ed]
    refine ga_cons (ee_callL T.refill (ErA.ga (ea_cons (er_var 1) (ea_cons (er_var 3) ea_nil)) ⟨1, g0.map rowL, [gT g], rfl, rfl, ⟨g0, g, rfl, hw0, rfl, hw⟩, ?_⟩))
    rintro ds1 ⟨x, e1, e2⟩
    cases e1
    rw [lis_gT] at e2
    have e2 : ds1 = g.map rowL := by injection e2
    subst e2
    refine ga_nil ⟨_, _, rfl, ?_⟩
    -- low, high
    refine es_parC 7 8 (ErA.ga (ea_cons (EvN.ev (evn_call (ds := [gT g, .lst (List.replicate (g.length : Int).toNat [D.int 1]).flatten]) (rs := (risM g (ones g)).map D.int) T.numbers (ea_cons (er_var 3) (ea_cons (EvN.ev (evn_bin (EvN.ev (evn_lst (ds := [.int 1]) (ea_cons ev_int ea_nil))) (ev_lenG (er_var 3) B.len) (on_rep (h0 := by omega) (h1 := by omega)))) ea_nil)) ⟨g, ones g, by rw [rep_ones]; rfl, hw, ones_len g, rfl⟩)) (ea_cons (EvN.ev (evn_call (ds := [gT g, .lst ((gds g).map D.int)]) (rs := (risM g (gds g)).map D.int) T.numbers (ea_cons (er_var 3) (ea_cons (er_var 4) ea_nil)) ⟨g, gds g, rfl, hw, gds_len g, rfl⟩)) ea_nil)) ⟨_, _, rfl, ?_⟩)
    -- due
    have egd : ∀ y : Int, (gds g).getD y.toNat 0 = gdate g y := fun y => gds_getD g y.toNat
    refine es_asg 9 (r := .val (.lst [levD g, menD g, .lst (raiD g)])) (EvN.ev (evn_lst (ds := [levD g, menD g, .lst (raiD g)]) (ea_cons (ev_callT (ea_cons (er_var 7) ea_nil) cx_tuple B.tuple) (ea_cons (ev_callT (ea_cons (er_var 8) ea_nil) cx_tuple B.tuple) (ea_cons (EvN.ev (evn_lc (xs := rng 0 g.length) (enc := D.int) (t := fun i => decide (gdate g i < (risM g (gds g)).getD i.toNat 0)) (f := D.int) (own := [("_law_k", 10)]) (ei_range1 (ev_lenG (er_var 3) B.len) ⟨by omega, by omega⟩ B.range) (by rw [rng_len]; omega) (by decide) (fun x hx => (eg_name 10)) (fun x hx => ?_) (fun x hx ht => (er_var 10)))) ea_nil))) (hz := by show 3 ≤ 1000; decide))) ?_
    · have hy := rng_mem.mp hx
      refine ets_one (et_cmp (ev_ix (er_var 8) (er_var 10) (hd := atI_map (f := D.int) (z := 0) hy.1 (by omega))) (ev_ix (er_var 4) (er_var 10) (hd := ?_)) ox_gt)
      rw [← egd]
      exact atI_map (f := D.int) (z := 0) hy.1 (by rw [gds_len]; omega)
    -- got
    refine es_asgE 11 (ee_mix (ga_cons (Er.ee (ev_call (d := levD g) (ds := [gT g]) T.levels (ea_cons (er_var 3) ea_nil) ⟨g, gT g, rfl, isG_T g, hw, rfl⟩) (ga_cons (Er.ee (ev_call (d := menD g) (ds := [gT g]) T.mended (ea_cons (er_var 3) ea_nil) ⟨g, gT g, rfl, isG_T g, hw, rfl⟩) (ga_cons (EE.mono (evn_call (rs := raiD g) (ds := [gT g]) T.raised (ea_cons (er_var 3) ea_nil) ⟨g, gT g, rfl, isG_T g, hw, rfl⟩) ?_)))))))
    rintro r M1 ⟨rfl, rfl⟩
    refine ga_nil ⟨[.d (levD g), .d (menD g), .o 2], rfl, by show 3 ≤ 1000; decide, ?_⟩
    have hps : plain 3 (.lst [.lst [levD g, menD g, .lst (raiD g)], .lst [levD g, menD g, .lst (raiD g)]]) = true := by
      have h1 : plain 2 (.lst [levD g, menD g, .lst (raiD g)]) = true := by
        show (decide (3 ≤ 1000) && (plain 1 (levD g) && (plain 1 (menD g) && (plain 1 (.lst (raiD g)) && true)))) = true
        rw [plain_lev hw, plain_men hw, plain_rai hw]; rfl
      show (decide (2 ≤ 1000) && (plain 2 _ && (plain 2 _ && true))) = true
      rw [h1]; rfl
    refine es_if (et_lend [.lst (boxD s2)] [g.map rowL, raiD g] (et_not (et_val (ev_call (ds := [.lst [.lst [levD g, menD g, .lst (raiD g)], .lst [levD g, menD g, .lst (raiD g)]], .lst [.lst [levD g, menD g, .lst (raiD g)], .lst [levD g, menD g, .lst (raiD g)]]]) T.same (ea_cons (EvN.ev (evn_lst (ds := [.lst [levD g, menD g, .lst (raiD g)], .lst [levD g, menD g, .lst (raiD g)]]) (ea_cons (Er.unmix (ds := [levD g, menD g, .lst (raiD g)]) (er_var 11)) (ea_cons (EvN.ev (evn_lst (ds := [levD g, menD g, .lst (raiD g)]) (ea_cons (ev_callK (ds := [gL g]) T.levelsK (ek_cons (er_var 5) ek_nil) ⟨g, gL g, rfl, isG_L g, hw, rfl⟩) (ea_cons (ev_callK (ds := [gL g]) T.mendedK (ek_cons (er_var 5) ek_nil) ⟨g, gL g, rfl, isG_L g, hw, rfl⟩) (ea_cons (EvN.ev (evn_callK (ds := [gL g]) T.raisedK (ek_cons (er_var 5) ek_nil) ⟨g, gL g, rfl, isG_L g, hw, rfl⟩)) ea_nil))) (hz := by show 3 ≤ 1000; decide))) ea_nil)) (hz := by show 2 ≤ 1000; decide))) (ea_cons (EvN.ev (evn_lst (ds := [.lst [levD g, menD g, .lst (raiD g)], .lst [levD g, menD g, .lst (raiD g)]]) (ea_cons (er_var 9) (ea_cons (er_var 9) ea_nil)) (hz := by show 2 ≤ 1000; decide))) ea_nil)) ⟨_, rfl, hps, rfl⟩)))) (fun h => (nomatch h)) (fun _ => es_nil ?_)
    refine es_expr (ee_append (j := 2) (ds := raiD g) (er_ixM (er_var 11) ev_int) rfl ev_str (by unfold raiD; rw [List.length_map]; have := filt_len g.length (fun i => decide (gdate g i < (risM g (gds g)).getD i.toNat 0)) hwl; omega) ?_)
    show ES _ _ ([.lst (boxD s2), .lst (g.map rowL)] ++ [.lst (raiD g ++ [.str "more"])]) _ _
    refine es_freeze (M0 := [.lst (boxD s2), .lst (g.map rowL)]) (ds := raiD g ++ [.str "more"]) ?_ ?hm1
    case hm1 => exact Nat.le_refl 2
    refine es_weak (ρ' := [.own 0, .own 1, .un, .val (gT g), .val (.lst ((gds g).map D.int)), .own 1, .un, .un, .val (.lst ((risM g (gds g)).map D.int)), .val (.lst [levD g, menD g, .lst (raiD g)]), .un, .un, .un, .un, .un]) (.keep (.keep (.drop (.keep (.keep (.keep (.keep (.drop (.keep (.keep (.keep (.drop (.keep (.keep (.keep .nil))))))))))))))) ?_
    -- each commit
    refine es_for (fun j ρ M => ρ = [.own 0, .own 1, .un, .val (gT g), .val (.lst ((gds g).map D.int)), .own 1, .un, .un, .val (.lst ((risM g (gds g)).map D.int)), .val (.lst [levD g, menD g, .lst (raiD g)]), .un, .un, .un, .un, .un] ∧ M = [.lst (boxD s2), .lst (g.map rowL)]) (ei_range1 (ev_lenG (er_var 3) B.len) ⟨by omega, by omega⟩ B.range) ⟨rfl, rfl⟩ (fun _ _ _ _ _ z => (nomatch z)) (by show 2 ≤ 2; decide) (fun _ _ _ ⟨_, h⟩ => by rw [h]; exact Nat.le_refl _) ?_ ?_
    · rintro j d ρ M hd ⟨rfl, rfl⟩
      rw [List.getElem?_map] at hd
      obtain ⟨x, hx, rfl⟩ := Option.map_eq_some_iff.mp hd
      obtain ⟨hj, rfl⟩ := rng_get.mp hx
      rw [Int.zero_add]
      have hj' : (j : Int) < g.length := by
        have hj : j < (g.length : Int).toNat := hj
        omega
      have hzl := risM_len (zap_len g j)
      refine ⟨_, _, eg_name 10, ?_⟩
      have hcut : ∀ (lo hi : Option Int), (cutL ((gds g).map D.int) lo hi).length ≤ 24 := fun lo hi => by
        unfold cutL
        rw [List.length_take, List.length_drop, List.length_map, gds_len]; omega
      refine es_asg 12 (EvN.ev (evn_call (ds := [gT g, .lst (cutL ((gds g).map D.int) none (some (j : Int)) ++ [D.int 0] ++ cutL ((gds g).map D.int) (some ((j : Int) + 1)) none)]) (rs := (risM g (zap g j)).map D.int) T.numbers (ea_cons (er_var 3) (ea_cons (EvN.ev (evn_bin (EvN.ev (evn_bin (EvN.ev (evn_cut (er_var 4) eo_none (eo_some (er_var 10)))) (EvN.ev (evn_lst (ds := [.int 0]) (ea_cons ev_int ea_nil))) (on_cat (hz := by have := hcut none (some (j : Int)); simp only [List.length_cons, List.length_nil]; omega)))) (EvN.ev (evn_cut (er_var 4) (eo_some (ev_bin (er_var 10) ev_int ox_add)) eo_none)) (on_cat (hz := by have := hcut none (some (j : Int)); have := hcut (some ((j : Int) + 1)) none; rw [List.length_append]; simp only [List.length_cons, List.length_nil]; omega)))) ea_nil)) ⟨g, zap g j, by rw [zap_cut (by omega) hj'], hw, zap_len g j, rfl⟩)) ?_
      refine es_asgLcP 13 (xs := rng 0 g.length) (enc := D.int) (t := fun i => decide ((risM g (zap g j)).getD i.toNat 0 < (risM g (gds g)).getD i.toNat 0)) (f := D.int) (own := [("_law_own", 14)]) (ei_range1 (ev_lenG (er_var 3) B.len) ⟨by omega, by omega⟩ B.range) (by rw [rng_len]; omega) (by decide) (fun x hx => (eg_name 14)) (fun x hx => ?_) (fun x hx ht => (er_var 14)) ?_
      · have hy := rng_mem.mp hx
        exact ets_one (et_cmp (ev_ix (er_var 12) (er_var 14) (hd := atI_map (f := D.int) (z := 0) hy.1 (by omega))) (ev_ix (er_var 8) (er_var 14) (hd := atI_map (f := D.int) (z := 0) hy.1 (by omega))) ox_lt)
      refine es_freeze (M0 := [.lst (boxD s2), .lst (g.map rowL)]) (ds := rbyD g j) ?_ (by show 2 ≤ 2; decide)
      have hRb : ∀ y : D, IsG g y → Rraised_by [y, .int j] (rbyD g j) := fun y hy => ⟨g, y, j, rfl, hy, hw, by omega, hj', rfl⟩
      have hat : (rbyD g j).all atomD = true := atoms_ints _
      refine es_asgE 11 (ee_mix (ga_cons (EE.mono (evn_call (ds := [gT g, .int j]) T.raised_by (ea_cons (er_var 3) (ea_cons (er_var 10) ea_nil)) (hRb _ (isG_T g))) ?_)))
      rintro r M1 ⟨rfl, rfl⟩
      refine ga_cons (EvN.ee (evn_lend [.lst (boxD s2)] [g.map rowL, rbyD g j] (evn_callK (ds := [.int j, gL g]) T.raised_byK (ek_cons (er_var 10) (ek_cons (er_var 5) ek_nil)) (hRb _ (isG_L g))) hat) (ga_nil ⟨[.o 2, .d (.lst (rbyD g j))], rfl, by show 2 ≤ 1000; decide, ?_⟩))
      have hp2 : plain 3 (.lst [.lst (rbyD g j), .lst (rbyD g j)]) = true := by
        show (decide (2 ≤ 1000) && (plain 2 (.lst (rbyD g j)) && (plain 2 (.lst (rbyD g j)) && true))) = true
        rw [plain_rby hw]; rfl
      have hp3 : plain 3 (.lst [.lst (rbyD g j), .lst (raiD g)]) = true := by
        show (decide (2 ≤ 1000) && (plain 2 (.lst (rbyD g j)) && (plain 2 (.lst (raiD g)) && true))) = true
        rw [plain_rby hw, plain_rai hw]; rfl
      refine es_if (et_lend [.lst (boxD s2)] [g.map rowL, rbyD g j] (et_not (et_val (ev_call (ds := [.lst [.lst (rbyD g j), .lst (rbyD g j)], .lst [.lst (rbyD g j), .lst (rbyD g j)]]) T.same (ea_cons (Er.unmix (ds := [.lst (rbyD g j), .lst (rbyD g j)]) (er_var 11)) (ea_cons (EvN.ev (evn_lst (ds := [.lst (rbyD g j), .lst (rbyD g j)]) (ea_cons (er_var 13) (ea_cons (er_var 13) ea_nil)) (hz := by show 2 ≤ 1000; decide))) ea_nil)) ⟨_, rfl, hp2, rfl⟩)))) (fun h => (nomatch h)) (fun _ => es_nil ?_)
      refine es_expr (ee_append (j := 2) (ds := rbyD g j) (er_ixM (er_var 11) ev_int) rfl ev_str (by unfold rbyD; rw [List.length_map]; exact Nat.lt_of_le_of_lt (filt_len g.length _ hwl) (by decide)) ?_)
      show ES _ _ ([.lst (boxD s2), .lst (g.map rowL)] ++ [.lst (rbyD g j ++ [.str "more"])]) _ _
      refine es_freeze (M0 := [.lst (boxD s2), .lst (g.map rowL)]) (ds := rbyD g j ++ [.str "more"]) ?_ ?hm2
      case hm2 => exact Nat.le_refl 2
      refine es_if (et_not (et_val (ev_call (ds := [.lst [.lst (rbyD g j), .lst (raiD g)], .lst [.lst (rbyD g j), .lst (raiD g)]]) T.same (ea_cons (EvN.ev (evn_lst (ds := [.lst (rbyD g j), .lst (raiD g)]) (ea_cons (EvN.ev (evn_call (ds := [gT g, .int j]) T.raised_by (ea_cons (er_var 3) (ea_cons (er_var 10) ea_nil)) (hRb _ (isG_T g)))) (ea_cons (EvN.ev (evn_call (rs := raiD g) (ds := [gT g]) T.raised (ea_cons (er_var 3) ea_nil) ⟨g, gT g, rfl, isG_T g, hw, rfl⟩)) ea_nil)) (hz := by show 2 ≤ 1000; decide))) (ea_cons (EvN.ev (evn_lst (ds := [.lst (rbyD g j), .lst (raiD g)]) (ea_cons (er_var 13) (ea_cons (ev_ix (er_var 9) ev_int) ea_nil)) (hz := by show 2 ≤ 1000; decide))) ea_nil)) ⟨_, rfl, hp3, rfl⟩))) (fun h => (nomatch h)) (fun _ => es_nil ?_)
      exact es_nil ⟨_, .keep (.keep (.keep (.keep (.keep (.keep (.keep (.keep (.keep (.keep (.drop (.drop (.drop (.drop (.keep .nil)))))))))))))), rfl, rfl⟩
    · rintro ρ M ⟨rfl, rfl⟩
      have hpl : plain 60 (gL g) = true := plain_mono (by decide) (plain_gL hw)
      refine es_if (et_cmp (er_var 5) (ev_call (d := gL g) (ds := [gT g]) T.lists (ea_cons (er_var 3) ea_nil) ⟨gT g, rfl, plain_gT hw, (lis_gT g).symm⟩) (ox_neD (d := gL g) (d' := gL g) hpl hpl)) (fun h => ?_) (fun _ => ?_)
      · rw [eqv_same hpl] at h; exact nomatch h
      · exact es_nil (es_nil ⟨_, .keep (.keep (.drop (.drop (.drop (.drop (.keep (.keep (.drop (.drop (.keep (.keep (.keep (.keep (.keep .nil)))))))))))))), g, s2, rfl, rfl, hw, bk2.up (by push_cast; omega)⟩)
  · rintro ρ M ⟨g0, s, rfl, rfl, hw0, bk⟩
    exact es_ret ev_bl ⟨.bl true, s, rfl, rfl, .inl rfl⟩
--@end
end
end Dl

namespace Dl
open PySem L2
section
variable {P : Program} {w : World} {K : PySem.W.Frag} {mg : Str → Option Value} {base : Heap}
--@def law
def Rlaw (ds : List D) (d : D) : Prop := ∃ ns : List Int, ds = [.scr ns] ∧ d = .bl true
def N_law : List Str := ["_law_script", "_law_cells_here", "_law_k"]
theorem sc_law : FnScope N_law ["_law_script"] (defScope s_law) := ⟨rfl, rfl, rfl, by decide +kernel, rfl, by decide +kernel, by decide +kernel⟩
theorem ok_law {f : Addr} {fd : FuncData} (Fn : Fun K "law" "law" s_law f fd) (B : Bi mg) (Tc : Def P w K mg base "_law_cells" 1 (spN K Rcells)) (Tb : Def P w K mg base "_law_box" 1 (spN K Rbox)) (Tr : Def P w K mg base "_law_right" 7 (spB K preRight postRight)) : FnOk P w K mg base CX0 8 f fd ["_law_script"] (spV K Rlaw) :=
  okV (k := 7) Fn sc_law (fun ds d ⟨ns, h, _⟩ => by subst h; rfl) fun ds d ⟨ns, h, hd⟩ => by
    subst h; subst hd
    have hc := cellM_len ns
    refine es_asg 1 (EvN.ev (evn_call (ds := [.scr ns, .int 3]) Tc (ea_cons (er_var 0) (ea_cons ev_int ea_nil)) ⟨ns, rfl, rfl⟩)) ?_
    refine es_ret (ev_callB (ea_cons (EvN.ev (evn_lc (xs := rng 0 ((cellM ns).map D.int).length) (enc := D.int) (t := fun _ => true) (f := fun _ => .bl true) (own := [("_law_k", 2)]) (ei_range1 (ev_len (er_var 1) B.len) ⟨by omega, by rw [List.length_map]; omega⟩ B.range) (by rw [rng_len, List.length_map]; omega) (by decide) (fun x hx => (eg_name 2)) (fun x hx => ets_nil)
      (fun x hx ht => ?_))) ea_nil) (cx_all (bs := List.replicate ((cellM ns).map D.int).length true) ?_) B.all) (.inl ?_)
    · have hy := rng_mem.mp hx
      rw [List.length_map] at hy
      refine ee_dropL (ee_callB Tr (ga_cons (EE.mono (evn_call (ds := [.lst ((cellM ns).map D.int), .int x]) Tb (ea_cons (er_var 1) (ea_cons (er_var 2) ea_nil)) ⟨cellM ns, x, rfl, hy.1, by omega, by omega, rfl⟩) ?_)))
      rintro r M1 ⟨rfl, rfl⟩
      refine ga_nil ⟨0, mkBx ((cellM ns).getD x.toNat 0) x, [], rfl, rfl, ⟨rfl, mkBx_a _ _, by show (0 : Int) ≤ 0; decide, by show (0 : Int) ≤ 1000; decide⟩, ?_⟩
      rintro d s' rfl
      exact ⟨rfl, _, rfl⟩
    · have e : ((rng 0 ((cellM ns).map D.int).length).map fun _ => D.bl true) = (List.replicate ((cellM ns).map D.int).length true).map D.bl := by
        rw [List.map_replicate, List.map_const', rng_len]
      rw [filt_true, e]; exact SqS.lst
    · rw [rep_all]
--@end
end
theorem all_mk {l : PySem.W.OpenLaw} {w : World} {K : PySem.W.Frag} {h : Heap} {mg : Str → Option Value} {fa : Addr} {f1 f2 f3 f4 f5 f6 f7 f8 f9 f10 f11 f12 f13 f14 f15 f16 f17 f18 C f19 f20 f21 f22 f23 f24 f25 pC0 pC1 pC2 : Addr} (X : K.In h) (G : h.Ns mainGlobals mg) (hfa : mg "law" = some (.ref fa))
    {od1 an1 od2 an2 od3 an3 od4 an4 od5 an5 od6 an6 od7 an7 od8 an8 od9 an9 od10 an10 od11 an11 od12 an12 od13 an13 od14 an14 od15 an15 od16 an16 od17 an17 od18 an18 od19 an19 od20 an20 od21 an21 od22 an22 od23 an23 od24 an24 od25 an25 : Option Addr} {sl1 sl2 sl3 sl4 sl5 sl6 sl7 sl8 sl9 sl10 sl11 sl12 sl13 sl14 sl15 sl16 sl17 sl18 sl19 sl20 sl21 sl22 sl23 sl24 sl25 : Array (Option Value)} {oc1 kV1 dc1 pm1 cd1 ct1 oc2 kV2 dc2 pm2 cd2 ct2 oc3 kV3 dc3 pm3 cd3 ct3 oc4 kV4 dc4 pm4 cd4 ct4 oc5 kV5 dc5 pm5 cd5 ct5 oc6 kV6 dc6 pm6 cd6 ct6 oc7 kV7 dc7 pm7 cd7 ct7 oc8 kV8 dc8 pm8 cd8 ct8 oc9 kV9 dc9 pm9 cd9 ct9 oc10 kV10 dc10 pm10 cd10 ct10 oc11 kV11 dc11 pm11 cd11 ct11 oc12 kV12 dc12 pm12 cd12 ct12 oc13 kV13 dc13 pm13 cd13 ct13 oc14 kV14 dc14 pm14 cd14 ct14 oc15 kV15 dc15 pm15 cd15 ct15 oc16 kV16 dc16 pm16 cd16 ct16 oc17 kV17 dc17 pm17 cd17 ct17 oc18 kV18 dc18 pm18 cd18 ct18 oc19 kV19 dc19 pm19 cd19 ct19 oc20 kV20 dc20 pm20 cd20 ct20 oc21 kV21 dc21 pm21 cd21 ct21 oc22 kV22 dc22 pm22 cd22 ct22 oc23 kV23 dc23 pm23 cd23 ct23 oc24 kV24 dc24 pm24 cd24 ct24 oc25 kV25 dc25 pm25 cd25 ct25 : Value}
    (a1 : PySem.W.nsIn K mainGlobals "tupled" = some (some (.ref f1)))
    (l1 : K.lookup f1 = some ⟨oc1, od1, .func (PySem.W.fnOf "tupled" "tupled" (defArgs s_tupled) (defBody s_tupled) (defScope s_tupled) .none kV1 dc1 pm1 an1 cd1 ct1), sl1⟩)
    (c1 : PySem.W.codeIn K cd1 "tupled" = true)
    (k1 : PySem.W.keepIn K (.ref f1) = true)
    (a2 : PySem.W.nsIn K mainGlobals "graph_at" = some (some (.ref f2)))
    (l2 : K.lookup f2 = some ⟨oc2, od2, .func (PySem.W.fnOf "graph_at" "graph_at" (defArgs s_graph_at) (defBody s_graph_at) (defScope s_graph_at) .none kV2 dc2 pm2 an2 cd2 ct2), sl2⟩)
    (c2 : PySem.W.codeIn K cd2 "graph_at" = true)
    (k2 : PySem.W.keepIn K (.ref f2) = true)
    (a3 : PySem.W.nsIn K mainGlobals "rising" = some (some (.ref f3)))
    (l3 : K.lookup f3 = some ⟨oc3, od3, .func (PySem.W.fnOf "rising" "rising" (defArgs s_rising) (defBody s_rising) (defScope s_rising) .none kV3 dc3 pm3 an3 cd3 ct3), sl3⟩)
    (c3 : PySem.W.codeIn K cd3 "rising" = true)
    (k3 : PySem.W.keepIn K (.ref f3) = true)
    (a4 : PySem.W.nsIn K mainGlobals "levels" = some (some (.ref f4)))
    (l4 : K.lookup f4 = some ⟨oc4, od4, .func (PySem.W.fnOf "levels" "levels" (defArgs s_levels) (defBody s_levels) (defScope s_levels) .none kV4 dc4 pm4 an4 cd4 ct4), sl4⟩)
    (c4 : PySem.W.codeIn K cd4 "levels" = true)
    (k4 : PySem.W.keepIn K (.ref f4) = true)
    (a5 : PySem.W.nsIn K mainGlobals "mended" = some (some (.ref f5)))
    (l5 : K.lookup f5 = some ⟨oc5, od5, .func (PySem.W.fnOf "mended" "mended" (defArgs s_mended) (defBody s_mended) (defScope s_mended) .none kV5 dc5 pm5 an5 cd5 ct5), sl5⟩)
    (c5 : PySem.W.codeIn K cd5 "mended" = true)
    (k5 : PySem.W.keepIn K (.ref f5) = true)
    (a6 : PySem.W.nsIn K mainGlobals "raised" = some (some (.ref f6)))
    (l6 : K.lookup f6 = some ⟨oc6, od6, .func (PySem.W.fnOf "raised" "raised" (defArgs s_raised) (defBody s_raised) (defScope s_raised) .none kV6 dc6 pm6 an6 cd6 ct6), sl6⟩)
    (c6 : PySem.W.codeIn K cd6 "raised" = true)
    (k6 : PySem.W.keepIn K (.ref f6) = true)
    (a7 : PySem.W.nsIn K mainGlobals "raised_by" = some (some (.ref f7)))
    (l7 : K.lookup f7 = some ⟨oc7, od7, .func (PySem.W.fnOf "raised_by" "raised_by" (defArgs s_raised_by) (defBody s_raised_by) (defScope s_raised_by) .none kV7 dc7 pm7 an7 cd7 ct7), sl7⟩)
    (c7 : PySem.W.codeIn K cd7 "raised_by" = true)
    (k7 : PySem.W.keepIn K (.ref f7) = true)
    (a8 : PySem.W.nsIn K mainGlobals "_law_box" = some (some (.ref f8)))
    (l8 : K.lookup f8 = some ⟨oc8, od8, .func (PySem.W.fnOf "_law_box" "_law_box" (defArgs s_box) (defBody s_box) (defScope s_box) .none kV8 dc8 pm8 an8 cd8 ct8), sl8⟩)
    (c8 : PySem.W.codeIn K cd8 "_law_box" = true)
    (k8 : PySem.W.keepIn K (.ref f8) = true)
    (a9 : PySem.W.nsIn K mainGlobals "_law_take" = some (some (.ref f9)))
    (l9 : K.lookup f9 = some ⟨oc9, od9, .func (PySem.W.fnOf "_law_take" "_law_take" (defArgs s_take) (defBody s_take) (defScope s_take) .none kV9 dc9 pm9 an9 cd9 ct9), sl9⟩)
    (c9 : PySem.W.codeIn K cd9 "_law_take" = true)
    (k9 : PySem.W.keepIn K (.ref f9) = true)
    (a10 : PySem.W.nsIn K mainGlobals "_law_cells" = some (some (.ref f10)))
    (l10 : K.lookup f10 = some ⟨oc10, od10, .func (PySem.W.fnOf "_law_cells" "_law_cells" (defArgs s_cells) (defBody s_cells) (defScope s_cells) .none kV10 dc10 pm10 an10 cd10 ct10), sl10⟩)
    (c10 : PySem.W.codeIn K cd10 "_law_cells" = true)
    (k10 : PySem.W.keepIn K (.ref f10) = true)
    (a11 : PySem.W.nsIn K mainGlobals "_law_of" = some (some (.ref f11)))
    (l11 : K.lookup f11 = some ⟨oc11, od11, .func (PySem.W.fnOf "_law_of" "_law_of" (defArgs s_of) (defBody s_of) (defScope s_of) .none kV11 dc11 pm11 an11 cd11 ct11), sl11⟩)
    (c11 : PySem.W.codeIn K cd11 "_law_of" = true)
    (k11 : PySem.W.keepIn K (.ref f11) = true)
    (a12 : PySem.W.nsIn K mainGlobals "_law_lists" = some (some (.ref f12)))
    (l12 : K.lookup f12 = some ⟨oc12, od12, .func (PySem.W.fnOf "_law_lists" "_law_lists" (defArgs s_lists) (defBody s_lists) (defScope s_lists) .none kV12 dc12 pm12 an12 cd12 ct12), sl12⟩)
    (c12 : PySem.W.codeIn K cd12 "_law_lists" = true)
    (k12 : PySem.W.keepIn K (.ref f12) = true)
    (a13 : PySem.W.nsIn K mainGlobals "_law_same" = some (some (.ref f13)))
    (l13 : K.lookup f13 = some ⟨oc13, od13, .func (PySem.W.fnOf "_law_same" "_law_same" (defArgs s_same) (defBody s_same) (defScope s_same) .none kV13 dc13 pm13 an13 cd13 ct13), sl13⟩)
    (c13 : PySem.W.codeIn K cd13 "_law_same" = true)
    (k13 : PySem.W.keepIn K (.ref f13) = true)
    (a14 : PySem.W.nsIn K mainGlobals "_law_graph" = some (some (.ref f14)))
    (l14 : K.lookup f14 = some ⟨oc14, od14, .func (PySem.W.fnOf "_law_graph" "_law_graph" (defArgs s_net) (defBody s_net) (defScope s_net) .none kV14 dc14 pm14 an14 cd14 ct14), sl14⟩)
    (c14 : PySem.W.codeIn K cd14 "_law_graph" = true)
    (k14 : PySem.W.keepIn K (.ref f14) = true)
    (a15 : PySem.W.nsIn K mainGlobals "_law_numbers" = some (some (.ref f15)))
    (l15 : K.lookup f15 = some ⟨oc15, od15, .func (PySem.W.fnOf "_law_numbers" "_law_numbers" (defArgs s_numbers) (defBody s_numbers) (defScope s_numbers) .none kV15 dc15 pm15 an15 cd15 ct15), sl15⟩)
    (c15 : PySem.W.codeIn K cd15 "_law_numbers" = true)
    (k15 : PySem.W.keepIn K (.ref f15) = true)
    (a16 : PySem.W.nsIn K mainGlobals "_law_refill" = some (some (.ref f16)))
    (l16 : K.lookup f16 = some ⟨oc16, od16, .func (PySem.W.fnOf "_law_refill" "_law_refill" (defArgs s_refill) (defBody s_refill) (defScope s_refill) .none kV16 dc16 pm16 an16 cd16 ct16), sl16⟩)
    (c16 : PySem.W.codeIn K cd16 "_law_refill" = true)
    (k16 : PySem.W.keepIn K (.ref f16) = true)
    (a17 : PySem.W.nsIn K mainGlobals "_law_right" = some (some (.ref f17)))
    (l17 : K.lookup f17 = some ⟨oc17, od17, .func (PySem.W.fnOf "_law_right" "_law_right" (defArgs s_right) (defBody s_right) (defScope s_right) .none kV17 dc17 pm17 an17 cd17 ct17), sl17⟩)
    (c17 : PySem.W.codeIn K cd17 "_law_right" = true)
    (k17 : PySem.W.keepIn K (.ref f17) = true)
    (a18 : PySem.W.nsIn K mainGlobals "law" = some (some (.ref f18)))
    (l18 : K.lookup f18 = some ⟨oc18, od18, .func (PySem.W.fnOf "law" "law" (defArgs s_law) (defBody s_law) (defScope s_law) .none kV18 dc18 pm18 an18 cd18 ct18), sl18⟩)
    (c18 : PySem.W.codeIn K cd18 "law" = true)
    (k18 : PySem.W.keepIn K (.ref f18) = true)
    (aC : PySem.W.nsIn K mainGlobals "Graph" = some (some (.ref C)))
    (a19 : PySem.W.findIn K (.ref C) "__init__" = some (some (.ref f19)))
    (i19 : PySem.W.isFn K (.ref f19) = true)
    (l19 : K.lookup f19 = some ⟨oc19, od19, .func (PySem.W.fnOf "__init__" "Graph.__init__" (defArgs s_Graph_init) (defBody s_Graph_init) (defScope s_Graph_init) .none kV19 dc19 pm19 an19 cd19 ct19), sl19⟩)
    (c19 : PySem.W.codeIn K cd19 "Graph.__init__" = true)
    (k19 : PySem.W.keepIn K (.ref f19) = true)
    (a20 : PySem.W.findIn K (.ref C) "__len__" = some (some (.ref f20)))
    (i20 : PySem.W.isFn K (.ref f20) = true)
    (l20 : K.lookup f20 = some ⟨oc20, od20, .func (PySem.W.fnOf "__len__" "Graph.__len__" (defArgs s_Graph_len) (defBody s_Graph_len) (defScope s_Graph_len) .none kV20 dc20 pm20 an20 cd20 ct20), sl20⟩)
    (c20 : PySem.W.codeIn K cd20 "Graph.__len__" = true)
    (k20 : PySem.W.keepIn K (.ref f20) = true)
    (a21 : PySem.W.findIn K (.ref C) "commits" = some (some (.ref f21)))
    (i21 : PySem.W.isFn K (.ref f21) = true)
    (l21 : K.lookup f21 = some ⟨oc21, od21, .func (PySem.W.fnOf "commits" "Graph.commits" (defArgs s_Graph_commits) (defBody s_Graph_commits) (defScope s_Graph_commits) .none kV21 dc21 pm21 an21 cd21 ct21), sl21⟩)
    (c21 : PySem.W.codeIn K cd21 "Graph.commits" = true)
    (k21 : PySem.W.keepIn K (.ref f21) = true)
    (a22 : PySem.W.findIn K (.ref C) "date" = some (some (.ref f22)))
    (i22 : PySem.W.isFn K (.ref f22) = true)
    (l22 : K.lookup f22 = some ⟨oc22, od22, .func (PySem.W.fnOf "date" "Graph.date" (defArgs s_Graph_date) (defBody s_Graph_date) (defScope s_Graph_date) .none kV22 dc22 pm22 an22 cd22 ct22), sl22⟩)
    (c22 : PySem.W.codeIn K cd22 "Graph.date" = true)
    (k22 : PySem.W.keepIn K (.ref f22) = true)
    (a23 : PySem.W.findIn K (.ref C) "dates" = some (some (.ref f23)))
    (i23 : PySem.W.isFn K (.ref f23) = true)
    (l23 : K.lookup f23 = some ⟨oc23, od23, .func (PySem.W.fnOf "dates" "Graph.dates" (defArgs s_Graph_dates) (defBody s_Graph_dates) (defScope s_Graph_dates) .none kV23 dc23 pm23 an23 cd23 ct23), sl23⟩)
    (c23 : PySem.W.codeIn K cd23 "Graph.dates" = true)
    (k23 : PySem.W.keepIn K (.ref f23) = true)
    (a24 : PySem.W.findIn K (.ref C) "parents" = some (some (.ref f24)))
    (i24 : PySem.W.isFn K (.ref f24) = true)
    (l24 : K.lookup f24 = some ⟨oc24, od24, .func (PySem.W.fnOf "parents" "Graph.parents" (defArgs s_Graph_parents) (defBody s_Graph_parents) (defScope s_Graph_parents) .none kV24 dc24 pm24 an24 cd24 ct24), sl24⟩)
    (c24 : PySem.W.codeIn K cd24 "Graph.parents" = true)
    (k24 : PySem.W.keepIn K (.ref f24) = true)
    (a25 : PySem.W.findIn K (.ref C) "check" = some (some (.ref f25)))
    (i25 : PySem.W.isFn K (.ref f25) = true)
    (l25 : K.lookup f25 = some ⟨oc25, od25, .func (PySem.W.fnOf "check" "Graph.check" (defArgs s_Graph_check) (defBody s_Graph_check) (defScope s_Graph_check) .none kV25 dc25 pm25 an25 cd25 ct25), sl25⟩)
    (c25 : PySem.W.codeIn K cd25 "Graph.check" = true)
    (k25 : PySem.W.keepIn K (.ref f25) = true)
    (pgC : PySem.W.plainGet K C Str.empty = true)
    (icC : PySem.W.isClsIn K C = true)
    (poC : PySem.W.plainOver K C = true)
    (saC : PySem.W.findIn K (.ref C) "__setattr__" = some (some (.builtin "object.__setattr__")))
    (mkC : PySem.W.makesIn K C = true)
    (kcC : PySem.W.keepIn K (.ref C) = true)
    (sxC0 : PySem.W.findIn K (.ref C) "own_dates" = some (some (.ref pC0)))
    (sgC0 : PySem.W.specialIn K (.ref pC0) "__get__" = some (some (.builtin "member_descriptor.__get__")))
    (stC0 : PySem.W.takesIn K (.ref pC0) = some true)
    (syC0 : PySem.W.typeIn K (.ref pC0) = some (.type "member_descriptor"))
    (siC0 : PySem.W.slotIn K pC0 C = some 0)
    (sxC1 : PySem.W.findIn K (.ref C) "own_parents" = some (some (.ref pC1)))
    (sgC1 : PySem.W.specialIn K (.ref pC1) "__get__" = some (some (.builtin "member_descriptor.__get__")))
    (stC1 : PySem.W.takesIn K (.ref pC1) = some true)
    (syC1 : PySem.W.typeIn K (.ref pC1) = some (.type "member_descriptor"))
    (siC1 : PySem.W.slotIn K pC1 C = some 1)
    (sxC2 : PySem.W.findIn K (.ref C) "own_ways" = some (some (.ref pC2)))
    (sgC2 : PySem.W.specialIn K (.ref pC2) "__get__" = some (some (.builtin "member_descriptor.__get__")))
    (stC2 : PySem.W.takesIn K (.ref pC2) = some true)
    (syC2 : PySem.W.typeIn K (.ref pC2) = some (.type "member_descriptor"))
    (siC2 : PySem.W.slotIn K pC2 C = some 2)
    (z_len : PySem.W.nsIn K mainGlobals "len" = some none)
    (z_int : PySem.W.nsIn K mainGlobals "int" = some none)
    (z_abs : PySem.W.nsIn K mainGlobals "abs" = some none)
    (z_max : PySem.W.nsIn K mainGlobals "max" = some none)
    (z_sorted : PySem.W.nsIn K mainGlobals "sorted" = some none)
    (z_set : PySem.W.nsIn K mainGlobals "set" = some none)
    (z_tuple : PySem.W.nsIn K mainGlobals "tuple" = some none)
    (z_list : PySem.W.nsIn K mainGlobals "list" = some none)
    (z_range : PySem.W.nsIn K mainGlobals "range" = some none)
    (z_enumerate : PySem.W.nsIn K mainGlobals "enumerate" = some none)
    (z_zip : PySem.W.nsIn K mainGlobals "zip" = some none)
    (z_isinstance : PySem.W.nsIn K mainGlobals "isinstance" = some none)
    (z_all : PySem.W.nsIn K mainGlobals "all" = some none)
    (z_dict : PySem.W.nsIn K mainGlobals "dict" = some none)
    (z_bool : PySem.W.nsIn K mainGlobals "bool" = some none)
    (z_str : PySem.W.nsIn K mainGlobals "str" = some none)
    : ∃ fd : FuncData, (∀ (s : Shared) (v : Value), BindsTo s fd ⟨[v], []⟩ [("_law_script", v)]) ∧ ∀ base : Heap, K.In base → base.Ns mainGlobals mg → FnOk l.prog w K mg base CX0 8 fa fd ["_law_script"] (spV K Rlaw) := by
  have e := hfa.symm.trans (PySem.W.mg_of X G a18)
  cases e
  have B : Bi mg := ⟨PySem.W.mg_none_of X G z_len, PySem.W.mg_none_of X G z_int, PySem.W.mg_none_of X G z_abs, PySem.W.mg_none_of X G z_max, PySem.W.mg_none_of X G z_sorted, PySem.W.mg_none_of X G z_set, PySem.W.mg_none_of X G z_tuple, PySem.W.mg_none_of X G z_list, PySem.W.mg_none_of X G z_range, PySem.W.mg_none_of X G z_enumerate, PySem.W.mg_none_of X G z_zip, PySem.W.mg_none_of X G z_isinstance, PySem.W.mg_none_of X G z_all, PySem.W.mg_none_of X G z_dict, PySem.W.mg_none_of X G z_bool, PySem.W.mg_none_of X G z_str⟩
  have F1 := fun_mk (st := s_tupled) l1 c1 k1
  have F2 := fun_mk (st := s_graph_at) l2 c2 k2
  have F3 := fun_mk (st := s_rising) l3 c3 k3
  have F4 := fun_mk (st := s_levels) l4 c4 k4
  have F5 := fun_mk (st := s_mended) l5 c5 k5
  have F6 := fun_mk (st := s_raised) l6 c6 k6
  have F7 := fun_mk (st := s_raised_by) l7 c7 k7
  have F8 := fun_mk (st := s_box) l8 c8 k8
  have F9 := fun_mk (st := s_take) l9 c9 k9
  have F10 := fun_mk (st := s_cells) l10 c10 k10
  have F11 := fun_mk (st := s_of) l11 c11 k11
  have F12 := fun_mk (st := s_lists) l12 c12 k12
  have F13 := fun_mk (st := s_same) l13 c13 k13
  have F14 := fun_mk (st := s_net) l14 c14 k14
  have F15 := fun_mk (st := s_numbers) l15 c15 k15
  have F16 := fun_mk (st := s_refill) l16 c16 k16
  have F17 := fun_mk (st := s_right) l17 c17 k17
  have F18 := fun_mk (st := s_law) l18 c18 k18
  have F19 := fun_mk (st := s_Graph_init) l19 c19 k19
  have F20 := fun_mk (st := s_Graph_len) l20 c20 k20
  have F21 := fun_mk (st := s_Graph_commits) l21 c21 k21
  have F22 := fun_mk (st := s_Graph_date) l22 c22 k22
  have F23 := fun_mk (st := s_Graph_dates) l23 c23 k23
  have F24 := fun_mk (st := s_Graph_parents) l24 c24 k24
  have F25 := fun_mk (st := s_Graph_check) l25 c25 k25
  refine ⟨PySem.W.fnOf "law" "law" (defArgs s_law) (defBody s_law) (defScope s_law) .none kV18 dc18 pm18 an18 cd18 ct18, fun s v => .of_eq rfl, fun base _ _ => ?_⟩
  have b1 := F1.binds (ps := ["thing"]) fun _ _ _ _ _ _ us hl => match us, hl with | [_], _ => rfl
  have b3 := F3.binds (ps := ["own", "lows"]) fun _ _ _ _ _ _ us hl => match us, hl with | [_, _], _ => rfl
  have b4 := F4.binds (ps := ["graph"]) fun _ _ _ _ _ _ us hl => match us, hl with | [_], _ => rfl
  have b5 := F5.binds (ps := ["graph"]) fun _ _ _ _ _ _ us hl => match us, hl with | [_], _ => rfl
  have b6 := F6.binds (ps := ["graph"]) fun _ _ _ _ _ _ us hl => match us, hl with | [_], _ => rfl
  have b7 := F7.binds (ps := ["graph", "commit"]) fun _ _ _ _ _ _ us hl => match us, hl with | [_, _], _ => rfl
  have b8 := F8.binds (ps := ["_law_script", "_law_k"]) fun _ _ _ _ _ _ us hl => match us, hl with | [_, _], _ => rfl
  have b9 := F9.binds (ps := ["_law_box_here", "_law_below_so"]) fun _ _ _ _ _ _ us hl => match us, hl with | [_, _], _ => rfl
  have b10 := F10.binds (ps := ["_law_script", "_law_most"]) fun _ _ _ _ _ _ us hl => match us, hl with | [_, _], _ => rfl
  have b11 := F11.binds (ps := ["_law_box_here", "_law_some"]) fun _ _ _ _ _ _ us hl => match us, hl with | [_, _], _ => rfl
  have b12 := F12.binds (ps := ["_law_matter"]) fun _ _ _ _ _ _ us hl => match us, hl with | [_], _ => rfl
  have b13 := F13.binds (ps := ["_law_got", "_law_due"]) fun _ _ _ _ _ _ us hl => match us, hl with | [_, _], _ => rfl
  have b14 := F14.binds (ps := ["_law_box_here", "_law_many_so"]) fun _ _ _ _ _ _ us hl => match us, hl with | [_, _], _ => rfl
  have b15 := F15.binds (ps := ["_law_graph_so", "_law_lows_so"]) fun _ _ _ _ _ _ us hl => match us, hl with | [_, _], _ => rfl
  have b16 := F16.binds (ps := ["_law_shelf", "_law_matter"]) fun _ _ _ _ _ _ us hl => match us, hl with | [_, _], _ => rfl
  have b17 := F17.binds (ps := ["_law_box_here"]) fun _ _ _ _ _ _ us hl => match us, hl with | [_], _ => rfl
  have b19 := F19.binds (ps := ["self", "graph"]) fun _ _ _ _ _ _ us hl => match us, hl with | [_, _], _ => rfl
  have b20 := F20.binds (ps := ["self"]) fun _ _ _ _ _ _ us hl => match us, hl with | [_], _ => rfl
  have b21 := F21.binds (ps := ["self"]) fun _ _ _ _ _ _ us hl => match us, hl with | [_], _ => rfl
  have b22 := F22.binds (ps := ["self", "commit"]) fun _ _ _ _ _ _ us hl => match us, hl with | [_, _], _ => rfl
  have b23 := F23.binds (ps := ["self"]) fun _ _ _ _ _ _ us hl => match us, hl with | [_], _ => rfl
  have b24 := F24.binds (ps := ["self", "commit"]) fun _ _ _ _ _ _ us hl => match us, hl with | [_, _], _ => rfl
  have b25 := F25.binds (ps := ["self", "commits"]) fun _ _ _ _ _ _ us hl => match us, hl with | [_, _], _ => rfl
  have Ttup : Def l.prog w K mg base "tupled" 2 (spV K (Rtupled 1)) := ⟨f1, PySem.W.mg_of X G a1, k1, fnr_of (ok_tupled F1 b1 (PySem.W.mg_of X G a1) B 1) b1⟩
  have TG : TGraph K C pC0 pC1 pC2 := ⟨⟨pgC, icC, poC, saC⟩, ⟨sxC0, sgC0, stC0, syC0, siC0, by decide⟩, ⟨sxC1, sgC1, stC1, syC1, siC1, by decide⟩, ⟨sxC2, sgC2, stC2, syC2, siC2, by decide⟩⟩
  have Ti : DefI l.prog w K mg base "Graph" C 3 (spI K C RinitG) := ⟨f19, PySem.W.mg_of X G aC, ⟨mkC, a19, i19, kcC⟩, fnr_of (ok_Graph_init F19 TG Ttup) b19⟩
  have Tlen : DefL l.prog w K mg base C 1 (spV K (Rlen C)) := ⟨f20, a20, i20, fnr_of (ok_Graph_len F20 TG B) b20⟩
  have Tcommits : DefM l.prog w K mg base C "commits" 1 (spN K (Rcommits C)) := ⟨TG.cl, f21, ⟨a21, i21, k21⟩, fnr_of (ok_Graph_commits F21 TG B) b21⟩
  have Tdate : DefM l.prog w K mg base C "date" 1 (spV K (Rdate C)) := ⟨TG.cl, f22, ⟨a22, i22, k22⟩, fnr_of (ok_Graph_date F22 TG) b22⟩
  have Tdates : DefM l.prog w K mg base C "dates" 1 (spN K (Rdates C)) := ⟨TG.cl, f23, ⟨a23, i23, k23⟩, fnr_of (ok_Graph_dates F23 TG B) b23⟩
  have Tparents : DefM l.prog w K mg base C "parents" 1 (spV K (Rparents C)) := ⟨TG.cl, f24, ⟨a24, i24, k24⟩, fnr_of (ok_Graph_parents F24 TG) b24⟩
  have Tcheck : DefM l.prog w K mg base C "check" 1 (spV K (Rcheck C)) := ⟨TG.cl, f25, ⟨a25, i25, k25⟩, fnr_of (ok_Graph_check F25 TG B) b25⟩
  have T : PG l.prog w K mg base C pC0 pC1 pC2 := ⟨B, TG, Ti, Tlen, Tcommits, Tdate, Tdates, Tparents, Tcheck⟩
  have Tga : Def l.prog w K mg base "graph_at" 5 (spV K (Rgraph_at C)) := ⟨f2, PySem.W.mg_of X G a2, k2, ok_graph_at F2 T⟩
  have Tr : Def l.prog w K mg base "rising" 2 (spV K (Rrising C)) := ⟨f3, PySem.W.mg_of X G a3, k3, fnr_of (ok_rising F3 T) b3⟩
  have Tl : Def l.prog w K mg base "levels" 5 (spV K Rlevels) := ⟨f4, PySem.W.mg_of X G a4, k4, fnr_of (ok_levels F4 T Tr) b4⟩
  have Tm : Def l.prog w K mg base "mended" 5 (spV K Rmended) := ⟨f5, PySem.W.mg_of X G a5, k5, fnr_of (ok_mended F5 T Tr) b5⟩
  have Tra : Def l.prog w K mg base "raised" 6 (spN K Rraised) := ⟨f6, PySem.W.mg_of X G a6, k6, fnr_of (ok_raised F6 T Tm) b6⟩
  have Trb : Def l.prog w K mg base "raised_by" 6 (spN K Rraised_by) := ⟨f7, PySem.W.mg_of X G a7, k7, fnr_of (ok_raised_by F7 T Tga Tr Tm) b7⟩
  have TlK : DefK l.prog w K mg base "levels" 5 ["graph"] [0] (spV K Rlevels) := ⟨f4, _, _, PySem.W.mg_of X G a4, k4, kb_of (ps := ["graph"]) F4 (by decide) fun _ _ _ _ _ _ ws hl => match ws, hl with | [_], _ => rfl, ok_levels F4 T Tr⟩
  have TmK : DefK l.prog w K mg base "mended" 5 ["graph"] [0] (spV K Rmended) := ⟨f5, _, _, PySem.W.mg_of X G a5, k5, kb_of (ps := ["graph"]) F5 (by decide) fun _ _ _ _ _ _ ws hl => match ws, hl with | [_], _ => rfl, ok_mended F5 T Tr⟩
  have TraK : DefK l.prog w K mg base "raised" 6 ["graph"] [0] (spN K Rraised) := ⟨f6, _, _, PySem.W.mg_of X G a6, k6, kb_of (ps := ["graph"]) F6 (by decide) fun _ _ _ _ _ _ ws hl => match ws, hl with | [_], _ => rfl, ok_raised F6 T Tm⟩
  have TrbK : DefK l.prog w K mg base "raised_by" 6 ["commit", "graph"] [1, 0] (spN K Rraised_by) := ⟨f7, _, _, PySem.W.mg_of X G a7, k7, kb_of (ps := ["graph", "commit"]) F7 (by decide) fun _ _ _ _ _ _ ws hl => match ws, hl with | [_, _], _ => rfl, ok_raised_by F7 T Tga Tr Tm⟩
  have Tbox : Def l.prog w K mg base "_law_box" 1 (spN K Rbox) := ⟨f8, PySem.W.mg_of X G a8, k8, fnr_of (ok_box F8 B) b8⟩
  have Ttake : Def l.prog w K mg base "_law_take" 1 (spB K preTake postTake) := ⟨f9, PySem.W.mg_of X G a9, k9, fnr_of (ok_take F9 B) b9⟩
  have Tcells : Def l.prog w K mg base "_law_cells" 1 (spN K Rcells) := ⟨f10, PySem.W.mg_of X G a10, k10, fnr_of (ok_cells F10 B) b10⟩
  have Tof : Def l.prog w K mg base "_law_of" 2 (spB K preOf postOf) := ⟨f11, PySem.W.mg_of X G a11, k11, fnr_of (ok_of F11 B Ttake) b11⟩
  have Tlists : Def l.prog w K mg base "_law_lists" 4 (spV K (Rlists 3)) := ⟨f12, PySem.W.mg_of X G a12, k12, fnr_of (ok_lists F12 b12 (PySem.W.mg_of X G a12) B 3) b12⟩
  have Tsame : Def l.prog w K mg base "_law_same" 4 (spV K (Rsame 3)) := ⟨f13, PySem.W.mg_of X G a13, k13, fnr_of (ok_same F13 b13 (PySem.W.mg_of X G a13) B 3) b13⟩
  have Tnet : Def l.prog w K mg base "_law_graph" 3 (spB K preNet postNet) := ⟨f14, PySem.W.mg_of X G a14, k14, fnr_of (ok_net F14 B Ttake Tof) b14⟩
  have Tnum : Def l.prog w K mg base "_law_numbers" 1 (spN K Rnumbers) := ⟨f15, PySem.W.mg_of X G a15, k15, fnr_of (ok_numbers F15 B) b15⟩
  have Tfill : Def l.prog w K mg base "_law_refill" 5 (spL K preFill postFill) := ⟨f16, PySem.W.mg_of X G a16, k16, fnr_of (ok_refill F16 Tlists) b16⟩
  have TT : TR l.prog w K mg base := ⟨B, Ttake, Tof, Tnet, Tfill, Tnum, Tsame, Tlists, Tl, Tm, Tra, Trb, TlK, TmK, TraK, TrbK⟩
  have Tright : Def l.prog w K mg base "_law_right" 7 (spB K preRight postRight) := ⟨f17, PySem.W.mg_of X G a17, k17, fnr_of (ok_right F17 TT) b17⟩
  exact ok_law F18 B Tcells Tbox Tright
theorem walk {l : PySem.W.OpenLaw} {q : Program} {loose : List Str} {XP : (Str → Option Value) → Heap → Prop} {YP : World → Heap → Prop} {d : DefRec} {K : Params → PySem.W.Frag} (hn : l.most = some 63) (hdf : d.params.defaults = [])
    (hY : ∀ (w : World) (h : Heap), YP w h → (K w.params).In h)
    (F : ∀ (w : World) (mg : Str → Option Value) (fa : Addr) (h : Heap), (K w.params).In h → h.Ns mainGlobals mg → mg d.name = some (.ref fa) →
      ∃ fd : FuncData, (∀ (s : Shared) (u : Value), BindsTo s fd ⟨[u], []⟩ [("_law_script", u)]) ∧ ∀ base : Heap, (K w.params).In base → base.Ns mainGlobals mg → FnOk l.prog w (K w.params) mg base CX0 8 fa fd ["_law_script"] (spV (K w.params) Rlaw)) :
    PySem.W.WalkO q loose XP YP l.row.toRowW d [] (fun f vs => PySem.call f vs) :=
  L2.walk_of (n := 63) (k := 8) (x := "_law_script") (CX := fun _ => CX0) (sp := fun w => spV (K w.params) Rlaw) hn (by decide) hdf ⟨rfl, by decide, by decide⟩ hY F (fun _ _ a ns hl _ hS => ⟨[.scr ns], .bl true, ⟨.ref a, [], rfl, ⟨a, rfl, hS⟩, rfl⟩, ⟨ns, rfl, rfl⟩, fun v H' _ h => h⟩) fun _ _ _ _ _ z => z
end Dl
open PySem PySem.W PyProof.Rows
set_option maxRecDepth 100000 in
set_option maxHeartbeats 0 in
theorem PySem.Challenge.cw_latedates_k17_levels_and_mended_dates_holds : PySem.Challenge.rw_latedates_k17_levels_and_mended_dates.Holds := by
  w_on; o_law; k_head; (case hw => w_witness2)
  k_fill
  refine Dl.walk (l := PySem.Challenge.rw_latedates_k17_levels_and_mended_dates) rfl rfl (fun w h Y => PySem.W.kIn_of Y) ?F
  case F =>
    intro w mg fa h KX G hmg
    refine' Dl.all_mk KX G hmg ?a1 ?l1 ?c1 ?k1 ?a2 ?l2 ?c2 ?k2 ?a3 ?l3 ?c3 ?k3 ?a4 ?l4 ?c4 ?k4 ?a5 ?l5 ?c5 ?k5 ?a6 ?l6 ?c6 ?k6 ?a7 ?l7 ?c7 ?k7 ?a8 ?l8 ?c8 ?k8 ?a9 ?l9 ?c9 ?k9 ?a10 ?l10 ?c10 ?k10 ?a11 ?l11 ?c11 ?k11 ?a12 ?l12 ?c12 ?k12 ?a13 ?l13 ?c13 ?k13 ?a14 ?l14 ?c14 ?k14 ?a15 ?l15 ?c15 ?k15 ?a16 ?l16 ?c16 ?k16 ?a17 ?l17 ?c17 ?k17 ?a18 ?l18 ?c18 ?k18 ?aC ?a19 ?i19 ?l19 ?c19 ?k19 ?a20 ?i20 ?l20 ?c20 ?k20 ?a21 ?i21 ?l21 ?c21 ?k21 ?a22 ?i22 ?l22 ?c22 ?k22 ?a23 ?i23 ?l23 ?c23 ?k23 ?a24 ?i24 ?l24 ?c24 ?k24 ?a25 ?i25 ?l25 ?c25 ?k25 ?pgC ?icC ?poC ?saC ?mkC ?kcC ?sxC0 ?sgC0 ?stC0 ?syC0 ?siC0 ?sxC1 ?sgC1 ?stC1 ?syC1 ?siC1 ?sxC2 ?sgC2 ?stC2 ?syC2 ?siC2 ?z_len ?z_int ?z_abs ?z_max ?z_sorted ?z_set ?z_tuple ?z_list ?z_range ?z_enumerate ?z_zip ?z_isinstance ?z_all ?z_dict ?z_bool ?z_str
    (case a1 => k_is); (case l1 => k_is); (case c1 => k_is); (case k1 => k_is); (case a2 => k_is); (case l2 => k_is); (case c2 => k_is); (case k2 => k_is); (case a3 => k_is)
    (case l3 => k_is); (case c3 => k_is); (case k3 => k_is); (case a4 => k_is); (case l4 => k_is); (case c4 => k_is); (case k4 => k_is); (case a5 => k_is); (case l5 => k_is)
    (case c5 => k_is); (case k5 => k_is); (case a6 => k_is); (case l6 => k_is); (case c6 => k_is); (case k6 => k_is); (case a7 => k_is); (case l7 => k_is); (case c7 => k_is)
    (case k7 => k_is); (case a8 => k_is); (case l8 => k_is); (case c8 => k_is); (case k8 => k_is); (case a9 => k_is); (case l9 => k_is); (case c9 => k_is); (case k9 => k_is)
    (case a10 => k_is); (case l10 => k_is); (case c10 => k_is); (case k10 => k_is); (case a11 => k_is); (case l11 => k_is); (case c11 => k_is); (case k11 => k_is)
    (case a12 => k_is); (case l12 => k_is); (case c12 => k_is); (case k12 => k_is); (case a13 => k_is); (case l13 => k_is); (case c13 => k_is); (case k13 => k_is)
    (case a14 => k_is); (case l14 => k_is); (case c14 => k_is); (case k14 => k_is); (case a15 => k_is); (case l15 => k_is); (case c15 => k_is); (case k15 => k_is)
    (case a16 => k_is); (case l16 => k_is); (case c16 => k_is); (case k16 => k_is); (case a17 => k_is); (case l17 => k_is); (case c17 => k_is); (case k17 => k_is)
    (case a18 => k_is); (case l18 => k_is); (case c18 => k_is); (case k18 => k_is); (case aC => k_is); (case a19 => k_is); (case i19 => k_is); (case l19 => k_is)
    (case c19 => k_is); (case k19 => k_is); (case a20 => k_is); (case i20 => k_is); (case l20 => k_is); (case c20 => k_is); (case k20 => k_is); (case a21 => k_is)
    (case i21 => k_is); (case l21 => k_is); (case c21 => k_is); (case k21 => k_is); (case a22 => k_is); (case i22 => k_is); (case l22 => k_is); (case c22 => k_is)
    (case k22 => k_is); (case a23 => k_is); (case i23 => k_is); (case l23 => k_is); (case c23 => k_is); (case k23 => k_is); (case a24 => k_is); (case i24 => k_is)
    (case l24 => k_is); (case c24 => k_is); (case k24 => k_is); (case a25 => k_is); (case i25 => k_is); (case l25 => k_is); (case c25 => k_is); (case k25 => k_is)
    (case pgC => k_is); (case icC => k_is); (case poC => k_is); (case saC => k_is); (case mkC => k_is); (case kcC => k_is); (case sxC0 => k_is); (case sgC0 => k_is)
    (case stC0 => k_is); (case syC0 => k_is); (case siC0 => k_is); (case sxC1 => k_is); (case sgC1 => k_is); (case stC1 => k_is); (case syC1 => k_is); (case siC1 => k_is)
    (case sxC2 => k_is); (case sgC2 => k_is); (case stC2 => k_is); (case syC2 => k_is); (case siC2 => k_is); (case z_len => k_is); (case z_int => k_is); (case z_abs => k_is)
    (case z_max => k_is); (case z_sorted => k_is); (case z_set => k_is); (case z_tuple => k_is); (case z_list => k_is); (case z_range => k_is); (case z_enumerate => k_is)
    (case z_zip => k_is); (case z_isinstance => k_is); (case z_all => k_is); (case z_dict => k_is); (case z_bool => k_is); (case z_str => k_is)

