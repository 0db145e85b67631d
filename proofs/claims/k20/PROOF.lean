import PyProof.Rows.All
import Wide.All
import OpenK.AllK
import Wide.FinOn
import HandS.ForMost
import HandS.SetFor
import HandS.Walk
import HandS.Slots
import HandS.IsInst
import HandS.Conv
import HandS.SortInts
import HandS.Flow
import HandS.Star
import HandS.Style
import HandS.TupAny
import HandS.TupLe
import HandS.Deep
import HandS.SlotsOwn
import HandS.Strs
import HandS.Zip
import HandS.DictComp
import PySem.Challenge.RW_latedates_k20_the_nearest_ones
set_option Elab.async false
set_option linter.all false
set_option maxRecDepth 100000
/-! XS: set(xs) of a list of ints, sorted(set(xs)) -/
namespace Dl
open PySem L2 PySem.Spec PyProof.Rows
section
variable {P : Program} {w : World} {A : Around} {E : Value → Shared → Prop} {s : Shared}
/-- the empty set as it is made -/
abbrev emptySetO (w : World) : Obj := { cls := .type "set", dict := none, data := .set #[] 0 (.fresh 0 0 (!w.params.followText "set-order")) }
set_option maxHeartbeats 3200000 in
theorem call_set_lstI {l : Addr} {its : Array Value} (ns : List Int) {Q : Value → Shared → Prop}
    (hh : A.handled = none) (gl : s.heap.IsList l its) (gi : IntsAre its.toList ns) (gb : ns.length + 1 < scanBound)
    (fin : ∀ (hp : Heap) (tk c : Nat), SetR w hp s.heap.objs.size (fun j => decide (j ∈ ns)) c → c ≤ ns.length →
      (∀ b o, s.heap.get? b = some o → hp.get? b = some o) → Q (.ref s.heap.objs.size) { s with heap := hp, toks := tk }) :
    wpAny (model P w) A (call (.type "set") [.ref l]) Q E s := by
  have gz : its.size = ns.length := by
    have q := IntsAre.length gi
    rw [Array.length_toList] at q
    exact q
  obtain ⟨cq, tq, gmro⟩ := F.called_set.mro
  have gmade := F.called_set.made
  have gsub := F.called_set.sub
  refine wpAny_call (codeAny_of_tree ?_)
  show wpAny _ _ (callAny (.type "set") _) _ _ _
  refine wpAny_pure ⟨Code.quiet_builtin _ (by decide +kernel), codeAny_builtin (id F.entry_type_call) ?_⟩
  rw [Around.under_plain (weight_type_call_type "set" [Value.ref l] []) rfl]
  have g1 := F.called_set.notType
  have g2 := F.called_set.canCreate
  have gct := F.typeCall_set_1 (.ref l)
  repeat (any_goals (first | assumption | wp_step))
  let hp1 : Heap := s.heap.push (emptySetO w)
  refine codeAny_mono (code_set_led1 (.ref l) (E := E) (Q₁ := fun ob s₁ => ob = .ref s.heap.objs.size ∧ s₁ = { s with heap := s.heap.push (emptySetO w) }) ⟨rfl, rfl⟩) fun r s₁ hr => ?_
  cases r with
  | error e => exact hr
  | ok fl =>
    cases fl with
    | ret ob =>
      obtain ⟨rfl, rfl⟩ := hr
      have gS : (s.heap.push (emptySetO w)).get? s.heap.objs.size = some (emptySetO w) := Heap.get?_push_size _ rfl
      have gT : Shared.TypeIs { s with heap := s.heap.push (emptySetO w) } (.ref s.heap.objs.size) "set" := ⟨_, gS, rfl⟩
      have gli := F.called_set.init.lookup
      have gbi := F.called_set.init.bind (.ref s.heap.objs.size)
      repeat (any_goals (first | assumption | wp_step))
      refine codeAny_mono (codeAny_call_builtin (R := wants (fun r s₂ => r = .none ∧ ∃ hp tk c, s₂ = { s with heap := hp, toks := tk } ∧ SetR w hp s.heap.objs.size (fun j => decide (j ∈ ns)) c ∧ c ≤ ns.length ∧
        (∀ b o, s.heap.get? b = some o → hp.get? b = some o)) E) F.called_set.init.plain F.entry_set_init (check_set_init_1 gT ?_)) fun r₂ s₂ hr₂ => ?_
      · obtain ⟨ol, gol, gcl, nl, gdl⟩ := gl
        obtain ⟨ocls, odict, odata, oslots⟩ := ol
        simp only at gcl gdl
        subst gcl; subst gdl
        have gol' : (s.heap.push (emptySetO w)).get? l = some { cls := .type "list", dict := odict, data := .seq its nl, slots := oslots } := Heap.get?_push_of_some _ gol
        have gsls := F.sub_list_set
        have gslf := F.sub_list_frozenset
        have gne : (Value.type "list" == Value.type "dict") = false := by decide
        have gl1 : (s.heap.push (emptySetO w)).IsList l its := ⟨_, gol', rfl, nl, rfl⟩
        unfold Builtin.«set.__init__» noKeywords Builtin.Frozenset.updateFrom
        generalize gPI : pyIter = PI
        wp_walk
        subst gPI
        refine wpAny_pyIter_list gl1 ?_
        refine wpAny_bind (wpAny_runValue ?_)
        have lS : l < s.heap.objs.size := Heap.lt_size gol
        have hh3 : A.in1.in1.in1.handled = none := by simp [hh]
        have zz : (s.heap.push (emptySetO w)).objs.size = s.heap.objs.size + 1 := Heap.size_push ..
        have neI : l ≠ (s.heap.push (emptySetO w)).objs.size := by
          rw [zz]; exact Nat.ne_of_lt (Nat.lt_succ_of_lt lS)
        have Sf : s.heap.objs.size ∉ [(s.heap.push (emptySetO w)).objs.size, l] := by
          rw [zz]; simp only [List.mem_cons, List.mem_singleton, List.not_mem_nil, or_false, not_or]
          exact ⟨Nat.ne_of_lt (Nat.lt_succ_self _), Nat.ne_of_gt lS⟩
        have val : ∀ (i : Nat) (v : Value), its[i]? = some v → ∃ k t, ns[i]? = some k ∧ v = .int k t := fun i v hv => by
          have hi : i < ns.length := by rw [← gz]; exact (Array.getElem?_eq_some_iff.mp hv).1
          obtain ⟨t, e⟩ := PyProof.Rows.IntsAre.int_at gi i v (by rw [Array.getElem?_toList]; exact hv)
          refine ⟨ns[i], t, List.getElem?_eq_getElem hi, ?_⟩
          rw [e, List.getD_eq_getElem?_getD, List.getElem?_eq_getElem hi]
          all_goals rfl
        refine set_update_ints ((Walks.list hh3 _ l neI its).toS) s.heap.objs.size
          Sf ns gz gb val (its.size - 0) 0 _ (by omega) (Nat.zero_le _)
          ⟨⟨_, Heap.get?_push_size _ rfl, rfl, rfl⟩, (gl1.push _)⟩ ?S0 ?R0
        case S0 => exact ⟨0, Nat.le_refl 0, setR_new_at (Heap.get?_push_of_some _ gS)⟩
        case R0 =>
          intro s' c' hm hc' hS'
          obtain ⟨hp, g3, d3, tk3, os3⟩ := s'
          have eg : g3 = s.gens := hm.gens
          have ed : d3 = s.drawn := hm.drawn
          have eo : os3 = s.os := hm.os
          subst eg; subst ed; subst eo
          show wpAny _ _ _ _ _ _
          refine wpAny_pure ?_
          show wpAny _ _ (ret Value.none) _ _ _
          rw [gz] at hc'
          refine wpAny_pure ⟨rfl, hp, tk3, c', rfl, hS', hc', fun b o e => ?_⟩
          have b0 : b < s.heap.objs.size := Heap.lt_size e
          have b1 : b ≠ s.heap.objs.size := Nat.ne_of_lt b0
          have b2 : b ≠ (s.heap.push (emptySetO w)).objs.size := by
            rw [zz]; exact Nat.ne_of_lt (Nat.lt_succ_of_lt b0)
          exact hm.heap b o (by simp only [List.mem_cons, List.mem_singleton, List.not_mem_nil, or_false, not_or]; exact ⟨b1, b2⟩)
            (Heap.get?_push_of_some _ (Heap.get?_push_of_some _ e))
      · cases r₂ with
        | error e => exact hr₂
        | ok fl₂ =>
          cases fl₂ with
          | ret r =>
            obtain ⟨rfl, hp, tk, c', rfl, hS', hc', hk'⟩ := hr₂
            repeat (any_goals (first | assumption | wp_step))
            exact fin _ _ _ hS' hc' hk'
          | _ => exact hr₂.elim
    | _ => exact hr.elim
end
end Dl

/-! X0: data D, frozen heap F, owned cells by index; the frame rule -/
namespace Dl
open PySem L2

inductive D where
  | non | bl (b : Bool) | int (i : Int) | str (x : Str)
  | lst (xs : List D) | tup (xs : List D)
  | dic (ks : List Key) (vs : List D)
  | slo (C : Addr) (vs : List D)
  | obj (C : Addr) (fs : List Str) (vs : List D)
  | scr (ns : List Int)
  deriving Inhabited

/-! ### data in a heap -/
mutual
def DV (K : PySem.W.Frag) (H : Hp) : D → V → Prop
  | .non, v => v = .non
  | .bl b, v => v = .bl b
  | .int i, v => v = .int i
  | .str x, v => v = .str x
  | .lst ds, v => ∃ a vs, v = .ref a ∧ H a = some (.lst vs) ∧ DVs K H ds vs
  | .tup ds, v => ∃ a vs, v = .ref a ∧ SqT K H a vs ∧ DVs K H ds vs
  | .dic ks ds, v => ∃ a kvs, v = .ref a ∧ H a = some (.dK kvs) ∧ kvs.map (·.1) = ks ∧ DVs K H ds (kvs.map (·.2))
  | .slo C ds, v => ∃ a dx vs, v = .ref a ∧ SlX.Slt H a C dx (vs.map some) ∧ DVs K H ds vs
  | .obj C fs ds, v => ∃ a dx kvs, v = .ref a ∧ H a = some (.ins C dx kvs) ∧ kvs.map (·.1) = fs ∧ DVs K H ds (kvs.map (·.2))
  | .scr ns, v => ∃ a, v = .ref a ∧ SqL K H a (ns.map V.int)
def DVs (K : PySem.W.Frag) (H : Hp) : List D → List V → Prop
  | [], vs => vs = []
  | d :: ds, vs => ∃ v r, vs = v :: r ∧ DV K H d v ∧ DVs K H ds r
end
theorem same_rd {H H' : Hp} {a : Addr} {u : HO} (e : Same H H') (h : Rd H a u) : Rd H' a u := by
  rcases h with h | ⟨o, h⟩
  · exact .inl (e _ _ h)
  · exact .inr ⟨o, e _ _ h⟩
theorem same_t {K : PySem.W.Frag} {H H' : Hp} {a : Addr} {xs : List V} (e : Same H H') (h : SqT K H a xs) : SqT K H' a xs := by
  rcases h with h | h
  · exact .inl (same_rd e h)
  · exact .inr h
theorem same_slt {H H' : Hp} {a C dx : Addr} {vs : List (Option V)} (e : Same H H') (h : SlX.Slt H a C dx vs) : SlX.Slt H' a C dx vs := by
  rcases h with ⟨h, z⟩ | ⟨h, z⟩
  · exact .inl ⟨e _ _ h, z⟩
  · exact .inr ⟨e _ _ h, e _ _ z⟩
mutual
theorem DV.mono {K : PySem.W.Frag} {H H' : Hp} (e : Same H H') : ∀ {d : D} {v : V}, DV K H d v → DV K H' d v
  | .non, _, h => h
  | .bl _, _, h => h
  | .int _, _, h => h
  | .str _, _, h => h
  | .lst _, _, ⟨a, vs, h1, h2, h3⟩ => ⟨a, vs, h1, e _ _ h2, DVs.mono e h3⟩
  | .tup _, _, ⟨a, vs, h1, h2, h3⟩ => ⟨a, vs, h1, same_t e h2, DVs.mono e h3⟩
  | .dic _ _, _, ⟨a, kvs, h1, h2, h3, h4⟩ => ⟨a, kvs, h1, e _ _ h2, h3, DVs.mono e h4⟩
  | .slo _ _, _, ⟨a, dx, vs, h1, h2, h3⟩ => ⟨a, dx, vs, h1, same_slt e h2, DVs.mono e h3⟩
  | .obj _ _ _, _, ⟨a, dx, kvs, h1, h2, h3, h4⟩ => ⟨a, dx, kvs, h1, e _ _ h2, h3, DVs.mono e h4⟩
  | .scr _, _, ⟨a, h1, h2⟩ => ⟨a, h1, e.seq h2⟩
theorem DVs.mono {K : PySem.W.Frag} {H H' : Hp} (e : Same H H') : ∀ {ds : List D} {vs : List V}, DVs K H ds vs → DVs K H' ds vs
  | [], _, h => h
  | _ :: _, _, ⟨v, r, h1, h2, h3⟩ => ⟨v, r, h1, DV.mono e h2, DVs.mono e h3⟩
end
section
variable {K : PySem.W.Frag} {H : Hp}
theorem dvs_paired : ∀ {ds : List D} {vs : List V}, DVs K H ds vs ↔ Paired (fun d v => DV K H d v) ds vs
  | [], vs => ⟨fun h => by have h : vs = [] := h; subst h; exact .nil, fun h => by cases h; exact (rfl : ([] : List V) = [])⟩
  | d :: ds, vs => ⟨fun ⟨v, r, h1, h2, h3⟩ => by subst h1; exact .cons h2 (dvs_paired.mp h3), fun h => by
      cases h with
      | cons h2 h3 => exact ⟨_, _, rfl, h2, dvs_paired.mpr h3⟩⟩
theorem DVs.length {ds : List D} {vs : List V} (h : DVs K H ds vs) : ds.length = vs.length := Paired.length (dvs_paired.mp h)
theorem paired_get {α β : Type} {R : α → β → Prop} : ∀ {l₁ : List α} {l₂ : List β} {i : Nat} {x : α}, Paired R l₁ l₂ → l₁[i]? = some x → ∃ y, l₂[i]? = some y ∧ R x y
  | _, _, _, _, .nil, e => by simp at e
  | _, _, 0, _, .cons r _, e => by simp at e; subst e; exact ⟨_, rfl, r⟩
  | _, _, i + 1, x, .cons _ t, e => by
    obtain ⟨u, h1, h2⟩ := paired_get (i := i) (x := x) t (by simpa using e)
    exact ⟨u, by simpa using h1, h2⟩
theorem paired_get' {α β : Type} {R : α → β → Prop} : ∀ {l₁ : List α} {l₂ : List β} {i : Nat} {y : β}, Paired R l₁ l₂ → l₂[i]? = some y → ∃ x, l₁[i]? = some x ∧ R x y
  | _, _, _, _, .nil, e => by simp at e
  | _, _, 0, _, .cons r _, e => by simp at e; subst e; exact ⟨_, rfl, r⟩
  | _, _, i + 1, x, .cons _ t, e => by
    obtain ⟨u, h1, h2⟩ := paired_get' (i := i) (y := x) t (by simpa using e)
    exact ⟨u, by simpa using h1, h2⟩
theorem paired_append {α β : Type} {R : α → β → Prop} : ∀ {l₁ r₁ : List α} {l₂ r₂ : List β}, Paired R l₁ l₂ → Paired R r₁ r₂ → Paired R (l₁ ++ r₁) (l₂ ++ r₂)
  | _, _, _, _, .nil, s => s
  | _, _, _, _, .cons r t, s => .cons r (paired_append t s)
theorem paired_set {α β : Type} {R : α → β → Prop} {x : α} {y : β} (r : R x y) : ∀ {l₁ : List α} {l₂ : List β} (i : Nat), Paired R l₁ l₂ → Paired R (l₁.set i x) (l₂.set i y)
  | _, _, _, .nil => .nil
  | _, _, 0, .cons _ t => .cons r t
  | _, _, i + 1, .cons q t => .cons q (paired_set r i t)
theorem DVs.get {ds : List D} {vs : List V} {i : Nat} {d : D} (h : DVs K H ds vs) (e : ds[i]? = some d) : ∃ v, vs[i]? = some v ∧ DV K H d v := paired_get (dvs_paired.mp h) e
theorem dvs_ints : ∀ {ns : List Int} {vs : List V}, DVs K H (ns.map D.int) vs ↔ vs = ns.map V.int
  | [], vs => ⟨fun h => h, fun h => h⟩
  | n :: ns, vs => ⟨fun ⟨v, r, h1, h2, h3⟩ => by have h2 : v = .int n := h2; rw [h1, h2, dvs_ints.mp h3]; rfl, fun h => ⟨.int n, ns.map V.int, h, rfl, dvs_ints.mpr rfl⟩⟩
theorem dvs_bls : ∀ {ns : List Bool} {vs : List V}, DVs K H (ns.map D.bl) vs ↔ vs = ns.map V.bl
  | [], vs => ⟨fun h => h, fun h => h⟩
  | n :: ns, vs => ⟨fun ⟨v, r, h1, h2, h3⟩ => by have h2 : v = .bl n := h2; rw [h1, h2, dvs_bls.mp h3]; rfl, fun h => ⟨.bl n, ns.map V.bl, h, rfl, dvs_bls.mpr rfl⟩⟩
end

/-! ### slots, cells -/
/-- a slot: unknown; a value in the frozen heap; the k-th owned cell -/
inductive Sl where
  | un | val (d : D) | own (k : Nat)
  deriving Inhabited
/-- an owned object: a list, a dict of values; a list, a dict with owned things in it; an instance, whose own dict is the cell j; such a dict -/
inductive C where
  | lst (xs : List D)
  | dic (kvs : List (Key × D))
  | mls (xs : List Sl)
  | mdc (kvs : List (Key × Sl))
  | ins (Cl : Addr) (j : Nat) (fs : List (Str × Sl))
  | dxo (k : Nat)
  | sob0 (Cl : Addr) (j : Nat)
  | sob (Cl : Addr) (j : Nat) (vs : List Sl)
  | dxx
  deriving Inhabited

section
variable (K : PySem.W.Frag) (F : Hp) (As : List Addr)
def SlR : Sl → V → Prop
  | .un, _ => True
  | .val d, v => DV K F d v
  | .own k, v => ∃ a, As[k]? = some a ∧ v = .ref a
abbrev SlRs : List Sl → List V → Prop := Paired (SlR K F As)
abbrev KSl {α : Type} : List (α × Sl) → List (α × V) → Prop := Paired fun (p : α × Sl) (q : α × V) => p.1 = q.1 ∧ SlR K F As p.2 q.2
/-- the frame's slots -/
structure SR (ρ : List Sl) (σ : L2.St) : Prop where
  len : ρ.length = σ.length
  get : ∀ (i : Nat) (s : Sl), ρ[i]? = some s → s ≠ .un → ∃ v, σ[i]? = some (some v) ∧ SlR K F As s v
def CR (ad : Addr) : C → HO → Prop
  | .lst xs, o => ∃ vs, o = .lst vs ∧ DVs K F xs vs
  | .dic xs, o => ∃ kvs, o = .dK kvs ∧ Paired (fun (p : Key × D) (q : Key × V) => p.1 = q.1 ∧ DV K F p.2 q.2) xs kvs
  | .mls xs, o => ∃ vs, o = .lst vs ∧ SlRs K F As xs vs
  | .mdc xs, o => ∃ kvs, o = .dK kvs ∧ KSl K F As xs kvs
  | .ins Cl j fs, o => ∃ dx kvs, As[j]? = some dx ∧ o = .ins Cl dx kvs ∧ KSl K F As fs kvs
  | .dxo k, o => ∃ a, As[k]? = some a ∧ o = .own a
  | .sob0 Cl j, o => ∃ dx, As[j]? = some dx ∧ o = .ins Cl dx []
  | .sob Cl j vs, o => ∃ dx us, As[j]? = some dx ∧ o = SlX.SlO ad Cl dx us ∧ SR K F As vs us
  | .dxx, o => o = .xd []
/-- the heap H is the frozen heap F and the cells M, which stand at the addresses As -/
structure HM (M : List C) (H : Hp) : Prop where
  nd : As.Nodup
  len : As.length = M.length
  cell : ∀ (i : Nat) (a : Addr) (c : C), As[i]? = some a → M[i]? = some c → ∃ o, H a = some o ∧ CR K F As a c o
  off : ∀ a, a ∈ As → F a = none
  out : ∀ a, a ∉ As → H a = F a
end
theorem pfx_get {As Bs : List Addr} (h : As <+: Bs) {k : Nat} {a : Addr} (e : As[k]? = some a) : Bs[k]? = some a := by
  obtain ⟨t, rfl⟩ := h
  rw [List.getElem?_append_left (List.getElem?_eq_some_iff.mp e).1]
  exact e
section
variable {K : PySem.W.Frag} {F F' : Hp} {As Bs : List Addr} {M : List C} {H : Hp} {ρ : List Sl} {σ : L2.St}
theorem SR.val (h : SR K F As ρ σ) (i : Nat) (d : D) (q : ρ[i]? = some (.val d)) : ∃ v, σ[i]? = some (some v) ∧ DV K F d v := h.get i _ q (fun z => by cases z)
theorem SR.own (h : SR K F As ρ σ) (i : Nat) (k : Nat) (q : ρ[i]? = some (.own k)) : ∃ a, As[k]? = some a ∧ σ[i]? = some (some (.ref a)) := by
  obtain ⟨v, h1, a, h2, rfl⟩ := h.get i _ q (fun z => by cases z)
  exact ⟨a, h2, h1⟩
theorem SlR.mono (e : Same F F') (p : As <+: Bs) : ∀ {s : Sl} {v : V}, SlR K F As s v → SlR K F' Bs s v
  | .un, _, _ => trivial
  | .val _, _, h => DV.mono e h
  | .own _, _, ⟨a, h1, h2⟩ => ⟨a, pfx_get p h1, h2⟩
theorem SlRs.mono (e : Same F F') (p : As <+: Bs) {s : List Sl} {v : List V} (h : SlRs K F As s v) : SlRs K F' Bs s v := Paired.mapP h fun _ _ z => z.mono e p
theorem SR.mono (e : Same F F') (p : As <+: Bs) (h : SR K F As ρ σ) : SR K F' Bs ρ σ :=
  ⟨h.len, fun i s q z => let ⟨v, h1, h2⟩ := h.get i s q z; ⟨v, h1, h2.mono e p⟩⟩
theorem CR.mono {ad : Addr} (e : Same F F') (p : As <+: Bs) : ∀ {c : C} {o : HO}, CR K F As ad c o → CR K F' Bs ad c o
  | .lst _, _, ⟨vs, h1, h2⟩ => ⟨vs, h1, h2.mono e⟩
  | .dic _, _, ⟨kvs, h1, h2⟩ => ⟨kvs, h1, Paired.mapP h2 fun _ _ z => ⟨z.1, z.2.mono e⟩⟩
  | .mls _, _, ⟨vs, h1, h2⟩ => ⟨vs, h1, h2.mono e p⟩
  | .mdc _, _, ⟨kvs, h1, h2⟩ => ⟨kvs, h1, Paired.mapP h2 fun _ _ z => ⟨z.1, z.2.mono e p⟩⟩
  | .ins _ _ _, _, ⟨dx, kvs, h1, h2, h3⟩ => ⟨dx, kvs, pfx_get p h1, h2, Paired.mapP h3 fun _ _ z => ⟨z.1, z.2.mono e p⟩⟩
  | .dxo _, _, ⟨a, h1, h2⟩ => ⟨a, pfx_get p h1, h2⟩
  | .sob0 _ _, _, ⟨dx, h1, h2⟩ => ⟨dx, pfx_get p h1, h2⟩
  | .sob _ _ _, _, ⟨dx, us, h1, h2, h3⟩ => ⟨dx, us, pfx_get p h1, h2, h3.mono e p⟩
  | .dxx, _, h => h
theorem SR.set {s : Sl} {v : V} {i : Nat} (h : SR K F As ρ σ) (r : SlR K F As s v) : SR K F As (ρ.set i s) (σ.set i (some v)) := by
  refine ⟨by simp [h.len], fun j d q z => ?_⟩
  by_cases e : i = j
  · subst e
    have hi : i < ρ.length := by
      have := (List.getElem?_eq_some_iff.mp q).1
      simpa using this
    rw [List.getElem?_set_self hi] at q
    cases q
    exact ⟨v, List.getElem?_set_self (by rw [← h.len]; exact hi), r⟩
  · rw [List.getElem?_set_ne e] at q ⊢
    exact h.get j d q z
/-- slots may be forgotten -/
def Weak (ρ ρ' : List Sl) : Prop := ρ'.length = ρ.length ∧ ∀ i : Nat, ρ'[i]? = ρ[i]? ∨ ρ'[i]? = some .un
theorem SR.weak {ρ' : List Sl} (h : SR K F As ρ σ) (w : Weak ρ ρ') : SR K F As ρ' σ := by
  refine ⟨w.1.trans h.len, fun i d q z => ?_⟩
  rcases w.2 i with e | e
  · exact h.get i d (e.symm.trans q) z
  · rw [e] at q; cases q; exact absurd rfl z
theorem HM.same (h : HM K F As M H) : Same F H := fun a o e => by
  have : a ∉ As := fun z => by rw [h.off a z] at e; cases e
  rw [h.out a this]; exact e
theorem HM.fresh (h : HM K F As M H) {p : Addr} (e : H p = none) : p ∉ As ∧ F p = none := by
  have h1 : p ∉ As := fun z => by
    obtain ⟨i, hi, q⟩ := List.mem_iff_getElem.mp z
    have q' : As[i]? = some p := by rw [List.getElem?_eq_getElem hi, q]
    have hm : i < M.length := by rw [← h.len]; exact hi
    obtain ⟨o, h2, _⟩ := h.cell i p M[i] q' (List.getElem?_eq_getElem hm)
    rw [e] at h2; cases h2
  exact ⟨h1, by rw [← h.out p h1]; exact e⟩
theorem same_new {F : Hp} {p : Addr} {o : HO} (h : F p = none) : Same F (upd F p o) := fun b u e => by
  rw [upd_ne (ne_of_none e h)]; exact e
/-- a new frozen object -/
theorem HM.laid (h : HM K F As M H) {p : Addr} {o : HO} (e : H p = none) : HM K (upd F p o) As M (upd H p o) := by
  obtain ⟨h1, h2⟩ := h.fresh e
  have s := same_new (o := o) h2
  refine ⟨h.nd, h.len, fun i a c ea ec => ?_, fun a ha => ?_, fun a ha => ?_⟩
  · obtain ⟨u, q1, q2⟩ := h.cell i a c ea ec
    exact ⟨u, by rw [upd_ne (ne_of_none q1 e)]; exact q1, q2.mono s (List.prefix_refl _)⟩
  · rw [upd_ne (fun z => by subst z; exact h1 ha)]; exact h.off a ha
  · unfold upd
    split
    · rfl
    · exact h.out a ha
/-- a new cell -/
theorem HM.made (h : HM K F As M H) {p : Addr} {o : HO} {c : C} (e : H p = none) (r : CR K F (As ++ [p]) p c o) : HM K F (As ++ [p]) (M ++ [c]) (upd H p o) := by
  obtain ⟨h1, h2⟩ := h.fresh e
  refine ⟨?_, by simp [h.len], fun i a c' ea ec => ?_, fun a ha => ?_, fun a ha => ?_⟩
  · rw [List.nodup_append]
    exact ⟨h.nd, by simp, fun a ha b hb z => by
      have : b = p := by simpa using hb
      subst this; subst z; exact h1 ha⟩
  · by_cases hi : i < As.length
    · rw [List.getElem?_append_left hi] at ea
      rw [List.getElem?_append_left (by rw [← h.len]; exact hi)] at ec
      obtain ⟨u, q1, q2⟩ := h.cell i a c' ea ec
      exact ⟨u, by rw [upd_ne (ne_of_none q1 e)]; exact q1, q2.mono (Same.refl _) (List.prefix_append _ _)⟩
    · have hi2 : i = As.length := by
        have := (List.getElem?_eq_some_iff.mp ea).1
        simp at this; omega
      subst hi2
      rw [List.getElem?_append_right (Nat.le_refl _)] at ea
      rw [h.len, List.getElem?_append_right (Nat.le_refl _)] at ec
      simp at ea ec
      subst ea; subst ec
      exact ⟨o, upd_same, r⟩
  · rcases List.mem_append.mp ha with ha | ha
    · exact h.off a ha
    · have : a = p := by simpa using ha
      subst this; exact h2
  · have a1 : a ∉ As := fun z => ha (List.mem_append_left _ z)
    have a2 : a ≠ p := fun z => ha (by simp [z])
    rw [upd_ne a2]; exact h.out a a1
/-- a cell changes -/
theorem HM.set (h : HM K F As M H) {k : Nat} {a : Addr} {o : HO} {c : C} (ea : As[k]? = some a) (r : CR K F As a c o) : HM K F As (M.set k c) (upd H a o) := by
  refine ⟨h.nd, by simp [h.len], fun i b c' eb ec => ?_, h.off, fun b hb => ?_⟩
  · by_cases e : k = i
    · subst e
      rw [ea] at eb; cases eb
      have hk : k < M.length := by rw [← h.len]; exact (List.getElem?_eq_some_iff.mp ea).1
      rw [List.getElem?_set_self hk] at ec; cases ec
      exact ⟨o, upd_same, r⟩
    · rw [List.getElem?_set_ne e] at ec
      obtain ⟨u, q1, q2⟩ := h.cell i b c' eb ec
      have : b ≠ a := fun z => by
        subst z
        obtain ⟨h1, e1⟩ := List.getElem?_eq_some_iff.mp ea
        obtain ⟨h2, e2⟩ := List.getElem?_eq_some_iff.mp eb
        exact e ((List.getElem_inj h.nd).mp (e1.trans e2.symm))
      exact ⟨u, by rw [upd_ne this]; exact q1, q2⟩
  · have : b ≠ a := fun z => by
      subst z
      exact hb (List.mem_iff_getElem?.mpr ⟨k, ea⟩)
    rw [upd_ne this]; exact h.out b hb
/-- F grows, the cells and H as they were behind the growth -/
theorem HM.cellAt (h : HM K F As M H) {k : Nat} {a : Addr} {c : C} (ea : As[k]? = some a) (ec : M[k]? = some c) : ∃ o, H a = some o ∧ CR K F As a c o := h.cell k a c ea ec
theorem HM.addr (h : HM K F As M H) {k : Nat} {c : C} (ec : M[k]? = some c) : ∃ a, As[k]? = some a := by
  have hk : k < As.length := by rw [h.len]; exact (List.getElem?_eq_some_iff.mp ec).1
  exact ⟨As[k], List.getElem?_eq_getElem hk⟩
end

/-- what a cell refers to -/
def Sl.refs : Sl → List Nat
  | .own k => [k]
  | _ => []
def C.refs : C → List Nat
  | .lst _ => []
  | .dic _ => []
  | .mls xs => xs.flatMap Sl.refs
  | .mdc kvs => kvs.flatMap fun p => p.2.refs
  | .ins _ j fs => j :: fs.flatMap fun p => p.2.refs
  | .dxo k => [k]
  | .sob0 _ j => [j]
  | .sob _ j vs => j :: vs.flatMap Sl.refs
  | .dxx => []
section
variable {K : PySem.W.Frag} {F F' : Hp} {As Bs : List Addr} {M : List C} {H : Hp}
theorem SlR.move {s : Sl} {v : V} (h : ∀ k a, k ∈ s.refs → As[k]? = some a → Bs[k]? = some a) (r : SlR K F As s v) : SlR K F Bs s v := by
  cases s with
  | un => trivial
  | val d => exact r
  | own k => obtain ⟨a, h1, h2⟩ := r; exact ⟨a, h k a (by simp [Sl.refs]) h1, h2⟩
theorem paired_mem {α β : Type} {R R' : α → β → Prop} : ∀ {l : List α} {r : List β}, Paired R l r → (∀ x ∈ l, ∀ y, R x y → R' x y) → Paired R' l r
  | _, _, .nil, _ => .nil
  | _, _, .cons h t, f => .cons (f _ List.mem_cons_self _ h) (paired_mem t fun x hx => f x (List.mem_cons_of_mem _ hx))
theorem CR.move {ad : Addr} {c : C} {o : HO} (h : ∀ k a, k ∈ c.refs → As[k]? = some a → Bs[k]? = some a) (r : CR K F As ad c o) : CR K F Bs ad c o := by
  cases c with
  | lst _ => exact r
  | dic _ => exact r
  | mls xs =>
    obtain ⟨vs, h1, h2⟩ := r
    exact ⟨vs, h1, paired_mem h2 fun x hx y z => z.move fun k a hk => h k a (List.mem_flatMap.mpr ⟨x, hx, hk⟩)⟩
  | mdc xs =>
    obtain ⟨vs, h1, h2⟩ := r
    exact ⟨vs, h1, paired_mem h2 fun x hx y z => ⟨z.1, z.2.move fun k a hk => h k a (List.mem_flatMap.mpr ⟨x, hx, hk⟩)⟩⟩
  | ins Cl j fs =>
    obtain ⟨dx, vs, h0, h1, h2⟩ := r
    exact ⟨dx, vs, h _ _ List.mem_cons_self h0, h1, paired_mem h2 fun x hx y z => ⟨z.1, z.2.move fun k a hk => h k a (List.mem_cons_of_mem _ (List.mem_flatMap.mpr ⟨x, hx, hk⟩))⟩⟩
  | dxo k =>
    obtain ⟨a, h0, h1⟩ := r
    exact ⟨a, h _ _ (by simp [C.refs]) h0, h1⟩
  | sob0 Cl j =>
    obtain ⟨a, h0, h1⟩ := r
    exact ⟨a, h _ _ (by simp [C.refs]) h0, h1⟩
  | sob Cl j vs =>
    obtain ⟨dx, us, h0, h1, h2⟩ := r
    exact ⟨dx, us, h _ _ List.mem_cons_self h0, h1, h2.len, fun i s e z => by
      obtain ⟨v, g1, g2⟩ := h2.get i s e z
      exact ⟨v, g1, g2.move fun k a hk => h k a (List.mem_cons_of_mem _ (List.mem_flatMap.mpr ⟨s, List.mem_of_getElem? e, hk⟩))⟩⟩
  | dxx => exact r
theorem CR.cut {ad : Addr} {c : C} {o : HO} (h : ∀ k ∈ c.refs, k < As.length) (r : CR K F (As ++ Bs) ad c o) : CR K F As ad c o := r.move fun k a hk e => by
  rw [List.getElem?_append_left (h k hk)] at e; exact e
theorem SlR.cut {s : Sl} {v : V} (h : ∀ k ∈ s.refs, k < As.length) (r : SlR K F (As ++ Bs) s v) : SlR K F As s v := r.move fun k a hk e => by
  rw [List.getElem?_append_left (h k hk)] at e; exact e
theorem SlR.ref_lt {s : Sl} {v : V} (r : SlR K F As s v) : ∀ k ∈ s.refs, k < As.length := by
  cases s with
  | un => intro k hk; cases hk
  | val d => intro k hk; cases hk
  | own j =>
    obtain ⟨a, h1, h2⟩ := r
    intro k hk
    have : k = j := by simpa [Sl.refs] using hk
    subst this
    exact (List.getElem?_eq_some_iff.mp h1).1
end

/-! ### the frame rule: objects set aside -/
def dels (H : Hp) (bs : List Addr) : Hp := fun a => if a ∈ bs then none else H a
def puts (H' H : Hp) (bs : List Addr) : Hp := fun a => if a ∈ bs then H a else H' a
theorem dels_some {H : Hp} {bs : List Addr} {b : Addr} {o : HO} (h : dels H bs b = some o) : b ∉ bs ∧ H b = some o := by
  unfold dels at h
  split at h
  · cases h
  · rename_i n; exact ⟨n, h⟩
theorem dels_ne {H : Hp} {bs : List Addr} {b : Addr} (h : b ∉ bs) : dels H bs b = H b := by unfold dels; rw [if_neg h]
theorem dels_in {H : Hp} {bs : List Addr} {b : Addr} (h : b ∈ bs) : dels H bs b = none := by unfold dels; rw [if_pos h]
theorem dels_none {H : Hp} {bs : List Addr} {b : Addr} (h : H b = none) : dels H bs b = none := by unfold dels; split <;> first | rfl | exact h
theorem puts_in {H' H : Hp} {bs : List Addr} {b : Addr} (h : b ∈ bs) : puts H' H bs b = H b := by unfold puts; rw [if_pos h]
theorem puts_ne {H' H : Hp} {bs : List Addr} {b : Addr} (h : b ∉ bs) : puts H' H bs b = H' b := by unfold puts; rw [if_neg h]
def del (H : Hp) (a : Addr) : Hp := fun b => if b = a then none else H b
theorem del_same {H : Hp} {a : Addr} : del H a a = none := by unfold del; rw [if_pos rfl]
theorem del_ne {H : Hp} {a b : Addr} (h : b ≠ a) : del H a b = H b := by unfold del; rw [if_neg h]
theorem del_some {H : Hp} {a b : Addr} {o : HO} (h : del H a b = some o) : b ≠ a ∧ H b = some o := by
  unfold del at h
  split at h
  · cases h
  · rename_i n; exact ⟨n, h⟩
inductive FrL : HO → Prop
  | lst (xs : List V) : FrL (.lst xs)
  | dK (kvs : List (Key × V)) : FrL (.dK kvs)
theorem FrL.obj {P : Program} {w : World} {H H' : Hp} {h h' : Heap} {a : Addr} {o : HO} (f : FrL o) (x : ObjOk P w H h a o) (k : ∀ u, h.get? a = some u → h'.get? a = some u) : ObjOk P w H' h' a o := by
  cases f with
  | lst xs => obtain ⟨z, its, n, r, e⟩ := x; exact ⟨z, its, n, r, k _ e⟩
  | dK kvs => obtain ⟨z, y, vs, r, ob, es, ep, e, c⟩ := x; exact ⟨z, y, vs, r, ob, es, ep, k _ e, c⟩
theorem FrL.get {P : Program} {w : World} {H : Hp} {h : Heap} {a : Addr} {o : HO} (f : FrL o) (x : ObjOk P w H h a o) : ∃ u, h.get? a = some u ∧ ∀ v, u.data ≠ .cell v := by
  cases f with
  | lst xs => obtain ⟨z, its, n, r, e⟩ := x; exact ⟨_, e, fun v q => nomatch q⟩
  | dK kvs =>
    obtain ⟨z, y, vs, r, ob, es, ep, e, c⟩ := x
    refine ⟨ob, e, fun v q => ?_⟩
    obtain ⟨_, d, _⟩ := c
    rw [d] at q; cases q
theorem FrL.not {o : HO} (h : FrL o) : (∀ xs, o ≠ .tup xs) ∧ (∀ u v, o ≠ .frz u v) ∧ (∀ ps, o ≠ .tbl ps) ∧ (∀ x, o ≠ .own x) := by
  cases h <;> exact ⟨fun _ z => (by cases z), fun _ _ z => (by cases z), fun _ z => (by cases z), fun _ z => (by cases z)⟩
section
variable {X : Cx} {pins : List (Addr × Obj)} {σ : L2.St} {H : Hp} {s : Shared} {a : Addr} {o : HO}
theorem Inv.hide (I : L2.Inv X pins σ H s) (ha : H a = some o) (fr : FrL o) : ∃ u, s.heap.get? a = some u ∧ L2.Inv X ((a, u) :: pins) σ (del H a) s ∧ a ∉ X.pn.map (·.1) ∧ (∀ ob, X.s_0.heap.get? a = some ob → X.H_0 a = none → a ∉ X.ex → False) ∧ (∀ xs, X.H_0 a ≠ some (.tup xs)) ∧ (∀ u v, X.H_0 a ≠ some (.frz u v)) ∧ (∀ ps, X.H_0 a ≠ some (.tbl ps)) ∧ a ≠ X.env.locals ∧ (∀ x c, X.env.cells.lookup x = some c → c ≠ a) ∧ (∀ p ∈ X.pn ++ pins, p.1 ≠ a) := by
  obtain ⟨u, hu, hc⟩ := fr.get (I.hok a o ha)
  obtain ⟨n1, n2, n3, n4⟩ := fr.not
  have nl : a ≠ X.env.locals := fun z => by rw [z, I.free] at ha; cases ha
  have nfs : a ∉ X.fs := fun z => by
    obtain ⟨_, ob, ho, _⟩ := I.ok.funs.mem z
    have := I.base.free a ob ho (I.ok.frf a z) fun q => I.ok.exfs a q z
    rw [ha] at this; cases this
  have ncl : ∀ x c, X.env.cells.lookup x = some c → c ≠ a := fun x c e z => by
    have := I.freeC x c e
    rw [z, ha] at this; cases this
  have npin : ∀ p ∈ X.pn ++ pins, p.1 ≠ a := fun p hp z => by
    have := (I.pin p hp).2.1
    rw [z, ha] at this; cases this
  refine ⟨u, hu, ⟨I.ok, I.os, I.bare, ⟨I.base.keep, I.base.slot, fun b ob e n hx => ?_, I.base.there, fun b xs e => ?_, fun b ob xs e => ?_, fun b ps e => ?_⟩, I.loc, I.cell, ?_, fun x c e => ?_, fun p hp => ?_, fun b ob e => ?_, I.len⟩, ?_, ?_, ?_, ?_, ?_, nl, ncl, npin⟩
  · unfold del; split
    · rfl
    · exact I.base.free b ob e n hx
  · have q := I.base.tups b xs e
    rw [del_ne (fun z => by rw [z, ha] at q; exact n1 xs (Option.some.inj q))]; exact q
  · have q := I.base.frzs b ob xs e
    rw [del_ne (fun z => by rw [z, ha] at q; exact n2 _ _ (Option.some.inj q))]; exact q
  · obtain ⟨more, q⟩ := I.base.tbls b ps e
    exact ⟨more, by rw [del_ne (fun z => by rw [z, ha] at q; exact n3 _ (Option.some.inj q))]; exact q⟩
  · unfold del; split
    · rfl
    · exact I.free
  · unfold del; split
    · rfl
    · exact I.freeC x c e
  · rcases List.mem_append.mp hp with hp | hp
    · obtain ⟨h1, h2, h3, h4, h5⟩ := I.pin p (List.mem_append_left _ hp)
      exact ⟨h1, by unfold del; split <;> first | rfl | exact h2, h3, h4, h5⟩
    · rcases List.mem_cons.mp hp with rfl | hp
      · exact ⟨hu, del_same, nl, nfs, hc⟩
      · obtain ⟨h1, h2, h3, h4, h5⟩ := I.pin p (List.mem_append_right _ hp)
        exact ⟨h1, by unfold del; split <;> first | rfl | exact h2, h3, h4, h5⟩
  · obtain ⟨nb, e'⟩ := del_some e
    refine (I.hok b ob e').stay (fun c v _ q => q) (fun c q => ?_) fun c xs q => ?_
    · rw [del_ne (fun z => by rw [z, ha] at q; exact n4 _ (Option.some.inj q))]; exact q
    · rw [del_ne (fun z => by rw [z, ha] at q; exact n1 _ (Option.some.inj q))]; exact q
  · intro z
    obtain ⟨p, hp, e⟩ := List.mem_map.mp z
    exact npin p (List.mem_append_left _ hp) e
  · intro ob e n hx
    have := I.base.free a ob e n hx
    rw [ha] at this; cases this
  · intro xs e
    have := I.base.tups a xs e
    rw [ha] at this; exact n1 _ (Option.some.inj this)
  · intro u' v' e
    have := I.base.frzs a _ _ e
    rw [ha] at this; exact n2 _ _ (Option.some.inj this)
  · intro ps e
    obtain ⟨more, this⟩ := I.base.tbls a _ e
    rw [ha] at this; exact n3 _ (Option.some.inj this)
theorem Inv.show {u : Obj} {s' : Shared} {σ' : L2.St} {H' : Hp} (I : L2.Inv X pins σ H s) (ha : H a = some o) (fr : FrL o) (hu : s.heap.get? a = some u) (I' : L2.Inv X ((a, u) :: pins) σ' H' s') : H' a = none ∧ L2.Inv X pins σ' (upd H' a o) s' := by
  obtain ⟨u', hu', _, g0, g1, g2, g3, g4, nl, ncl, npin⟩ := Inv.hide I ha fr
  have ok0 := I.hok a o ha
  obtain ⟨pu, pn, _, _, _⟩ := I'.pin (a, u) (List.mem_append_right _ List.mem_cons_self)
  have pu : s'.heap.get? a = some u := pu
  have pn : H' a = none := pn
  refine ⟨pn, ⟨I'.ok, I'.os, I'.bare, ⟨I'.base.keep, I'.base.slot, fun b ob e n hx => ?_, I'.base.there, fun b xs e => ?_, fun b ob xs e => ?_, fun b ps e => ?_⟩, I'.loc, I'.cell, ?_, fun x c e => ?_, fun p hp => ?_, fun b ob e => ?_, I'.len⟩⟩
  · rw [upd_ne (fun z => by subst z; exact g1 ob e n hx)]; exact I'.base.free b ob e n hx
  · rw [upd_ne (fun z => by subst z; exact g2 xs e)]; exact I'.base.tups b xs e
  · rw [upd_ne (fun z => by subst z; exact g3 _ _ e)]; exact I'.base.frzs b ob xs e
  · obtain ⟨more, q⟩ := I'.base.tbls b ps e
    exact ⟨more, by rw [upd_ne (fun z => by subst z; exact g4 _ e)]; exact q⟩
  · rw [upd_ne (Ne.symm nl)]; exact I'.free
  · rw [upd_ne (ncl x c e)]; exact I'.freeC x c e
  · obtain ⟨h1, h2, h3, h4, h5⟩ := I'.pin p (by
      rcases List.mem_append.mp hp with z | z
      · exact List.mem_append_left _ z
      · exact List.mem_append_right _ (List.mem_cons_of_mem _ z))
    exact ⟨h1, by rw [upd_ne (npin p hp)]; exact h2, h3, h4, h5⟩
  · by_cases hb : b = a
    · subst hb
      rw [upd_same] at e; cases e
      refine fr.obj ok0 fun v hv => ?_
      rw [hu] at hv; cases hv; exact pu
    · rw [upd_ne hb] at e
      refine (I'.hok b ob e).stay (fun c v _ q => q) (fun c q => ?_) fun c xs q => ?_
      · rw [upd_ne (ne_of_none q pn)]; exact q
      · rw [upd_ne (ne_of_none q pn)]; exact q
end

/-- what may be set aside at a call: lists, dicts, instances with their dicts -/
inductive FrO (H : Hp) (bs : List Addr) (b : Addr) : HO → Prop
  | lst (xs : List V) : FrO H bs b (.lst xs)
  | dK (kvs : List (Key × V)) : FrO H bs b (.dK kvs)
  | ins {C dx : Addr} {fs : List (Str × V)} (h : H dx = some (.own b) → dx ∈ bs) : FrO H bs b (.ins C dx fs)
  | own {x : Addr} (h : x ∈ bs) : FrO H bs b (.own x)
  | ext (φ : Heap → Prop) : FrO H bs b (.ext φ)
  | xd (fs : List (Str × V)) : FrO H bs b (.xd fs)
theorem FrO.obj {P : Program} {w : World} {H H' : Hp} {h h' : Heap} {a : Addr} {o : HO} {bs : List Addr} (f : FrO H bs a o) (x : ObjOk P w H h a o) (k : ∀ u, h.get? a = some u → h'.get? a = some u) (kd : ∀ b ∈ bs, ∀ u, h.get? b = some u → h'.get? b = some u) (hh : ∀ b ∈ bs, H' b = H b) : ObjOk P w H' h' a o := by
  cases f with
  | lst xs => obtain ⟨z, its, n, r, e⟩ := x; exact ⟨z, its, n, r, k _ e⟩
  | dK kvs => obtain ⟨z, y, vs, r, ob, es, ep, e, c⟩ := x; exact ⟨z, y, vs, r, ob, es, ep, k _ e, c⟩
  | ins hd =>
    obtain ⟨d, z, ne, e, mA, ⟨od, es, ep, e2, c⟩, r⟩ := x
    exact ⟨(hh _ (hd d)).trans d, z, ne, k _ e, mA, ⟨od, es, ep, kd _ (hd d) _ e2, c⟩, r⟩
  | own hd => obtain ⟨o, e⟩ := x; exact ⟨o, k _ e⟩
  | ext φ => obtain ⟨h1, ⟨o, h2⟩, h3⟩ := x; exact ⟨h3 _ _ h1 k, ⟨o, k _ h2⟩, h3⟩
  | xd fs => obtain ⟨mA, z, r⟩ := x; exact ⟨mA, z.at k, r⟩
theorem FrO.get {P : Program} {w : World} {H0 H : Hp} {h : Heap} {a : Addr} {o : HO} {bs : List Addr} (f : FrO H0 bs a o) (x : ObjOk P w H h a o) : ∃ u, h.get? a = some u := by
  cases f with
  | lst xs => obtain ⟨z, its, n, r, e⟩ := x; exact ⟨_, e⟩
  | dK kvs => obtain ⟨z, y, vs, r, ob, es, ep, e, c⟩ := x; exact ⟨ob, e⟩
  | ins hd => obtain ⟨d, z, ne, e, _⟩ := x; exact ⟨_, e⟩
  | own hd => exact x
  | ext φ => obtain ⟨h1, ⟨o, h2⟩, h3⟩ := x; exact ⟨o, h2⟩
  | xd fs => obtain ⟨mA, ⟨o, es, ep, e, _⟩, r⟩ := x; exact ⟨o, e⟩
abbrev FrSet (H : Hp) (bs : List Addr) : Prop := ∀ b ∈ bs, ∃ o, H b = some o ∧ FrO H bs b o
def frSp (sp : Sp) : Sp := fun vs H G E => ∃ bs : List Addr, FrSet H bs ∧ sp vs (dels H bs) (fun v H' => (∀ b ∈ bs, H' b = none) → G v (puts H' H bs)) E
section
variable {P : Program} {w : World} {K : PySem.W.Frag} {mg : Str → Option Value} {base : Heap} {k : Nat} {f : Addr} {fd : FuncData} {ps : List Str} {sp : Sp}
/-- a call with some objects set aside -/
theorem code_frame {A : Around} {outer : List Env} {s : Shared} {H : Hp} {cd : Code} {Q : VK} {E : XK} {bs : List Addr} (e0 : Env0 P w K mg base A outer s H) (hbs : FrSet H bs)
    (h : Env0 P w K mg base A outer s (dels H bs) → codeAny (model P w) A cd (L2.CR CX0 outer P w (dels H bs) s (fun v H' => (∀ b ∈ bs, H' b = none) → Q v (puts H' H bs)) E) s) : codeAny (model P w) A cd (L2.CR CX0 outer P w H s Q E) s := by
  have nt : ∀ b xs, H b = some (.tup xs) → b ∉ bs := fun b xs e z => by
    obtain ⟨o, ho, fr⟩ := hbs b z
    rw [e] at ho; cases ho; cases fr
  have nf : ∀ b u v, H b = some (.frz u v) → b ∉ bs := fun b u v e z => by
    obtain ⟨o, ho, fr⟩ := hbs b z
    rw [e] at ho; cases ho; cases fr
  have nb : ∀ b ps, H b = some (.tbl ps) → b ∉ bs := fun b ps e z => by
    obtain ⟨o, ho, fr⟩ := hbs b z
    rw [e] at ho; cases ho; cases fr
  have no : ∀ b x, H b = some (.own x) → x ∉ bs → b ∉ bs := fun b x e n z => by
    obtain ⟨o, ho, fr⟩ := hbs b z
    rw [e] at ho; cases ho
    cases fr with
    | own h => exact n h
  have e1 : Env0 P w K mg base A outer s (dels H bs) := ⟨e0.frames, e0.mod, fun b o e => ⟨(e0.bs b o e).1, dels_none (e0.bs b o e).2⟩, e0.bsz, e0.funs, fun b hb => dels_none (e0.frf b hb), fun b o e => by
    obtain ⟨n, e'⟩ := dels_some e
    refine (e0.hok b o e').stay (fun c v _ q => q) (fun c q => ?_) fun c xs q => ?_
    · rw [dels_ne (no c _ q n)]; exact q
    · rw [dels_ne (nt c _ q)]; exact q, e0.bare⟩
  refine codeAny_mono (h e1) fun r s' hq => ?_
  cases r with
  | error e => exact hq
  | ok fl =>
    cases fl with
    | ret u =>
      obtain ⟨v, H', os, bare, un, hok, rv, q⟩ := hq
      have hin : ∀ b ∈ bs, H' b = none ∧ ∀ o, s.heap.get? b = some o → s'.heap.get? b = some o := fun b hb => by
        obtain ⟨o, ho, fr⟩ := hbs b hb
        obtain ⟨ob, hob⟩ := fr.get (e0.hok b o ho)
        have nfr : b ∉ frs outer := fun z => by rw [e0.frf b z] at ho; cases ho
        have dn : dels H bs b = none := by unfold dels; rw [if_pos hb]
        exact ⟨un.free b ob hob dn (by simp), fun o' ho' => un.keep b o' ho' dn nfr (by simp)⟩
      refine ⟨v, puts H' H bs, os, bare, ⟨fun b o e n h1 h2 => un.keep b o e (dels_none n) h1 h2, fun b o e n h1 h2 => un.slot b o e (dels_none n) h1 h2, fun b o e n h2 => ?_, un.there, fun b xs e => ?_, fun b o u e => ?_, fun b ps e => ?_⟩, fun b o e => ?_, rv, q fun b hb => (hin b hb).1⟩
      · have nbs : b ∉ bs := fun z => by
          obtain ⟨o', ho', _⟩ := hbs b z
          rw [n] at ho'; cases ho'
        rw [puts_ne nbs]; exact un.free b o e (dels_none n) h2
      · rw [puts_ne (nt b xs e)]; exact un.tups b xs (by rw [dels_ne (nt b xs e)]; exact e)
      · rw [puts_ne (nf b o u e)]; exact un.frzs b o u (by rw [dels_ne (nf b o u e)]; exact e)
      · obtain ⟨more, z⟩ := un.tbls b ps (by rw [dels_ne (nb b ps e)]; exact e)
        exact ⟨more, by rw [puts_ne (nb b ps e)]; exact z⟩
      · by_cases hb : b ∈ bs
        · rw [puts_in hb] at e
          obtain ⟨o', ho', fr⟩ := hbs b hb
          rw [e] at ho'; cases ho'
          exact fr.obj (e0.hok b o e) (hin b hb).2 (fun c hc => (hin c hc).2) fun c hc => puts_in hc
        · rw [puts_ne hb] at e
          have pn : ∀ c u, H' c = some u → c ∉ bs := fun c u z h => by rw [(hin c h).1] at z; cases z
          refine (hok b o e).stay (fun c v _ q => q) (fun c q => ?_) fun c xs q => ?_
          · rw [puts_ne (pn c _ q)]; exact q
          · rw [puts_ne (pn c _ q)]; exact q
    | next => exact False.elim hq
    | brk => exact False.elim hq
    | cont => exact False.elim hq
theorem FnR.frame (F : FnR P w K mg base CX0 k f sp) : FnR P w K mg base CX0 k f (frSp sp) := fun A outer s H us vs Q E hr e0 hv ⟨bs, hbs, h⟩ => code_frame e0 hbs fun e1 => F A outer s (dels H bs) us vs _ E hr e1 hv h
theorem fnr_of (F : FnOk P w K mg base CX0 k f fd ps sp) (hb : Binds K fd ps []) : FnR P w K mg base CX0 k f sp := by
  have := FnOk.raw F hb (.nil : Vals [] [])
  exact this.imp fun vs H Q E h => by rw [List.append_nil]; exact h
end
section
variable {K : PySem.W.Frag} {F F' : Hp} {As : List Addr} {M : List C} {H : Hp}
theorem HM.frs (h : HM K F As M H) : FrSet H As := fun b hb => by
  obtain ⟨i, ei⟩ := List.mem_iff_getElem?.mp hb
  have hi : i < M.length := by rw [← h.len]; exact (List.getElem?_eq_some_iff.mp ei).1
  obtain ⟨o, h1, h2⟩ := h.cell i b M[i] ei (List.getElem?_eq_getElem hi)
  refine ⟨o, h1, ?_⟩
  generalize M[i] = c at h2
  cases c with
  | lst xs => obtain ⟨vs, rfl, _⟩ := h2; exact .lst vs
  | dic xs => obtain ⟨vs, rfl, _⟩ := h2; exact .dK vs
  | mls xs => obtain ⟨vs, rfl, _⟩ := h2; exact .lst vs
  | mdc xs => obtain ⟨vs, rfl, _⟩ := h2; exact .dK vs
  | ins Cl j fs => obtain ⟨dx, kvs, h3, rfl, _⟩ := h2; exact .ins fun _ => List.mem_iff_getElem?.mpr ⟨j, h3⟩
  | dxo k => obtain ⟨a, h3, rfl⟩ := h2; exact .own (List.mem_iff_getElem?.mpr ⟨k, h3⟩)
  | sob0 Cl j => obtain ⟨dx, h3, rfl⟩ := h2; exact .ins fun _ => List.mem_iff_getElem?.mpr ⟨j, h3⟩
  | sob Cl j vs => obtain ⟨dx, us, h3, rfl, _⟩ := h2; exact .ext _
  | dxx => cases h2; exact .xd []
theorem HM.bare (h : HM K F As M H) : dels H As = F := by
  funext a
  unfold dels
  split
  · rename_i ha; exact (h.off a ha).symm
  · rename_i ha; exact h.out a ha
theorem HM.back (h : HM K F As M H) (s : Same F F') (n : ∀ a ∈ As, F' a = none) : HM K F' As M (puts F' H As) :=
  ⟨h.nd, h.len, fun i a cc ea ec => by
    obtain ⟨o, h1, h2⟩ := h.cell i a cc ea ec
    exact ⟨o, by rw [puts_in (List.mem_iff_getElem?.mpr ⟨i, ea⟩)]; exact h1, h2.mono s (List.prefix_refl _)⟩, n, fun a ha => by rw [puts_ne ha]⟩
/-- cells behind the first n are dropped -/
theorem HM.drop (h : HM K F As M H) (n : Nat) (hn : n ≤ M.length) (hr : ∀ c ∈ M.take n, ∀ k ∈ c.refs, k < n) : ∃ F', Same F F' ∧ HM K F' (As.take n) (M.take n) H := by
  have hl := h.len
  have nd := h.nd
  have split : As = As.take n ++ As.drop n := (List.take_append_drop n As).symm
  have tl : (As.take n).length = n := by rw [List.length_take]; omega
  have tm : ∀ a, a ∈ As.take n → a ∈ As := fun a ha => List.mem_of_mem_take ha
  refine ⟨dels H (As.take n), fun a o e => ?_, ⟨?_, ?_, fun i a c ea ec => ?_, fun a ha => dels_in ha, fun a ha => (dels_ne ha).symm⟩⟩
  · have na : a ∉ As := fun z => by rw [h.off a z] at e; cases e
    rw [dels_ne fun z => na (tm a z), h.out a na]; exact e
  · rw [split] at nd; exact (List.nodup_append.mp nd).1
  · rw [List.length_take, List.length_take, hl]
  · have hi : i < n := by
      have := (List.getElem?_eq_some_iff.mp ea).1
      omega
    have ea' : As[i]? = some a := by rw [List.getElem?_take, if_pos hi] at ea; exact ea
    have ec' : M[i]? = some c := by rw [List.getElem?_take, if_pos hi] at ec; exact ec
    obtain ⟨o, h1, h2⟩ := h.cell i a c ea' ec'
    refine ⟨o, h1, CR.cut (Bs := As.drop n) ?_ ?_⟩
    · intro k hk; rw [tl]; exact hr c (List.mem_of_getElem? ec) k hk
    · rw [← split]
      refine h2.mono (fun a o e => ?_) (List.prefix_refl _)
      have na : a ∉ As := fun z => by rw [h.off a z] at e; cases e
      rw [dels_ne fun z => na (tm a z), h.out a na]; exact e
end
end Dl

/-! X1: semantic readings, contexts, judgements, the first rules -/
namespace Dl
open PySem L2

/-! ### the weakest reading of a piece of syntax -/
section
variable (X : Cx)
def WE (e : Expr) : TE := fun σ H G => ∃ t : TE, PE X e t ∧ t σ H G
def WT (e : Expr) : TT := fun σ H G => ∃ t : TT, PT X e t ∧ t σ H G
def WW (e : Expr) : TT := fun σ H G => ∃ t : TT, PW X e t ∧ t σ H G
def WTs (es : List Expr) : TT := fun σ H G => ∃ t : TT, PTs X es t ∧ t σ H G
def WA (es : List Expr) : TA := fun σ H G => ∃ t : TA, PA X es t ∧ t σ H G
def WK (es : List Keyword) : TA := fun σ H G => ∃ t : TA, PK X es t ∧ t σ H G
def WS (ss : List Stmt) : TS := fun D σ H => ∃ t : TS, PSs X ss t ∧ t D σ H
def WS1 (s : Stmt) : TS := fun D σ H => ∃ t : TS, PS X s t ∧ t D σ H
def WI (tg it : Expr) : TI := fun σ H R => ∃ t : TI, PI X tg it t ∧ t σ H R
def WG (tg : Expr) : TG := fun v σ H R => ∃ t : TG, PG X tg t ∧ t v σ H R
end
section
variable {X : Cx}
theorem pe_w {e : Expr} : PE X e (WE X e) := ⟨fun pins s σ H Q I ⟨_, h, q⟩ => h.run pins s σ H Q I q⟩
theorem pt_w {e : Expr} : PT X e (WT X e) := ⟨fun pins s σ H Q I ⟨_, h, q⟩ => h.run pins s σ H Q I q⟩
theorem pw_w {e : Expr} : PW X e (WW X e) := ⟨fun wh pins s σ H Q I ⟨_, h, q⟩ => h.run wh pins s σ H Q I q⟩
theorem pa_w {e : List Expr} : PA X e (WA X e) := ⟨fun p pins s σ H Q I ⟨_, h, q⟩ => h.run p pins s σ H Q I q⟩
theorem pk_w {e : List Keyword} : PK X e (WK X e) := ⟨fun p pins s σ H Q I ⟨_, h, q⟩ => h.run p pins s σ H Q I q⟩
theorem pss_w {e : List Stmt} : PSs X e (WS X e) := ⟨fun pins s σ H Q I ⟨_, h, q⟩ => h.run pins s σ H Q I q⟩
theorem ps_w {e : Stmt} : PS X e (WS1 X e) := ⟨fun pins s σ H Q I ⟨_, h, q⟩ => h.run pins s σ H Q I q⟩
theorem pi_w {tg e : Expr} : PI X tg e (WI X tg e) := ⟨fun pins s σ H Q I ⟨_, h, q⟩ => h.run pins s σ H Q I q⟩
theorem pts_w {e : List Expr} : PTs X e (WTs X e) := ⟨fun pins s σ H Q I ⟨_, h, q⟩ => h.run pins s σ H Q I q⟩
theorem WE.mono {e : Expr} {σ : L2.St} {H : Hp} {G G' : VK} (h : WE X e σ H G) (k : ∀ v H', G v H' → G' v H') : WE X e σ H G' := by
  refine ⟨fun σ' H' Q => σ' = σ ∧ H' = H ∧ ∀ v H', G v H' → Q v H', ⟨fun pins s σ' H' Q I ⟨e1, e2, q⟩ => ?_⟩, rfl, rfl, k⟩
  subst e1; subst e2
  exact thn (pe_w.run pins s σ' H' G I h) fun u s' ⟨v, H2, I2, r, g⟩ => ⟨v, H2, I2, r, q v H2 g⟩
theorem WT.mono {e : Expr} {σ : L2.St} {H : Hp} {G G' : Bool → Hp → Prop} (h : WT X e σ H G) (k : ∀ v H', G v H' → G' v H') : WT X e σ H G' := by
  refine ⟨fun σ' H' Q => σ' = σ ∧ H' = H ∧ ∀ v H', G v H' → Q v H', ⟨fun pins s σ' H' Q I ⟨e1, e2, q⟩ => ?_⟩, rfl, rfl, k⟩
  subst e1; subst e2
  exact thn (pt_w.run pins s σ' H' G I h) fun u s' ⟨H2, I2, g⟩ => ⟨H2, I2, q u H2 g⟩
/-- the frame rule -/
theorem WE.frame {e : Expr} {σ : L2.St} {H : Hp} {G : VK} {a : Addr} {o : HO} (ha : H a = some o) (fr : FrL o) (h : WE X e σ (del H a) fun v H' => H' a = none → G v (upd H' a o)) : WE X e σ H G := by
  refine ⟨fun σ' H' Q => σ' = σ ∧ H' = H ∧ ∀ v H', G v H' → Q v H', ⟨fun pins s σ' H' Q I ⟨e1, e2, q⟩ => ?_⟩, rfl, rfl, fun _ _ z => z⟩
  subst e1; subst e2
  obtain ⟨u, hu, I1, _⟩ := Inv.hide I ha fr
  refine thn (pe_w.run _ s σ' _ _ I1 h) fun u' s' ⟨v, H2, I2, r, g⟩ => ?_
  obtain ⟨n, I3⟩ := Inv.show I ha fr hu I2
  exact ⟨v, _, I3, r, q _ _ (g n)⟩
theorem WT.frame {e : Expr} {σ : L2.St} {H : Hp} {G : Bool → Hp → Prop} {a : Addr} {o : HO} (ha : H a = some o) (fr : FrL o) (h : WT X e σ (del H a) fun v H' => H' a = none → G v (upd H' a o)) : WT X e σ H G := by
  refine ⟨fun σ' H' Q => σ' = σ ∧ H' = H ∧ ∀ v H', G v H' → Q v H', ⟨fun pins s σ' H' Q I ⟨e1, e2, q⟩ => ?_⟩, rfl, rfl, fun _ _ z => z⟩
  subst e1; subst e2
  obtain ⟨u, hu, I1, _⟩ := Inv.hide I ha fr
  refine thn (pt_w.run _ s σ' _ _ I1 h) fun u' s' ⟨H2, I2, g⟩ => ?_
  obtain ⟨n, I3⟩ := Inv.show I ha fr hu I2
  exact ⟨_, I3, q _ _ (g n)⟩
theorem WTs.frame {e : List Expr} {σ : L2.St} {H : Hp} {G : Bool → Hp → Prop} {a : Addr} {o : HO} (ha : H a = some o) (fr : FrL o) (h : WTs X e σ (del H a) fun v H' => H' a = none → G v (upd H' a o)) : WTs X e σ H G := by
  refine ⟨fun σ' H' Q => σ' = σ ∧ H' = H ∧ ∀ v H', G v H' → Q v H', ⟨fun pins s σ' H' Q I ⟨e1, e2, q⟩ => ?_⟩, rfl, rfl, fun _ _ z => z⟩
  subst e1; subst e2
  obtain ⟨u, hu, I1, _⟩ := Inv.hide I ha fr
  refine thn (pts_w.run _ s σ' _ _ I1 h) fun u' s' ⟨H2, I2, g⟩ => ?_
  obtain ⟨n, I3⟩ := Inv.show I ha fr hu I2
  exact ⟨_, I3, q _ _ (g n)⟩
end

/-! ### contexts -/
structure Ctx where
  P : Program
  w : World
  K : PySem.W.Frag
  mg : Str → Option Value
  base : Heap
  N : List Str
  sc : Scope
  fn : Str → Bool
  k : Nat
inductive Ctx.Is : Ctx → Cx → Prop
  | mk (X : Cx) (k : Nat) (nd : X.N.Nodup) (calm : X.calm = true) (room : Room k X.A) (po : PassesOwn (model X.prog X.w) X.A X.env X.xe) : Ctx.Is ⟨X.prog, X.w, X.K, X.mg, X.base, X.N, X.env.scope, X.fn, k⟩ X
abbrev Glo (c : Ctx) (x : Str) : Prop := c.sc.names.lookup x = some .globalImplicit

/-! ### results -/
inductive Z where
  | s (r : Sl) | n (c : C)
  deriving Inhabited
def Zr : Z → List C → Sl → List C → Prop
  | .s r, M1, r', M' => r' = r ∧ M' = M1
  | .n c, M1, r', M' => r' = .own M1.length ∧ M' = M1 ++ [c] ∧ ∀ c ∈ M1, ∀ k ∈ c.refs, k < M1.length
def C.frz : C → Option D
  | .lst ds => some (.lst ds)
  | .dic kvs => some (.dic (kvs.map (·.1)) (kvs.map (·.2)))
  | _ => none
/-- a result as a slot: what is new is frozen -/
def Z.fz (z : Z) (M : List C) (Q : Sl → List C → Prop) : Prop :=
  match z with
  | .s r => Q r M
  | .n c => match c.frz with
    | some d => Q (.val d) M
    | none => False

/-! ### judgements -/
section
variable (c : Ctx) (ρ : List Sl) (M : List C)
def EE (e : Expr) (Q : Sl → List C → Prop) : Prop := ∀ X, c.Is X → ∀ F As σ H, SR c.K F As ρ σ → HM c.K F As M H → ∀ G : VK, (∀ v F' As' H' r M', Same F F' → As <+: As' → SlR c.K F' As' r v → HM c.K F' As' M' H' → Q r M' → G v H') → WE X e σ H G
def EZ (e : Expr) (Q : Z → List C → Prop) : Prop := EE c ρ M e fun r M' => ∃ z M1, Zr z M1 r M' ∧ M.length ≤ M1.length ∧ Q z M1
def GT (e : Expr) (Q : Bool → List C → Prop) : Prop := ∀ X, c.Is X → ∀ F As σ H, SR c.K F As ρ σ → HM c.K F As M H → ∀ G : Bool → Hp → Prop, (∀ t F' As' H' M', Same F F' → As <+: As' → HM c.K F' As' M' H' → Q t M' → G t H') → WT X e σ H G
def GW (e : Expr) (Q : Bool → List C → Prop) : Prop := ∀ X, c.Is X → ∀ F As σ H, SR c.K F As ρ σ → HM c.K F As M H → ∀ G : Bool → Hp → Prop, (∀ t F' As' H' M', Same F F' → As <+: As' → HM c.K F' As' M' H' → Q t M' → G t H') → WW X e σ H G
def GTs (es : List Expr) (Q : Bool → List C → Prop) : Prop := ∀ X, c.Is X → ∀ F As σ H, SR c.K F As ρ σ → HM c.K F As M H → ∀ G : Bool → Hp → Prop, (∀ t F' As' H' M', Same F F' → As <+: As' → HM c.K F' As' M' H' → Q t M' → G t H') → WTs X es σ H G
def EA (es : List Expr) (Q : List Sl → List C → Prop) : Prop := ∀ X, c.Is X → ∀ F As σ H, SR c.K F As ρ σ → HM c.K F As M H → ∀ G : List V → Hp → Prop, (∀ vs F' As' H' rs M', Same F F' → As <+: As' → SlRs c.K F' As' rs vs → HM c.K F' As' M' H' → Q rs M' → G vs H') → WA X es σ H G
def EK (es : List Keyword) (Q : List Sl → List C → Prop) : Prop := ∀ X, c.Is X → ∀ F As σ H, SR c.K F As ρ σ → HM c.K F As M H → ∀ G : List V → Hp → Prop, (∀ vs F' As' H' rs M', Same F F' → As <+: As' → SlRs c.K F' As' rs vs → HM c.K F' As' M' H' → Q rs M' → G vs H') → WK X es σ H G
end
/-- what is read as a sequence: a list (true) or a tuple -/
def lkM : List C → Nat → Option C
  | [], _ => none
  | c :: _, 0 => some c
  | _ :: M, k + 1 => lkM M k
theorem lkM_eq : ∀ (M : List C) (k : Nat), lkM M k = M[k]?
  | [], _ => rfl
  | _ :: _, 0 => rfl
  | _ :: M, k + 1 => by rw [List.getElem?_cons_succ]; exact lkM_eq M k
def sq (M : List C) : Sl → Option (Bool × List D)
  | .val (.lst ds) => some (true, ds)
  | .val (.tup ds) => some (false, ds)
  | .own k => match lkM M k with
    | some (.lst ds) => some (true, ds)
    | _ => none
  | _ => none
inductive SqS (M : List C) : Sl → Bool → List D → Prop
  | lst {ds : List D} : SqS M (.val (.lst ds)) true ds
  | tup {ds : List D} : SqS M (.val (.tup ds)) false ds
  | own {k : Nat} {ds : List D} (h : M[k]? = some (.lst ds)) : SqS M (.own k) true ds
theorem sq_s {M : List C} {s : Sl} {b : Bool} {ds : List D} (h : sq M s = some (b, ds)) : SqS M s b ds := by
  cases s with
  | un => cases h
  | own k =>
    have h : (match lkM M k with | some (.lst ds) => some (true, ds) | _ => none) = some (b, ds) := h
    rw [lkM_eq] at h
    cases e : M[k]? with
    | none => rw [e] at h; cases h
    | some c =>
      rw [e] at h
      cases c with
      | lst xs => cases h; exact .own e
      | dic _ => cases h
      | mls _ => cases h
      | mdc _ => cases h
      | ins _ _ _ => cases h
      | dxo _ => cases h
      | sob0 _ _ => cases h
      | sob _ _ _ => cases h
      | dxx => cases h
  | val d =>
    cases d with
    | lst xs => cases h; exact .lst
    | tup xs => cases h; exact .tup
    | non => cases h
    | bl _ => cases h
    | int _ => cases h
    | str _ => cases h
    | dic _ _ => cases h
    | slo _ _ => cases h
    | obj _ _ _ => cases h
    | scr _ => cases h
theorem SqS.get {K : PySem.W.Frag} {F : Hp} {As : List Addr} {M : List C} {H : Hp} {s : Sl} {b : Bool} {ds : List D} {v : V} (q : SqS M s b ds) (hm : HM K F As M H) (r : SlR K F As s v) :
    ∃ a vs, v = .ref a ∧ DVs K F ds vs ∧ (if b then H a = some (.lst vs) else SqT K H a vs) := by
  cases q with
  | lst => obtain ⟨a, vs, rfl, h1, h2⟩ := r; exact ⟨a, vs, rfl, h2, hm.same _ _ h1⟩
  | tup => obtain ⟨a, vs, rfl, h1, h2⟩ := r; exact ⟨a, vs, rfl, h2, same_t hm.same h1⟩
  | own h =>
    obtain ⟨a, h1, rfl⟩ := r
    obtain ⟨o, h2, vs, rfl, h3⟩ := hm.cell _ a _ h1 h
    exact ⟨a, vs, rfl, h3, h2⟩
theorem SqS.sq {K : PySem.W.Frag} {F : Hp} {As : List Addr} {M : List C} {H : Hp} {s : Sl} {b : Bool} {ds : List D} {v : V} (q : SqS M s b ds) (hm : HM K F As M H) (r : SlR K F As s v) :
    ∃ a vs, v = .ref a ∧ DVs K F ds vs ∧ (SqL K H a vs ∨ SqT K H a vs) := by
  obtain ⟨a, vs, h1, h2, h3⟩ := q.get hm r
  cases b with
  | true => exact ⟨a, vs, h1, h2, .inl (.inl (.inl h3))⟩
  | false => exact ⟨a, vs, h1, h2, .inr h3⟩
/-- the ends of a block -/
structure DE where
  nx : List Sl → List C → Prop
  rt : Z → List C → Prop := fun _ _ => False
  bk : List Sl → List C → Prop := fun _ _ => False
  ct : List Sl → List C → Prop := fun _ _ => False
structure EndsR (K : PySem.W.Frag) (m : Nat) (D : DE) (E : Ends) (F : Hp) (As : List Addr) : Prop where
  nx : ∀ F' As' ρ' M' σ' H', Same F F' → As <+: As' → SR K F' As' ρ' σ' → HM K F' As' M' H' → D.nx ρ' M' → E.nx σ' H'
  rt : ∀ F' As' z r v M' M1 H', Same F F' → As <+: As' → SlR K F' As' r v → HM K F' As' M' H' → Zr z M1 r M' → m ≤ M1.length → D.rt z M1 → E.rt v H'
  bk : ∀ F' As' ρ' M' σ' H', Same F F' → As <+: As' → SR K F' As' ρ' σ' → HM K F' As' M' H' → D.bk ρ' M' → E.bk σ' H'
  ct : ∀ F' As' ρ' M' σ' H', Same F F' → As <+: As' → SR K F' As' ρ' σ' → HM K F' As' M' H' → D.ct ρ' M' → E.ct σ' H'
def ES (c : Ctx) (ρ : List Sl) (M : List C) (ss : List Stmt) (D : DE) : Prop := ∀ X, c.Is X → ∀ F As B σ H (E : Ends), SR c.K F As ρ σ → HM c.K F As M H → B <+: As → EndsR c.K B.length D E F B → WS X ss E σ H
theorem EndsR.mono {K : PySem.W.Frag} {m n : Nat} {D : DE} {E : Ends} {F F1 : Hp} {As Bs : List Addr} (h : EndsR K m D E F As) (s : Same F F1) (p : As <+: Bs) (hmn : m ≤ n) : EndsR K n D E F1 Bs :=
  ⟨fun F' As' ρ' M' σ' H' a b => h.nx F' As' ρ' M' σ' H' (s.trans a) (p.trans b), fun F' As' z r v M' M1 H' a b c d e f => h.rt F' As' z r v M' M1 H' (s.trans a) (p.trans b) c d e (Nat.le_trans hmn f),
   fun F' As' ρ' M' σ' H' a b => h.bk F' As' ρ' M' σ' H' (s.trans a) (p.trans b), fun F' As' ρ' M' σ' H' a b => h.ct F' As' ρ' M' σ' H' (s.trans a) (p.trans b)⟩
theorem EndsR.f {K : PySem.W.Frag} {m : Nat} {D : DE} {E : Ends} {F F1 : Hp} {As : List Addr} (h : EndsR K m D E F As) (s : Same F F1) : EndsR K m D E F1 As := h.mono s (List.prefix_refl _) (Nat.le_refl _)

/-! ### between the judgements -/
section
variable {K : PySem.W.Frag} {F F' : Hp} {As As' : List Addr} {M M' : List C} {H H' : Hp}
theorem HM.le (h : HM K F As M H) (h' : HM K F' As' M' H') (p : As <+: As') : M.length ≤ M'.length := by rw [← h.len, ← h'.len]; exact p.length_le
/-- the last cell is frozen -/
theorem HM.freeze {a : Addr} {c : C} {d : D} (h : HM K F (As ++ [a]) (M ++ [c]) H) (hf : c.frz = some d) (hr : ∀ c ∈ M, ∀ k ∈ c.refs, k < M.length) :
    ∃ F', Same F F' ∧ HM K F' As M H ∧ DV K F' d (.ref a) := by
  have hl : As.length = M.length := by have := h.len; simpa using this
  obtain ⟨F', s, hm⟩ := h.drop M.length (by simp) (by rw [List.take_left']; exact hr; rfl)
  rw [List.take_left' (l₁ := M) rfl, List.take_left' (l₁ := As) hl] at hm
  have ha : (As ++ [a])[As.length]? = some a := by simp
  obtain ⟨o, ho, hc⟩ := h.cell As.length a c ha (by rw [hl]; simp)
  have na : a ∉ As := by
    have := h.nd
    rw [List.nodup_append] at this
    exact fun z => this.2.2 a z a (by simp) rfl
  have ho' : F' a = some o := by rw [← hm.out a na]; exact ho
  refine ⟨F', s, hm, ?_⟩
  cases c with
  | lst ds =>
    cases hf
    obtain ⟨vs, rfl, hv⟩ := hc
    exact ⟨a, vs, rfl, ho', hv.mono s⟩
  | dic kvs =>
    cases hf
    obtain ⟨ws, rfl, hv⟩ := hc
    refine ⟨a, ws, rfl, ho', ?_, ?_⟩
    · clear ho ho' ha h hm
      induction hv with
      | nil => rfl
      | cons q _ ih => rw [List.map_cons, List.map_cons, ih, q.1]
    · refine dvs_paired.mpr ?_
      clear ho ho' ha h hm
      induction hv with
      | nil => exact .nil
      | cons q _ ih => exact .cons (q.2.mono s) ih
  | mls _ => cases hf
  | mdc _ => cases hf
  | ins _ _ _ => cases hf
  | dxo _ => cases hf
  | sob0 _ _ => cases hf
  | sob _ _ _ => cases hf
  | dxx => cases hf
theorem HM.refs (h : HM K F As M H) : ∀ c ∈ M, ∀ k ∈ c.refs, k < M.length := by
  intro c hc k hk
  obtain ⟨i, ei⟩ := List.mem_iff_getElem?.mp hc
  obtain ⟨a, ea⟩ := h.addr ei
  obtain ⟨o, _, hr⟩ := h.cell i a c ea ei
  rw [← h.len]
  have slt : ∀ {s : Sl} {v : V}, SlR K F As s v → ∀ k ∈ s.refs, k < As.length := fun r => r.ref_lt
  have get : ∀ {α β : Type} {R : α → β → Prop} {l : List α} {r : List β} {x : α}, Paired R l r → x ∈ l → ∃ y, R x y := by
    intro α β R l r x p hx
    induction p with
    | nil => cases hx
    | cons h1 h2 ih =>
      rcases List.mem_cons.mp hx with rfl | hx
      · exact ⟨_, h1⟩
      · exact ih hx
  cases c with
  | lst _ => cases hk
  | dic _ => cases hk
  | mls xs =>
    obtain ⟨vs, _, h2⟩ := hr
    obtain ⟨x, hx, hk⟩ := List.mem_flatMap.mp hk
    obtain ⟨y, hy⟩ := get h2 hx
    exact slt hy k hk
  | mdc xs =>
    obtain ⟨vs, _, h2⟩ := hr
    obtain ⟨x, hx, hk⟩ := List.mem_flatMap.mp hk
    obtain ⟨y, hy⟩ := get h2 hx
    exact slt hy.2 k hk
  | ins Cl j fs =>
    obtain ⟨dx, vs, h0, _, h2⟩ := hr
    rcases List.mem_cons.mp hk with rfl | hk
    · exact (List.getElem?_eq_some_iff.mp h0).1
    · obtain ⟨x, hx, hk⟩ := List.mem_flatMap.mp hk
      obtain ⟨y, hy⟩ := get h2 hx
      exact slt hy.2 k hk
  | dxo j =>
    obtain ⟨a, h0, _⟩ := hr
    have : k = j := by simpa [C.refs] using hk
    subst this
    exact (List.getElem?_eq_some_iff.mp h0).1
  | sob0 Cl j =>
    obtain ⟨a, h0, _⟩ := hr
    have : k = j := by simpa [C.refs] using hk
    subst this
    exact (List.getElem?_eq_some_iff.mp h0).1
  | sob Cl j vs =>
    obtain ⟨dx, us, h0, _, h2⟩ := hr
    rcases List.mem_cons.mp hk with rfl | hk
    · exact (List.getElem?_eq_some_iff.mp h0).1
    · obtain ⟨x, hx, hk⟩ := List.mem_flatMap.mp hk
      obtain ⟨i, ei⟩ := List.mem_iff_getElem?.mp hx
      by_cases hu : x = .un
      · subst hu; cases hk
      · obtain ⟨v, _, g⟩ := h2.get i x ei hu
        exact slt g k hk
  | dxx => cases hk
end
end Dl

/-! X2: short syntax, what it asks -/
namespace Dl
open PySem L2

/-! ### what stands around a def -/
structure Gx where
  P : Program
  w : World
  K : PySem.W.Frag
  mg : Str → Option Value
  base : Heap
  k : Nat
abbrev Ctx.g (c : Ctx) : Gx := ⟨c.P, c.w, c.K, c.mg, c.base, c.k⟩
structure Def (g : Gx) (x : Str) (k : Nat) (sp : Sp) : Prop where
  ok : ∃ f : Addr, g.mg x = some (.ref f) ∧ PySem.W.keepIn g.K (.ref f) = true ∧ FnR g.P g.w g.K g.mg g.base CX0 k f sp
def HasD (g : Gx) (x : Str) : Prop := ∃ f : Addr, g.mg x = some (.ref f) ∧ PySem.W.keepIn g.K (.ref f) = true
theorem Def.has {g : Gx} {x : Str} {k : Nat} {sp : Sp} (h : Def g x k sp) : HasD g x := let ⟨f, a, b, _⟩ := h.ok; ⟨f, a, b⟩
/-- what follows a call, in a heap -/
def Aft (K : PySem.W.Frag) (F : Hp) (As : List Addr) (Q : Sl → List C → Prop) (G : VK) : Prop := ∀ v F' As' H' r M', Same F F' → As <+: As' → SlR K F' As' r v → HM K F' As' M' H' → Q r M' → G v H'
def zq (n : Nat) (Q : Z → List C → Prop) (r : Sl) (M' : List C) : Prop := ∃ z M1, Zr z M1 r M' ∧ n ≤ M1.length ∧ Q z M1
/-- a promise asked of slots and cells -/
def SpS (g : Gx) (sp : Sp) (rs : List Sl) (M : List C) (Q : Sl → List C → Prop) : Prop := ∀ F As H vs, HM g.K F As M H → SlRs g.K F As rs vs → ∀ G, Aft g.K F As Q G → frSp sp vs H G E0
def CallZ (g : Gx) (x : Str) (rs : List Sl) (M : List C) (Q : Z → List C → Prop) : Prop := ∃ k sp, Def g x k sp ∧ k ≤ g.k ∧ SpS g sp rs M (zq M.length Q)
def lk0 : List Sl → Nat → Sl
  | [], _ => .val .non
  | s :: _, 0 => s
  | _ :: ρ, i + 1 => lk0 ρ i
/-- keywords alone: the order of the parameters by idx -/
def permV (n : Nat) (idx : List Nat) (vs zs : List V) : List V := if vs.length = 0 ∧ zs.length = n then idx.map fun i => zs.getD i .non else []
def permU (n : Nat) (idx : List Nat) (us ws : List Value) : List Value := if us.length = 0 ∧ ws.length = n then idx.map fun i => ws.getD i .none else []
structure DefK (g : Gx) (x : Str) (k : Nat) (ks : List Str) (idx : List Nat) (sp : Sp) : Prop where
  ok : ∃ (f : Addr) (fd : FuncData) (ps : List Str), g.mg x = some (.ref f) ∧ PySem.W.keepIn g.K (.ref f) = true ∧ FnOk g.P g.w g.K g.mg g.base CX0 k f fd ps sp ∧ KBinds g.K fd ps ks (permU ks.length idx) (permV ks.length idx)
theorem DefK.has {g : Gx} {x : Str} {k : Nat} {ks : List Str} {idx : List Nat} {sp : Sp} (h : DefK g x k ks idx sp) : HasD g x := let ⟨f, _, _, a, b, _⟩ := h.ok; ⟨f, a, b⟩
def CallK (g : Gx) (x : Str) (ks : List Str) (rs : List Sl) (M : List C) (Q : Z → List C → Prop) : Prop := ∃ k idx sp, DefK g x k ks idx sp ∧ k ≤ g.k ∧ rs.length = ks.length ∧ SpS g sp (idx.map fun i => lk0 rs i) M (zq M.length Q)
/-! ### data -/
def intD : D → Int
  | .int i => i
  | _ => 0
def isI : D → Bool
  | .int _ => true
  | _ => false
def blD : D → Bool
  | .bl b => b
  | _ => false
def isB : D → Bool
  | .bl _ => true
  | _ => false
def atomD : D → Bool
  | .non => true
  | .bl _ => true
  | .int _ => true
  | .str _ => true
  | _ => false
def eqA : D → D → Bool
  | .non, .non => true
  | .bl a, .bl b => a == b
  | .bl a, .int b => (if a then 1 else 0) == b
  | .int a, .bl b => a == (if b then 1 else 0)
  | .int a, .int b => a == b
  | .str a, .str b => a == b
  | _, _ => false
def inD (x : D) (ds : List D) : Bool := ds.any fun y => eqA y x
def D.isNon : D → Bool
  | .non => true
  | _ => false
def Sl.isNon : Sl → Bool
  | .val d => d.isNon
  | _ => false
mutual
/-- no list, dict, object in it -/
def flatD : D → Bool
  | .non => true
  | .bl _ => true
  | .int _ => true
  | .str _ => true
  | .tup ds => flatDs ds
  | _ => false
def flatDs : List D → Bool
  | [] => true
  | d :: ds => flatD d && flatDs ds
end
def keyD : D → Option Key
  | .int i => some (.inl i)
  | .str x => some (.inr x)
  | _ => none
def kD : Key → D
  | .inl i => .int i
  | .inr x => .str x
def putD {α : Type} (kvs : List (Key × α)) (k : Key) (d : α) : List (Key × α) := if kvs.any (fun p => decide (p.1 = k)) then kvs.map (fun p => if p.1 = k then (p.1, d) else p) else kvs ++ [(k, d)]
def getK {α : Type} (kvs : List (Key × α)) (k : Key) : Option α := (kvs.find? fun p => decide (p.1 = k)).map (·.2)
/-- a dict that is read -/
def dq (M : List C) : Sl → Option (List (Key × D))
  | .val (.dic ks vs) => some (ks.zip vs)
  | .own k => match lkM M k with
    | some (.dic kvs) => some kvs
    | _ => none
  | _ => none
/-- a slot as data -/
def vw (M : List C) : Sl → Option D
  | .val d => some d
  | .own k => match lkM M k with
    | some c => c.frz
    | none => none
  | .un => none
def lk : List Sl → Nat → Sl
  | [], _ => .un
  | s :: _, 0 => s
  | _ :: ρ, i + 1 => lk ρ i
def pt : List Sl → Nat → Sl → List Sl
  | [], _, _ => []
  | _ :: ρ, 0, s => s :: ρ
  | x :: ρ, i + 1, s => x :: pt ρ i s
def ptM : List C → Nat → C → List C
  | [], _, _ => []
  | _ :: ρ, 0, s => s :: ρ
  | x :: ρ, i + 1, s => x :: ptM ρ i s
def clr : List Sl → List Nat → List Sl
  | ρ, [] => ρ
  | ρ, i :: is => clr (pt ρ i .un) is
theorem lk_eq : ∀ (ρ : List Sl) (i : Nat), lk ρ i ≠ .un → ρ[i]? = some (lk ρ i)
  | [], _, h => absurd rfl h
  | _ :: _, 0, _ => rfl
  | _ :: ρ, i + 1, h => by rw [List.getElem?_cons_succ]; exact lk_eq ρ i h
theorem pt_eq : ∀ (ρ : List Sl) (i : Nat) (s : Sl), pt ρ i s = ρ.set i s
  | [], _, _ => rfl
  | _ :: _, 0, _ => rfl
  | x :: ρ, i + 1, s => by show x :: pt ρ i s = _; rw [pt_eq ρ i s]; rfl
theorem ptM_eq : ∀ (ρ : List C) (i : Nat) (s : C), ptM ρ i s = ρ.set i s
  | [], _, _ => rfl
  | _ :: _, 0, _ => rfl
  | x :: ρ, i + 1, s => by show x :: ptM ρ i s = _; rw [ptM_eq ρ i s]; rfl

/-! ### operators by values -/
def binR (o : Operator) (r1 r2 : Sl) (M : List C) (Q : Z → Prop) : Prop :=
  match o with
  | .Add => match r1, r2 with
    | .val (.int i), .val (.int j) => Q (.s (.val (.int (i + j))))
    | _, _ => match sq M r1, sq M r2 with
      | some (true, xs), some (true, ys) => xs.length + ys.length ≤ 100000 ∧ Q (.n (.lst (xs ++ ys)))
      | some (false, xs), some (false, ys) => xs.length + ys.length ≤ 100000 ∧ Q (.s (.val (.tup (xs ++ ys))))
      | _, _ => False
  | .Sub => match r1, r2 with
    | .val (.int i), .val (.int j) => Q (.s (.val (.int (i - j))))
    | _, _ => False
  | .Mult => match r1, r2 with
    | .val (.int i), .val (.int j) => CMul i j ∧ Q (.s (.val (.int (i * j))))
    | _, .val (.int j) => match sq M r1 with
      | some (true, xs) => (0 ≤ j ∧ j ≤ 1000 ∧ xs.length ≤ 1000) ∧ Q (.n (.lst (List.replicate j.toNat xs).flatten))
      | _ => False
    | _, _ => False
  | .FloorDiv => match r1, r2 with
    | .val (.int i), .val (.int j) => CDiv i j ∧ Q (.s (.val (.int (i / j))))
    | _, _ => False
  | .Mod => match r1, r2 with
    | .val (.int i), .val (.int j) => 0 < j ∧ Q (.s (.val (.int (i % j))))
    | _, _ => False
  | .Pow => match r1, r2 with
    | .val (.int i), .val (.int j) => CPow i j ∧ Q (.s (.val (.int (i ^ j.toNat))))
    | _, _ => False
  | _ => False

mutual
def toPy : D → PyData
  | .non => .none
  | .bl b => .bool b
  | .int i => .int i
  | .str x => .str x
  | .lst xs => .list (toPys xs)
  | .tup xs => .tuple (toPys xs)
  | .dic _ _ => .none
  | .slo _ _ => .none
  | .obj _ _ _ => .none
  | .scr _ => .none
def toPys : List D → List PyData
  | [] => []
  | x :: xs => toPy x :: toPys xs
end
mutual
def plain : Nat → D → Bool
  | _, .non => true
  | _, .bl _ => true
  | _, .int _ => true
  | _, .str x => PyData.strOk x
  | 0, .lst _ => false
  | 0, .tup _ => false
  | n + 1, .lst xs => decide (xs.length ≤ 1000) && plains n xs
  | n + 1, .tup xs => decide (xs.length ≤ 1000) && plains n xs
  | _, .dic _ _ => false
  | _, .slo _ _ => false
  | _, .obj _ _ _ => false
  | _, .scr _ => false
def plains : Nat → List D → Bool
  | _, [] => true
  | n, x :: xs => plain n x && plains n xs
end
def eqD (d d' : D) : Bool := PyData.eqv (toPy d) (toPy d')
def eqR (r1 r2 : Sl) (M : List C) (Q : Bool → Prop) : Prop :=
  match r1, r2 with
  | .val (.int i), .val (.int j) => Q (decide (i = j))
  | .val (.bl i), .val (.bl j) => Q (i == j)
  | .val (.str i), .val (.str j) => Q (decide (i = j))
  | _, _ => match vw M r1, vw M r2 with
    | some d, some d' => (plain 60 d = true ∧ plain 60 d' = true) ∧ Q (eqD d d')
    | _, _ => False
def inR (r1 r2 : Sl) (M : List C) (Q : Bool → Prop) : Prop :=
  match r1 with
  | .val d => match sq M r2 with
    | some (_, ds) => (atomD d = true ∧ ds.all atomD = true) ∧ Q (inD d ds)
    | none => match dq M r2, keyD d with
      | some kvs, some k => Q (getK kvs k).isSome
      | _, _ => False
  | _ => False
def cmpR (o : CmpOp) (r1 r2 : Sl) (M : List C) (Q : Bool → Prop) : Prop :=
  match o with
  | .Lt => match r1, r2 with
    | .val (.int i), .val (.int j) => Q (decide (i < j))
    | _, _ => False
  | .LtE => match r1, r2 with
    | .val (.int i), .val (.int j) => Q (decide (i ≤ j))
    | _, _ => False
  | .Gt => match r1, r2 with
    | .val (.int i), .val (.int j) => Q (decide (j < i))
    | _, _ => False
  | .GtE => match r1, r2 with
    | .val (.int i), .val (.int j) => Q (decide (j ≤ i))
    | _, _ => False
  | .Eq => eqR r1 r2 M Q
  | .NotEq => eqR r1 r2 M fun b => Q (!b)
  | .Is => match r1, r2 with
    | .un, _ => False
    | _, .val .non => Q r1.isNon
    | _, _ => False
  | .IsNot => match r1, r2 with
    | .un, _ => False
    | _, .val .non => Q (!r1.isNon)
    | _, _ => False
  | .In => inR r1 r2 M Q
  | .NotIn => inR r1 r2 M fun b => Q (!b)

/-! ### built-ins by values -/
/-- lo, lo + 1, .., n of them -/
def rng (lo : Int) (n : Nat) : List Int := (List.range n).map fun (i : Nat) => lo + (i : Int)
def rngD (hi : Int) (n : Nat) : List Int := (List.range n).map fun (i : Nat) => hi + (i : Int) * (-1)
def insI (x : Int) : List Int → List Int
  | [] => [x]
  | y :: ys => if x ≤ y then x :: y :: ys else y :: insI x ys
def isort : List Int → List Int
  | [] => []
  | x :: xs => insI x (isort xs)
def insU (x : Int) : List Int → List Int
  | [] => [x]
  | y :: ys => if x < y then x :: y :: ys else if x = y then y :: ys else y :: insU x ys
def sset : List Int → List Int
  | [] => []
  | x :: xs => insU x (sset xs)
def maxL : List Int → Int
  | [] => 0
  | [x] => x
  | x :: y :: r => max x (maxL (y :: r))
def minL : List Int → Int
  | [] => 0
  | [x] => x
  | x :: y :: r => min x (minL (y :: r))
inductive Fb where
  | len | abs | int | tuple | list | sorted | all | any | sum | max | min | sset | lrange
  deriving DecidableEq
def biR (b : Fb) (rs : List Sl) (M : List C) (Q : Z → Prop) : Prop :=
  match b with
  | .len => match rs with
    | [r] => match sq M r with
      | some (_, ds) => Q (.s (.val (.int ds.length)))
      | none => match dq M r with
        | some kvs => Q (.s (.val (.int kvs.length)))
        | none => False
    | _ => False
  | .abs => match rs with
    | [.val (.int i)] => Q (.s (.val (.int (if i < 0 then -i else i))))
    | _ => False
  | .int => match rs with
    | [.val (.int i)] => Q (.s (.val (.int i)))
    | [.val (.bl t)] => Q (.s (.val (.int (if t then 1 else 0))))
    | _ => False
  | .tuple => match rs with
    | [r] => match sq M r with
      | some (_, ds) => Q (.s (.val (.tup ds)))
      | none => False
    | _ => False
  | .list => match rs with
    | [r] => match sq M r with
      | some (_, ds) => Q (.n (.lst ds))
      | none => match dq M r with
        | some kvs => kvs.length ≤ 1000 ∧ Q (.n (.lst (kvs.map fun p => kD p.1)))
        | none => False
    | _ => False
  | .sorted => match rs with
    | [r] => match sq M r with
      | some (true, ds) => ds.all isI = true ∧ Q (.n (.lst ((isort (ds.map intD)).map D.int)))
      | some (false, ds) => False
      | none => match dq M r with
        | some kvs => ((kvs.map fun p => kD p.1).all isI = true ∧ kvs.length < 64) ∧ Q (.n (.lst ((isort (kvs.map fun p => intD (kD p.1))).map D.int)))
        | none => False
    | _ => False
  | .all => match rs with
    | [r] => match sq M r with
      | some (true, ds) => ds.all isB = true ∧ Q (.s (.val (.bl (ds.all blD))))
      | _ => False
    | _ => False
  | .any => match rs with
    | [r] => match sq M r with
      | some (true, ds) => ds.all isB = true ∧ Q (.s (.val (.bl (ds.any blD))))
      | _ => False
    | _ => False
  | .sum => match rs with
    | [r] => match sq M r with
      | some (true, ds) => ds.all isI = true ∧ Q (.s (.val (.int (ds.map intD).sum)))
      | _ => False
    | _ => False
  | .max => match rs with
    | [.val (.int i), .val (.int j)] => Q (.s (.val (.int (Max.max i j))))
    | [r] => match sq M r with
      | some (true, ds) => (ds.all isI = true ∧ 0 < ds.length) ∧ Q (.s (.val (.int (maxL (ds.map intD)))))
      | _ => False
    | _ => False
  | .min => match rs with
    | [.val (.int i), .val (.int j)] => Q (.s (.val (.int (Min.min i j))))
    | [r] => match sq M r with
      | some (true, ds) => (ds.all isI = true ∧ 0 < ds.length) ∧ Q (.s (.val (.int (minL (ds.map intD)))))
      | _ => False
    | _ => False
  | .sset => match rs with
    | [r] => match sq M r with
      | some (_, ds) => (ds.all isI = true ∧ ds.length < 64) ∧ Q (.n (.lst ((sset (ds.map intD)).map D.int)))
      | none => False
    | _ => False
  | .lrange => match rs with
    | [.val (.int i)] => (-100000 ≤ i ∧ i ≤ 100000) ∧ Q (.n (.lst ((rng 0 i.toNat).map D.int)))
    | [.val (.int i), .val (.int j)] => (-100000 ≤ i ∧ i ≤ 100000 ∧ -100000 ≤ j ∧ j ≤ 100000) ∧ Q (.n (.lst ((rng i (j - i).toNat).map D.int)))
    | _ => False
/-- x[i] -/
def ixR (r1 r2 : Sl) (M : List C) (Q : Sl → Prop) : Prop :=
  match r2 with
  | .val d => match sq M r1 with
    | some (_, ds) => match d with
      | .int i => match atI ds i with
        | some x => Q (.val x)
        | none => False
      | _ => False
    | none => match keyD d with
      | none => False
      | some k => match r1 with
        | .own j => match lkM M j with
          | some (.dic kvs) => match getK kvs k with
            | some x => Q (.val x)
            | none => False
          | some (.mdc kvs) => match getK kvs k with
            | some x => Q x
            | none => False
          | some (.mls xs) => match d with
            | .int i => match atI xs i with
              | some x => Q x
              | none => False
            | _ => False
          | _ => False
        | .val (.dic ks vs) => match getK (ks.zip vs) k with
          | some x => Q (.val x)
          | none => False
        | _ => False
  | _ => False
def cutL {α : Type} (xs : List α) (lo hi : Option Int) : List α := (xs.drop (HT.sIx xs.length 0 lo)).take (HT.sIx xs.length xs.length hi - HT.sIx xs.length 0 lo)
/-- isinstance -/
def kindD : D → String
  | .non => "NoneType"
  | .bl _ => "bool"
  | .int _ => "int"
  | .str _ => "str"
  | .lst _ => "list"
  | .tup _ => "tuple"
  | .dic _ _ => "dict"
  | _ => "?"
def isA (k t : String) : Bool := (k == t) || (k == "bool" && t == "int")

/-! ### the short syntax -/
mutual
inductive E where
  | v (i : Nat)
  | k (d : D)
  | g (x : Str) (d : D)
  | bin (o : Operator) (a b : E)
  | neg (a : E)
  | cmp (o : CmpOp) (a b : E)
  | cmp2 (o o' : CmpOp) (a b c : E)
  | not (a : E)
  | and (a b : E)
  | or (a b : E)
  | ife (t : Te) (a b : E)
  | tup (as : Es)
  | lst (as : Es)
  | dct (ps : Es)
  | orl (a b : E)
  | bad
  | ix (a i : E)
  | cut (a : E) (lo hi : Eo)
  | rev (a : E)
  | fld (a : E) (f : Str)
  | bi (b : Fb) (as : Es)
  | isi (a : E) (ts : List String)
  | lenO (a : E)
  | call (x : Str) (as : Es)
  | callk (x : Str) (ks : List Str) (as : Es)
  | meth (a : E) (m : Str) (as : Es)
  | make (x : Str) (as : Es)
  | mt (a : E) (m : Mth) (as : Es)
  | lc (gs : Gs) (own : List Nat)
  | dc (gs : Gs) (own : List Nat)
  | own (a : E)
  | lend (a : E)
inductive Es where
  | nil | cons (e : E) (es : Es) | star (e : E) (es : Es)
inductive Eo where
  | none | some (e : E)
inductive It where
  | e (a : E) | r1 (a : E) | r2 (a b : E) | rd (a b : E) | en (a : E) | zp (a b : E) | items (a : E) | vals (a : E)
inductive Gs where
  | last (tg : Tg) (it : It) (ifs : Tl) (elt : E)
  | dlast (tg : Tg) (it : It) (ifs : Tl) (ke ve : E)
  | cons (tg : Tg) (it : It) (ifs : Tl) (gs : Gs)
inductive Te where
  | e (a : E) | not (t : Te) | and (t u : Te) | or (t u : Te) | cmp (o : CmpOp) (a b : E)
inductive Tl where
  | nil | one (t : Te)
inductive Tg where
  | n (i : Nat) | t (is : List Nat)
inductive Mth where
  | append | extend | pop | remove | get1 | get2 | update
end
def Gs.ix1 : Gs → List Nat
  | .last (.n i) _ _ _ => [i]
  | .last (.t is) _ _ _ => is
  | .dlast (.n i) _ _ _ _ => [i]
  | .dlast (.t is) _ _ _ _ => is
  | .cons (.n i) _ _ _ => [i]
  | .cons (.t is) _ _ _ => is
def pairsR : List Sl → Option (List (Key × Sl))
  | [] => some []
  | .val d :: s :: rs => match keyD d, pairsR rs with
    | some k, some kvs => some ((k, s) :: kvs)
    | _, _ => none
  | _ => none
def valsK : List (Key × Sl) → Option (List (Key × D))
  | [] => some []
  | (k, .val d) :: r => match valsK r with
    | some kvs => some ((k, d) :: kvs)
    | none => none
  | _ => none
def mergeD {α : Type} (acc : List (Key × α)) (kvs : List (Key × α)) : List (Key × α) := kvs.foldl (fun a p => putD a p.1 p.2) acc
/-- a dict display -/
def kvC (kvs : List (Key × Sl)) : C :=
  match valsK kvs with
  | some l => .dic (mergeD [] l)
  | none => .mdc (mergeD [] kvs)
def bindT (tg : Tg) (d : D) (ρ : List Sl) (Q : List Sl → Prop) : Prop :=
  match tg with
  | .n i => Q (pt ρ i (.val d))
  | .t [i, j] => match d with
    | .tup [x, y] => Q (pt (pt ρ i (.val x)) j (.val y))
    | _ => False
  | .t _ => False
/-- methods of lists and dicts; Q of the result and the cells -/
def mtR (m : Mth) (r : Sl) (rs : List Sl) (M : List C) (Q : Z → List C → Prop) : Prop :=
  match m with
  | .append => match r, rs with
    | .own k, [.val d] => match lkM M k with
      | some (.lst ds) => ds.length < 100000 ∧ Q (.s (.val .non)) (ptM M k (.lst (ds ++ [d])))
      | _ => False
    | _, _ => False
  | .extend => match r, rs with
    | .own k, [s] => match lkM M k, sq M s with
      | some (.lst ds), some (true, xs) => ds.length + xs.length < 100000 ∧ Q (.s (.val .non)) (ptM M k (.lst (ds ++ xs)))
      | _, _ => False
    | _, _ => False
  | .pop => match r, rs with
    | .own k, [] => match lkM M k with
      | some (.lst ds) => ∃ xs d, ds = xs ++ [d] ∧ Q (.s (.val d)) (ptM M k (.lst xs))
      | _ => False
    | _, _ => False
  | .remove => match r, rs with
    | .own k, [.val (.int i)] => match lkM M k with
      | some (.lst ds) => (ds.all isI = true ∧ i ∈ ds.map intD) ∧ Q (.s (.val .non)) (ptM M k (.lst (((ds.map intD).erase i).map D.int)))
      | _ => False
    | _, _ => False
  | .get1 => match r, rs with
    | r, [.val d] => match dq M r, keyD d with
      | some kvs, some kk => match getK kvs kk with
        | some x => Q (.s (.val x)) M
        | none => Q (.s (.val .non)) M
      | _, _ => False
    | _, _ => False
  | .get2 => match r, rs with
    | r, [.val d, s] => match dq M r, keyD d with
      | some kvs, some kk => match getK kvs kk with
        | some x => Q (.s (.val x)) M
        | none => s ≠ .un ∧ Q (.s s) M
      | _, _ => False
    | _, _ => False
  | _ => False
def Mth.isL : Mth → Bool
  | .append => true
  | .extend => true
  | .pop => true
  | .remove => true
  | _ => false
/-- of which kind the receiver is -/
def mtOk (m : Mth) (r : Sl) (M : List C) : Bool :=
  match r with
  | .own k => match lkM M k with
    | some (.lst _) => m.isL
    | some (.mls _) => m.isL
    | some (.dic _) => !m.isL
    | some (.mdc _) => !m.isL
    | _ => false
  | .val (.dic _ _) => !m.isL
  | _ => false
/-- a comprehension over the items ds -/
def lcW (f : D → List C → (List D → List C → Prop) → Prop) (ok : List C → Prop) : List D → List D → List C → (List D → List C → Prop) → Prop
  | [], acc, M, Q => Q acc M
  | d :: ds, acc, M, Q => f d M fun out M' => ok M' ∧ lcW f ok ds (acc ++ out) M' Q
def dcW (f : D → List C → (List (Key × D) → List C → Prop) → Prop) (ok : List C → Prop) : List D → List (Key × D) → List C → (List (Key × D) → List C → Prop) → Prop
  | [], acc, M, Q => Q acc M
  | d :: ds, acc, M, Q => f d M fun out M' => ok M' ∧ dcW f ok ds (out.foldl (fun a p => putD a p.1 p.2) acc) M' Q
def lendS (M : List C) : Sl → Sl
  | .own k => match lkM M k with
    | some c => match c.frz with
      | some d => .val d
      | none => .un
    | none => .un
  | s => s
def lendR (z : Z) (M : List C) (Q : Z → List C → Prop) : Prop :=
  match z with
  | .s (.val d) => flatD d = true ∧ Q (.s (.val d)) M
  | .n (.lst ds) => flatDs ds = true ∧ Q (.n (.lst ds)) M
  | _ => False
/-! ### attributes, methods, making, by facts of the text -/
inductive FldS (g : Gx) (M : List C) (f : Str) (Q : Sl → Prop) : Sl → Prop
  | slo {Cl p : Addr} {i : Nat} {ds : List D} {d : D} (cl : SlX.SCls g.K Cl) (t : SlX.Slot1 g.K Cl f p i) (hd : ds[i]? = some d) (q : Q (.val d)) : FldS g M f Q (.val (.slo Cl ds))
  | sob {Cl p : Addr} {i j k : Nat} {vs : List Sl} {r : Sl} (h : lkM M k = some (.sob Cl j vs)) (hj : lkM M j = some .dxx) (cl : SlX.SCls g.K Cl) (t : SlX.Slot1 g.K Cl f p i) (hd : vs[i]? = some r) (hu : r ≠ .un) (q : Q r) : FldS g M f Q (.own k)
def putSl (i : Nat) (r : Sl) (vs : List Sl) : List Sl := (vs ++ List.replicate (i + 1 - vs.length) Sl.un).set i r
/-- x.f = r -/
inductive SetS (g : Gx) (M : List C) (f : Str) (r : Sl) (Q : List C → Prop) : Sl → Prop
  | sob0 {Cl p : Addr} {i j k : Nat} (h : lkM M k = some (.sob0 Cl j)) (cl : SlX.SCls g.K Cl) (t : SlX.Slot1 g.K Cl f p i) (hkj : k ≠ j) (q : Q (ptM (ptM M j .dxx) k (.sob Cl j (putSl i r [])))) : SetS g M f r Q (.own k)
  | sob {Cl p : Addr} {i j k : Nat} {vs : List Sl} (h : lkM M k = some (.sob Cl j vs)) (hj : lkM M j = some .dxx) (cl : SlX.SCls g.K Cl) (t : SlX.Slot1 g.K Cl f p i) (hkj : k ≠ j) (q : Q (ptM (ptM M j .dxx) k (.sob Cl j (putSl i r vs)))) : SetS g M f r Q (.own k)
/-- a method of a slotted class -/
structure DefM (g : Gx) (Cl : Addr) (m : Str) (k : Nat) (sp : Sp) : Prop where
  cl : SlX.SCls g.K Cl
  ok : ∃ f : Addr, Meth g.K Cl m f ∧ FnR g.P g.w g.K g.mg g.base CX0 k f sp
/-- the class of a receiver, which has the method -/
inductive HasM (g : Gx) (m : Str) (M : List C) : Sl → Addr → Prop
  | slo {Cl : Addr} {ds : List D} {f : Addr} (cl : SlX.SCls g.K Cl) (h : Meth g.K Cl m f) : HasM g m M (.val (.slo Cl ds)) Cl
  | sob {Cl : Addr} {j k : Nat} {vs : List Sl} {f : Addr} (hk : lkM M k = some (.sob Cl j vs)) (hj : lkM M j = some .dxx) (cl : SlX.SCls g.K Cl) (h : Meth g.K Cl m f) : HasM g m M (.own k) Cl
theorem DefM.has {g : Gx} {Cl : Addr} {m : Str} {k : Nat} {sp : Sp} {M : List C} (h : DefM g Cl m k sp) {ds : List D} : HasM g m M (.val (.slo Cl ds)) Cl := let ⟨_, a, _⟩ := h.ok; .slo h.cl a
theorem DefM.hasO {g : Gx} {Cl : Addr} {m : Str} {k : Nat} {sp : Sp} {M : List C} (h : DefM g Cl m k sp) {j n : Nat} {vs : List Sl} (hk : lkM M n = some (.sob Cl j vs)) (hj : lkM M j = some .dxx) : HasM g m M (.own n) Cl := let ⟨_, a, _⟩ := h.ok; .sob hk hj h.cl a
def MethZ (g : Gx) (Cl : Addr) (m : Str) (rs : List Sl) (M : List C) (Q : Z → List C → Prop) : Prop := ∃ k sp, DefM g Cl m k sp ∧ k ≤ g.k ∧ SpS g sp rs M (zq M.length Q)
/-- len by an own __len__ -/
structure DefL (g : Gx) (C : Addr) (k : Nat) (sp : Sp) : Prop where
  ok : ∃ f : Addr, PySem.W.findIn g.K (.ref C) "__len__" = some (some (.ref f)) ∧ PySem.W.isFn g.K (.ref f) = true ∧ FnR g.P g.w g.K g.mg g.base CX0 k f sp
def LenZ (g : Gx) (r : Sl) (M : List C) (Q : Z → List C → Prop) : Prop := ∃ Cl ds k sp, r = .val (.slo Cl ds) ∧ DefL g Cl k sp ∧ k + 1 ≤ g.k ∧ SpS g sp [r] M fun r' M' => ∃ i : Int, r' = .val (.int i) ∧ 0 ≤ i ∧ i < 2 ^ 63 ∧ M' = M ∧ Q (.s (.val (.int i))) M
def HasC (g : Gx) (x : Str) : Prop := ∃ C f, g.mg x = some (.ref C) ∧ Mk g.K C f
/-- a class and its __init__ -/
structure DefI (g : Gx) (x : Str) (C : Addr) (k : Nat) (sp : Sp) : Prop where
  ok : ∃ f : Addr, g.mg x = some (.ref C) ∧ Mk g.K C f ∧ FnR g.P g.w g.K g.mg g.base CX0 k f sp
theorem DefI.has {g : Gx} {x : Str} {C : Addr} {k : Nat} {sp : Sp} (h : DefI g x C k sp) : HasC g x := let ⟨f, a, b, _⟩ := h.ok; ⟨C, f, a, b⟩
def MakeZ (g : Gx) (x : Str) (rs : List Sl) (M : List C) (Q : Z → List C → Prop) : Prop := ∃ C k sp, DefI g x C k sp ∧ k + 1 ≤ g.k ∧ ∀ F As H vs, HM g.K F As M H → SlRs g.K F As rs vs → ∀ G, Aft g.K F As (zq M.length Q) G → ∀ a dx, H a = none → H dx = none → dx ≠ a → frSp sp (.ref a :: vs) (upd (upd H dx (.own a)) a (.ins C dx [])) (fun v H' => v = .non ∧ G (.ref a) H') E0
def GlobS (g : Gx) (x : Str) (d : D) : Prop := ∃ u, g.mg x = some u ∧ ∀ F, ∃ v, RelV v u ∧ DV g.K F d v
mutual
def wpR (g : Gx) : E → List Sl → List C → (Z → List C → Prop) → Prop
  | .v i, ρ, M, Q => match lk ρ i with
    | .val d => Q (.s (.val d)) M
    | .own k => Q (.s (.own k)) M
    | .un => False
  | .k d, _, M, Q => Q (.s (.val d)) M
  | .g x d, _, M, Q => GlobS g x d ∧ Q (.s (.val d)) M
  | .bin o a b, ρ, M, Q => wpR g a ρ M fun z M1 => z.fz M1 fun r1 M1 => wpR g b ρ M1 fun z M2 => z.fz M2 fun r2 M2 => binR o r1 r2 M2 fun z => Q z M2
  | .neg a, ρ, M, Q => wpR g a ρ M fun z M1 => z.fz M1 fun r M1 => match r with
    | .val (.int i) => Q (.s (.val (.int (-i)))) M1
    | _ => False
  | .cmp o a b, ρ, M, Q => wpR g a ρ M fun z M1 => z.fz M1 fun r1 M1 => wpR g b ρ M1 fun z M2 => z.fz M2 fun r2 M2 => cmpR o r1 r2 M2 fun t => Q (.s (.val (.bl t))) M2
  | .cmp2 o o' a b c, ρ, M, Q => wpR g a ρ M fun z M1 => z.fz M1 fun r1 M1 => wpR g b ρ M1 fun z M2 => z.fz M2 fun r2 M2 => cmpR o r1 r2 M2 fun t =>
      (t = true → wpR g c ρ M2 fun z M3 => z.fz M3 fun r3 M3 => cmpR o' r2 r3 M3 fun t => Q (.s (.val (.bl t))) M3) ∧ (t = false → Q (.s (.val (.bl false))) M2)
  | .not a, ρ, M, Q => wpR g a ρ M fun z M1 => z.fz M1 fun r M1 => match r with
    | .val (.bl t) => Q (.s (.val (.bl (!t)))) M1
    | _ => False
  | .and a b, ρ, M, Q => wpR g a ρ M fun z M1 => z.fz M1 fun r M1 => match r with
    | .val (.bl t) => (t = true → wpR g b ρ M1 Q) ∧ (t = false → Q (.s (.val (.bl false))) M1)
    | _ => False
  | .or a b, ρ, M, Q => wpR g a ρ M fun z M1 => z.fz M1 fun r M1 => match r with
    | .val (.bl t) => (t = false → wpR g b ρ M1 Q) ∧ (t = true → Q (.s (.val (.bl true))) M1)
    | _ => False
  | .ife t a b, ρ, M, Q => wpT g t ρ M fun t M1 => (t = true → wpR g a ρ M1 Q) ∧ (t = false → wpR g b ρ M1 Q)
  | .tup as, ρ, M, Q => wpA g as ρ M fun rs M1 => ∃ ds : List D, rs = ds.map .val ∧ ds.length ≤ 100000 ∧ Q (.s (.val (.tup ds))) M1
  | .lst as, ρ, M, Q => wpA g as ρ M fun rs M1 => ∃ ds : List D, rs = ds.map .val ∧ ds.length ≤ 100000 ∧ Q (.n (.lst ds)) M1
  | .dct ps, ρ, M, Q => wpA g ps ρ M fun rs M1 => ∃ kvs, pairsR rs = some kvs ∧ kvs.length ≤ 15 ∧ Q (.n (kvC kvs)) M1
  | .orl a b, ρ, M, Q => wpR g a ρ M fun z M1 => match z with
    | .n (.lst (d :: ds)) => Q (.n (.lst (d :: ds))) M1
    | .n (.lst []) => wpR g b ρ M1 Q
    | _ => False
  | .bad, _, _, _ => False
  | .ix a i, ρ, M, Q => wpR g a ρ M fun z M1 => z.fz M1 fun r1 M1 => wpR g i ρ M1 fun z M2 => z.fz M2 fun r2 M2 => ixR r1 r2 M2 fun r => Q (.s r) M2
  | .cut a lo hi, ρ, M, Q => wpR g a ρ M fun z M1 => z.fz M1 fun r M1 => wpO g lo ρ M1 fun lo M2 => wpO g hi ρ M2 fun hi M3 => match sq M3 r with
    | some (true, ds) => Q (.n (.lst (cutL ds lo hi))) M3
    | some (false, ds) => Q (.s (.val (.tup (cutL ds lo hi)))) M3
    | none => match r with
      | .val (.scr ns) => Q (.n (.lst ((cutL ns lo hi).map D.int))) M3
      | _ => False
  | .rev a, ρ, M, Q => wpR g a ρ M fun z M1 => z.fz M1 fun r M1 => match sq M1 r with
    | some (true, ds) => Q (.n (.lst ds.reverse)) M1
    | _ => False
  | .fld a f, ρ, M, Q => wpR g a ρ M fun z M1 => z.fz M1 fun r M1 => FldS g M1 f (fun r => Q (.s r) M1) r
  | .bi b as, ρ, M, Q => wpA g as ρ M fun rs M1 => biR b rs M1 fun z => Q z M1
  | .isi a ts, ρ, M, Q => wpR g a ρ M fun z M1 => z.fz M1 fun r M1 => match vw M1 r with
    | some d => kindD d ≠ "?" ∧ Q (.s (.val (.bl (ts.any fun t => isA (kindD d) t)))) M1
    | none => False
  | .lenO a, ρ, M, Q => wpR g a ρ M fun z M1 => z.fz M1 fun r M1 => LenZ g r M1 Q
  | .call x as, ρ, M, Q => HasD g x ∧ wpA g as ρ M fun rs M1 => CallZ g x rs M1 Q
  | .callk x ks as, ρ, M, Q => HasD g x ∧ wpA g as ρ M fun rs M1 => CallK g x ks rs M1 Q
  | .meth a m as, ρ, M, Q => wpR g a ρ M fun z M1 => z.fz M1 fun r M1 => ∃ Cl, HasM g m M1 r Cl ∧ wpA g as ρ M1 fun rs M2 => MethZ g Cl m (r :: rs) M2 Q
  | .make x as, ρ, M, Q => HasC g x ∧ wpA g as ρ M fun rs M1 => MakeZ g x rs M1 Q
  | .mt a m as, ρ, M, Q => wpR g a ρ M fun z M1 => z.fz M1 fun r M1 => mtOk m r M1 = true ∧ wpA g as ρ M1 fun rs M2 => mtR m r rs M2 Q
  | .lc gs own, ρ, M, Q => wpG g gs (clr ρ own) M fun out M1 => Q (.n (.lst out)) M1
  | .dc gs own, ρ, M, Q => wpD g gs (clr ρ own) M fun out M1 => Q (.n (.dic out)) M1
  | .own a, ρ, M, Q => wpR g a ρ M fun z M1 => match z with
    | .n c => Q (.s (.own M1.length)) (M1 ++ [c])
    | .s _ => False
  | .lend a, ρ, M, Q => wpR g a (ρ.map (lendS M)) [] fun z _ => lendR z M Q
def wpT (g : Gx) : Te → List Sl → List C → (Bool → List C → Prop) → Prop
  | .not a, ρ, M, Q => wpT g a ρ M fun t M1 => Q (!t) M1
  | .and a b, ρ, M, Q => wpT g a ρ M fun t M1 => (t = true → wpT g b ρ M1 Q) ∧ (t = false → Q false M1)
  | .or a b, ρ, M, Q => wpT g a ρ M fun t M1 => (t = false → wpT g b ρ M1 Q) ∧ (t = true → Q true M1)
  | .cmp o a b, ρ, M, Q => wpR g a ρ M fun z M1 => z.fz M1 fun r1 M1 => wpR g b ρ M1 fun z M2 => z.fz M2 fun r2 M2 => cmpR o r1 r2 M2 fun t => Q t M2
  | .e a, ρ, M, Q => wpR g a ρ M fun z M1 => z.fz M1 fun r M1 => match r with
    | .val (.bl t) => Q t M1
    | _ => False
def wpA (g : Gx) : Es → List Sl → List C → (List Sl → List C → Prop) → Prop
  | .nil, _, M, Q => Q [] M
  | .cons e es, ρ, M, Q => wpR g e ρ M fun z M1 => z.fz M1 fun r M1 => wpA g es ρ M1 fun rs M2 => Q (r :: rs) M2
  | .star e es, ρ, M, Q => wpR g e ρ M fun z M1 => z.fz M1 fun r M1 => match sq M1 r with
    | some (_, ds) => wpA g es ρ M1 fun rs M2 => Q (ds.map .val ++ rs) M2
    | none => False
def wpO (g : Gx) : Eo → List Sl → List C → (Option Int → List C → Prop) → Prop
  | .none, _, M, Q => Q none M
  | .some e, ρ, M, Q => wpR g e ρ M fun z M1 => z.fz M1 fun r M1 => match r with
    | .val (.int i) => Q (some i) M1
    | _ => False
/-- what is walked: the items, and the cells that must stay meanwhile -/
def wpI (g : Gx) : It → List Sl → List C → (List D → List Nat → List C → Prop) → Prop
  | .e a, ρ, M, Q => wpR g a ρ M fun z M1 => z.fz M1 fun r M1 => match sq M1 r with
    | some (_, ds) => Q ds r.refs M1
    | none => False
  | .r1 a, ρ, M, Q => wpR g a ρ M fun z M1 => z.fz M1 fun r M1 => match r with
    | .val (.int i) => (-100000 ≤ i ∧ i ≤ 100000) ∧ Q ((rng 0 i.toNat).map D.int) [] M1
    | _ => False
  | .r2 a b, ρ, M, Q => wpR g a ρ M fun z M1 => z.fz M1 fun r1 M1 => wpR g b ρ M1 fun z M2 => z.fz M2 fun r2 M2 => match r1, r2 with
    | .val (.int i), .val (.int j) => (-100000 ≤ i ∧ i ≤ 100000 ∧ -100000 ≤ j ∧ j ≤ 100000) ∧ Q ((rng i (j - i).toNat).map D.int) [] M2
    | _, _ => False
  | .rd a b, ρ, M, Q => wpR g a ρ M fun z M1 => z.fz M1 fun r1 M1 => wpR g b ρ M1 fun z M2 => z.fz M2 fun r2 M2 => match r1, r2 with
    | .val (.int i), .val (.int j) => (-100000 ≤ i ∧ i ≤ 100000 ∧ -100000 ≤ j ∧ j ≤ 100000) ∧ Q ((rngD i (i - j).toNat).map D.int) [] M2
    | _, _ => False
  | .en a, ρ, M, Q => wpR g a ρ M fun z M1 => z.fz M1 fun r M1 => match sq M1 r with
    | some (true, ds) => Q ((List.range ds.length).map fun (i : Nat) => .tup [.int i, ds.getD i .non]) r.refs M1
    | _ => False
  | .zp a b, ρ, M, Q => wpR g a ρ M fun z M1 => z.fz M1 fun r1 M1 => wpR g b ρ M1 fun z M2 => z.fz M2 fun r2 M2 => match sq M2 r1, sq M2 r2 with
    | some (true, xs), some (true, ys) => Q ((List.range (min xs.length ys.length)).map fun (i : Nat) => .tup [xs.getD i .non, ys.getD i .non]) (r1.refs ++ r2.refs) M2
    | some (false, xs), some (false, ys) => Q ((List.range (min xs.length ys.length)).map fun (i : Nat) => .tup [xs.getD i .non, ys.getD i .non]) [] M2
    | _, _ => False
  | .items a, ρ, M, Q => False
  | .vals a, ρ, M, Q => False
def wpG (g : Gx) : Gs → List Sl → List C → (List D → List C → Prop) → Prop
  | .last tg it ifs elt, ρ, M, Q => wpI g it ρ M fun ds ks M1 => ds.length ≤ 100000 ∧
      lcW (fun d M' k => bindT tg d ρ fun ρ2 => wpTs g ifs ρ2 M' fun t M2 => (t = true → wpR g elt ρ2 M2 fun z M3 => z.fz M3 fun r M3 => match r with
        | .val y => k [y] M3
        | _ => False) ∧ (t = false → k [] M2)) (fun M' => M'.length = M1.length ∧ ∀ k ∈ ks, lkM M' k = lkM M1 k) ds [] M1 Q
  | .dlast _ _ _ _ _, _, _, _ => False
  | .cons tg it ifs gs, ρ, M, Q => wpI g it ρ M fun ds ks M1 => ds.length ≤ 1000 ∧
      lcW (fun d M' k => bindT tg d ρ fun ρ2 => wpTs g ifs ρ2 M' fun t M2 => (t = true → wpG g gs (clr ρ2 gs.ix1) M2 fun out M3 => out.length ≤ 1000 ∧ k out M3) ∧ (t = false → k [] M2)) (fun M' => M'.length = M1.length ∧ ∀ k ∈ ks, lkM M' k = lkM M1 k) ds [] M1 Q
def wpD (g : Gx) : Gs → List Sl → List C → (List (Key × D) → List C → Prop) → Prop
  | .dlast tg it ifs ke ve, ρ, M, Q => wpI g it ρ M fun ds ks M1 => ds.length ≤ 100000 ∧
      dcW (fun d M' k => bindT tg d ρ fun ρ2 => wpTs g ifs ρ2 M' fun t M2 => (t = true → wpR g ke ρ2 M2 fun z M3 => z.fz M3 fun r1 M3 => wpR g ve ρ2 M3 fun z M4 => z.fz M4 fun r2 M4 => match r1, r2 with
        | .val x, .val y => match keyD x with
          | some kk => k [(kk, y)] M4
          | none => False
        | _, _ => False) ∧ (t = false → k [] M2)) (fun M' => M'.length = M1.length ∧ ∀ k ∈ ks, lkM M' k = lkM M1 k) ds [] M1 Q
  | _, _, _, _ => False
def wpTs (g : Gx) : Tl → List Sl → List C → (Bool → List C → Prop) → Prop
  | .nil, _, M, Q => Q true M
  | .one e, ρ, M, Q => wpT g e ρ M Q
end
end Dl

/-! X3: statements -/
namespace Dl
open PySem L2
mutual
inductive S where
  | asg (i : Nat) (e : E)
  | par (is : List Nat) (as : Es)
  | tgt (tg : Tg) (e : E)
  | setix (o i e : E)
  | setfld (o : E) (f : Str) (e : E)
  | aug (i : Nat) (o : Operator) (e : E)
  | ite (t : Te) (a b : Ss)
  | for (tg : Tg) (it : It) (b : Ss) (dead : List Nat)
  | while (t : Te) (b : Ss) (dead : List Nat)
  | ret (e : E)
  | ex (e : E)
  | pass
  | bad
inductive Ss where
  | nil | cons (s : S) (ss : Ss)
end
/-- slots that refer to dropped cells are forgotten -/
def Sl.trim (n : Nat) : Sl → Sl
  | .own k => if k < n then .own k else .un
  | s => s
def closedC (n : Nat) (c : C) : Prop := ∀ k ∈ c.refs, k < n
/-- back to the first n cells -/
def trimW (n : Nat) (dead : List Nat) (Q : List Sl → List C → Prop) (ρ : List Sl) (M : List C) : Prop := n ≤ M.length ∧ (∀ c ∈ M.take n, closedC n c) ∧ Q ((clr ρ dead).map (Sl.trim n)) (M.take n)
def forW (body : D → List Sl → List C → DE → Prop) (tr : (List Sl → List C → Prop) → List Sl → List C → Prop) (ok : List C → Prop) : List D → List Sl → List C → DE → Prop
  | [], ρ, M, Q => Q.nx ρ M
  | d :: ds, ρ, M, Q => body d ρ M { nx := tr fun ρ' M' => ok M' ∧ forW body tr ok ds ρ' M' Q, ct := tr fun ρ' M' => ok M' ∧ forW body tr ok ds ρ' M' Q, bk := Q.nx, rt := Q.rt }
def whileW (test : List Sl → List C → (Bool → List C → Prop) → Prop) (body : List Sl → List C → DE → Prop) (tr : (List Sl → List C → Prop) → List Sl → List C → Prop) (Q : DE) : Nat → List Sl → List C → Prop
  | 0, _, _ => False
  | n + 1, ρ, M => test ρ M fun t M1 => (t = true → body ρ M1 { nx := tr fun ρ' M' => whileW test body tr Q n ρ' M', ct := tr fun ρ' M' => whileW test body tr Q n ρ' M', bk := Q.nx, rt := Q.rt }) ∧ (t = false → Q.nx ρ M1)
def setR (r1 r2 : Sl) (d : Sl) (M : List C) (Q : List C → Prop) : Prop :=
  match r1 with
  | .own k => match r2 with
    | .val x => match lkM M k with
      | some (.lst ds) => match x, d with
        | .int i, .val y => match ixN ds.length i with
          | some n => Q (ptM M k (.lst (ds.set n y)))
          | none => False
        | _, _ => False
      | some (.dic kvs) => match keyD x, d with
        | some kk, .val y => kvs.length < 100000 ∧ Q (ptM M k (.dic (putD kvs kk y)))
        | _, _ => False
      | some (.mdc kvs) => match keyD x with
        | some kk => (kvs.length < 100000 ∧ d ≠ .un) ∧ Q (ptM M k (.mdc (putD kvs kk d)))
        | none => False
      | _ => False
    | _ => False
  | _ => False
def pts : List Sl → List Nat → List Sl → List Sl
  | ρ, i :: is, r :: rs => pts (pt ρ i r) is rs
  | ρ, _, _ => ρ
mutual
def wpS (g : Gx) : S → List Sl → List C → DE → Prop
  | .asg i e, ρ, M, Q => wpR g e ρ M fun z M1 => z.fz M1 fun r M1 => Q.nx (pt ρ i r) M1
  | .par is as, ρ, M, Q => wpA g as ρ M fun rs M1 => rs.length = is.length ∧ Q.nx (pts ρ is rs) M1
  | .tgt tg e, ρ, M, Q => wpR g e ρ M fun z M1 => z.fz M1 fun r M1 => match r with
    | .val d => bindT tg d ρ fun ρ' => Q.nx ρ' M1
    | _ => False
  | .setix o i e, ρ, M, Q => wpR g e ρ M fun z M1 => z.fz M1 fun r M1 => wpR g o ρ M1 fun z M2 => z.fz M2 fun r1 M2 => wpR g i ρ M2 fun z M3 => z.fz M3 fun r2 M3 => setR r1 r2 r M3 fun M4 => Q.nx ρ M4
  | .setfld o f e, ρ, M, Q => wpR g e ρ M fun z M1 => z.fz M1 fun r M1 => wpR g o ρ M1 fun z M2 => z.fz M2 fun r1 M2 => r ≠ .un ∧ SetS g M2 f r (fun M3 => Q.nx ρ M3) r1
  | .aug i o e, ρ, M, Q => match lk ρ i with
    | .val (.int x) => wpR g e ρ M fun z M1 => z.fz M1 fun r M1 => binR o (.val (.int x)) r M1 fun z => z.fz M1 fun r M1 => Q.nx (pt ρ i r) M1
    | _ => False
  | .ite t a b, ρ, M, Q => wpT g t ρ M fun t M1 => (t = true → wpSs g a ρ M1 Q) ∧ (t = false → wpSs g b ρ M1 Q)
  | .for tg it b dead, ρ, M, Q => wpI g it ρ M fun ds ks M1 => forW (fun d ρ M Q => bindT tg d ρ fun ρ' => wpSs g b ρ' M Q) (trimW M1.length dead) (fun M' => ∀ k ∈ ks, lkM M' k = lkM M1 k) ds ((clr ρ dead).map (Sl.trim M1.length)) M1 Q
  | .while t b dead, ρ, M, Q => ∃ n, whileW (wpT g t) (wpSs g b) (trimW M.length dead) Q n ((clr ρ dead).map (Sl.trim M.length)) M
  | .ret e, ρ, M, Q => wpR g e ρ M Q.rt
  | .ex e, ρ, M, Q => wpR g e ρ M fun z M1 => z.fz M1 fun _ M1 => Q.nx ρ M1
  | .pass, ρ, M, Q => Q.nx ρ M
  | .bad, _, _, _ => False
def wpSs (g : Gx) : Ss → List Sl → List C → DE → Prop
  | .nil, ρ, M, Q => Q.nx ρ M
  | .cons s ss, ρ, M, Q => wpS g s ρ M { Q with nx := fun ρ' M' => wpSs g ss ρ' M' Q }
end
end Dl

/-! X4: the short syntax is sound: expressions -/
namespace Dl
open PySem L2
section
variable {K : PySem.W.Frag} {F F1 : Hp} {As As1 : List Addr} {M : List C} {H : Hp} {G : VK} {n m : Nat} {Q : Z → List C → Prop} {Q0 : Sl → List C → Prop} {v : V}
theorem Aft.mono (k : Aft K F As Q0 G) (s : Same F F1) (p : As <+: As1) : Aft K F1 As1 Q0 G := fun v F' As' H' r M' s' p' => k v F' As' H' r M' (s.trans s') (p.trans p')
theorem zq.mono {r : Sl} {M' : List C} (h : zq n Q r M') (hn : m ≤ n) : zq m Q r M' := let ⟨z, M1, a, b, c⟩ := h; ⟨z, M1, a, Nat.le_trans hn b, c⟩
theorem Aft.less (k : Aft K F As (zq m Q) G) (hn : m ≤ n) : Aft K F As (zq n Q) G := fun v F' As' H' r M' s p a b c => k v F' As' H' r M' s p a b (c.mono hn)
theorem fin_s {r : Sl} (k : Aft K F As (zq n Q) G) (hm : HM K F As M H) (hn : n ≤ M.length) (dv : SlR K F As r v) (q : Q (.s r) M) : G v H :=
  k v F As H r M (Same.refl _) (List.prefix_refl _) dv hm ⟨.s r, M, ⟨rfl, rfl⟩, hn, q⟩
theorem fin_val {d : D} (k : Aft K F As (zq n Q) G) (hm : HM K F As M H) (hn : n ≤ M.length) (dv : DV K F d v) (q : Q (.s (.val d)) M) : G v H := fin_s (r := .val d) k hm hn dv q
theorem fin_new {p : Addr} {c : C} {o : HO} (k : Aft K F As (zq n Q) G) (hm : HM K F As M H) (hn : n ≤ M.length) (hp : H p = none) (hc : CR K F As p c o) (q : Q (.n c) M) : G (.ref p) (upd H p o) :=
  k _ F (As ++ [p]) _ (.own M.length) _ (Same.refl _) (List.prefix_append _ _) ⟨p, by rw [← hm.len]; simp, rfl⟩ (hm.made (c := c) hp (hc.mono (Same.refl _) (List.prefix_append _ _))) ⟨.n c, M, ⟨rfl, rfl, hm.refs⟩, hn, q⟩
theorem fin_lst {p : Addr} {ds : List D} {vs : List V} (k : Aft K F As (zq n Q) G) (hm : HM K F As M H) (hn : n ≤ M.length) (hp : H p = none) (hv : DVs K F ds vs) (q : Q (.n (.lst ds)) M) : G (.ref p) (upd H p (.lst vs)) :=
  fin_new (c := .lst ds) k hm hn hp ⟨vs, rfl, hv⟩ q
theorem fin_tup {p : Addr} {ds : List D} {vs : List V} (k : Aft K F As (zq n Q) G) (hm : HM K F As M H) (hn : n ≤ M.length) (hp : H p = none) (hv : DVs K F ds vs) (q : Q (.s (.val (.tup ds))) M) : G (.ref p) (upd H p (.tup vs)) := by
  obtain ⟨_, fp⟩ := hm.fresh hp
  exact k _ _ As _ (.val (.tup ds)) M (same_new fp) (List.prefix_refl _) ⟨p, vs, rfl, .inl (.inl upd_same), hv.mono (same_new fp)⟩ (hm.laid hp) ⟨.s _, M, ⟨rfl, rfl⟩, hn, q⟩
end
section
variable {c : Ctx} {ρ : List Sl} {M : List C} {e : Expr}
/-- what is new is frozen -/
theorem EZ.ee {Q : Sl → List C → Prop} (h : EZ c ρ M e fun z M1 => z.fz M1 Q) : EE c ρ M e Q := fun X hX F As σ H sr hm G k =>
  h X hX F As σ H sr hm G fun v F' As' H' r M' s p r1 hm' ⟨z, M1, hz, hl, q⟩ => by
    cases z with
    | s r0 =>
      obtain ⟨e1, e2⟩ := hz
      subst e1; subst e2
      exact k v F' As' H' _ _ s p r1 hm' q
    | n c0 =>
      obtain ⟨e1, e2, e3⟩ := hz
      subst e1; subst e2
      obtain ⟨a, ha, rfl⟩ := r1
      have q : (match c0.frz with | some d => Q (.val d) M1 | none => False) := q
      cases ef : c0.frz with
      | none => rw [ef] at q; exact q.elim
      | some d =>
        rw [ef] at q
        have l1 := hm'.len
        obtain ⟨B, b, rfl⟩ : ∃ B b, As' = B ++ [b] := by
          have hne : As' ≠ [] := fun z => by subst z; simp at l1
          exact ⟨As'.dropLast, As'.getLast hne, (List.dropLast_concat_getLast hne).symm⟩
        have lB : B.length = M1.length := by simpa using l1
        have : a = b := by
          rw [← lB] at ha
          simpa using ha.symm
        subst this
        obtain ⟨F2, s2, hm2, dv⟩ := hm'.freeze ef e3
        refine k _ F2 B H' (.val d) M1 (s.trans s2) ?_ dv hm2 q
        refine List.prefix_of_prefix_length_le p (List.prefix_append _ _) ?_
        rw [lB, hm.len]; exact hl
def Tr (c : Ctx) (e : Expr) (x : E) : Prop := ∀ ρ M Q, wpR c.g x ρ M Q → EZ c ρ M e Q
def TrT (c : Ctx) (e : Expr) (t : Te) : Prop := ∀ ρ M Q, wpT c.g t ρ M Q → GT c ρ M e Q
def TrTs (c : Ctx) (es : List Expr) (t : Tl) : Prop := ∀ ρ M Q, wpTs c.g t ρ M Q → GTs c ρ M es Q
def TrA (c : Ctx) (es : List Expr) (as : Es) : Prop := ∀ ρ M Q, wpA c.g as ρ M Q → EA c ρ M es Q
theorem Tr.ee {x : E} (h : Tr c e x) {Q : Sl → List C → Prop} (q : wpR c.g x ρ M fun z M1 => z.fz M1 Q) : EE c ρ M e Q := (h ρ M _ q).ee
end
section
variable {c : Ctx} {a b e : Expr} {x y : E} {pos : Pos}
/-! ### atoms -/
theorem tr_v (i : Nat) {nm : Str} (hN : c.N[i]? = some nm) (hv : Vis c.sc nm) (hd : (nm == ("__debug__" : Str)) = false) (hcd : (nm == ("__classdict__" : Str)) = false) : Tr c (.Name nm pos) (.v i) := fun ρ M Q h X hX F As σ H sr hm G k => by
  cases hX with
  | mk X k0 nd calm room po =>
    have hl : lk ρ i ≠ .un ∧ Q (.s (lk ρ i)) M := by
      have h : (match lk ρ i with | .val d => Q (.s (.val d)) M | .own k => Q (.s (.own k)) M | .un => False) := h
      cases e : lk ρ i with
      | un => rw [e] at h; exact h.elim
      | val d => rw [e] at h; exact ⟨fun z => (nomatch z), h⟩
      | own d => rw [e] at h; exact ⟨fun z => (nomatch z), h⟩
    obtain ⟨v, h1, h2⟩ := sr.get i _ (lk_eq ρ i hl.1) hl.1
    exact ⟨_, pe_var hN hv hd hcd, v, h1, fin_s k hm (Nat.le_refl _) h2 hl.2⟩
theorem tr_int {i : Int} {j} : Tr c (.Constant (.int i) j pos) (.k (.int i)) := fun ρ M Q h X hX F As σ H sr hm G k => ⟨_, pe_int, fin_val (d := .int i) k hm (Nat.le_refl _) rfl h⟩
theorem tr_bl {i : Bool} {j} : Tr c (.Constant (.bool i) j pos) (.k (.bl i)) := fun ρ M Q h X hX F As σ H sr hm G k => ⟨_, pe_bl, fin_val (d := .bl i) k hm (Nat.le_refl _) rfl h⟩
theorem tr_non {j} : Tr c (.Constant .none j pos) (.k .non) := fun ρ M Q h X hX F As σ H sr hm G k => ⟨_, pe_non, fin_val (d := .non) k hm (Nat.le_refl _) rfl h⟩
theorem tr_str {i : Str} {j} : Tr c (.Constant (.str i) j pos) (.k (.str i)) := fun ρ M Q h X hX F As σ H sr hm G k => ⟨_, pe_str, fin_val (d := .str i) k hm (Nat.le_refl _) rfl h⟩
theorem tr_g {nm : Str} {d : D} (hg : Glo c nm) (hdb : (nm == ("__debug__" : Str)) = false) : Tr c (.Name nm pos) (.g nm d) := fun ρ M Q ⟨⟨u, h1, h2⟩, q⟩ X hX F As σ H sr hm G k => by
  cases hX with
  | mk X k0 nd calm room po =>
    obtain ⟨v, rv, dv⟩ := h2 F
    exact ⟨_, pe_glob hg h1 rv (hd := hdb), fin_val k hm (Nat.le_refl _) dv q⟩

/-! ### operators -/
theorem opR_any {X : Cx} {f : Value → Value → Sem Value} : OpR X f fun x y H' G' => ∃ r, OpR X f r ∧ r x y H' G' := fun pins s σ' H' x y v u Q' I rx ry ⟨r, hr, q⟩ => hr pins s σ' H' x y v u Q' I rx ry q
/-- an operator, by values -/
def OpZ (c : Ctx) (f : Value → Value → Sem Value) (r1 r2 : Sl) (M : List C) (Q : Z → Prop) : Prop := ∀ X, c.Is X → ∀ F As H x y, SlR c.K F As r1 x → SlR c.K F As r2 y → HM c.K F As M H → ∀ (n : Nat) G, n ≤ M.length → Aft c.K F As (zq n fun z M' => M' = M ∧ Q z) G → ∃ r, OpR X f r ∧ r x y H G
theorem tr_op {op : Operator} (ha : Tr c a x) (hb : Tr c b y) (ho : ∀ r1 r2 M Q, binR op r1 r2 M Q → OpZ c (binaryOp op) r1 r2 M Q) : Tr c (.BinOp a op b pos) (.bin op x y) := fun ρ M Q h X hX F As σ H sr hm G k =>
  ⟨_, pe_op opR_any pe_w pe_w, ha.ee h X hX F As σ H sr hm _ fun x F1 As1 H1 r1 M1 s1 p1 q1 hm1 h1 => hb.ee h1 X hX F1 As1 σ H1 (sr.mono s1 p1) hm1 _ fun y F2 As2 H2 r2 M2 s2 p2 q2 hm2 h2 =>
    ho r1 r2 M2 _ h2 X hX F2 As2 H2 x y (q1.mono s2 p2) q2 hm2 M.length G (Nat.le_trans (hm.le hm1 p1) (hm1.le hm2 p2)) fun v F' As' H' r M' s' p' r' hm' ⟨z, M3, z1, z2, z3, z4⟩ => k v F' As' H' r M' ((s1.trans s2).trans s') ((p1.trans p2).trans p') r' hm' ⟨z, M3, z1, z2, by subst z3; exact z4⟩⟩
end
end Dl

/-! X5: operators and comparisons by values -/
namespace Dl
open PySem L2
mutual
theorem plain_mono : ∀ {n m : Nat} {d : D}, n ≤ m → plain n d = true → plain m d = true
  | _, _, .non, _, _ => by simp [plain]
  | _, _, .bl _, _, _ => by simp [plain]
  | _, _, .int _, _, _ => by simp [plain]
  | _, _, .str _, _, h => by simpa [plain] using h
  | 0, _, .lst _, _, h => by simp [plain] at h
  | 0, _, .tup _, _, h => by simp [plain] at h
  | n + 1, 0, .lst _, l, _ => by omega
  | n + 1, 0, .tup _, l, _ => by omega
  | n + 1, m + 1, .lst xs, l, h => by simp [plain] at h ⊢; exact ⟨h.1, plains_mono (by omega) h.2⟩
  | n + 1, m + 1, .tup xs, l, h => by simp [plain] at h ⊢; exact ⟨h.1, plains_mono (by omega) h.2⟩
  | _, _, .dic _ _, _, h => by simp [plain] at h
  | _, _, .slo _ _, _, h => by simp [plain] at h
  | _, _, .obj _ _ _, _, h => by simp [plain] at h
  | _, _, .scr _, _, h => by simp [plain] at h
theorem plains_mono : ∀ {n m : Nat} {ds : List D}, n ≤ m → plains n ds = true → plains m ds = true
  | _, _, [], _, _ => by simp [plains]
  | _, _, d :: ds, l, h => by
    simp [plains] at h ⊢
    exact ⟨plain_mono l h.1, plains_mono l h.2⟩
end
theorem plain_items {n : Nat} {xs : List D} (h : (decide (xs.length ≤ 1000) && plains n xs) = true) : plains n xs = true := (Bool.and_eq_true_iff.mp h).2
mutual
theorem dp_of {K : PySem.W.Frag} {F H : Hp} (e : Same F H) : ∀ {n : Nat} {d : D} {v : V}, plain n d = true → DV K F d v → Dp K H v (toPy d)
  | _, .non, _, _, h => by cases (show _ = V.non from h); exact .non
  | _, .bl b, _, _, h => by cases (show _ = V.bl b from h); exact .bl b
  | _, .int i, _, _, h => by cases (show _ = V.int i from h); exact .int i
  | _, .str x, _, _, h => by cases (show _ = V.str x from h); exact .str x
  | 0, .lst _, _, p, _ => by simp [plain] at p
  | 0, .tup _, _, p, _ => by simp [plain] at p
  | n + 1, .lst xs, _, p, ⟨a, vs, e1, h1, h2⟩ => by subst e1; exact .lst (.inl (.inl (e _ _ h1))) (dps_of e (plain_items p) h2)
  | n + 1, .tup xs, _, p, ⟨a, vs, e1, h1, h2⟩ => by subst e1; exact .tup (same_t e h1) (dps_of e (plain_items p) h2)
  | _, .dic _ _, _, p, _ => by simp [plain] at p
  | _, .slo _ _, _, p, _ => by simp [plain] at p
  | _, .obj _ _ _, _, p, _ => by simp [plain] at p
  | _, .scr _, _, p, _ => by simp [plain] at p
theorem dps_of {K : PySem.W.Frag} {F H : Hp} (e : Same F H) : ∀ {n : Nat} {ds : List D} {vs : List V}, plains n ds = true → DVs K F ds vs → DpAll K H vs (toPys ds)
  | _, [], vs, _, h => by cases (show vs = [] from h); exact .nil
  | n, d :: ds, _, p, ⟨v, r, e1, h1, h2⟩ => by
    subst e1
    simp [plains] at p
    exact .cons (dp_of e p.1 h1) (dps_of e p.2 h2)
end
mutual
theorem lay_of : ∀ {n : Nat} {d : D}, plain n d = true → (toPy d).canLay0 = true ∧ (toPy d).depth ≤ n
  | _, .non, _ => by simp [toPy, PyData.canLay0, PyData.depth]
  | _, .bl b, _ => by simp [toPy, PyData.canLay0, PyData.depth]
  | _, .int i, _ => by simp [toPy, PyData.canLay0, PyData.depth]
  | _, .str x, p => by simp [plain] at p; simp [toPy, PyData.canLay0, PyData.depth, p]
  | 0, .lst _, p => by simp [plain] at p
  | 0, .tup _, p => by simp [plain] at p
  | n + 1, .lst xs, p => by
    have := lays_of (n := n) (ds := xs) (plain_items p)
    simp [toPy, PyData.canLay0, PyData.depth, this]
  | n + 1, .tup xs, p => by
    have := lays_of (n := n) (ds := xs) (plain_items p)
    simp [toPy, PyData.canLay0, PyData.depth, this]
  | _, .dic _ _, p => by simp [plain] at p
  | _, .slo _ _, p => by simp [plain] at p
  | _, .obj _ _ _, p => by simp [plain] at p
  | _, .scr _, p => by simp [plain] at p
theorem lays_of : ∀ {n : Nat} {ds : List D}, plains n ds = true → PyData.canLayAll0 (toPys ds) = true ∧ PyData.depthAll (toPys ds) ≤ n
  | _, [], _ => by simp [toPys, PyData.canLayAll0, PyData.depthAll]
  | n, d :: ds, p => by
    simp [plains] at p
    have h1 := lay_of p.1
    have h2 := lays_of p.2
    simp [toPys, PyData.canLayAll0, PyData.depthAll, h1, h2]
    omega
end
theorem shaped_of {n : Nat} {d : D} (h : plain n d = true) (hn : n ≤ 64) : SeqAt.shaped (toPy d) = true := by
  have := lay_of h
  unfold SeqAt.shaped
  rw [this.1]
  simp
  omega
theorem eqv_same {n : Nat} {d : D} (h : plain n d = true) : PyData.eqv (toPy d) (toPy d) = true := SeqAt.eqv_refl _ (lay_of h).1

theorem plains_ints (n : Nat) : ∀ ns : List Int, plains n (ns.map D.int) = true
  | [] => by simp [plains]
  | m :: ms => by
    rw [List.map_cons]
    unfold plains
    rw [plains_ints n ms]
    simp [plain]
theorem plains_map {α : Type} {n : Nat} {f : α → D} : ∀ {xs : List α}, (∀ x ∈ xs, plain n (f x) = true) → plains n (xs.map f) = true
  | [], _ => by simp [plains]
  | x :: xs, h => by
    rw [List.map_cons]
    unfold plains
    rw [h x List.mem_cons_self, plains_map fun y hy => h y (List.mem_cons_of_mem _ hy)]
    rfl
section
variable {c : Ctx} {r1 r2 : Sl} {M : List C} {Q : Z → Prop} {B : Bool → Prop}
theorem bin_add (h : binR .Add r1 r2 M Q) : OpZ c (binaryOp .Add) r1 r2 M Q := fun X hX F As H x y hx hy hm n G hn k => by
  dsimp only [binR] at h
  split at h
  · exact ⟨_, op_add, _, _, hx, hy, fin_val (d := .int _) k hm hn rfl ⟨rfl, h⟩⟩
  · split at h
    · rename_i xs ys e1 e2
      obtain ⟨hz, q⟩ := h
      obtain ⟨p, vs, rfl, h1, h2⟩ := (sq_s e1).get hm hx
      obtain ⟨u, ws, rfl, h3, h4⟩ := (sq_s e2).get hm hy
      refine ⟨_, op_cat, p, u, vs, ws, rfl, rfl, h2, h4, ?_, fun r hr => fin_lst (ds := xs ++ ys) k hm hn hr (dvs_paired.mpr (paired_append (dvs_paired.mp h1) (dvs_paired.mp h3))) ⟨rfl, q⟩⟩
      rw [← h1.length, ← h3.length]
      exact Nat.le_trans hz (by decide)
    · rename_i xs ys e1 e2
      obtain ⟨hz, q⟩ := h
      obtain ⟨p, vs, rfl, h1, h2⟩ := (sq_s e1).get hm hx
      obtain ⟨u, ws, rfl, h3, h4⟩ := (sq_s e2).get hm hy
      have h13 : DVs c.K F (xs ++ ys) (vs ++ ws) := dvs_paired.mpr (paired_append (dvs_paired.mp h1) (dvs_paired.mp h3))
      have valT : ∀ {r : Sl} {ds : List D} {v : V}, sq M r = some (false, ds) → SlR c.K F As r v → DV c.K F (.tup ds) v := fun {r ds v} e hr => by
        have := sq_s e
        cases this with
        | tup => exact hr
      cases hX with | mk X k0 nd calm room po =>
      refine ⟨_, op_catA, p, u, vs, ws, rfl, rfl, h2, h4, ?_, fun ev => ?_, fun nv ew => ?_, fun nv nw r hr => fin_tup (ds := xs ++ ys) k hm hn hr h13 ⟨rfl, q⟩⟩
      · rw [← h1.length, ← h3.length]
        exact Nat.le_trans hz (by decide)
      · have exs : xs = [] := List.eq_nil_of_length_eq_zero (by rw [h1.length, ev]; rfl)
        refine fin_val (d := .tup (xs ++ ys)) k hm hn ?_ ⟨rfl, q⟩
        rw [exs]; exact valT e2 hy
      · have eys : ys = [] := List.eq_nil_of_length_eq_zero (by rw [h3.length, ew]; rfl)
        refine fin_val (d := .tup (xs ++ ys)) k hm hn ?_ ⟨rfl, q⟩
        rw [eys, List.append_nil]; exact valT e1 hx
    · exact h.elim
theorem bin_sub (h : binR .Sub r1 r2 M Q) : OpZ c (binaryOp .Sub) r1 r2 M Q := fun X hX F As H x y hx hy hm n G hn k => by
  dsimp only [binR] at h
  split at h
  · exact ⟨_, op_sub, _, _, hx, hy, fin_val (d := .int _) k hm hn rfl ⟨rfl, h⟩⟩
  · exact h.elim
theorem dvs_flat {K : PySem.W.Frag} {F : Hp} {xs : List D} {vs : List V} (h : DVs K F xs vs) : ∀ n : Nat, DVs K F (List.replicate n xs).flatten (List.replicate n vs).flatten
  | 0 => rfl
  | n + 1 => by
    rw [List.replicate_succ, List.replicate_succ, List.flatten_cons, List.flatten_cons]
    exact dvs_paired.mpr (paired_append (dvs_paired.mp h) (dvs_paired.mp (dvs_flat h n)))
theorem bin_mul (h : binR .Mult r1 r2 M Q) : OpZ c (binaryOp .Mult) r1 r2 M Q := fun X hX F As H x y hx hy hm n G hn k => by
  dsimp only [binR] at h
  split at h
  · exact ⟨_, op_mul, _, _, hx, hy, h.1, fin_val (d := .int _) k hm hn rfl ⟨rfl, h.2⟩⟩
  · split at h
    · rename_i j _ _ xs e1
      obtain ⟨⟨h0, h1, hz⟩, q⟩ := h
      obtain ⟨p, vs, rfl, h1', h2⟩ := (sq_s e1).get hm hx
      refine ⟨_, op_rep, p, j, vs, rfl, hy, h2, by omega, by omega, ?_, fun r hr => fin_lst (ds := (List.replicate j.toNat xs).flatten) k hm hn hr (dvs_flat h1' _) ⟨rfl, q⟩⟩
      have : vs.length ≤ 1000 := by rw [← h1'.length]; exact hz
      have h3 : j.toNat ≤ 1000 := by omega
      exact Nat.le_trans (Nat.mul_le_mul this h3) (by decide)
    · exact h.elim
  · exact h.elim
theorem bin_fdiv (h : binR .FloorDiv r1 r2 M Q) : OpZ c (binaryOp .FloorDiv) r1 r2 M Q := fun X hX F As H x y hx hy hm n G hn k => by
  dsimp only [binR] at h
  split at h
  · exact ⟨_, op_fdiv, _, _, hx, hy, h.1, fin_val (d := .int _) k hm hn rfl ⟨rfl, h.2⟩⟩
  · exact h.elim
theorem bin_mod (h : binR .Mod r1 r2 M Q) : OpZ c (binaryOp .Mod) r1 r2 M Q := fun X hX F As H x y hx hy hm n G hn k => by
  dsimp only [binR] at h
  split at h
  · exact ⟨_, op_mod, _, _, hx, hy, h.1, fin_val (d := .int _) k hm hn rfl ⟨rfl, h.2⟩⟩
  · exact h.elim
theorem bin_pow (h : binR .Pow r1 r2 M Q) : OpZ c (binaryOp .Pow) r1 r2 M Q := fun X hX F As H x y hx hy hm n G hn k => by
  dsimp only [binR] at h
  split at h
  · exact ⟨_, op_pow, _, _, hx, hy, h.1, fin_val (d := .int _) k hm hn rfl ⟨rfl, h.2⟩⟩
  · exact h.elim
theorem bin_all (o : Operator) (h : binR o r1 r2 M Q) : OpZ c (binaryOp o) r1 r2 M Q := by
  cases o with
  | Add => exact bin_add h
  | Sub => exact bin_sub h
  | Mult => exact bin_mul h
  | FloorDiv => exact bin_fdiv h
  | Mod => exact bin_mod h
  | Pow => exact bin_pow h
  | MatMult => exact h.elim
  | Div => exact h.elim
  | LShift => exact h.elim
  | RShift => exact h.elim
  | BitOr => exact h.elim
  | BitXor => exact h.elim
  | BitAnd => exact h.elim
theorem tr_bin {a b : Expr} {x y : E} {op : Operator} {pos : Pos} (ha : Tr c a x) (hb : Tr c b y) : Tr c (.BinOp a op b pos) (.bin op x y) := tr_op ha hb fun _ _ _ _ h => bin_all op h

/-! ### comparisons -/
abbrev bz (B : Bool → Prop) : Z → Prop := fun z => ∃ t, z = .s (.val (.bl t)) ∧ B t
theorem fin_bl {F : Hp} {As : List Addr} {H : Hp} {n : Nat} {G : VK} {t : Bool} {v : V} (k : Aft c.K F As (zq n fun z M' => M' = M ∧ bz B z) G) (hm : HM c.K F As M H) (hn : n ≤ M.length) (hv : v = .bl t) (q : B t) : G v H := by
  subst hv
  exact fin_val (d := .bl t) k hm hn rfl ⟨rfl, t, rfl, q⟩
theorem vw_dv {K : PySem.W.Frag} {F : Hp} {As : List Addr} {H : Hp} {s : Sl} {d : D} {v : V} (q : vw M s = some d) (hm : HM K F As M H) (r : SlR K F As s v) : DV K H d v := by
  cases s with
  | un => cases q
  | val d' => cases q; exact DV.mono hm.same r
  | own k =>
    obtain ⟨a, h1, rfl⟩ := r
    replace q : (match lkM M k with | some c => c.frz | none => none) = some d := q
    rw [lkM_eq] at q
    cases e : M[k]? with
    | none => rw [e] at q; cases q
    | some c0 =>
      rw [e] at q
      obtain ⟨o, ho, hc⟩ := hm.cell k a c0 h1 e
      cases c0 with
      | lst ds => cases q; obtain ⟨vs, rfl, hv⟩ := hc; exact ⟨a, vs, rfl, ho, hv.mono hm.same⟩
      | dic kvs =>
        cases q
        obtain ⟨ws, rfl, hv⟩ := hc
        refine ⟨a, ws, rfl, ho, ?_, ?_⟩
        · clear ho e
          induction hv with
          | nil => rfl
          | cons z _ ih => rw [List.map_cons, List.map_cons, ih, z.1]
        · refine dvs_paired.mpr ?_
          clear ho e
          induction hv with
          | nil => exact .nil
          | cons z _ ih => exact .cons (z.2.mono hm.same) ih
      | mls _ => cases q
      | mdc _ => cases q
      | ins _ _ _ => cases q
      | dxo _ => cases q
      | sob0 _ _ => cases q
      | sob _ _ _ => cases q
      | dxx => cases q

theorem dv_non {K : PySem.W.Frag} {F : Hp} {As : List Addr} {r : Sl} {v : V} (hr : r ≠ .un) (h : SlR K F As r v) : decide (v = .non) = r.isNon := by
  cases r with
  | un => exact absurd rfl hr
  | own k => obtain ⟨a, _, rfl⟩ := h; rfl
  | val d =>
    cases d with
    | non => have h : v = .non := h; subst h; rfl
    | bl b => have h : v = .bl b := h; subst h; rfl
    | int b => have h : v = .int b := h; subst h; rfl
    | str b => have h : v = .str b := h; subst h; rfl
    | lst ds => obtain ⟨a, vs, rfl, _⟩ := h; rfl
    | tup ds => obtain ⟨a, vs, rfl, _⟩ := h; rfl
    | dic ks ds => obtain ⟨a, vs, rfl, _⟩ := h; rfl
    | slo C ds => obtain ⟨a, dx, vs, rfl, _⟩ := h; rfl
    | obj C fs ds => obtain ⟨a, dx, vs, rfl, _⟩ := h; rfl
    | scr ns => obtain ⟨a, rfl, _⟩ := h; rfl
theorem dv_atom {K : PySem.W.Frag} {F : Hp} {d : D} {v : V} (ha : atomD d = true) (h : DV K F d v) : flatV v = true := by
  cases d with
  | non => have h : v = .non := h; subst h; rfl
  | bl b => have h : v = .bl b := h; subst h; rfl
  | int b => have h : v = .int b := h; subst h; rfl
  | str b => have h : v = .str b := h; subst h; rfl
  | lst ds => cases ha
  | tup ds => cases ha
  | dic ks ds => cases ha
  | slo C ds => cases ha
  | obj C fs ds => cases ha
  | scr ns => cases ha
theorem dv_eqA {K : PySem.W.Frag} {F : Hp} {d e : D} {v u : V} (ha : atomD d = true) (hb : atomD e = true) (h : DV K F d v) (h' : DV K F e u) : eqV v u = eqA d e := by
  cases d with
  | non =>
    have h : v = .non := h; subst h
    cases e with
    | non => have h' : u = .non := h'; subst h'; rfl
    | bl b => have h' : u = .bl b := h'; subst h'; rfl
    | int b => have h' : u = .int b := h'; subst h'; rfl
    | str b => have h' : u = .str b := h'; subst h'; rfl
    | _ => cases hb
  | bl b =>
    have h : v = .bl b := h; subst h
    cases e with
    | non => have h' : u = .non := h'; subst h'; rfl
    | bl b => have h' : u = .bl b := h'; subst h'; rfl
    | int b => have h' : u = .int b := h'; subst h'; rfl
    | str b => have h' : u = .str b := h'; subst h'; rfl
    | _ => cases hb
  | int b =>
    have h : v = .int b := h; subst h
    cases e with
    | non => have h' : u = .non := h'; subst h'; rfl
    | bl b => have h' : u = .bl b := h'; subst h'; rfl
    | int b => have h' : u = .int b := h'; subst h'; rfl
    | str b => have h' : u = .str b := h'; subst h'; rfl
    | _ => cases hb
  | str b =>
    have h : v = .str b := h; subst h
    cases e with
    | non => have h' : u = .non := h'; subst h'; rfl
    | bl b => have h' : u = .bl b := h'; subst h'; rfl
    | int b => have h' : u = .int b := h'; subst h'; rfl
    | str b => have h' : u = .str b := h'; subst h'; rfl
    | _ => cases hb
  | _ => cases ha
theorem dvs_flatV {K : PySem.W.Frag} {F : Hp} : ∀ {ds : List D} {vs : List V}, ds.all atomD = true → DVs K F ds vs → vs.all flatV = true
  | [], vs, _, h => by have h : vs = [] := h; subst h; rfl
  | d :: ds, _, ha, ⟨v, r, h1, h2, h3⟩ => by
    subst h1
    rw [List.all_cons, Bool.and_eq_true] at ha
    rw [List.all_cons, dv_atom ha.1 h2, dvs_flatV ha.2 h3]; rfl
theorem dvs_inV {K : PySem.W.Frag} {F : Hp} {d : D} {v : V} (hd : atomD d = true) (hv : DV K F d v) : ∀ {ds : List D} {vs : List V}, ds.all atomD = true → DVs K F ds vs → inV v vs = inD d ds
  | [], vs, _, h => by have h : vs = [] := h; subst h; rfl
  | e :: ds, _, ha, ⟨u, r, h1, h2, h3⟩ => by
    subst h1
    rw [List.all_cons, Bool.and_eq_true] at ha
    show (eqV u v || inV v r) = (eqA e d || inD d ds)
    rw [dv_eqA ha.1 hd h2 hv, dvs_inV hd hv ha.2 h3]
theorem lt_room {X : Cx} {k : Nat} (room : Room k X.A) : X.A.units + 1 < cLine := by
  have := room.units
  omega
/-! dicts -/
abbrev KD (K : PySem.W.Frag) (F : Hp) : List (Key × D) → List (Key × V) → Prop := Paired fun p q => p.1 = q.1 ∧ DV K F p.2 q.2
theorem kd_zip {K : PySem.W.Frag} {F : Hp} : ∀ {kvs : List (Key × V)} {ds : List D}, DVs K F ds (kvs.map (·.2)) → KD K F ((kvs.map (·.1)).zip ds) kvs
  | [], ds, h => by cases ds with
    | nil => exact .nil
    | cons d ds => obtain ⟨v, r, h1, _⟩ := h; cases h1
  | (k, v) :: kvs, ds, h => by cases ds with
    | nil => have h : v :: kvs.map (·.2) = [] := h; cases h
    | cons d ds =>
      obtain ⟨v', r, h1, h2, h3⟩ := h
      cases h1
      exact .cons ⟨rfl, h2⟩ (kd_zip h3)
theorem dq_kd {K : PySem.W.Frag} {F : Hp} {As : List Addr} {H : Hp} {s : Sl} {kvs : List (Key × D)} {v : V} (q : dq M s = some kvs) (hm : HM K F As M H) (r : SlR K F As s v) : ∃ a ws, v = .ref a ∧ H a = some (.dK ws) ∧ KD K F kvs ws := by
  cases s with
  | un => cases q
  | own k =>
    obtain ⟨a, h1, rfl⟩ := r
    have q : (match lkM M k with | some (.dic kvs) => some kvs | _ => none) = some kvs := q
    rw [lkM_eq] at q
    cases e : M[k]? with
    | none => rw [e] at q; cases q
    | some c0 =>
      rw [e] at q
      obtain ⟨o, ho, hc⟩ := hm.cell k a c0 h1 e
      cases c0 with
      | dic _ => cases q; obtain ⟨ws, rfl, hv⟩ := hc; exact ⟨a, ws, rfl, ho, hv⟩
      | lst _ => cases q
      | mls _ => cases q
      | mdc _ => cases q
      | ins _ _ _ => cases q
      | dxo _ => cases q
      | sob0 _ _ => cases q
      | sob _ _ _ => cases q
      | dxx => cases q
  | val d =>
    cases d with
    | dic ks ds =>
      cases q
      obtain ⟨a, ws, rfl, h1, h2, h3⟩ := r
      subst h2
      exact ⟨a, ws, rfl, hm.same _ _ h1, kd_zip h3⟩
    | _ => cases q
theorem kd_get {K : PySem.W.Frag} {F : Hp} {k : Key} : ∀ {xs : List (Key × D)} {ys : List (Key × V)}, KD K F xs ys → (getK xs k = none ∧ valV ys k = none) ∨ ∃ d v, getK xs k = some d ∧ valV ys k = some v ∧ DV K F d v
  | [], _, .nil => .inl ⟨rfl, rfl⟩
  | p :: xs, q :: _, .cons h r => by
    unfold getK valV
    by_cases e : p.1 = k
    · right
      refine ⟨p.2, q.2, ?_, ?_, h.2⟩
      · rw [List.find?_cons, decide_eq_true e]; rfl
      · rw [List.find?_cons, ← h.1, decide_eq_true e]; rfl
    · have := kd_get (k := k) r
      rw [List.find?_cons, List.find?_cons, ← h.1, decide_eq_false e]
      exact this
theorem keyV {K : PySem.W.Frag} {F : Hp} {d : D} {k : Key} {v : V} (hk : keyD d = some k) (h : DV K F d v) : v = kV k := by
  cases d with
  | int i => cases hk; exact h
  | str i => cases hk; exact h
  | _ => cases hk
def rDIn (neg : Bool) : R2 := fun x y H Q => ∃ a o, y = .ref a ∧ DGet H a x o ∧ Q (.bl (if neg then !o.isSome else o.isSome)) H
theorem op_dIn {X : Cx} (hu : X.A.units + 1 < cLine) : OpR X (compareOp .In) (rDIn false) := by
  intro pins s σ H x y v u Q I rx ry h
  obtain ⟨a, o, ex, g, q⟩ := h
  subst ex
  obtain rfl : u = Value.ref a := ry
  exact d_in hu I g rx fun s3 I3 => ⟨.bl o.isSome, H, I3, rfl, q⟩
theorem op_dNotIn {X : Cx} (hu : X.A.units + 1 < cLine) : OpR X (compareOp .NotIn) (rDIn true) := by
  intro pins s σ H x y v u Q I rx ry h
  obtain ⟨a, o, ex, g, q⟩ := h
  subst ex
  obtain rfl : u = Value.ref a := ry
  exact d_notIn hu I g rx fun s3 I3 => ⟨.bl (!o.isSome), H, I3, rfl, q⟩
end
end Dl

/-! X6: comparisons, tests, and, or, if -/
namespace Dl
open PySem L2
section
variable {c : Ctx} {r1 r2 : Sl} {M : List C} {B : Bool → Prop}
theorem eq_s (h : eqR r1 r2 M B) : OpZ c (compareOp .Eq) r1 r2 M (bz B) := fun X hX F As H x y hx hy hm n G hn k => by
  unfold eqR at h
  split at h
  · rename_i i j
    have hx : x = .int i := hx
    have hy : y = .int j := hy
    subst hx; subst hy
    exact ⟨_, op_eq, rfl, fin_bl k hm hn (by congr 1; simp) h⟩
  · rename_i i j
    have hx : x = .bl i := hx
    have hy : y = .bl j := hy
    subst hx; subst hy
    exact ⟨_, op_eq, rfl, fin_bl k hm hn (by congr 1; cases i <;> cases j <;> rfl) h⟩
  · rename_i i j
    have hx : x = .str i := hx
    have hy : y = .str j := hy
    subst hx; subst hy
    exact ⟨_, op_eq, rfl, fin_bl k hm hn (by congr 1; simp) h⟩
  · split at h
    · rename_i d d' e1 e2
      obtain ⟨⟨h1, h2⟩, q⟩ := h
      cases hX with | mk X k0 nd calm room po =>
      exact ⟨_, op_eqD room.units, _, _, dp_of (Same.refl _) h1 (vw_dv e1 hm hx), dp_of (Same.refl _) h2 (vw_dv e2 hm hy), shaped_of h1 (by decide), shaped_of h2 (by decide), fin_bl k hm hn rfl q⟩
    · exact h.elim
theorem ne_s (h : eqR r1 r2 M fun b => B (!b)) : OpZ c (compareOp .NotEq) r1 r2 M (bz B) := fun X hX F As H x y hx hy hm n G hn k => by
  unfold eqR at h
  split at h
  · rename_i i j
    have hx : x = .int i := hx
    have hy : y = .int j := hy
    subst hx; subst hy
    exact ⟨_, op_ne, rfl, fin_bl k hm hn (by congr 1; simp) h⟩
  · rename_i i j
    have hx : x = .bl i := hx
    have hy : y = .bl j := hy
    subst hx; subst hy
    exact ⟨_, op_ne, rfl, fin_bl k hm hn (by congr 1; cases i <;> cases j <;> rfl) h⟩
  · rename_i i j
    have hx : x = .str i := hx
    have hy : y = .str j := hy
    subst hx; subst hy
    exact ⟨_, op_ne, rfl, fin_bl k hm hn (by congr 1; simp) h⟩
  · split at h
    · rename_i d d' e1 e2
      obtain ⟨⟨h1, h2⟩, q⟩ := h
      cases hX with | mk X k0 nd calm room po =>
      exact ⟨_, op_neD room.units, _, _, dp_of (Same.refl _) h1 (vw_dv e1 hm hx), dp_of (Same.refl _) h2 (vw_dv e2 hm hy), shaped_of h1 (by decide), shaped_of h2 (by decide), fin_bl k hm hn rfl q⟩
    · exact h.elim
theorem in_s (h : inR r1 r2 M B) : OpZ c (compareOp .In) r1 r2 M (bz B) := fun X hX F As H x y hx hy hm n G hn k => by
  unfold inR at h
  split at h
  · rename_i d
    split at h
    · rename_i b ds e
      obtain ⟨⟨h1, h2⟩, q⟩ := h
      obtain ⟨p, vs, rfl, h3, h4⟩ := (sq_s e).sq hm hy
      cases hX with | mk X k0 nd calm room po =>
      exact ⟨_, op_in_seq, p, vs, rfl, h4, dv_atom h1 hx, dvs_flatV h2 h3, fin_bl k hm hn (by rw [if_neg Bool.false_ne_true, dvs_inV h1 hx h2 h3]) q⟩
    · split at h
      · rename_i kvs kk e1 e2
        obtain ⟨a, ws, rfl, h1, h2⟩ := dq_kd e1 hm hy
        have ek := keyV e2 hx
        subst ek
        cases hX with | mk X k0 nd calm room po =>
        refine ⟨_, op_dIn (lt_room room), a, _, rfl, DGet.k h1, fin_bl k hm hn rfl ?_⟩
        rcases kd_get (k := kk) h2 with ⟨e3, e4⟩ | ⟨d', v', e3, e4, _⟩
        · rw [e4]; rw [e3] at h; exact h
        · rw [e4]; rw [e3] at h; exact h
      · exact h.elim
  · exact h.elim
theorem notIn_s (h : inR r1 r2 M fun b => B (!b)) : OpZ c (compareOp .NotIn) r1 r2 M (bz B) := fun X hX F As H x y hx hy hm n G hn k => by
  unfold inR at h
  split at h
  · rename_i d
    split at h
    · rename_i b ds e
      obtain ⟨⟨h1, h2⟩, q⟩ := h
      obtain ⟨p, vs, rfl, h3, h4⟩ := (sq_s e).sq hm hy
      cases hX with | mk X k0 nd calm room po =>
      exact ⟨_, op_notIn_seq, p, vs, rfl, h4, dv_atom h1 hx, dvs_flatV h2 h3, fin_bl k hm hn (by rw [if_pos rfl, dvs_inV h1 hx h2 h3]) q⟩
    · split at h
      · rename_i kvs kk e1 e2
        obtain ⟨a, ws, rfl, h1, h2⟩ := dq_kd e1 hm hy
        have ek := keyV e2 hx
        subst ek
        cases hX with | mk X k0 nd calm room po =>
        refine ⟨_, op_dNotIn (lt_room room), a, _, rfl, DGet.k h1, fin_bl k hm hn rfl ?_⟩
        rcases kd_get (k := kk) h2 with ⟨e3, e4⟩ | ⟨d', v', e3, e4, _⟩
        · rw [e4]; rw [e3] at h; exact h
        · rw [e4]; rw [e3] at h; exact h
      · exact h.elim
  · exact h.elim
theorem cmp_all (o : CmpOp) (h : cmpR o r1 r2 M B) : OpZ c (compareOp o) r1 r2 M (bz B) := by
  cases o with
  | Eq => exact eq_s h
  | NotEq => exact ne_s h
  | In => exact in_s h
  | NotIn => exact notIn_s h
  | Lt =>
    intro X hX F As H x y hx hy hm n G hn k
    dsimp only [cmpR] at h
    split at h
    · exact ⟨_, op_lt, _, _, hx, hy, fin_bl k hm hn rfl h⟩
    · exact h.elim
  | LtE =>
    intro X hX F As H x y hx hy hm n G hn k
    dsimp only [cmpR] at h
    split at h
    · exact ⟨_, op_le, _, _, hx, hy, fin_bl k hm hn rfl h⟩
    · exact h.elim
  | Gt =>
    intro X hX F As H x y hx hy hm n G hn k
    dsimp only [cmpR] at h
    split at h
    · exact ⟨_, op_gt, _, _, hx, hy, fin_bl k hm hn rfl h⟩
    · exact h.elim
  | GtE =>
    intro X hX F As H x y hx hy hm n G hn k
    dsimp only [cmpR] at h
    split at h
    · exact ⟨_, op_ge, _, _, hx, hy, fin_bl k hm hn rfl h⟩
    · exact h.elim
  | Is =>
    intro X hX F As H x y hx hy hm n G hn k
    dsimp only [cmpR] at h
    split at h
    · exact h.elim
    · rename_i hr
      exact ⟨_, op_isN, hy, fin_bl k hm hn (by rw [dv_non hr hx]) h⟩
    · exact h.elim
  | IsNot =>
    intro X hX F As H x y hx hy hm n G hn k
    dsimp only [cmpR] at h
    split at h
    · exact h.elim
    · rename_i hr
      exact ⟨_, op_notN, hy, fin_bl k hm hn (by rw [dv_non hr hx]) h⟩
    · exact h.elim
end

section
variable {c : Ctx} {a b e : Expr} {x y : E} {t u : Te} {pos : Pos}
theorem Aft.bz {K : PySem.W.Frag} {F F1 : Hp} {As As1 : List Addr} {M : List C} {G : VK} {n : Nat} {Q : Z → List C → Prop} (k : Aft K F As (zq n Q) G) (s : Same F F1) (p : As <+: As1) : Aft K F1 As1 (zq n fun z M' => M' = M ∧ bz (fun t => Q (.s (.val (.bl t))) M) z) G :=
  fun v F' As' H' r M' s' p' r' hm' ⟨z, M3, z1, z2, z3, t, z4, z5⟩ => k v F' As' H' r M' (s.trans s') (p.trans p') r' hm' ⟨z, M3, z1, z2, by subst z3; subst z4; exact z5⟩
theorem tr_cmp {op : CmpOp} (ha : Tr c a x) (hb : Tr c b y) (hk : behindInMarks op b = false) : Tr c (.Compare a [op] [b] pos) (.cmp op x y) := fun ρ M Q h X hX F As σ H sr hm G k =>
  ⟨_, pe_cmpR opR_any pe_w pe_w hk, ha.ee h X hX F As σ H sr hm _ fun x F1 As1 H1 r1 M1 s1 p1 q1 hm1 h1 => hb.ee h1 X hX F1 As1 σ H1 (sr.mono s1 p1) hm1 _ fun y F2 As2 H2 r2 M2 s2 p2 q2 hm2 h2 =>
    cmp_all op h2 X hX F2 As2 H2 x y (q1.mono s2 p2) q2 hm2 M.length G (Nat.le_trans (hm.le hm1 p1) (hm1.le hm2 p2)) (Aft.bz k (s1.trans s2) (p1.trans p2))⟩
/-- what follows a test -/
abbrev AftT (K : PySem.W.Frag) (F : Hp) (As : List Addr) (Q : Bool → List C → Prop) (G : Bool → Hp → Prop) : Prop := ∀ t F' As' H' M', Same F F' → As <+: As' → HM K F' As' M' H' → Q t M' → G t H'
theorem AftT.z {K : PySem.W.Frag} {F F1 : Hp} {As As1 : List Addr} {M : List C} {G : Bool → Hp → Prop} {n : Nat} {Q : Bool → List C → Prop} (k : AftT K F As Q G) (s : Same F F1) (p : As <+: As1) : Aft K F1 As1 (zq n fun z M' => M' = M ∧ bz (fun t => Q t M) z) fun v H => ∃ t, v = .bl t ∧ G t H :=
  fun v F' As' H' r M' s' p' r' hm' ⟨z, M3, z1, z2, z3, t, z4, z5⟩ => by
    subst z3; subst z4
    obtain ⟨e1, e2⟩ := z1
    subst e1; subst e2
    exact ⟨t, r', k t F' As' H' _ (s.trans s') (p.trans p') hm' z5⟩
theorem trT_cmp {op : CmpOp} (ha : Tr c a x) (hb : Tr c b y) (hk : behindInMarks op b = false) : TrT c (.Compare a [op] [b] pos) (.cmp op x y) := fun ρ M Q h X hX F As σ H sr hm G k =>
  ⟨_, pt_cmpR opR_any pe_w pe_w hk, ha.ee h X hX F As σ H sr hm _ fun x F1 As1 H1 r1 M1 s1 p1 q1 hm1 h1 => hb.ee h1 X hX F1 As1 σ H1 (sr.mono s1 p1) hm1 _ fun y F2 As2 H2 r2 M2 s2 p2 q2 hm2 h2 =>
    cmp_all op h2 X hX F2 As2 H2 x y (q1.mono s2 p2) q2 hm2 M.length _ (Nat.le_trans (hm.le hm1 p1) (hm1.le hm2 p2)) (AftT.z k (s1.trans s2) (p1.trans p2))⟩
/-- a op b op' c -/
theorem tr_cmp2 {op op' : CmpOp} {e3 : Expr} {z : E} (ha : Tr c a x) (hb : Tr c b y) (hc : Tr c e3 z) (hl : lastMarks [op, op'] [b, e3] = false) : Tr c (.Compare a [op, op'] [b, e3] pos) (.cmp2 op op' x y z) := fun ρ M Q h X hX F As σ H sr hm G k =>
  ⟨_, pe_chain opR_any opR_any pe_w pe_w pe_w (hm := hl), ha.ee h X hX F As σ H sr hm _ fun x F1 As1 H1 r1 M1 s1 p1 q1 hm1 h1 => hb.ee h1 X hX F1 As1 σ H1 (sr.mono s1 p1) hm1 _ fun y F2 As2 H2 r2 M2 s2 p2 q2 hm2 h2 => by
    refine cmp_all op h2 X hX F2 As2 H2 x y (q1.mono s2 p2) q2 hm2 M.length _ (Nat.le_trans (hm.le hm1 p1) (hm1.le hm2 p2)) fun v F3 As3 H3 r M' s3 p3 r3 hm3 ⟨zz, M3, z1, z2, z3, t, z4, z5⟩ => ?_
    subst z3; subst z4
    obtain ⟨e1, e2⟩ := z1
    subst e1; subst e2
    refine ⟨t, r3, ?_⟩
    cases t with
    | false => exact fin_val (d := .bl false) (Aft.mono k ((s1.trans s2).trans s3) ((p1.trans p2).trans p3)) hm3 z2 rfl (z5.2 rfl)
    | true =>
      refine hc.ee (z5.1 rfl) X hX F3 As3 σ H3 (sr.mono ((s1.trans s2).trans s3) ((p1.trans p2).trans p3)) hm3 _ fun w F4 As4 H4 r4 M4 s4 p4 q4 hm4 h4 => ?_
      exact cmp_all op' h4 X hX F4 As4 H4 y w (q2.mono (s3.trans s4) (p3.trans p4)) q4 hm4 M.length G (Nat.le_trans z2 (hm3.le hm4 p4)) (Aft.bz k (((s1.trans s2).trans s3).trans s4) (((p1.trans p2).trans p3).trans p4))⟩
theorem trT_e (ha : Tr c a x) (he : ∀ (env : Env) whole, isTrue a env whole = (do let v ← whole; standAt a.pos; holding [v] (truthy v))) : TrT c a (.e x) := fun ρ M Q h X hX F As σ H sr hm G k =>
  ⟨_, pt_val pe_w (he X.env), ha.ee h X hX F As σ H sr hm _ fun v F1 As1 H1 r1 M1 s1 p1 q1 hm1 h1 => by
    split at h1
    · rename_i t
      exact ⟨t, q1, k t F1 As1 H1 M1 s1 p1 hm1 h1⟩
    · exact h1.elim⟩
theorem trT_not (ha : TrT c a t) : TrT c (.UnaryOp .Not a pos) (.not t) := fun ρ M Q h X hX F As σ H sr hm G k =>
  ⟨_, pt_not pt_w, ha ρ M _ h X hX F As σ H sr hm _ fun t F1 As1 H1 M1 s1 p1 hm1 h1 => k (!t) F1 As1 H1 M1 s1 p1 hm1 h1⟩
def TrW (c : Ctx) (e : Expr) (t : Te) : Prop := ∀ ρ M Q, wpT c.g t ρ M Q → GW c ρ M e Q
theorem trW_and1 (ha : TrT c a t) : TrW c (.BoolOp .And [a] pos) t := fun ρ M Q h X hX F As σ H sr hm G k => ⟨_, pw_and1 pt_w, ha ρ M Q h X hX F As σ H sr hm _ k⟩
theorem trW_or1 (ha : TrT c a t) : TrW c (.BoolOp .Or [a] pos) t := fun ρ M Q h X hX F As σ H sr hm G k => ⟨_, pw_or1 pt_w, ha ρ M Q h X hX F As σ H sr hm _ k⟩
theorem trW_and {rest : List Expr} (ha : TrT c a t) (hb : TrW c (.BoolOp .And (b :: rest) pos) u) : TrW c (.BoolOp .And (a :: b :: rest) pos) (.and t u) := fun ρ M Q h X hX F As σ H sr hm G k =>
  ⟨_, pw_and pt_w pw_w, ha ρ M _ h X hX F As σ H sr hm _ fun t F1 As1 H1 M1 s1 p1 hm1 h1 => by
    cases t with
    | true => exact hb ρ M1 Q (h1.1 rfl) X hX F1 As1 σ H1 (sr.mono s1 p1) hm1 _ fun t F2 As2 H2 M2 s2 p2 hm2 h2 => k t F2 As2 H2 M2 (s1.trans s2) (p1.trans p2) hm2 h2
    | false => exact k false F1 As1 H1 M1 s1 p1 hm1 (h1.2 rfl)⟩
theorem trW_or {rest : List Expr} (ha : TrT c a t) (hb : TrW c (.BoolOp .Or (b :: rest) pos) u) : TrW c (.BoolOp .Or (a :: b :: rest) pos) (.or t u) := fun ρ M Q h X hX F As σ H sr hm G k =>
  ⟨_, pw_or pt_w pw_w, ha ρ M _ h X hX F As σ H sr hm _ fun t F1 As1 H1 M1 s1 p1 hm1 h1 => by
    cases t with
    | false => exact hb ρ M1 Q (h1.1 rfl) X hX F1 As1 σ H1 (sr.mono s1 p1) hm1 _ fun t F2 As2 H2 M2 s2 p2 hm2 h2 => k t F2 As2 H2 M2 (s1.trans s2) (p1.trans p2) hm2 h2
    | true => exact k true F1 As1 H1 M1 s1 p1 hm1 (h1.2 rfl)⟩
theorem TrW.tt (h : TrW c e t) : TrT c e t := fun ρ M Q q X hX F As σ H sr hm G k => ⟨_, PW.pt pw_w, h ρ M Q q X hX F As σ H sr hm G k⟩
/-! values -/
theorem tr_neg (ha : Tr c a x) : Tr c (.UnaryOp .USub a pos) (.neg x) := fun ρ M Q h X hX F As σ H sr hm G k =>
  ⟨_, pe_un un_neg pe_w, ha.ee h X hX F As σ H sr hm _ fun v F1 As1 H1 r1 M1 s1 p1 q1 hm1 h1 => by
    split at h1
    · rename_i i
      exact ⟨i, q1, fin_val (d := .int (-i)) (Aft.mono k s1 p1) hm1 (hm.le hm1 p1) rfl h1⟩
    · exact h1.elim⟩
theorem tr_not (ha : Tr c a x) : Tr c (.UnaryOp .Not a pos) (.not x) := fun ρ M Q h X hX F As σ H sr hm G k =>
  ⟨_, pe_not pe_w, ha.ee h X hX F As σ H sr hm _ fun v F1 As1 H1 r1 M1 s1 p1 q1 hm1 h1 => by
    split at h1
    · rename_i t
      exact ⟨t, q1, fin_val (d := .bl (!t)) (Aft.mono k s1 p1) hm1 (hm.le hm1 p1) rfl h1⟩
    · exact h1.elim⟩
theorem EZ.up {ρ : List Sl} {M M1 : List C} {Q : Z → List C → Prop} {X : Cx} {F F1 : Hp} {As As1 : List Addr} {σ : L2.St} {H1 : Hp} {G : VK} (h : EZ c ρ M1 e Q) (hX : c.Is X) (sr : SR c.K F As ρ σ) (s1 : Same F F1) (p1 : As <+: As1) (hm1 : HM c.K F1 As1 M1 H1) (hl : M.length ≤ M1.length) (k : Aft c.K F As (zq M.length Q) G) : WE X e σ H1 G :=
  h X hX F1 As1 σ H1 (sr.mono s1 p1) hm1 G fun v F2 As2 H2 r M2 s2 p2 r2 hm2 q => k v F2 As2 H2 r M2 (s1.trans s2) (p1.trans p2) r2 hm2 (zq.mono q hl)
theorem tr_one {op} (ha : Tr c a x) : Tr c (.BoolOp op [a] pos) x := fun ρ M Q h X hX F As σ H sr hm G k => ⟨_, pe_one pe_w, ha ρ M Q h X hX F As σ H sr hm G k⟩
theorem tr_and {rest : List Expr} (ha : Tr c a x) (hb : Tr c (.BoolOp .And (b :: rest) pos) y) : Tr c (.BoolOp .And (a :: b :: rest) pos) (.and x y) := fun ρ M Q h X hX F As σ H sr hm G k =>
  ⟨_, pe_and pe_w pe_w, ha.ee h X hX F As σ H sr hm _ fun v F1 As1 H1 r1 M1 s1 p1 q1 hm1 h1 => by
    split at h1
    · rename_i t
      refine ⟨t, q1, ?_⟩
      cases t with
      | true => exact (hb ρ M1 Q (h1.1 rfl)).up hX sr s1 p1 hm1 (hm.le hm1 p1) k
      | false => exact fin_val (d := .bl false) (Aft.mono k s1 p1) hm1 (hm.le hm1 p1) rfl (h1.2 rfl)
    · exact h1.elim⟩
theorem tr_or {rest : List Expr} (ha : Tr c a x) (hb : Tr c (.BoolOp .Or (b :: rest) pos) y) : Tr c (.BoolOp .Or (a :: b :: rest) pos) (.or x y) := fun ρ M Q h X hX F As σ H sr hm G k =>
  ⟨_, pe_or pe_w pe_w, ha.ee h X hX F As σ H sr hm _ fun v F1 As1 H1 r1 M1 s1 p1 q1 hm1 h1 => by
    split at h1
    · rename_i t
      refine ⟨t, q1, ?_⟩
      cases t with
      | false => exact (hb ρ M1 Q (h1.1 rfl)).up hX sr s1 p1 hm1 (hm.le hm1 p1) k
      | true => exact fin_val (d := .bl true) (Aft.mono k s1 p1) hm1 (hm.le hm1 p1) rfl (h1.2 rfl)
    · exact h1.elim⟩
theorem tr_ife {e3 : Expr} (hc : TrT c e3 t) (ha : Tr c a x) (hb : Tr c b y) : Tr c (.IfExp e3 a b pos) (.ife t x y) := fun ρ M Q h X hX F As σ H sr hm G k =>
  ⟨_, pe_ifExp pt_w pe_w pe_w, hc ρ M _ h X hX F As σ H sr hm _ fun t F1 As1 H1 M1 s1 p1 hm1 h1 => by
    cases t with
    | true => exact (ha ρ M1 Q (h1.1 rfl)).up hX sr s1 p1 hm1 (hm.le hm1 p1) k
    | false => exact (hb ρ M1 Q (h1.2 rfl)).up hX sr s1 p1 hm1 (hm.le hm1 p1) k⟩
/-! arguments, displays -/
theorem trA_nil : TrA c [] .nil := fun ρ M Q h X hX F As σ H sr hm G k => ⟨_, pa_nil, k [] F As H [] M (Same.refl _) (List.prefix_refl _) .nil hm h⟩
theorem trA_cons {es : List Expr} {as : Es} (ha : Tr c e x) (hs : TrA c es as) (hst : ∀ env, starEach (e :: es) env = (false, eval e env) :: starEach es env) : TrA c (e :: es) (.cons x as) := fun ρ M Q h X hX F As σ H sr hm G k =>
  ⟨_, pa_cons pe_w pa_w (hst _), ha.ee h X hX F As σ H sr hm _ fun v F1 As1 H1 r M1 s1 p1 r1 hm1 h1 => hs ρ M1 _ h1 X hX F1 As1 σ H1 (sr.mono s1 p1) hm1 _ fun vs F2 As2 H2 rs M2 s2 p2 r2 hm2 h2 =>
    k (v :: vs) F2 As2 H2 (r :: rs) M2 (s1.trans s2) (p1.trans p2) (.cons (r1.mono s2 p2) r2) hm2 h2⟩
theorem slrs_vals {K : PySem.W.Frag} {F : Hp} {As : List Addr} : ∀ {ds : List D} {vs : List V}, SlRs K F As (ds.map .val) vs → DVs K F ds vs
  | [], _, .nil => rfl
  | d :: ds, _, .cons r t => ⟨_, _, rfl, r, slrs_vals t⟩
theorem vals_slrs {K : PySem.W.Frag} {F : Hp} {As : List Addr} : ∀ {ds : List D} {vs : List V}, DVs K F ds vs → SlRs K F As (ds.map .val) vs
  | [], vs, h => by have h : vs = [] := h; subst h; exact .nil
  | d :: ds, _, ⟨v, r, h1, h2, h3⟩ => by subst h1; exact .cons h2 (vals_slrs h3)
theorem trA_star {es : List Expr} {as : Es} {spos : Pos} (ha : Tr c e x) (hs : TrA c es as) : TrA c (.Starred e spos :: es) (.star x as) := fun ρ M Q h X hX F As σ H sr hm G k => by
  cases hX with | mk X k0 nd calm room po =>
  refine ⟨_, StX.pa_star pe_w pa_w, ha.ee h X (.mk X k0 nd calm room po) F As σ H sr hm _ fun v F1 As1 H1 r M1 s1 p1 r1 hm1 h1 => ?_⟩
  split at h1
  · rename_i b ds e1
    obtain ⟨p, vs, rfl, h3, h4⟩ := (sq_s e1).sq hm1 r1
    refine ⟨p, vs, rfl, h4.symm, hs ρ M1 _ h1 X (.mk X k0 nd calm room po) F1 As1 σ H1 (sr.mono s1 p1) hm1 _ fun us F2 As2 H2 rs M2 s2 p2 r2 hm2 h2 => ?_⟩
    exact k (vs ++ us) F2 As2 H2 (ds.map .val ++ rs) M2 (s1.trans s2) (p1.trans p2) (paired_append (vals_slrs (h3.mono s2)) r2) hm2 h2
  · exact h1.elim
theorem tr_tup {es : List Expr} {as : Es} {x1} (hs : TrA c es as) : Tr c (.Tuple es x1 pos) (.tup as) := fun ρ M Q h X hX F As σ H sr hm G k =>
  ⟨_, pe_tup pa_w, hs ρ M _ h X hX F As σ H sr hm _ fun vs F1 As1 H1 rs M1 s1 p1 r1 hm1 ⟨ds, e1, hz, q⟩ => by
    subst e1
    have hv := slrs_vals r1
    exact ⟨by rw [← hv.length]; exact Nat.le_trans hz (by decide), fun p hp => fin_tup (Aft.mono k s1 p1) hm1 (hm.le hm1 p1) hp hv q⟩⟩
theorem tr_lst {es : List Expr} {as : Es} (hs : TrA c es as) : Tr c (.List es pos) (.lst as) := fun ρ M Q h X hX F As σ H sr hm G k =>
  ⟨_, pe_lst pa_w, hs ρ M _ h X hX F As σ H sr hm _ fun vs F1 As1 H1 rs M1 s1 p1 r1 hm1 ⟨ds, e1, hz, q⟩ => by
    subst e1
    have hv := slrs_vals r1
    exact ⟨by rw [← hv.length]; exact Nat.le_trans hz (by decide), fun p hp => fin_lst (Aft.mono k s1 p1) hm1 (hm.le hm1 p1) hp hv q⟩⟩
end
end Dl

/-! X7: subscripts, slices, fields, built-ins, isinstance -/
namespace Dl
open PySem L2
section
variable {c : Ctx} {a b e : Expr} {x y : E} {pos p1 p2 p3 p4 : Pos}
/-! ### x[i] -/
theorem ixR_any {X : Cx} : IxR X fun x y H' G' => ∃ r, IxR X r ∧ r x y H' G' := fun value slice pins s σ H x y v u Q I rx ry ⟨r, hr, q⟩ hs => hr value slice pins s σ H x y v u Q I rx ry q hs
theorem ix_dict {X : Cx} (hu : X.A.units + 1 < cLine) : IxR X fun x y H Q => ∃ a v, x = .ref a ∧ DGet H a y (some v) ∧ Q v H := by
  intro value slice pins s σ H x y o i Q I rx ry ⟨a, v, ex, g, q⟩ hs
  subst ex
  obtain rfl : o = Value.ref a := rx
  have hT : s.TypeIs (.ref a) "dict" := dict_typeIs I g
  have h₂ : wpAny (model X.prog X.w) X.A (getItem (.ref a) i) (EP X pins σ Q) X.xe s := d_getItem hu I g ry fun w' s3 I3 rw' => ⟨v, H, I3, rw', q⟩
  unfold PyProof.Rows.subscriptTail
  refine wpAny_bind ?_
  rw [getitemInPython_of_ne hT.not_modules]
  refine wpAny_bind (wpAny_specialOf hT PySem.F.slot_dict_getitem.lookup ?_)
  have fin : wpAny (model X.prog X.w) X.A (subscripted slice false (.ref a) i) (fun r s₃ => wpAny (model X.prog X.w) X.A (letTemporaryGo value (.ref a) r >>= fun _ => pure r) (EP X pins σ Q) X.xe s₃) X.xe s := by
    rw [hs]
    exact wpAny_operating (wpAny_mono h₂ (fun r s₃ h₃ => wpAny_bind (wpAny_letTemporaryGo (wpAny_pure h₃))) fun _ _ x => x)
  first
    | exact wpAny_pure (wpAny_bind fin)
    | exact wpAny_bind (wpAny_pure (wpAny_bind fin))
    | exact wpAny_bind fin
theorem dvs_at {K : PySem.W.Frag} {F : Hp} {xs : List D} {ys : List V} {i : Int} {d : D} (h : DVs K F xs ys) (e : atI xs i = some d) : ∃ v, atI ys i = some v ∧ DV K F d v := by
  unfold atI at e ⊢
  rw [← h.length]
  cases z : ixN xs.length i with
  | none => rw [z] at e; cases e
  | some n =>
    rw [z] at e
    obtain ⟨v, h1, h2⟩ := h.get (i := n) e
    exact ⟨v, h1, h2⟩
theorem prd_at {α β : Type} {R : α → β → Prop} {xs : List α} {ys : List β} {i : Int} {d : α} (h : Paired R xs ys) (e : atI xs i = some d) : ∃ v, atI ys i = some v ∧ R d v := by
  unfold atI at e ⊢
  rw [← Paired.length h]
  cases z : ixN xs.length i with
  | none => rw [z] at e; cases e
  | some n =>
    rw [z] at e
    obtain ⟨v, h1, h2⟩ := paired_get h e
    exact ⟨v, h1, h2⟩
theorem ks_get {K : PySem.W.Frag} {F : Hp} {As : List Addr} {k : Key} {r : Sl} : ∀ {xs : List (Key × Sl)} {ys : List (Key × V)}, KSl K F As xs ys → getK xs k = some r → ∃ v, valV ys k = some v ∧ SlR K F As r v
  | [], _, .nil, h => by cases h
  | p :: xs, q :: _, .cons h t, e => by
    unfold getK at e
    unfold valV
    by_cases z : p.1 = k
    · rw [List.find?_cons, decide_eq_true z] at e
      rw [List.find?_cons, ← h.1, decide_eq_true z]
      cases e
      exact ⟨_, rfl, h.2⟩
    · rw [List.find?_cons, decide_eq_false z] at e
      rw [List.find?_cons, ← h.1, decide_eq_false z]
      exact ks_get t e
theorem ix_all {r1 r2 : Sl} {M : List C} {Q : Sl → Prop} (h : ixR r1 r2 M Q) : ∀ X, c.Is X → ∀ F As H x y, SlR c.K F As r1 x → SlR c.K F As r2 y → HM c.K F As M H → ∀ G : VK, (∀ r v, SlR c.K F As r v → Q r → G v H) → ∃ r, IxR X r ∧ r x y H G := fun X hX F As H x y hx hy hm G k => by
  cases hX with | mk X k0 nd calm room po =>
  unfold ixR at h
  split at h
  · rename_i d
    split at h
    · rename_i bb ds e1
      split at h
      · rename_i i
        split at h
        · rename_i z e2
          obtain ⟨p, vs, rfl, h1, h2⟩ := (sq_s e1).get hm hx
          obtain ⟨v, h3, h4⟩ := dvs_at h1 e2
          cases bb with
          | true => exact ⟨_, ix_list, p, vs, i, v, rfl, hy, .inl (.inl h2), h3, k (.val z) v h4 h⟩
          | false => exact ⟨_, ix_tup, p, vs, i, v, rfl, hy, h2, h3, k (.val z) v h4 h⟩
        · exact h.elim
      · exact h.elim
    · split at h
      · exact h.elim
      · rename_i kk ek
        have ey := keyV ek hy
        subst ey
        split at h
        · rename_i j _
          obtain ⟨al, h1, rfl⟩ := hx
          split at h
          · rename_i kvs e1
            rw [lkM_eq] at e1
            obtain ⟨o, ho, ws, rfl, hw⟩ := hm.cell j al _ h1 e1
            split at h
            · rename_i z e2
              rcases kd_get (k := kk) hw with ⟨e3, _⟩ | ⟨d', v', e3, e4, hv⟩
              · rw [e3] at e2; cases e2
              · rw [e3] at e2; cases e2
                exact ⟨_, ix_dict (lt_room room), al, v', rfl, by rw [← e4]; exact DGet.k ho, k (.val z) v' hv h⟩
            · exact h.elim
          · rename_i kvs e1
            rw [lkM_eq] at e1
            obtain ⟨o, ho, ws, rfl, hw⟩ := hm.cell j al _ h1 e1
            split at h
            · rename_i z e2
              obtain ⟨v', e4, hv⟩ := ks_get hw e2
              exact ⟨_, ix_dict (lt_room room), al, v', rfl, by rw [← e4]; exact DGet.k ho, k z v' hv h⟩
            · exact h.elim
          · rename_i xs e1
            rw [lkM_eq] at e1
            obtain ⟨o, ho, ws, rfl, hw⟩ := hm.cell j al _ h1 e1
            split at h
            · rename_i i
              split at h
              · rename_i z e2
                obtain ⟨v', e4, hv⟩ := prd_at hw e2
                exact ⟨_, ix_list, al, ws, i, v', rfl, by cases ek; rfl, .inl (.inl ho), e4, k z v' hv h⟩
              · exact h.elim
            · exact h.elim
          · exact h.elim
        · rename_i ks vs _
          obtain ⟨al, ws, rfl, h1, h2, h3⟩ := hx
          subst h2
          split at h
          · rename_i z e2
            rcases kd_get (k := kk) (kd_zip h3) with ⟨e3, _⟩ | ⟨d', v', e3, e4, hv⟩
            · rw [e3] at e2; cases e2
            · rw [e3] at e2; cases e2
              exact ⟨_, ix_dict (lt_room room), al, v', rfl, by rw [← e4]; exact DGet.k (hm.same _ _ h1), k (.val z) v' hv h⟩
          · exact h.elim
        · exact h.elim
  · exact h.elim
theorem tr_ix (ha : Tr c a x) (hb : Tr c b y) (hs : PlainIx b) : Tr c (.Subscript a b pos) (.ix x y) := fun ρ M Q h X hX F As σ H sr hm G k =>
  ⟨_, pe_ix ixR_any pe_w pe_w hs, ha.ee h X hX F As σ H sr hm _ fun x F1 As1 H1 r1 M1 s1 p1 q1 hm1 h1 => hb.ee h1 X hX F1 As1 σ H1 (sr.mono s1 p1) hm1 _ fun y F2 As2 H2 r2 M2 s2 p2 q2 hm2 h2 =>
    ix_all h2 X hX F2 As2 H2 x y (q1.mono s2 p2) q2 hm2 G fun r v hv q => fin_s (Aft.mono k (s1.trans s2) (p1.trans p2)) hm2 (Nat.le_trans (hm.le hm1 p1) (hm1.le hm2 p2)) hv q⟩
/-! ### slices -/
theorem paired_drop {α β : Type} {R : α → β → Prop} : ∀ {l₁ : List α} {l₂ : List β} (n : Nat), Paired R l₁ l₂ → Paired R (l₁.drop n) (l₂.drop n)
  | _, _, 0, r => r
  | _, _, _ + 1, .nil => .nil
  | _, _, n + 1, .cons _ t => paired_drop n t
theorem paired_take {α β : Type} {R : α → β → Prop} : ∀ {l₁ : List α} {l₂ : List β} (n : Nat), Paired R l₁ l₂ → Paired R (l₁.take n) (l₂.take n)
  | _, _, 0, _ => .nil
  | _, _, _ + 1, .nil => .nil
  | _, _, n + 1, .cons r t => .cons r (paired_take n t)
theorem dvs_cut {K : PySem.W.Frag} {F : Hp} {ds : List D} {vs : List V} (h : DVs K F ds vs) (lo hi : Option Int) : DVs K F (cutL ds lo hi) (cutV vs lo hi) := by
  unfold cutL cutV
  rw [h.length]
  exact dvs_paired.mpr (paired_take _ (paired_drop _ (dvs_paired.mp h)))
theorem cutL_map {α β : Type} (f : α → β) (xs : List α) (lo hi : Option Int) : cutL (xs.map f) lo hi = (cutL xs lo hi).map f := by
  unfold cutL
  rw [List.length_map, List.map_take, List.map_drop]
def WO (X : Cx) (e : Option Expr) : TO := fun σ H G => ∃ t : TO, PO X e t ∧ t σ H G
theorem po_w {X : Cx} {e : Option Expr} : PO X e (WO X e) := ⟨fun pins s σ H Q I ⟨_, h, q⟩ => h.run pins s σ H Q I q⟩
def TrO (c : Ctx) (e : Option Expr) (x : Eo) : Prop := ∀ ρ M (Q : Option Int → List C → Prop), wpO c.g x ρ M Q → ∀ X, c.Is X → ∀ F As σ H, SR c.K F As ρ σ → HM c.K F As M H → ∀ G : Option Int → Hp → Prop, (∀ i F' As' H' M', Same F F' → As <+: As' → HM c.K F' As' M' H' → Q i M' → G i H') → WO X e σ H G
theorem trO_none : TrO c none .none := fun ρ M Q h X hX F As σ H sr hm G k => ⟨_, po_none, k none F As H M (Same.refl _) (List.prefix_refl _) hm h⟩
theorem trO_some (ha : Tr c a x) : TrO c (some a) (.some x) := fun ρ M Q h X hX F As σ H sr hm G k =>
  ⟨_, po_some pe_w, ha.ee h X hX F As σ H sr hm _ fun v F1 As1 H1 r M1 s1 p1 r1 hm1 h1 => by
    split at h1
    · rename_i i
      exact ⟨i, r1, k (some i) F1 As1 H1 M1 s1 p1 hm1 h1⟩
    · exact h1.elim⟩
theorem slR_any {X : Cx} : L2.SlR X fun x lo hi H' G' => ∃ r, L2.SlR X r ∧ r x lo hi H' G' := fun pins s σ H x v vl vu lo hi sl Q I rx hs pl pu ⟨r, hr, q⟩ => hr pins s σ H x v vl vu lo hi sl Q I rx hs pl pu q
theorem tr_cut {lo hi : Option Expr} {xl xh : Eo} (ha : Tr c e x) (hl : TrO c lo xl) (hh : TrO c hi xh) : Tr c (.Subscript e (.Slice lo hi none p2) pos) (.cut x xl xh) := fun ρ M Q h X hX F As σ H sr hm G k =>
  ⟨_, pe_slice slR_any pe_w po_w po_w, ha.ee h X hX F As σ H sr hm _ fun v F1 As1 H1 r M1 s1 p1 r1 hm1 h1 => hl ρ M1 _ h1 X hX F1 As1 σ H1 (sr.mono s1 p1) hm1 _ fun i F2 As2 H2 M2 s2 p2 hm2 h2 => hh ρ M2 _ h2 X hX F2 As2 σ H2 (sr.mono (s1.trans s2) (p1.trans p2)) hm2 _ fun j F3 As3 H3 M3 s3 p3 hm3 h3 => by
    have k3 := Aft.mono k ((s1.trans s2).trans s3) ((p1.trans p2).trans p3)
    have hn : M.length ≤ M3.length := Nat.le_trans (Nat.le_trans (hm.le hm1 p1) (hm1.le hm2 p2)) (hm2.le hm3 p3)
    have r3 := r1.mono (s2.trans s3) (p2.trans p3)
    cases hX with | mk X k0 nd calm room po =>
    split at h3
    · rename_i ds e1
      obtain ⟨a, vs, rfl, g1, g2⟩ := (sq_s e1).get hm3 r3
      exact ⟨_, sl_list, a, vs, rfl, .inl (.inl g2), fun p hp => fin_lst k3 hm3 hn hp (dvs_cut g1 i j) h3⟩
    · rename_i ds e1
      obtain ⟨a, vs, rfl, g1, g2⟩ := (sq_s e1).get hm3 r3
      refine ⟨_, sl_tupA, a, vs, rfl, g2, fun hw => ?_, fun _ p hp => fin_tup k3 hm3 hn hp (dvs_cut g1 i j) h3⟩
      have ec : cutL ds i j = ds := by
        unfold cutL
        rw [g1.length, hw.1, hw.2, List.drop_zero, ← g1.length, Nat.sub_zero, List.take_length]
      rw [ec] at h3
      refine fin_val k3 hm3 hn ?_ h3
      have := sq_s e1
      cases this with
      | tup => exact r3
    · split at h3
      · rename_i ns _
        obtain ⟨a, rfl, g2⟩ := r3
        refine ⟨_, sl_list, a, _, rfl, hm3.same.seq g2, fun p hp => fin_lst k3 hm3 hn hp ?_ h3⟩
        refine dvs_ints.mpr ?_
        show cutL (ns.map V.int) i j = _
        rw [cutL_map]
      · exact h3.elim⟩
end
end Dl

/-! X8: built-ins, isinstance -/
namespace Dl
open PySem L2
theorem insI_perm (x : Int) : ∀ l : List Int, (insI x l).Perm (x :: l)
  | [] => .refl _
  | y :: ys => by
    unfold insI; split
    · exact .refl _
    · exact ((insI_perm x ys).cons y).trans (.swap x y ys)
theorem isort_perm : ∀ l : List Int, (isort l).Perm l
  | [] => .refl _
  | x :: xs => (insI_perm x _).trans ((isort_perm xs).cons x)
theorem insI_sorted (x : Int) : ∀ l : List Int, l.Pairwise (· ≤ ·) → (insI x l).Pairwise (· ≤ ·)
  | [], _ => by simp [insI]
  | y :: ys, h => by
    unfold insI
    have h' := List.pairwise_cons.mp h
    split
    · rename_i hxy
      exact List.pairwise_cons.mpr ⟨fun z hz => by
        rcases List.mem_cons.mp hz with rfl | hz
        · exact hxy
        · exact Int.le_trans hxy (h'.1 z hz), h⟩
    · rename_i hxy
      refine List.pairwise_cons.mpr ⟨fun z hz => ?_, insI_sorted x ys h'.2⟩
      have := (insI_perm x ys).mem_iff.mp hz
      rcases List.mem_cons.mp this with rfl | hz
      · omega
      · exact h'.1 z hz
theorem isort_sorted : ∀ l : List Int, (isort l).Pairwise (· ≤ ·)
  | [] => .nil
  | x :: xs => insI_sorted x _ (isort_sorted xs)
theorem sorted_unique : ∀ {l r : List Int}, l.Pairwise (· ≤ ·) → r.Pairwise (· ≤ ·) → l.Perm r → l = r
  | [], r, _, _, p => (List.nil_perm.mp p).symm
  | x :: l, [], _, _, p => (List.perm_nil.mp p)
  | x :: l, y :: r, hl, hr, p => by
    have hl' := List.pairwise_cons.mp hl
    have hr' := List.pairwise_cons.mp hr
    have hxy : x = y := by
      have h1 : x ∈ y :: r := p.mem_iff.mp List.mem_cons_self
      have h2 : y ∈ x :: l := p.mem_iff.mpr List.mem_cons_self
      rcases List.mem_cons.mp h1 with h1 | h1
      · exact h1
      · rcases List.mem_cons.mp h2 with h2 | h2
        · exact h2.symm
        · have := hr'.1 x h1
          have := hl'.1 y h2
          omega
    subst hxy
    rw [sorted_unique hl'.2 hr'.2 (List.Perm.cons_inv p)]
theorem isort_unique {l r : List Int} (h : r.Pairwise (· ≤ ·)) (p : r.Perm l) : r = isort l := sorted_unique h (isort_sorted l) (p.trans (isort_perm l).symm)
theorem mem_insU {x z : Int} : ∀ {l : List Int}, z ∈ insU x l ↔ z = x ∨ z ∈ l
  | [] => by simp [insU]
  | y :: ys => by
    unfold insU
    split
    · simp
    · split
      · rename_i h; subst h; simp
      · rw [List.mem_cons, mem_insU, List.mem_cons]
        constructor
        · rintro (h | h | h) <;> simp [h]
        · rintro (h | h | h) <;> simp [h]
theorem insU_sorted (x : Int) : ∀ l : List Int, l.Pairwise (· < ·) → (insU x l).Pairwise (· < ·)
  | [], _ => by simp [insU]
  | y :: ys, h => by
    unfold insU
    have h' := List.pairwise_cons.mp h
    split
    · rename_i hxy
      exact List.pairwise_cons.mpr ⟨fun z hz => by
        rcases List.mem_cons.mp hz with rfl | hz
        · exact hxy
        · exact Int.lt_trans hxy (h'.1 z hz), h⟩
    · split
      · exact h
      · refine List.pairwise_cons.mpr ⟨fun z hz => ?_, insU_sorted x ys h'.2⟩
        rcases mem_insU.mp hz with rfl | hz
        · omega
        · exact h'.1 z hz
theorem sset_sorted : ∀ l : List Int, (sset l).Pairwise (· < ·)
  | [] => .nil
  | x :: xs => insU_sorted x _ (sset_sorted xs)
theorem mem_sset {z : Int} : ∀ {l : List Int}, z ∈ sset l ↔ z ∈ l
  | [] => Iff.rfl
  | x :: xs => by unfold sset; rw [mem_insU, mem_sset, List.mem_cons]
theorem asc_unique : ∀ {l r : List Int}, l.Pairwise (· < ·) → r.Pairwise (· < ·) → (∀ z, z ∈ l ↔ z ∈ r) → l = r
  | [], [], _, _, _ => rfl
  | [], y :: r, _, _, h => absurd ((h y).mpr List.mem_cons_self) (by simp)
  | x :: l, [], _, _, h => absurd ((h x).mp List.mem_cons_self) (by simp)
  | x :: l, y :: r, hl, hr, h => by
    have hl' := List.pairwise_cons.mp hl
    have hr' := List.pairwise_cons.mp hr
    have hxy : x = y := by
      rcases List.mem_cons.mp ((h x).mp List.mem_cons_self) with h1 | h1
      · exact h1
      · rcases List.mem_cons.mp ((h y).mpr List.mem_cons_self) with h2 | h2
        · exact h2.symm
        · have := hr'.1 x h1
          have := hl'.1 y h2
          omega
    subst hxy
    rw [asc_unique hl'.2 hr'.2 fun z => ⟨fun hz => by
      rcases List.mem_cons.mp ((h z).mp (List.mem_cons_of_mem _ hz)) with e | e
      · have := hl'.1 z hz; omega
      · exact e, fun hz => by
      rcases List.mem_cons.mp ((h z).mpr (List.mem_cons_of_mem _ hz)) with e | e
      · have := hr'.1 z hz; omega
      · exact e⟩]
theorem sset_unique {l r : List Int} (h : r.Pairwise (· < ·)) (m : ∀ z, z ∈ r ↔ z ∈ l) : r = sset l := asc_unique h (sset_sorted l) fun z => (m z).trans mem_sset.symm
theorem sset_id {l : List Int} (h : l.Pairwise (· < ·)) : sset l = l := (sset_unique h fun _ => Iff.rfl).symm
theorem insU_len (x : Int) : ∀ l : List Int, (insU x l).length ≤ l.length + 1
  | [] => by simp [insU]
  | y :: ys => by
    unfold insU
    split
    · simp
    · split
      · simp
      · have := insU_len x ys; simp; omega
theorem sset_len : ∀ l : List Int, (sset l).length ≤ l.length
  | [] => Nat.le_refl _
  | x :: xs => by have := insU_len x (sset xs); have := sset_len xs; simp [sset]; omega

/-! ### set(xs), a list or a tuple of ints -/
section
variable {X : Cx}
def rSetI (K : PySem.W.Frag) (w : World) : List V → Hp → VK → Prop := fun xs H Q => ∃ (l : Addr) (ns : List Int), xs = [V.ref l] ∧ (SqL K H l (ns.map V.int) ∨ SqT K H l (ns.map V.int)) ∧ ns.length ≤ 1000 ∧
  ∀ (p : Addr) (S : Int → Bool) (n : Nat), H p = none → (∀ k, S k = decide (k ∈ ns)) → n ≤ ns.length → Q (.ref p) (upd H p (SetO w p S n))
theorem cr_setI (hc : X.calm = true) : CallR X (.type "set") (rSetI X.K X.w) := by
  intro pins s σ H xs us Q I r h
  obtain ⟨l, ns, rfl, hq, hz, q⟩ := h
  have hd := I.ok.hd hc
  have er : us = [Value.ref l] := by
    cases r with
    | cons r rr => cases rr; cases r; rfl
  subst er
  have tail : ∀ (h' : Heap) (tk n : Nat), SetR X.w h' s.heap.objs.size (fun j => decide (j ∈ ns)) n → n ≤ ns.length → (∀ b o, s.heap.get? b = some o → h'.get? b = some o) → EP X pins σ Q (.ref s.heap.objs.size) { s with heap := h', toks := tk } := fun h' tk n R hn k => by
    refine ⟨.ref _, upd H s.heap.objs.size (SetO X.w s.heap.objs.size (fun j => decide (j ∈ ns)) n), I.laid (t' := tk) k (Nat.le_refl _) (setO_new R), rfl, ?_⟩
    exact q _ _ _ (I.hok.fresh (Nat.le_refl _)) (fun _ => rfl) hn
  rcases hq with hq | hq
  · obtain ⟨its, rv, pl, _⟩ := I.list hq
    exact call_set_lstI ns hd pl.isList (ints_of_vals rv) (by unfold scanBound; omega) tail
  · obtain ⟨its, rv, pt, _⟩ := I.tuple hq
    exact call_set_tupI ns hd (show s.heap.IsTuple l its.toArray from pt) (ints_of_vals rv) (by unfold scanBound; omega) tail
end

theorem maxL_spec : ∀ {l : List Int}, l ≠ [] → maxL l ∈ l ∧ ∀ y ∈ l, y ≤ maxL l
  | [], h => absurd rfl h
  | [x], _ => by simp [maxL]
  | x :: y :: r, _ => by
    have ih := maxL_spec (l := y :: r) (by simp)
    unfold maxL
    refine ⟨?_, fun z hz => ?_⟩
    · by_cases h : x ≤ maxL (y :: r)
      · rw [Int.max_eq_right h]; exact List.mem_cons_of_mem _ ih.1
      · rw [Int.max_eq_left (by omega)]; exact List.mem_cons_self
    · rcases List.mem_cons.mp hz with rfl | hz
      · omega
      · have := ih.2 z hz; omega
theorem maxL_unique {l : List Int} {m : Int} (h : m ∈ l) (g : ∀ y ∈ l, y ≤ m) : m = maxL l := by
  have ne : l ≠ [] := fun z => by subst z; cases h
  have := maxL_spec ne
  have := g _ this.1
  have := (maxL_spec ne).2 m h
  omega

theorem minL_spec : ∀ {l : List Int}, l ≠ [] → minL l ∈ l ∧ ∀ y ∈ l, minL l ≤ y
  | [], h => absurd rfl h
  | [x], _ => by simp [minL]
  | x :: y :: r, _ => by
    have ih := minL_spec (l := y :: r) (by simp)
    unfold minL
    refine ⟨?_, fun z hz => ?_⟩
    · by_cases h : x ≤ minL (y :: r)
      · rw [Int.min_eq_left h]; exact List.mem_cons_self
      · rw [Int.min_eq_right (by omega)]; exact List.mem_cons_of_mem _ ih.1
    · rcases List.mem_cons.mp hz with rfl | hz
      · omega
      · have := ih.2 z hz; omega
theorem minL_unique {l : List Int} {m : Int} (h : m ∈ l) (g : ∀ y ∈ l, m ≤ y) : m = minL l := by
  have ne : l ≠ [] := fun z => by subst z; cases h
  have := minL_spec ne
  have := g _ this.1
  have := (minL_spec ne).2 m h
  omega
theorem dvs_isI {K : PySem.W.Frag} {F : Hp} : ∀ {ds : List D} {vs : List V}, ds.all isI = true → DVs K F ds vs → vs = (ds.map intD).map V.int
  | [], vs, _, h => h
  | d :: ds, _, ha, ⟨v, r, h1, h2, h3⟩ => by
    rw [List.all_cons, Bool.and_eq_true] at ha
    subst h1
    rw [dvs_isI ha.2 h3]
    cases d with
    | int i => have h2 : v = .int i := h2; subst h2; rfl
    | _ => cases ha.1
theorem dvs_isB {K : PySem.W.Frag} {F : Hp} : ∀ {ds : List D} {vs : List V}, ds.all isB = true → DVs K F ds vs → vs = (ds.map blD).map V.bl
  | [], vs, _, h => h
  | d :: ds, _, ha, ⟨v, r, h1, h2, h3⟩ => by
    rw [List.all_cons, Bool.and_eq_true] at ha
    subst h1
    rw [dvs_isB ha.2 h3]
    cases d with
    | bl i => have h2 : v = .bl i := h2; subst h2; rfl
    | _ => cases ha.1
theorem slrs1 {K : PySem.W.Frag} {F : Hp} {As : List Addr} {r : Sl} {vs : List V} (h : SlRs K F As [r] vs) : ∃ v, vs = [v] ∧ SlR K F As r v := by
  cases h with
  | cons h1 h2 => cases h2; exact ⟨_, rfl, h1⟩
theorem slrs2 {K : PySem.W.Frag} {F : Hp} {As : List Addr} {r r' : Sl} {vs : List V} (h : SlRs K F As [r, r'] vs) : ∃ v w, vs = [v, w] ∧ SlR K F As r v ∧ SlR K F As r' w := by
  cases h with
  | cons h1 h2 =>
    obtain ⟨w, rfl, h3⟩ := slrs1 h2
    exact ⟨_, w, rfl, h1, h3⟩
theorem callR_any {X : Cx} {f : Value} : CallR X f fun vs H' G' => ∃ r, CallR X f r ∧ r vs H' G' := fun pins s σ H vs us Q I rv ⟨r, hr, q⟩ => hr pins s σ H vs us Q I rv q
def BiZ (c : Ctx) (f : Value) (rs : List Sl) (M : List C) (Q : Z → Prop) : Prop := ∀ X, c.Is X → ∀ F As H vs, SlRs c.K F As rs vs → HM c.K F As M H → ∀ (n : Nat) G, n ≤ M.length → Aft c.K F As (zq n fun z M' => M' = M ∧ Q z) G → ∃ r, CallR X f r ∧ r vs H G
section
variable {c : Ctx} {rs : List Sl} {M : List C} {Q : Z → Prop}
theorem bi_len (h : biR .len rs M Q) : BiZ c (.builtin "len") rs M Q := fun X hX F As H vs hr hm n G hn k => by
  dsimp only [biR] at h
  split at h
  · obtain ⟨v, rfl, hv⟩ := slrs1 hr
    cases hX with | mk X k0 nd calm room po =>
    split at h
    · rename_i b ds e
      obtain ⟨p, ws, rfl, h1, h2⟩ := (sq_s e).sq hm hv
      exact ⟨_, call_len_seq, p, ws, rfl, h2, fin_val (d := .int ds.length) k hm hn (by show V.int _ = V.int _; rw [h1.length]) ⟨rfl, h⟩⟩
    · split at h
      · rename_i kvs e
        obtain ⟨a, ws, rfl, h1, h2⟩ := dq_kd e hm hv
        exact ⟨_, call_lenD, a, ws, rfl, h1, fin_val (d := .int kvs.length) k hm hn (by show V.int _ = V.int _; rw [Paired.length h2]) ⟨rfl, h⟩⟩
      · exact h.elim
  · exact h.elim
theorem bi_abs (h : biR .abs rs M Q) : BiZ c (.builtin "abs") rs M Q := fun X hX F As H vs hr hm n G hn k => by
  dsimp only [biR] at h
  split at h
  · rename_i i
    obtain ⟨v, rfl, hv⟩ := slrs1 hr
    have hv : v = .int i := hv
    subst hv
    exact ⟨_, call_abs, i, rfl, fin_val (d := .int _) k hm hn rfl ⟨rfl, h⟩⟩
  · exact h.elim
theorem bi_int (h : biR .int rs M Q) : BiZ c (.type "int") rs M Q := fun X hX F As H vs hr hm n G hn k => by
  dsimp only [biR] at h
  split at h
  · rename_i i
    obtain ⟨v, rfl, hv⟩ := slrs1 hr
    have hv : v = .int i := hv
    subst hv
    exact ⟨_, call_int1, .inl ⟨i, rfl, fin_val (d := .int i) k hm hn rfl ⟨rfl, h⟩⟩⟩
  · rename_i i
    obtain ⟨v, rfl, hv⟩ := slrs1 hr
    have hv : v = .bl i := hv
    subst hv
    exact ⟨_, call_int1, .inr ⟨i, rfl, fin_val (d := .int _) k hm hn rfl ⟨rfl, h⟩⟩⟩
  · exact h.elim
theorem bi_tuple (h : biR .tuple rs M Q) : BiZ c (.type "tuple") rs M Q := fun X hX F As H vs hr hm n G hn k => by
  dsimp only [biR] at h
  split at h
  · obtain ⟨v, rfl, hv⟩ := slrs1 hr
    cases hX with | mk X k0 nd calm room po =>
    split at h
    · rename_i b ds e
      have q := sq_s e
      obtain ⟨p, ws, rfl, h1, h2⟩ := q.get hm hv
      cases b with
      | true => exact ⟨_, call_tuple_of, p, ws, rfl, .inl ⟨.inl (.inl h2), fun l hl => fin_tup k hm hn hl h1 ⟨rfl, h⟩⟩⟩
      | false =>
        refine ⟨_, call_tuple_of, p, ws, rfl, .inr ⟨h2, fin_val (d := .tup ds) k hm hn ?_ ⟨rfl, h⟩⟩⟩
        cases q with
        | tup => exact hv
    · exact h.elim
  · exact h.elim
theorem kd_keysD {K : PySem.W.Frag} {F : Hp} : ∀ {xs : List (Key × D)} {ys : List (Key × V)}, KD K F xs ys → DVs K F (xs.map fun p => kD p.1) (ys.map fun p => kV p.1)
  | [], _, .nil => rfl
  | p :: xs, q :: _, .cons h r => ⟨_, _, rfl, by show DV K F (kD p.1) (kV q.1); rw [h.1]; cases q.1 <;> exact rfl, kd_keysD r⟩
theorem bi_list (h : biR .list rs M Q) : BiZ c (.type "list") rs M Q := fun X hX F As H vs hr hm n G hn k => by
  dsimp only [biR] at h
  split at h
  · obtain ⟨v, rfl, hv⟩ := slrs1 hr
    cases hX with | mk X k0 nd calm room po =>
    split at h
    · rename_i b ds e
      obtain ⟨p, ws, rfl, h1, h2⟩ := (sq_s e).sq hm hv
      exact ⟨_, call_list_of, p, ws, rfl, h2, fun l hl => fin_lst k hm hn hl h1 ⟨rfl, h⟩⟩
    · split at h
      · rename_i kvs e
        obtain ⟨a, ws, rfl, h1, h2⟩ := dq_kd e hm hv
        exact ⟨_, call_list_dK calm, a, ws, rfl, h1, fun l hl => fin_lst k hm hn hl (kd_keysD h2) ⟨rfl, h.2⟩⟩
      · exact h.elim
  · exact h.elim
theorem keys_ints {K : PySem.W.Frag} {F : Hp} : ∀ {xs : List (Key × D)} {ys : List (Key × V)}, KD K F xs ys → (xs.map fun p => kD p.1).all isI = true → ys.map (·.1) = (xs.map fun p => intD (kD p.1)).map Sum.inl
  | [], _, .nil, _ => rfl
  | p :: xs, q :: _, .cons h r, ha => by
    rw [List.map_cons, List.all_cons, Bool.and_eq_true] at ha
    rw [List.map_cons, List.map_cons, List.map_cons, keys_ints r ha.2, ← h.1]
    cases e : p.1 with
    | inl i => rfl
    | inr s => rw [e] at ha; cases ha.1
theorem bi_sorted (h : biR .sorted rs M Q) : BiZ c (.builtin "sorted") rs M Q := fun X hX F As H vs hr hm n G hn k => by
  dsimp only [biR] at h
  split at h
  · obtain ⟨v, rfl, hv⟩ := slrs1 hr
    cases hX with | mk X k0 nd calm room po =>
    split at h
    · rename_i ds e
      obtain ⟨p, ws, rfl, h1, h2⟩ := (sq_s e).get hm hv
      have := dvs_isI h.1 h1
      subst this
      exact ⟨_, cr_sortedI, p, _, rfl, .inl (.inl h2), fun ns' l hp hs hl => fin_lst k hm hn hl (dvs_ints.mpr (by rw [isort_unique hs hp])) ⟨rfl, h.2⟩⟩
    · exact h.elim
    · split at h
      · rename_i kvs e
        obtain ⟨a, ws, rfl, h1, h2⟩ := dq_kd e hm hv
        refine ⟨_, call_sortedDI calm, a, ws, _, rfl, .inl h1, keys_ints h2 h.1.1, by rw [List.length_map]; exact h.1.2, fun ys p hp hs hf => fin_lst k hm hn hf (dvs_ints.mpr (by rw [isort_unique hs hp])) ⟨rfl, h.2⟩⟩
      · exact h.elim
  · exact h.elim
theorem bi_all' (h : biR .all rs M Q) : BiZ c (.builtin "all") rs M Q := fun X hX F As H vs hr hm n G hn k => by
  dsimp only [biR] at h
  split at h
  · obtain ⟨v, rfl, hv⟩ := slrs1 hr
    cases hX with | mk X k0 nd calm room po =>
    split at h
    · rename_i ds e
      obtain ⟨p, ws, rfl, h1, h2⟩ := (sq_s e).get hm hv
      have := dvs_isB h.1 h1
      subst this
      exact ⟨_, cr_all calm, p, _, rfl, .inl (.inl h2), fin_val (d := .bl _) k hm hn (by show V.bl _ = V.bl _; rw [List.all_map]; rfl) ⟨rfl, h.2⟩⟩
    · exact h.elim
  · exact h.elim
theorem bi_any (h : biR .any rs M Q) : BiZ c (.builtin "any") rs M Q := fun X hX F As H vs hr hm n G hn k => by
  dsimp only [biR] at h
  split at h
  · obtain ⟨v, rfl, hv⟩ := slrs1 hr
    cases hX with | mk X k0 nd calm room po =>
    split at h
    · rename_i ds e
      obtain ⟨p, ws, rfl, h1, h2⟩ := (sq_s e).get hm hv
      have := dvs_isB h.1 h1
      subst this
      exact ⟨_, cr_any calm, p, _, rfl, .inl (.inl h2), fin_val (d := .bl _) k hm hn (by show V.bl _ = V.bl _; rw [List.any_map]; rfl) ⟨rfl, h.2⟩⟩
    · exact h.elim
  · exact h.elim
theorem bi_sum (h : biR .sum rs M Q) : BiZ c (.builtin "sum") rs M Q := fun X hX F As H vs hr hm n G hn k => by
  dsimp only [biR] at h
  split at h
  · obtain ⟨v, rfl, hv⟩ := slrs1 hr
    cases hX with | mk X k0 nd calm room po =>
    split at h
    · rename_i ds e
      obtain ⟨p, ws, rfl, h1, h2⟩ := (sq_s e).get hm hv
      have := dvs_isI h.1 h1
      subst this
      exact ⟨_, cr_sum calm, p, _, rfl, .inl (.inl h2), fin_val (d := .int _) k hm hn rfl ⟨rfl, h.2⟩⟩
    · exact h.elim
  · exact h.elim
theorem bi_max (h : biR .max rs M Q) : BiZ c (.builtin "max") rs M Q := fun X hX F As H vs hr hm n G hn k => by
  dsimp only [biR] at h
  cases hX with | mk X k0 nd calm room po =>
  split at h
  · rename_i i j
    obtain ⟨v, w, rfl, r1, r2⟩ := slrs2 hr
    have r1 : v = .int i := r1
    have r2 : w = .int j := r2
    subst r1; subst r2
    exact ⟨_, call_max2 calm, i, j, rfl, fin_val (d := .int _) k hm hn (by show V.int _ = V.int _; congr 1; split <;> omega) ⟨rfl, h⟩⟩
  · obtain ⟨v, rfl, hv⟩ := slrs1 hr
    split at h
    · rename_i ds e
      obtain ⟨p, ws, rfl, h1, h2⟩ := (sq_s e).get hm hv
      have := dvs_isI h.1.1 h1
      subst this
      exact ⟨_, cr_max calm, p, _, rfl, .inl (.inl h2), by rw [List.length_map]; exact h.1.2, fun m hm1 hm2 => fin_val (d := .int _) k hm hn (by show V.int _ = V.int _; rw [maxL_unique hm1 hm2]) ⟨rfl, h.2⟩⟩
    · exact h.elim
  · exact h.elim
theorem bi_min (h : biR .min rs M Q) : BiZ c (.builtin "min") rs M Q := fun X hX F As H vs hr hm n G hn k => by
  dsimp only [biR] at h
  cases hX with | mk X k0 nd calm room po =>
  split at h
  · rename_i i j
    obtain ⟨v, w, rfl, r1, r2⟩ := slrs2 hr
    have r1 : v = .int i := r1
    have r2 : w = .int j := r2
    subst r1; subst r2
    exact ⟨_, call_min2 calm, i, j, rfl, fin_val (d := .int _) k hm hn (by show V.int _ = V.int _; congr 1; split <;> omega) ⟨rfl, h⟩⟩
  · obtain ⟨v, rfl, hv⟩ := slrs1 hr
    split at h
    · rename_i ds e
      obtain ⟨p, ws, rfl, h1, h2⟩ := (sq_s e).get hm hv
      have := dvs_isI h.1.1 h1
      subst this
      exact ⟨_, cr_min calm, p, _, rfl, .inl (.inl h2), by rw [List.length_map]; exact h.1.2, fun m hm1 hm2 => fin_val (d := .int _) k hm hn (by show V.int _ = V.int _; rw [minL_unique hm1 hm2]) ⟨rfl, h.2⟩⟩
    · exact h.elim
  · exact h.elim
def Fb.nm : Fb → Str
  | .len => "len" | .abs => "abs" | .int => "int" | .tuple => "tuple" | .list => "list" | .sorted => "sorted" | .all => "all" | .any => "any" | .sum => "sum" | .max => "max" | .min => "min" | .sset => "sorted" | .lrange => "list"
def Fb.isB : Fb → Option String
  | .len => some "len" | .abs => some "abs" | .sorted => some "sorted" | .all => some "all" | .any => some "any" | .sum => some "sum" | .max => some "max" | .min => some "min" | _ => none
def Fb.isT : Fb → Option String
  | .int => some "int" | .tuple => some "tuple" | .list => some "list" | _ => none
def biL : List Str := ["len", "abs", "int", "tuple", "list", "sorted", "all", "any", "sum", "max", "min", "set", "range", "isinstance", "bool", "str", "dict", "enumerate", "zip", "iter", "repr"]
/-- the built-ins are as they were -/
def Bi (mg : Str → Option Value) : Prop := ∀ x ∈ biL, mg x = none
theorem tr_bi {b : Fb} {e : Expr} {es : List Expr} {as : Es} {p1 pos : Pos} (B : Bi c.mg) (hb : b ≠ .sset ∧ b ≠ .lrange) (hs : TrA c (e :: es) as) (hg : Glo c b.nm) (he : ∀ env, starEach (e :: es) env = (false, eval e env) :: starEach es env) (hpl : ∀ env, (backTo pos (starEach es env)).any (·.1) = false) :
    Tr c (.Call (.Name b.nm p1) (e :: es) [] pos) (.bi b as) := fun ρ M Q h X hX F As σ H sr hm G k => by
  have fin : ∀ {f : Value} (hf : ∀ rs M1 Q, biR b rs M1 Q → BiZ c f rs M1 Q), WA X (e :: es) σ H (fun vs H1 => ∃ r, CallR X f r ∧ r vs H1 G) := fun {f} hf =>
    hs ρ M _ h X hX F As σ H sr hm _ fun vs F1 As1 H1 rs M1 s1 p1 r1 hm1 h1 => hf rs M1 _ h1 X hX F1 As1 H1 vs r1 hm1 M.length G (hm.le hm1 p1) fun v F' As' H' r M' s' p' r' hm' ⟨z, M3, z1, z2, z3, z4⟩ => k v F' As' H' r M' (s1.trans s') (p1.trans p') r' hm' ⟨z, M3, z1, z2, by subst z3; exact z4⟩
  cases hX with | mk X k0 nd calm room po =>
  cases b with
  | len => exact ⟨_, pe_callB callR_any hg (B _ (by decide)) PySem.boot_len pa_w (by decide) (by decide) (he _) (hpl _), fin fun _ _ _ => bi_len⟩
  | abs => exact ⟨_, pe_callB callR_any hg (B _ (by decide)) (by decide +kernel) pa_w (by decide) (by decide) (he _) (hpl _), fin fun _ _ _ => bi_abs⟩
  | int => exact ⟨_, pe_callTy callR_any hg (B _ (by decide)) (by decide +kernel) pa_w (by decide) (by decide) (he _) (hpl _), fin fun _ _ _ => bi_int⟩
  | tuple => exact ⟨_, pe_callTy callR_any hg (B _ (by decide)) (by decide +kernel) pa_w (by decide) (by decide) (he _) (hpl _), fin fun _ _ _ => bi_tuple⟩
  | list => exact ⟨_, pe_callTy callR_any hg (B _ (by decide)) (by decide +kernel) pa_w (by decide) (by decide) (he _) (hpl _), fin fun _ _ _ => bi_list⟩
  | sorted => exact ⟨_, pe_callB callR_any hg (B _ (by decide)) (by decide +kernel) pa_w (by decide) (by decide) (he _) (hpl _), fin fun _ _ _ => bi_sorted⟩
  | all => exact ⟨_, pe_callB callR_any hg (B _ (by decide)) (by decide +kernel) pa_w (by decide) (by decide) (he _) (hpl _), fin fun _ _ _ => bi_all'⟩
  | any => exact ⟨_, pe_callB callR_any hg (B _ (by decide)) (by decide +kernel) pa_w (by decide) (by decide) (he _) (hpl _), fin fun _ _ _ => bi_any⟩
  | sum => exact ⟨_, pe_callB callR_any hg (B _ (by decide)) (by decide +kernel) pa_w (by decide) (by decide) (he _) (hpl _), fin fun _ _ _ => bi_sum⟩
  | max => exact ⟨_, pe_callB callR_any hg (B _ (by decide)) (by decide +kernel) pa_w (by decide) (by decide) (he _) (hpl _), fin fun _ _ _ => bi_max⟩
  | min => exact ⟨_, pe_callB callR_any hg (B _ (by decide)) (by decide +kernel) pa_w (by decide) (by decide) (he _) (hpl _), fin fun _ _ _ => bi_min⟩
  | sset => exact absurd rfl hb.1
  | lrange => exact absurd rfl hb.2
end
end Dl

/-! X9: sorted(set()), list(range()), isinstance, fields, calls -/
namespace Dl
open PySem L2
def isPy : D → Bool
  | .slo _ _ => false
  | .obj _ _ _ => false
  | .scr _ => false
  | _ => true
theorem tyx_of {K : PySem.W.Frag} {H : Hp} {d : D} {v : V} (h : DV K H d v) (hp : isPy d = true) : TyX K H v (.type (kindD d)) := by
  cases d with
  | non => cases (show v = V.non from h); exact .base .non
  | bl b => cases (show v = V.bl b from h); exact .base (.bl b)
  | int b => cases (show v = V.int b from h); exact .base (.int b)
  | str b => cases (show v = V.str b from h); exact .base (.str b)
  | lst ds => obtain ⟨a, vs, rfl, h1, _⟩ := h; exact .base (.lst h1)
  | tup ds =>
    obtain ⟨a, vs, rfl, h1, _⟩ := h
    rcases h1 with (h1 | ⟨o, h1⟩) | h1
    · exact .base (.tup h1)
    · exact .fTuple h1
    · obtain ⟨ob, its, n, h2, h3, h4⟩ := h1
      exact .kTuple h2 h3
  | dic ks ds => obtain ⟨a, vs, rfl, h1, _⟩ := h; exact .base (.dK h1)
  | slo C ds => cases hp
  | obj C fs ds => cases hp
  | scr ns => cases hp

def tyL : List String := ["int", "bool", "str", "list", "tuple", "dict"]
theorem kit_all (d : D) (h : isPy d = true) : ∀ t ∈ tyL, kitB (kindD d) t = some (isA (kindD d) t) := by
  have key : ∀ k ∈ ["NoneType", "bool", "int", "str", "list", "tuple", "dict"], ∀ t ∈ tyL, kitB k t = some (isA k t) := by decide +kernel
  intro t ht
  refine key _ ?_ t ht
  cases d <;> first | (cases h; done) | simp [kindD]
theorem kindD_py {d : D} (h : kindD d ≠ "?") : isPy d = true := by
  cases d <;> first | rfl | exact absurd rfl h
theorem boot_ty : ∀ t ∈ tyL, bootBuiltins (Str.ofString t) = some (.type t) ∧ Str.ofString t ≠ "__name__" ∧ (Str.ofString t == ("__debug__" : Str)) = false ∧ Str.ofString t ∈ biL := by decide +kernel
section
variable {c : Ctx} {a b e : Expr} {x y : E} {pos p1 p2 p3 p4 : Pos}
theorem tr_isi1 {t : String} (B : Bi c.mg) (ha : Tr c e x) (ht : t ∈ tyL) (hg : Glo c "isinstance") (hgT : Glo c (Str.ofString t)) (he : ∀ env, starEach [e, .Name (Str.ofString t) p2] env = (false, eval e env) :: starEach [.Name (Str.ofString t) p2] env) :
    Tr c (.Call (.Name "isinstance" p1) [e, .Name (Str.ofString t) p2] [] pos) (.isi x [t]) := fun ρ M Q h X hX F As σ H sr hm G k => by
  obtain ⟨b1, b2, b3, b4⟩ := boot_ty t ht
  have hX' := hX
  cases hX with | mk X k0 nd calm room po =>
  refine ⟨_, pe_callB call_isi hg (B _ (by decide)) (by decide +kernel) (pa_cons pe_w (pa_cons (pe_bltn (v := .ty t) hgT (B _ b4) b1 rfl b2 b3) pa_nil) (he _)) (by decide) (by decide) (he _), ?_⟩
  refine ha.ee h X hX' F As σ H sr hm _ fun v F1 As1 H1 r M1 s1 p1 r1 hm1 h1 => ?_
  split at h1
  · rename_i d ed
    have hp := kindD_py h1.1
    exact ⟨v, .ty t, .type (kindD d), .type t, isA (kindD d) t, rfl, .ty t, tyx_of (vw_dv ed hm1 r1) hp, kit_ty (kit_all d hp t ht), fin_val (d := .bl _) (Aft.mono k s1 p1) hm1 (hm.le hm1 p1) (by show V.bl _ = V.bl _; rw [List.any_cons, List.any_nil, Bool.or_false]) h1.2⟩
  · exact h1.elim
theorem tr_isi2 {t u : String} {x1} (B : Bi c.mg) (ha : Tr c e x) (ht : t ∈ tyL) (hu : u ∈ tyL) (hg : Glo c "isinstance") (hgT : Glo c (Str.ofString t)) (hgU : Glo c (Str.ofString u)) (he : ∀ env, starEach [e, .Tuple [.Name (Str.ofString t) p2, .Name (Str.ofString u) p3] x1 p4] env = (false, eval e env) :: starEach [.Tuple [.Name (Str.ofString t) p2, .Name (Str.ofString u) p3] x1 p4] env) :
    Tr c (.Call (.Name "isinstance" p1) [e, .Tuple [.Name (Str.ofString t) p2, .Name (Str.ofString u) p3] x1 p4] [] pos) (.isi x [t, u]) := fun ρ M Q h X hX F As σ H sr hm G k => by
  obtain ⟨b1, b2, b3, b4⟩ := boot_ty t ht
  obtain ⟨d1, d2, d3, d4⟩ := boot_ty u hu
  have hX' := hX
  cases hX with | mk X k0 nd calm room po =>
  refine ⟨_, pe_callB call_isiT hg (B _ (by decide)) (by decide +kernel) (pa_cons pe_w (pa_cons (pe_tup (pa_cons (pe_bltn (v := .ty t) hgT (B _ b4) b1 rfl b2 b3) (pa_cons (pe_bltn (v := .ty u) hgU (B _ d4) d1 rfl d2 d3) pa_nil))) pa_nil) (he _)) (by decide) (by decide) (he _), ?_⟩
  refine ha.ee h X hX' F As σ H sr hm _ fun v F1 As1 H1 r M1 s1 p1 r1 hm1 h1 => ?_
  split at h1
  · rename_i d ed
    have hp := kindD_py h1.1
    refine ⟨by show 2 ≤ sizeLine; decide, fun p hp' => ?_⟩
    obtain ⟨_, fp⟩ := hm1.fresh hp'
    have hm2 := hm1.laid (o := .tup [.ty t, .ty u]) hp'
    refine ⟨v, p, [.ty t, .ty u], .type (kindD d), [.type t, .type u], isA (kindD d) t || isA (kindD d) u, rfl, upd_same, .cons (.ty t) (.cons (.ty u) .nil), tyx_of (vw_dv ed hm2 (r1.mono (same_new fp) (List.prefix_refl _))) hp, ?_, fin_val (d := .bl _) (Aft.mono k (s1.trans (same_new fp)) p1) hm2 (hm.le hm1 p1) (by show V.bl _ = V.bl _; rw [List.any_cons, List.any_cons, List.any_nil, Bool.or_false]) h1.2⟩
    refine kitAny_cons (kit_ty (kit_all d hp t ht)) (fun h => ?_) (fun h => by rw [h]; rfl)
    rw [h]
    exact kitAny_cons (kit_ty (kit_all d hp u hu)) (fun h => by rw [h]; exact kitAny_nil) (fun h => by rw [h]; rfl)
  · exact h1.elim
/-! ### sorted(set(e)), list(range(..)) -/
theorem tr_sset (B : Bi c.mg) (ha : Tr c a x) (hg1 : Glo c "sorted") (hg2 : Glo c "set") (he : ∀ env, starEach [a] env = (false, eval a env) :: starEach [] env) :
    Tr c (.Call (.Name "sorted" p1) [.Call (.Name "set" p2) [a] [] p3] [] pos) (.bi .sset (.cons x .nil)) := fun ρ M Q h X hX F As σ H sr hm G k => by
  have hX' := hX
  cases hX with | mk X k0 nd calm room po =>
  refine ⟨_, pe_callB (cr_sortedSet calm) hg1 (B _ (by decide)) (by decide +kernel) (pa_cons (pe_callTy (cr_setI calm) hg2 (B _ (by decide)) PyProof.Rows.boot_set (pa_cons pe_w pa_nil (he _)) (by decide) (by decide) (he _)) pa_nil), ?_⟩
  refine ha.ee h X hX' F As σ H sr hm _ fun v F1 As1 H1 r M1 s1 p1 r1 hm1 h1 => ?_
  dsimp only [wpA, biR] at h1
  split at h1
  · rename_i bb ds e
    obtain ⟨⟨hI, hz⟩, q⟩ := h1
    obtain ⟨l, ws, rfl, g1, g2⟩ := (sq_s e).sq hm1 r1
    have := dvs_isI hI g1
    subst this
    refine ⟨l, _, rfl, g2, by rw [List.length_map]; omega, fun p S n hp hS hn => ⟨p, S, n, rfl, upd_same, by rw [List.length_map] at hn; omega, fun ms r hs hmem _ hr => ?_⟩⟩
    obtain ⟨_, fp⟩ := hm1.fresh hp
    have hm2 := hm1.laid (o := SetO X.w p S n) hp
    refine fin_lst (Aft.mono k (s1.trans (same_new fp)) p1) hm2 (hm.le hm1 p1) hr (dvs_ints.mpr ?_) q
    rw [sset_unique hs fun z => ?_]
    rw [hmem z, hS z, decide_eq_true_iff]
  · exact h1.elim
theorem rgV_rng (i j : Int) : rgV i j = (rng i (j - i).toNat).map V.int := by
  unfold rgV rng
  rw [List.map_map]; rfl
/-! ### fields -/
theorem slt_of {K : PySem.W.Frag} {F : Hp} {As : List Addr} {M : List C} {H : Hp} {n j : Nat} {Cl a : Addr} {vs : List Sl} (hm : HM K F As M H) (ha : As[n]? = some a) (h : lkM M n = some (.sob Cl j vs)) (hj : lkM M j = some .dxx) : ∃ dx us, As[j]? = some dx ∧ H a = some (SlX.SlO a Cl dx us) ∧ SlX.Slt H a Cl dx us ∧ SR K F As vs us := by
  rw [lkM_eq] at h hj
  obtain ⟨o, ho, dx, us, g1, rfl, g2⟩ := hm.cell n a _ ha h
  obtain ⟨o', ho', rfl⟩ := hm.cell j dx _ g1 hj
  exact ⟨dx, us, g1, ho, .inr ⟨ho, ho'⟩, g2⟩
theorem tr_fld {f : Str} (ha : Tr c e x) (hb : ∀ env, attributeBase e f env (eval e env) = eval e env) : Tr c (.Attribute e f pos) (.fld x f) := fun ρ M Q h X hX F As σ H sr hm G k => by
  have hX' := hX
  cases hX with | mk X k0 nd calm room po =>
  refine ⟨_, SlX.pe_sl pe_w (hb _), ha.ee h X hX' F As σ H sr hm _ fun v F1 As1 H1 r M1 s1 p1 r1 hm1 h1 => ?_⟩
  cases h1 with
  | @slo Cl p i ds d cl t hd q =>
    obtain ⟨a, dx, vs, rfl, g1, g2⟩ := r1
    obtain ⟨w, g3, g4⟩ := g2.get hd
    exact ⟨a, Cl, dx, p, vs.map some, i, w, rfl, same_slt hm1.same g1, cl, t, by rw [List.getElem?_map, g3]; rfl, fin_val (Aft.mono k s1 p1) hm1 (hm.le hm1 p1) g4 q⟩
  | @sob Cl p i j n vs rr h hj cl t hd hu q =>
    obtain ⟨a, ha, rfl⟩ := r1
    obtain ⟨dx, us, g0, g1, g2, g3⟩ := slt_of hm1 ha h hj
    obtain ⟨w, g4, g5⟩ := g3.get i rr hd hu
    exact ⟨a, Cl, dx, p, us, i, w, rfl, g2, cl, t, g4, fin_s (Aft.mono k s1 p1) hm1 (hm.le hm1 p1) g5 q⟩
/-! ### calls -/
theorem pe_callR {X : Cx} {CX : CXT} {k : Nat} {f : Addr} {sp : Sp} {E : XK} {x : Str} {p pos : Pos} {e : Expr} {es : List Expr} {t : TA} (Fn : FnR X.prog X.w X.K X.mg X.base CX k f sp) (hr : Room k X.A) (hk : PySem.W.keepIn X.K (.ref f) = true) (hg : Gl X x) (hm : X.mg x = some (.ref f)) (hx : Passes CX X E)
    (ha : PA X (e :: es) t) (hdb : (x == ("__debug__" : Str)) = false) (he : starEach (e :: es) X.env = (false, eval e X.env) :: starEach es X.env) (hpl : (backTo pos (starEach es X.env)).any (·.1) = false) : PE X (.Call (.Name x p) (e :: es) [] pos) (fun σ H Q => t σ H fun vs H1 => sp vs H1 Q E) :=
  ⟨fun pins s σ H Q I h => wpAny_Call_Name_kw (ld_glob I hg hm (PySem.W.callWith_K (h₀ := X.base) I.ok.mod.kin hk (thn (ha.run pos pins s σ H _ I h) fun us s1 ⟨vs, H1, I1, r, q⟩ => ⟨I1.kIn, wpAny_call (run_fnR Fn hr hx I1 r q)⟩) he hpl) hdb)⟩
/-- any promise of the def at f, to the level k0 -/
def spU (P : Program) (w : World) (K : PySem.W.Frag) (mg : Str → Option Value) (base : Heap) (k0 : Nat) (f : Addr) : Sp := fun vs H Q E => ∃ k sp, k ≤ k0 ∧ FnR P w K mg base CX0 k f sp ∧ frSp sp vs H Q E
theorem fn_U {P : Program} {w : World} {K : PySem.W.Frag} {mg : Str → Option Value} {base : Heap} {k0 : Nat} {f : Addr} : FnR P w K mg base CX0 k0 f (spU P w K mg base k0 f) := fun A outer s H us vs Q E hr e0 hv ⟨k, sp, hk, F, h⟩ => FnR.frame F A outer s H us vs Q E (hr.mono hk) e0 hv h
theorem Aft.up {K : PySem.W.Frag} {F F1 : Hp} {As As1 : List Addr} {G : VK} {n m : Nat} {Q : Z → List C → Prop} (k : Aft K F As (zq n Q) G) (s : Same F F1) (p : As <+: As1) (hn : n ≤ m) : Aft K F1 As1 (zq m Q) G := Aft.less (Aft.mono k s p) hn
theorem tr_call {nm : Str} {es : List Expr} {as : Es} (hs : TrA c (e :: es) as) (hg : Glo c nm) (hdb : (nm == ("__debug__" : Str)) = false) (he : ∀ env, starEach (e :: es) env = (false, eval e env) :: starEach es env) (hpl : ∀ env, (backTo pos (starEach es env)).any (·.1) = false) :
    Tr c (.Call (.Name nm p1) (e :: es) [] pos) (.call nm as) := fun ρ M Q ⟨⟨f, hf, hkp⟩, h⟩ X hX F As σ H sr hm G k => by
  have hX' := hX
  cases hX with | mk X k0 nd calm room po =>
  refine ⟨_, pe_callR fn_U room hkp hg hf pass0 pa_w hdb (he _) (hpl _), hs ρ M _ h X hX' F As σ H sr hm _ fun vs F1 As1 H1 rs M1 s1 p1 r1 hm1 ⟨kk, sp, df, hk, q⟩ => ?_⟩
  obtain ⟨f', hf', _, hF⟩ := df.ok
  have : f' = f := by rw [hf] at hf'; cases hf'; rfl
  subst this
  exact ⟨kk, sp, hk, hF, q F1 As1 H1 vs hm1 r1 G (Aft.up k s1 p1 (hm.le hm1 p1))⟩
/-! by keywords -/
def TrK (c : Ctx) (es : List Keyword) (as : Es) : Prop := ∀ ρ M Q, wpA c.g as ρ M Q → EK c ρ M es Q
theorem trK_nil : TrK c [] .nil := fun ρ M Q h X hX F As σ H sr hm G k => ⟨_, pk_nil, k [] F As H [] M (Same.refl _) (List.prefix_refl _) .nil hm h⟩
theorem trK_cons {es : List Keyword} {as : Es} {nm : Option Str} {kpos : Pos} (ha : Tr c e x) (hs : TrK c es as) : TrK c (⟨nm, e, kpos⟩ :: es) (.cons x as) := fun ρ M Q h X hX F As σ H sr hm G k =>
  ⟨_, pk_cons pe_w pk_w, ha.ee h X hX F As σ H sr hm _ fun v F1 As1 H1 r M1 s1 p1 r1 hm1 h1 => hs ρ M1 _ h1 X hX F1 As1 σ H1 (sr.mono s1 p1) hm1 _ fun vs F2 As2 H2 rs M2 s2 p2 r2 hm2 h2 =>
    k (v :: vs) F2 As2 H2 (r :: rs) M2 (s1.trans s2) (p1.trans p2) (.cons (r1.mono s2 p2) r2) hm2 h2⟩
theorem pe_callKU {X : Cx} {k0 : Nat} {f : Addr} {x : Str} {p pos : Pos} {kws : List Keyword} {tk : TA} {ks : List Str} (hr : Room k0 X.A) (hg : Gl X x) (hm : X.mg x = some (.ref f)) (hk : PySem.W.keepIn X.K (.ref f) = true) (hkw : PK X kws tk)
    (hall : (backToKw pos (keywordEach kws X.env)).all (·.1.isSome) = true) (hks : (backToKw pos (keywordEach kws X.env)).filterMap (·.1) = ks) (hdb : (x == ("__debug__" : Str)) = false)
    (hpl : ((backTo pos (starEach [] X.env)).any (·.1) || (backToKw pos (keywordEach kws X.env)).any (·.1.isNone)) = false) : PE X (.Call (.Name x p) [] kws pos) (fun σ H Q => tk σ H fun zs H2 => ∃ k sp fd ps gg gV, k ≤ k0 ∧ FnOk X.prog X.w X.K X.mg X.base CX0 k f fd ps sp ∧ KBinds X.K fd ps ks gg gV ∧ sp (gV [] zs) H2 Q E0) := by
  refine ⟨fun pins s σ H Q I h => wpAny_Call_Name_kw (ld_glob I hg hm ?_ hdb)⟩
  refine PySem.W.callWith_KW0 (h₀ := X.base) I.ok.mod.kin hk hall (thn (hkw.run pos pins s σ H _ I h) fun ws s2 ⟨zs, H2, I2, rz, k, sp, fd, ps, gg, gV, hk0, Fn, hb, q2⟩ => ⟨I2.kIn, ?_⟩) hpl
  rw [hks]
  exact run_fnk (us := []) (vs := []) Fn (hr.mono hk0) hb pass0 I2 .nil rz q2
theorem FnOk.frame {P : Program} {w : World} {K : PySem.W.Frag} {mg : Str → Option Value} {base : Heap} {k : Nat} {f : Addr} {fd : FuncData} {ps : List Str} {sp : Sp} (F : FnOk P w K mg base CX0 k f fd ps sp) : FnOk P w K mg base CX0 k f fd ps (frSp sp) :=
  ⟨fun vs H Q E ⟨bs, _, h⟩ => F.len _ _ _ _ h, fun A outer s H args us vs Q E hr e0 hb hv ⟨bs, hbs, h⟩ => code_frame e0 hbs fun e1 => F.run A outer s (dels H bs) args us vs _ E hr e1 hb hv h⟩
theorem lk0_get {K : PySem.W.Frag} {F : Hp} {As : List Addr} : ∀ {rs : List Sl} {vs : List V} (i : Nat), SlRs K F As rs vs → SlR K F As (lk0 rs i) (vs.getD i .non)
  | _, _, i, .nil => by rw [List.getD_nil]; exact rfl
  | _, _, 0, .cons r _ => r
  | _, _, i + 1, .cons _ t => by rw [List.getD_cons_succ]; exact lk0_get i t
theorem tr_callk {nm : Str} {kws : List Keyword} {ks : List Str} {as : Es} (hs : TrK c kws as) (hg : Glo c nm) (hdb : (nm == ("__debug__" : Str)) = false)
    (hall : ∀ env, (backToKw pos (keywordEach kws env)).all (·.1.isSome) = true) (hks : ∀ env, (backToKw pos (keywordEach kws env)).filterMap (·.1) = ks) (hpl : ∀ env, ((backTo pos (starEach [] env)).any (·.1) || (backToKw pos (keywordEach kws env)).any (·.1.isNone)) = false) :
    Tr c (.Call (.Name nm p1) [] kws pos) (.callk nm ks as) := fun ρ M Q ⟨⟨f, hf, hkp⟩, h⟩ X hX F As σ H sr hm G k => by
  have hX' := hX
  cases hX with | mk X k0 nd calm room po =>
  refine ⟨_, pe_callKU room hg hf hkp pk_w (hall _) (hks _) hdb (hpl _), hs ρ M _ h X hX' F As σ H sr hm _ fun vs F1 As1 H1 rs M1 s1 p1 r1 hm1 ⟨kk, idx, sp, df, hk, hl, q⟩ => ?_⟩
  obtain ⟨f', fd, ps, hf', _, hF, hB⟩ := df.ok
  have : f' = f := by rw [hf] at hf'; cases hf'; rfl
  subst this
  refine ⟨kk, frSp sp, fd, ps, _, _, hk, FnOk.frame hF, hB, ?_⟩
  have hz : vs.length = ks.length := by rw [← Paired.length r1]; exact hl
  refine q F1 As1 H1 _ hm1 ?_ G (Aft.up k s1 p1 (hm.le hm1 p1))
  unfold permV
  rw [if_pos ⟨rfl, hz⟩]
  clear q df hB hks
  induction idx with
  | nil => exact .nil
  | cons i r ih => exact .cons (lk0_get i r1) ih
/-! methods -/
theorem pe_methU {X : Cx} {k0 : Nat} {o e : Expr} {es : List Expr} {m : Str} {ta : TE} {t : TA} {pos apos : Pos} {pl : Sem Bool} (he : PE X o ta) (hr : Room k0 X.A) (ha : PA X (e :: es) t)
    (hst : starEach (e :: es) X.env = (false, eval e X.env) :: starEach es X.env) (hpl : (backTo pos (starEach es X.env)).any (·.1) = false)
    (ht : eval (.Call (.Attribute o m apos) (e :: es) [] pos) X.env = (do
      let ov ← eval o X.env
      standAt apos.atName
      let (f, first) ← holding [ov] (getMethod ov m pl)
      callWith pos f first (backTo pos (starEach (e :: es) X.env)) (backToKw pos (keywordEach [] X.env)))) :
    PE X (.Call (.Attribute o m apos) (e :: es) [] pos) (fun σ H Q => ta σ H fun x H1 => ∃ Cl a dx vs f, x = .ref a ∧ SlX.Slt H1 a Cl dx vs ∧ SlX.SCls X.K Cl ∧ Meth X.K Cl m f ∧ t σ H1 fun ws H2 => ∃ k sp, k ≤ k0 ∧ FnR X.prog X.w X.K X.mg X.base CX0 k f sp ∧ frSp sp (x :: ws) H2 Q E0) := by
  refine ⟨fun pins s σ H Q I h => ?_⟩
  refine PySem.W.methodCall_KW (pl := pl) (thn (he.run pins s σ H _ I h) fun u s1 ⟨x, H1, I1, rx, Cl, a, dx, vs, f, ex, hsl, c, hm, q⟩ => ?_) ht
  subst ex
  obtain rfl : u = Value.ref a := rx
  refine SlX.getmethsl_ok I1 hsl c hm ?_
  refine PySem.W.callWith_K (first := [.ref a]) (h₀ := X.base) I.ok.mod.kin hm.kp (thn (ha.run pos pins s1 σ H1 _ I1 q) fun us s2 ⟨ws, H2, I2, r, k, sp, hk, F, q2⟩ => ⟨I2.kIn, ?_⟩) hst hpl
  exact wpAny_call (run_fnR (us := .ref a :: us) (vs := .ref a :: ws) (FnR.frame F) (hr.mono hk) pass0 I2 (.cons rfl r) q2)
theorem pe_methU0 {X : Cx} {k0 : Nat} {o : Expr} {m : Str} {ta : TE} {pos apos : Pos} {pl : Sem Bool} (he : PE X o ta) (hr : Room k0 X.A)
    (ht : eval (.Call (.Attribute o m apos) [] [] pos) X.env = (do
      let ov ← eval o X.env
      standAt apos.atName
      let (f, first) ← holding [ov] (getMethod ov m pl)
      callWith pos f first (backTo pos (starEach [] X.env)) (backToKw pos (keywordEach [] X.env)))) :
    PE X (.Call (.Attribute o m apos) [] [] pos) (fun σ H Q => ta σ H fun x H1 => ∃ Cl a dx vs f, x = .ref a ∧ SlX.Slt H1 a Cl dx vs ∧ SlX.SCls X.K Cl ∧ Meth X.K Cl m f ∧ ∃ k sp, k ≤ k0 ∧ FnR X.prog X.w X.K X.mg X.base CX0 k f sp ∧ frSp sp [x] H1 Q E0) := by
  refine ⟨fun pins s σ H Q I h => ?_⟩
  refine PySem.W.methodCall_KW (pl := pl) (thn (he.run pins s σ H _ I h) fun u s1 ⟨x, H1, I1, rx, Cl, a, dx, vs, f, ex, hsl, c, hm, k, sp, hk, F, q⟩ => ?_) ht
  subst ex
  obtain rfl : u = Value.ref a := rx
  refine SlX.getmethsl_ok I1 hsl c hm ?_
  exact PySem.W.callWith_K0 (first := [.ref a]) I1.kIn hm.kp (wpAny_call (run_fnR (us := [.ref a]) (vs := [.ref a]) (FnR.frame F) (hr.mono hk) pass0 I1 (.cons rfl .nil) q))
theorem meth_f {K : PySem.W.Frag} {C : Addr} {m : Str} {f f' : Addr} (h : Meth K C m f) (h' : Meth K C m f') : f' = f := by
  have a := h.at_
  have b := h'.at_
  rw [a] at b; cases b; rfl
end
end Dl

/-! X10: methods, making, methods of lists, own, lend -/
namespace Dl
open PySem L2
section
variable {c : Ctx} {a b e o : Expr} {x y : E} {pos apos p1 p2 p3 p4 : Pos}
theorem recv {m : Str} {K : PySem.W.Frag} {g : Gx} {F : Hp} {As : List Addr} {M : List C} {H : Hp} {r : Sl} {v : V} {Cl : Addr} (hm : HM g.K F As M H) (h : HasM g m M r Cl) (r1 : SlR g.K F As r v) : ∃ a dx us f, v = .ref a ∧ SlX.Slt H a Cl dx us ∧ SlX.SCls g.K Cl ∧ Meth g.K Cl m f := by
  cases h with
  | @sob _ j n vs f hk1 hj1 cl hf =>
    obtain ⟨a, ha, rfl⟩ := r1
    obtain ⟨dx, us, g0, _, g2, g3⟩ := slt_of hm ha hk1 hj1
    exact ⟨a, dx, us, f, rfl, g2, cl, hf⟩
  | @slo _ ds f cl hf =>
    obtain ⟨a, dx, vs, rfl, g1, g2⟩ := r1
    exact ⟨a, dx, vs.map some, f, rfl, same_slt hm.same g1, cl, hf⟩
theorem tr_meth {m : Str} {es : List Expr} {as : Es} {pl : Env → Sem Bool} (ho : Tr c o x) (hs : TrA c (e :: es) as) (hst : ∀ env, starEach (e :: es) env = (false, eval e env) :: starEach es env) (hpl : ∀ env, (backTo pos (starEach es env)).any (·.1) = false)
    (ht : ∀ env, eval (.Call (.Attribute o m apos) (e :: es) [] pos) env = (do
      let ov ← eval o env
      standAt apos.atName
      let (f, first) ← holding [ov] (getMethod ov m (pl env))
      callWith pos f first (backTo pos (starEach (e :: es) env)) (backToKw pos (keywordEach [] env)))) : Tr c (.Call (.Attribute o m apos) (e :: es) [] pos) (.meth x m as) := fun ρ M Q h X hX F As σ H sr hm G k => by
  have hX' := hX
  cases hX with | mk X k0 nd calm room po =>
  refine ⟨_, pe_methU pe_w room pa_w (hst _) (hpl _) (ht _), ho.ee h X hX' F As σ H sr hm _ fun v F1 As1 H1 r M1 s1 p1 r1 hm1 ⟨Cl, hM, h1⟩ => ?_⟩
  obtain ⟨a, dx, us, f, rfl, g1, g2, g3⟩ := recv (K := X.K) hm1 hM r1
  refine ⟨Cl, a, dx, us, f, rfl, g1, g2, g3, hs ρ M1 _ h1 X hX' F1 As1 σ H1 (sr.mono s1 p1) hm1 _ fun ws F2 As2 H2 rs M2 s2 p2 r2 hm2 ⟨kk, sp, df, hk, q⟩ => ?_⟩
  obtain ⟨f', g5, g4⟩ := df.ok
  have := meth_f g3 g5
  subst this
  exact ⟨kk, sp, hk, g4, q F2 As2 H2 (.ref a :: ws) hm2 (.cons (r1.mono s2 p2) r2) G (Aft.up k (s1.trans s2) (p1.trans p2) (Nat.le_trans (hm.le hm1 p1) (hm1.le hm2 p2)))⟩
theorem tr_meth0 {m : Str} {pl : Env → Sem Bool} (ho : Tr c o x)
    (ht : ∀ env, eval (.Call (.Attribute o m apos) [] [] pos) env = (do
      let ov ← eval o env
      standAt apos.atName
      let (f, first) ← holding [ov] (getMethod ov m (pl env))
      callWith pos f first (backTo pos (starEach [] env)) (backToKw pos (keywordEach [] env)))) : Tr c (.Call (.Attribute o m apos) [] [] pos) (.meth x m .nil) := fun ρ M Q h X hX F As σ H sr hm G k => by
  have hX' := hX
  cases hX with | mk X k0 nd calm room po =>
  refine ⟨_, pe_methU0 pe_w room (ht _), ho.ee h X hX' F As σ H sr hm _ fun v F1 As1 H1 r M1 s1 p1 r1 hm1 ⟨Cl, hM, h1⟩ => ?_⟩
  obtain ⟨a, dx, us, f, rfl, g1, g2, g3⟩ := recv (K := X.K) hm1 hM r1
  have h1 : MethZ _ Cl m [r] M1 Q := h1
  obtain ⟨kk, sp, df, hk, q⟩ := h1
  obtain ⟨f', g5, g4⟩ := df.ok
  have := meth_f g3 g5
  subst this
  exact ⟨Cl, a, dx, us, f', rfl, g1, g2, g3, kk, sp, hk, g4, q F1 As1 H1 [.ref a] hm1 (.cons r1 .nil) G (Aft.up k s1 p1 (hm.le hm1 p1))⟩
/-! ### C(e, ..) -/
def spUI (P : Program) (w : World) (K : PySem.W.Frag) (mg : Str → Option Value) (base : Heap) (k0 : Nat) (f : Addr) : Sp := fun vs H Q E => ∃ k sp, k ≤ k0 ∧ FnR P w K mg base CX0 k f sp ∧ frSp sp vs H Q E
theorem tr_make {nm : Str} {es : List Expr} {as : Es} (hs : TrA c (e :: es) as) (hg : Glo c nm) (hdb : (nm == ("__debug__" : Str)) = false) (he : ∀ env, starEach (e :: es) env = (false, eval e env) :: starEach es env) (hpl : ∀ env, (backTo pos (starEach es env)).any (·.1) = false) (hk0 : 0 < c.k) :
    Tr c (.Call (.Name nm p1) (e :: es) [] pos) (.make nm as) := fun ρ M Q ⟨⟨Cl, f, hC, hM⟩, h⟩ X hX F As σ H sr hm G k => by
  have hX' := hX
  cases hX with | mk X k0 nd calm room po =>
  have hk0 : 0 < k0 := hk0
  have room' : Room (k0 - 1 + 1) X.A := by rw [Nat.sub_add_cancel hk0]; exact room
  refine ⟨_, StX.pe_makeR hM (fn_U (k0 := k0 - 1)) room' hg hC pass0 pa_w hdb (he _) (hpl _), hs ρ M _ h X hX' F As σ H sr hm _ fun vs F1 As1 H1 rs M1 s1 p1 r1 hm1 ⟨C', kk, sp, df, hk, q⟩ x dx hx hdx ne => ?_⟩
  obtain ⟨f', hC', hM', hF⟩ := df.ok
  have : C' = Cl := by rw [hC] at hC'; cases hC'; rfl
  subst this
  have : f' = f := by
    have a := hM.init
    have b := hM'.init
    rw [a] at b; cases b; rfl
  subst this
  have hk : kk + 1 ≤ k0 := hk
  exact ⟨kk, sp, by omega, hF, q F1 As1 H1 vs hm1 r1 G (Aft.up k s1 p1 (hm.le hm1 p1)) x dx hx hdx ne⟩
/-! ### own, lend -/
theorem tr_own (ha : Tr c e x) : Tr c e (.own x) := fun ρ M Q h X hX F As σ H sr hm G k =>
  ha ρ M _ h X hX F As σ H sr hm G fun v F1 As1 H1 r M1 s1 p1 r1 hm1 ⟨z, M2, z1, z2, q⟩ => by
    split at q
    · rename_i c0
      obtain ⟨e1, e2, e3⟩ := z1
      subst e1; subst e2
      exact k v F1 As1 H1 _ _ s1 p1 r1 hm1 ⟨.s _, _, ⟨rfl, rfl⟩, by simp; omega, q⟩
    · exact q.elim
theorem lend_s {K : PySem.W.Frag} {F : Hp} {As : List Addr} {M : List C} {H : Hp} {s : Sl} {v : V} (hm : HM K F As M H) (r : SlR K F As s v) : SlR K H [] (lendS M s) v := by
  cases s with
  | un => exact trivial
  | val d => exact DV.mono hm.same r
  | own k =>
    show SlR K H [] (match lkM M k with | some c => (match c.frz with | some d => .val d | none => .un) | none => .un) v
    cases e : lkM M k with
    | none => exact trivial
    | some c0 =>
      show SlR K H [] (match c0.frz with | some d => .val d | none => .un) v
      cases e2 : c0.frz with
      | none => exact trivial
      | some d =>
        have : vw M (.own k) = some d := by
          show (match lkM M k with | some c => c.frz | none => none) = some d
          rw [e]; exact e2
        exact vw_dv this hm r
theorem SR.lend {K : PySem.W.Frag} {F : Hp} {As : List Addr} {M : List C} {H : Hp} {ρ : List Sl} {σ : L2.St} (sr : SR K F As ρ σ) (hm : HM K F As M H) : SR K H [] (ρ.map (lendS M)) σ := by
  refine ⟨by simpa using sr.len, fun i s q z => ?_⟩
  rw [List.getElem?_map] at q
  cases e : ρ[i]? with
  | none => rw [e] at q; cases q
  | some s0 =>
    rw [e] at q
    cases q
    by_cases h0 : s0 = .un
    · subst h0; exact absurd rfl z
    · obtain ⟨v, h1, h2⟩ := sr.get i s0 e h0
      exact ⟨v, h1, lend_s hm h2⟩
mutual
theorem dv_flatH {K : PySem.W.Frag} {H : Hp} {As : List Addr} (hA : ∀ a ∈ As, ∀ xs, ¬ Rd H a (.tup xs)) : ∀ {d : D} {v : V}, flatD d = true → DV K H d v → DV K (dels H As) d v
  | .non, _, _, h => h
  | .bl _, _, _, h => h
  | .int _, _, _, h => h
  | .str _, _, _, h => h
  | .tup ds, _, hf, ⟨a, vs, h1, h2, h3⟩ => by
    refine ⟨a, vs, h1, ?_, dvs_flatH hA hf h3⟩
    rcases h2 with (h2 | ⟨o, h2⟩) | h2
    · have na : a ∉ As := fun z => hA a z vs (.inl h2)
      exact .inl (.inl (by rw [dels_ne na]; exact h2))
    · have na : a ∉ As := fun z => hA a z vs (.inr ⟨o, h2⟩)
      exact .inl (.inr ⟨o, by rw [dels_ne na]; exact h2⟩)
    · exact .inr h2
  | .lst _, _, hf, _ => by cases hf
  | .dic _ _, _, hf, _ => by cases hf
  | .slo _ _, _, hf, _ => by cases hf
  | .obj _ _ _, _, hf, _ => by cases hf
  | .scr _, _, hf, _ => by cases hf
theorem dvs_flatH {K : PySem.W.Frag} {H : Hp} {As : List Addr} (hA : ∀ a ∈ As, ∀ xs, ¬ Rd H a (.tup xs)) : ∀ {ds : List D} {vs : List V}, flatDs ds = true → DVs K H ds vs → DVs K (dels H As) ds vs
  | [], _, _, h => h
  | d :: ds, _, hf, ⟨v, r, h1, h2, h3⟩ => by
    have hf : (flatD d && flatDs ds) = true := hf
    rw [Bool.and_eq_true] at hf
    exact ⟨v, r, h1, dv_flatH hA hf.1 h2, dvs_flatH hA hf.2 h3⟩
end

theorem HM.notup {K : PySem.W.Frag} {F : Hp} {As : List Addr} {M : List C} {H : Hp} (hm : HM K F As M H) {a : Addr} (ha : a ∈ As) : ∃ o, H a = some o ∧ (∀ xs, o ≠ .tup xs) ∧ ∀ u v, o ≠ .frz u v := by
  obtain ⟨o, h1, h2⟩ := hm.frs a ha
  refine ⟨o, h1, ?_, ?_⟩ <;> (cases h2 <;> (intros; intro z; cases z))
theorem tr_lend (ha : Tr c e x) : Tr c e (.lend x) := fun ρ M Q h X hX F As σ H sr hm G k => by
  have hm0 : HM c.K H [] [] H := ⟨.nil, rfl, fun i a c e => by simp at e, fun a h => (nomatch h), fun _ _ => rfl⟩
  refine ha (ρ.map (lendS M)) [] _ h X hX H [] σ H (sr.lend hm) hm0 G fun v F1 As1 H1 r M1 s1 p1 r1 hm1 ⟨z, M2, z1, z2, q⟩ => ?_
  -- the cells are as they were
  have sH : Same H H1 := s1.trans hm1.same
  have back : HM c.K (dels H1 As) As M H1 := ⟨hm.nd, hm.len, fun i a cc ea ec => by
      obtain ⟨o, g1, g2⟩ := hm.cell i a cc ea ec
      refine ⟨o, sH a o g1, g2.mono (fun b ob e => ?_) (List.prefix_refl _)⟩
      have nb : b ∉ As := fun z => by rw [hm.off b z] at e; cases e
      rw [dels_ne nb]
      exact sH b ob (by rw [hm.out b nb]; exact e), fun a ha => dels_in ha, fun a ha => (dels_ne ha).symm⟩
  have sF : Same F (dels H1 As) := fun b ob e => by
    have nb : b ∉ As := fun z => by rw [hm.off b z] at e; cases e
    rw [dels_ne nb]
    exact sH b ob (by rw [hm.out b nb]; exact e)
  have nt : ∀ a ∈ As, ∀ xs, ¬ Rd H1 a (.tup xs) := fun a ha xs hr => by
    obtain ⟨o, g1, g2, g3⟩ := hm.notup ha
    have g1' := sH a o g1
    rcases hr with hr | ⟨ob, hr⟩
    · rw [g1'] at hr; cases hr; exact g2 _ rfl
    · rw [g1'] at hr; cases hr; exact g3 _ _ rfl
  unfold lendR at q
  split at q
  · rename_i d
    obtain ⟨e1, e2⟩ := z1
    subst e1; subst e2
    refine k v (dels H1 As) As H1 (.val d) M sF (List.prefix_refl _) ?_ back ⟨.s (.val d), M, ⟨rfl, rfl⟩, Nat.le_refl _, q.2⟩
    exact dv_flatH nt q.1 (DV.mono hm1.same r1)
  · rename_i ds
    obtain ⟨e1, e2, e3⟩ := z1
    subst e1; subst e2
    obtain ⟨a, g1, rfl⟩ := r1
    obtain ⟨o, ho, vs, rfl, hv⟩ := hm1.cell M2.length a (.lst ds) g1 (by simp)
    -- the new list is none of the cells
    have na : a ∉ As := fun z => by
      obtain ⟨o', g2, _⟩ := hm.notup z
      have : H a = some o' := g2
      have hoff := hm1.off a (List.mem_iff_getElem?.mpr ⟨_, g1⟩)
      rw [s1 a o' this] at hoff
      cases hoff
    have hv' : DVs c.K (dels H1 (As ++ [a])) ds vs := by
      have h1 : DVs c.K H1 ds vs := hv.mono hm1.same
      refine dvs_flatH (fun b hb xs hr => ?_) q.1 h1
      rcases List.mem_append.mp hb with hb | hb
      · exact nt b hb xs hr
      · have : b = a := by simpa using hb
        subst this
        rcases hr with hr | ⟨ob, hr⟩ <;> (rw [ho] at hr; cases hr)
    have sF2 : Same F (dels H1 (As ++ [a])) := fun b ob e => by
      have nb : b ∉ As := fun z => by rw [hm.off b z] at e; cases e
      have nba : b ≠ a := fun z => by
        subst z
        have hoff := hm1.off b (List.mem_iff_getElem?.mpr ⟨_, g1⟩)
        rw [s1 b ob (by rw [hm.out b nb]; exact e)] at hoff
        cases hoff
      rw [dels_ne (by simp [nb, nba])]
      exact sH b ob (by rw [hm.out b nb]; exact e)
    refine k _ (dels H1 (As ++ [a])) (As ++ [a]) H1 (.own M.length) (M ++ [.lst ds]) sF2 (List.prefix_append _ _) ⟨a, by rw [← hm.len]; simp, rfl⟩ ?_ ⟨.n (.lst ds), M, ⟨rfl, rfl, hm.refs⟩, Nat.le_refl _, q.2⟩
    refine ⟨?_, by simp [hm.len], fun i b cc eb ec => ?_, fun b hb => dels_in hb, fun b hb => (dels_ne hb).symm⟩
    · rw [List.nodup_append]
      exact ⟨hm.nd, by simp, fun b hb b' hb' z => by
        have : b' = a := by simpa using hb'
        subst this; subst z; exact na hb⟩
    · by_cases hi : i < As.length
      · rw [List.getElem?_append_left hi] at eb
        rw [List.getElem?_append_left (by rw [← hm.len]; exact hi)] at ec
        obtain ⟨o', g2, g3⟩ := hm.cell i b cc eb ec
        exact ⟨o', sH b o' g2, g3.mono sF2 (List.prefix_append _ _)⟩
      · have hi2 : i = As.length := by
          have := (List.getElem?_eq_some_iff.mp eb).1
          simp at this; omega
        subst hi2
        rw [List.getElem?_append_right (Nat.le_refl _)] at eb
        rw [hm.len, List.getElem?_append_right (Nat.le_refl _)] at ec
        simp at eb ec
        subst eb; subst ec
        exact ⟨_, ho, vs, rfl, hv'⟩
  · exact q.elim
/-! ### methods of lists -/
theorem mtR_any {X : Cx} {id : String} : MtR X id fun x xs H' G' => ∃ r, MtR X id r ∧ r x xs H' G' := fun pins s σ H x xs v us Q I rx rs ⟨r, hr, q⟩ => hr pins s σ H x xs v us Q I rx rs q

theorem mt_list {m : Mth} {r : Sl} {M : List C} {K : PySem.W.Frag} {F : Hp} {As : List Addr} {H : Hp} {v : V} (hm : HM K F As M H) (hr : SlR K F As r v) (hl : m.isL = true) (h : mtOk m r M = true) : tyV K "list" v H := by
  unfold mtOk at h
  split at h
  · rename_i k
    obtain ⟨a, ha, rfl⟩ := hr
    split at h
    · rename_i ds e
      rw [lkM_eq] at e
      obtain ⟨o, ho, vs, rfl, _⟩ := hm.cell k a _ ha e
      exact .inl ⟨rfl, vs, .inl (.inl ho)⟩
    · rename_i ds e
      rw [lkM_eq] at e
      obtain ⟨o, ho, vs, rfl, _⟩ := hm.cell k a _ ha e
      exact .inl ⟨rfl, vs, .inl (.inl ho)⟩
    · rw [hl] at h; cases h
    · rw [hl] at h; cases h
    · cases h
  · rw [hl] at h; cases h
  · cases h
/-- behind a change of a cell -/
theorem fin_set {K : PySem.W.Frag} {F : Hp} {As : List Addr} {M : List C} {H : Hp} {G : VK} {n j : Nat} {Q : Z → List C → Prop} {l : Addr} {o : HO} {cc : C} {d : D} {v : V} (k : Aft K F As (zq n Q) G) (hm : HM K F As M H) (hn : n ≤ M.length) (hl : As[j]? = some l) (hc : CR K F As l cc o) (hv : DV K F d v) (q : Q (.s (.val d)) (ptM M j cc)) : G v (upd H l o) := by
  rw [ptM_eq] at q
  exact k _ F As _ (.val d) _ (Same.refl _) (List.prefix_refl _) hv (hm.set hl hc) ⟨.s _, _, ⟨rfl, rfl⟩, by simpa using hn, q⟩

theorem inv_append {r s : Sl} {M : List C} {Q : Z → List C → Prop} (h : mtR .append r [s] M Q) : ∃ k d ds, r = .own k ∧ s = .val d ∧ M[k]? = some (.lst ds) ∧ ds.length < 100000 ∧ Q (.s (.val .non)) (ptM M k (.lst (ds ++ [d]))) := by
  cases r with
  | un => exact False.elim h
  | val _ => exact False.elim h
  | own k => cases s with
    | un => exact False.elim h
    | own _ => exact False.elim h
    | val d =>
      have h : (match lkM M k with | some (.lst ds) => ds.length < 100000 ∧ Q (.s (.val .non)) (ptM M k (.lst (ds ++ [d]))) | _ => False) := h
      rw [lkM_eq] at h
      cases e : M[k]? with
      | none => rw [e] at h; exact False.elim h
      | some cc =>
        rw [e] at h
        cases cc with
        | lst ds => exact ⟨k, d, ds, rfl, rfl, e, h⟩
        | _ => exact False.elim h
theorem inv_extend {r s : Sl} {M : List C} {Q : Z → List C → Prop} (h : mtR .extend r [s] M Q) : ∃ k ds xs, r = .own k ∧ M[k]? = some (.lst ds) ∧ sq M s = some (true, xs) ∧ ds.length + xs.length < 100000 ∧ Q (.s (.val .non)) (ptM M k (.lst (ds ++ xs))) := by
  cases r with
  | un => exact False.elim h
  | val _ => exact False.elim h
  | own k =>
    have h : (match lkM M k, sq M s with | some (.lst ds), some (true, xs) => ds.length + xs.length < 100000 ∧ Q (.s (.val .non)) (ptM M k (.lst (ds ++ xs))) | _, _ => False) := h
    rw [lkM_eq] at h
    cases e : M[k]? with
    | none => rw [e] at h; exact False.elim h
    | some cc =>
      rw [e] at h
      cases cc with
      | lst ds =>
        cases e2 : sq M s with
        | none => rw [e2] at h; exact False.elim h
        | some p =>
          obtain ⟨b, xs⟩ := p
          rw [e2] at h
          cases b with
          | true => exact ⟨k, ds, xs, rfl, e, rfl, h⟩
          | false => exact False.elim h
      | _ => exact False.elim h
theorem inv_pop {r : Sl} {M : List C} {Q : Z → List C → Prop} (h : mtR .pop r [] M Q) : ∃ k xs d, r = .own k ∧ M[k]? = some (.lst (xs ++ [d])) ∧ Q (.s (.val d)) (ptM M k (.lst xs)) := by
  cases r with
  | un => exact False.elim h
  | val _ => exact False.elim h
  | own k =>
    have h : (match lkM M k with | some (.lst ds) => ∃ xs d, ds = xs ++ [d] ∧ Q (.s (.val d)) (ptM M k (.lst xs)) | _ => False) := h
    rw [lkM_eq] at h
    cases e : M[k]? with
    | none => rw [e] at h; exact False.elim h
    | some cc =>
      rw [e] at h
      cases cc with
      | lst ds => obtain ⟨xs, d, rfl, q⟩ := h; exact ⟨k, xs, d, rfl, e, q⟩
      | _ => exact False.elim h
theorem tr_append (ho : Tr c o x) (ha : Tr c e y) (hbase : ∀ env, attributeBase o "append" env (eval o env) = eval o env) (hline : (apos.endLine == pos.line) = true) (hs : ∀ env, starEach [e] env = (false, eval e env) :: starEach [] env)
    (hfew : ∀ env, ((backTo pos (starEach [e] env)).all (fun x => !x.1) && (backToKw pos (keywordEach [] env)).all (fun x => x.1.isSome) && decide (([e] : List Expr).length + ([] : List Keyword).length + (if ([] : List Keyword).isEmpty then 0 else 1) < 30)) = true) :
    Tr c (.Call (.Attribute o "append" apos) [e] [] pos) (.mt x .append (.cons y .nil)) := fun ρ M Q h X hX F As σ H sr hm G k => by
  have hX' := hX
  cases hX with | mk X k0 nd calm room po =>
  refine ⟨_, pe_bm PySem.F.plainAttrs_list PySem.F.slot_list_append PySem.F.type_list_append mt_append pe_w (pa_cons pe_w pa_nil (hs _)) (hbase _) (hfew _) hline (hs _), ?_⟩
  refine ho.ee h X hX' F As σ H sr hm _ fun v F1 As1 H1 r1 M1 s1 p1 q1 hm1 ⟨hk, h1⟩ => ⟨mt_list hm1 q1 rfl hk, ?_⟩
  refine ha.ee h1 X hX' F1 As1 σ H1 (sr.mono s1 p1) hm1 _ fun u F2 As2 H2 r2 M2 s2 p2 q2 hm2 h2 => ?_
  obtain ⟨j, d, ds, rfl, rfl, e, hz, q⟩ := inv_append h2
  obtain ⟨l, hl, rfl⟩ := q1.mono s2 p2
  obtain ⟨ob, hob, vs, rfl, hv⟩ := hm2.cell j l _ hl e
  refine ⟨l, vs, u, rfl, rfl, hob, ?_, ?_⟩
  · rw [← hv.length]; exact Nat.lt_of_lt_of_le hz (by decide)
  · exact fin_set (cc := .lst (ds ++ [d])) (d := .non) (Aft.mono k (s1.trans s2) (p1.trans p2)) hm2 (Nat.le_trans (hm.le hm1 p1) (hm1.le hm2 p2)) hl ⟨_, rfl, dvs_paired.mpr (paired_append (dvs_paired.mp hv) (.cons q2 .nil))⟩ rfl q
theorem tr_extend (ho : Tr c o x) (ha : Tr c e y) (hbase : ∀ env, attributeBase o "extend" env (eval o env) = eval o env) (hline : (apos.endLine == pos.line) = true) (hs : ∀ env, starEach [e] env = (false, eval e env) :: starEach [] env)
    (hfew : ∀ env, ((backTo pos (starEach [e] env)).all (fun x => !x.1) && (backToKw pos (keywordEach [] env)).all (fun x => x.1.isSome) && decide (([e] : List Expr).length + ([] : List Keyword).length + (if ([] : List Keyword).isEmpty then 0 else 1) < 30)) = true) :
    Tr c (.Call (.Attribute o "extend" apos) [e] [] pos) (.mt x .extend (.cons y .nil)) := fun ρ M Q h X hX F As σ H sr hm G k => by
  have hX' := hX
  cases hX with | mk X k0 nd calm room po =>
  refine ⟨_, pe_bm PySem.F.plainAttrs_list PySem.F.slot_list_extend PySem.F.type_list_extend mt_extend pe_w (pa_cons pe_w pa_nil (hs _)) (hbase _) (hfew _) hline (hs _), ?_⟩
  refine ho.ee h X hX' F As σ H sr hm _ fun v F1 As1 H1 r1 M1 s1 p1 q1 hm1 ⟨hk, h1⟩ => ⟨mt_list hm1 q1 rfl hk, ?_⟩
  refine ha.ee h1 X hX' F1 As1 σ H1 (sr.mono s1 p1) hm1 _ fun u F2 As2 H2 r2 M2 s2 p2 q2 hm2 h2 => ?_
  obtain ⟨j, ds, xs, rfl, e, e2, hz, q⟩ := inv_extend h2
  obtain ⟨l, hl, rfl⟩ := q1.mono s2 p2
  obtain ⟨ob, hob, vs, rfl, hv⟩ := hm2.cell j l _ hl e
  obtain ⟨b, ws, rfl, hw, hb⟩ := (sq_s e2).get hm2 q2
  refine ⟨l, b, vs, ws, rfl, rfl, hob, hb, ?_, ?_⟩
  · rw [← hv.length, ← hw.length]; exact Nat.le_trans (Nat.le_of_lt hz) (by decide)
  · exact fin_set (cc := .lst (ds ++ xs)) (d := .non) (Aft.mono k (s1.trans s2) (p1.trans p2)) hm2 (Nat.le_trans (hm.le hm1 p1) (hm1.le hm2 p2)) hl ⟨_, rfl, dvs_paired.mpr (paired_append (dvs_paired.mp hv) (dvs_paired.mp hw))⟩ rfl q
theorem paired_dropLast {α β : Type} {R : α → β → Prop} : ∀ {xs : List α} {d : α} {vs : List β}, Paired R (xs ++ [d]) vs → ∃ ws v, vs = ws ++ [v] ∧ Paired R xs ws ∧ R d v
  | [], d, _, .cons r t => by cases t; exact ⟨[], _, rfl, .nil, r⟩
  | x :: xs, d, _, .cons r t => by
    obtain ⟨ws, v, e, h1, h2⟩ := paired_dropLast (xs := xs) t
    exact ⟨_ :: ws, v, by rw [e]; rfl, .cons r h1, h2⟩
theorem tr_pop (ho : Tr c o x) (hbase : ∀ env, attributeBase o "pop" env (eval o env) = eval o env) (hline : (apos.endLine == pos.line) = true) :
    Tr c (.Call (.Attribute o "pop" apos) [] [] pos) (.mt x .pop .nil) := fun ρ M Q h X hX F As σ H sr hm G k => by
  have hX' := hX
  cases hX with | mk X k0 nd calm room po =>
  refine ⟨_, pe_bm0 PySem.F.plainAttrs_list PySem.F.slot_list_pop PySem.F.type_list_pop mt_pop pe_w (hbase _) hline, ?_⟩
  refine ho.ee h X hX' F As σ H sr hm _ fun v F1 As1 H1 r1 M1 s1 p1 q1 hm1 ⟨hk, h1⟩ => ⟨mt_list hm1 q1 rfl hk, ?_⟩
  obtain ⟨j, xs, d, rfl, e, q⟩ := inv_pop h1
  obtain ⟨l, hl, rfl⟩ := q1
  obtain ⟨ob, hob, vs, rfl, hv⟩ := hm1.cell j l _ hl e
  obtain ⟨ws, u, rfl, g1, g2⟩ := paired_dropLast (dvs_paired.mp hv)
  refine ⟨l, ws ++ [u], u, rfl, rfl, hob, by simp, ?_⟩
  rw [List.dropLast_concat]
  exact fin_set (cc := .lst xs) (d := d) (Aft.mono k s1 p1) hm1 (hm.le hm1 p1) hl ⟨_, rfl, dvs_paired.mpr g1⟩ g2 q
/-! ### list(range(..)), x[::-1] -/
theorem tr_lrange1 (B : Bi c.mg) (ha : Tr c a x) (hg1 : Glo c "list") (hg2 : Glo c "range") (hs : ∀ env, starEach [a] env = [(false, eval a env)]) :
    Tr c (.Call (.Name "list" p1) [.Call (.Name "range" p2) [a] [] p3] [] pos) (.bi .lrange (.cons x .nil)) := fun ρ M Q h X hX F As σ H sr hm G k => by
  have hX' := hX
  cases hX with | mk X k0 nd calm room po =>
  refine ⟨_, pe_listRg calm hg1 (B _ (by decide)) (prg_1 hg2 (B _ (by decide)) pe_w (hs _)), ?_⟩
  refine ha.ee h X hX' F As σ H sr hm _ fun v F1 As1 H1 r1 M1 s1 p1 q1 hm1 h1 => ?_
  dsimp only [wpA, biR] at h1
  split at h1
  · rename_i i e
    cases e
    obtain ⟨hb, q⟩ := h1
    refine ⟨i, q1, ⟨by omega, by omega, by omega, by omega, by omega⟩, fun p hp => fin_lst (Aft.mono k s1 p1) hm1 (hm.le hm1 p1) hp (dvs_ints.mpr ?_) q⟩
    rw [rgV_rng]; simp
  · rename_i e; cases e
  · exact h1.elim
theorem tr_lrange2 (B : Bi c.mg) (ha : Tr c a x) (hb : Tr c b y) (hg1 : Glo c "list") (hg2 : Glo c "range") (hs : ∀ env, starEach [a, b] env = (false, eval a env) :: starEach [b] env) (hs2 : ∀ env, starEach [b] env = (false, eval b env) :: starEach [] env) (hn : ∀ env, starEach [] env = []) :
    Tr c (.Call (.Name "list" p1) [.Call (.Name "range" p2) [a, b] [] p3] [] pos) (.bi .lrange (.cons x (.cons y .nil))) := fun ρ M Q h X hX F As σ H sr hm G k => by
  have hX' := hX
  cases hX with | mk X k0 nd calm room po =>
  refine ⟨_, pe_listRg calm hg1 (B _ (by decide)) (prg_2 hg2 (B _ (by decide)) pe_w pe_w (hs _) (hs2 _) (by rw [hs2, hn]; rfl)), ?_⟩
  refine ha.ee h X hX' F As σ H sr hm _ fun v F1 As1 H1 r1 M1 s1 p1 q1 hm1 h1 => hb.ee h1 X hX' F1 As1 σ H1 (sr.mono s1 p1) hm1 _ fun u F2 As2 H2 r2 M2 s2 p2 q2 hm2 h2 => ?_
  dsimp only [wpA, biR] at h2
  split at h2
  · rename_i e; cases e
  · rename_i i j e
    cases e
    obtain ⟨hb, q⟩ := h2
    refine ⟨i, j, q1, q2, ⟨by omega, by omega, by omega, by omega, by omega⟩, fun p hp => fin_lst (Aft.mono k (s1.trans s2) (p1.trans p2)) hm2 (Nat.le_trans (hm.le hm1 p1) (hm1.le hm2 p2)) hp (dvs_ints.mpr ?_) q⟩
    rw [rgV_rng]
  · exact h2.elim
theorem tr_rev {k1 : Nat} (ha : Tr c e x) : Tr c (.Subscript e (.Slice none none (some (.UnaryOp .USub (.Constant (.int 1) k1 p1) p2)) p3) pos) (.rev x) := fun ρ M Q h X hX F As σ H sr hm G k => by
  have hX' := hX
  cases hX with | mk X k0 nd calm room po =>
  refine ⟨_, pe_revL pe_w, ha.ee h X hX' F As σ H sr hm _ fun v F1 As1 H1 r1 M1 s1 p1 q1 hm1 h1 => ?_⟩
  split at h1
  · rename_i ds e
    obtain ⟨l, vs, rfl, g1, g2⟩ := (sq_s e).get hm1 q1
    refine ⟨l, vs, rfl, .inl (.inl g2), fun p hp => fin_lst (Aft.mono k s1 p1) hm1 (hm.le hm1 p1) hp ?_ h1⟩
    have rev : ∀ {xs : List D} {ys : List V}, Paired (fun d v => DV X.K F1 d v) xs ys → Paired (fun d v => DV X.K F1 d v) xs.reverse ys.reverse := by
      intro xs ys hp
      induction hp with
      | nil => exact .nil
      | cons r t ih => rw [List.reverse_cons, List.reverse_cons]; exact paired_append ih (.cons r .nil)
    exact dvs_paired.mpr (rev (dvs_paired.mp g1))
  · exact h1.elim
end
end Dl

/-! X11: targets, what is walked -/
namespace Dl
open PySem L2
theorem pg_w {X : Cx} {tg : Expr} : PG X tg (WG X tg) := ⟨fun pins s σ H v u Q I r ⟨_, h, q⟩ => h.run pins s σ H v u Q I r q⟩
theorem wipe_get {σ : L2.St} {i : Nat} : ∀ {vs : List Nat}, i ∉ vs → (wipe σ vs)[i]? = σ[i]?
  | [], _ => rfl
  | v :: vs, h => by
    unfold wipe
    rw [List.getElem?_set_ne (fun z => h (by simp [z])), wipe_get fun z => h (List.mem_cons_of_mem _ z)]
theorem wipe_in {σ : L2.St} {i : Nat} (hi : i < σ.length) : ∀ {vs : List Nat}, i ∈ vs → (wipe σ vs)[i]? = some none
  | [], h => nomatch h
  | v :: vs, h => by
    unfold wipe
    by_cases e : v = i
    · subst e; rw [List.getElem?_set_self (by rw [wipe_length]; exact hi)]
    · rw [List.getElem?_set_ne e]
      rcases List.mem_cons.mp h with h | h
      · exact absurd h.symm e
      · exact wipe_in hi h
theorem wipe_ext {σ σ' : L2.St} {vs : List Nat} (hl : σ'.length = σ.length) (h : ∀ i : Nat, i ∉ vs → σ'[i]? = σ[i]?) : wipe σ' vs = wipe σ vs := by
  apply List.ext_getElem?
  intro i
  by_cases hi : i ∈ vs
  · by_cases hz : i < σ.length
    · rw [wipe_in hz hi, wipe_in (by omega) hi]
    · rw [List.getElem?_eq_none_iff.mpr (by rw [wipe_length]; omega), List.getElem?_eq_none_iff.mpr (by rw [wipe_length]; omega)]
  · rw [wipe_get hi, wipe_get hi, h i hi]
theorem wipe_wipe {σ : L2.St} {vs : List Nat} : wipe (wipe σ vs) vs = wipe σ vs := wipe_ext (wipe_length _ _) fun i hi => wipe_get hi

theorem clr_len : ∀ (ρ : List Sl) (is : List Nat), (clr ρ is).length = ρ.length
  | _, [] => rfl
  | ρ, i :: is => by unfold clr; rw [clr_len, pt_eq, List.length_set]
theorem clr_get {j : Nat} : ∀ {ρ : List Sl} {is : List Nat}, j ∉ is → (clr ρ is)[j]? = ρ[j]?
  | _, [], _ => rfl
  | ρ, i :: is, h => by unfold clr; rw [clr_get (fun z => h (List.mem_cons_of_mem _ z)), pt_eq, List.getElem?_set_ne (fun z => h (by simp [z]))]
theorem clr_un {j : Nat} {s : Sl} : ∀ {ρ : List Sl} {is : List Nat}, j ∈ is → (clr ρ is)[j]? = some s → s = .un
  | _, [], h, _ => nomatch h
  | ρ, i :: is, h, e => by
    unfold clr at e
    by_cases hi : j ∈ is
    · exact clr_un hi e
    · have : j = i := by
        rcases List.mem_cons.mp h with z | z
        · exact z
        · exact absurd z hi
      subst this
      rw [clr_get hi, pt_eq] at e
      by_cases hl : j < ρ.length
      · rw [List.getElem?_set_self hl] at e; cases e; rfl
      · rw [List.getElem?_eq_none_iff.mpr (by rw [List.length_set]; omega)] at e; cases e
section
variable {K : PySem.W.Frag} {F : Hp} {As : List Addr} {ρ : List Sl} {σ : L2.St}
theorem SR.clr (h : SR K F As ρ σ) (is : List Nat) : SR K F As (clr ρ is) σ := ⟨by rw [clr_len]; exact h.len, fun j s e z => by
  by_cases hj : j ∈ is
  · exact absurd (clr_un hj e) z
  · rw [clr_get hj] at e; exact h.get j s e z⟩
theorem SR.clrW (h : SR K F As ρ σ) (is : List Nat) : SR K F As (Dl.clr ρ is) (wipe σ is) := ⟨by rw [clr_len, wipe_length]; exact h.len, fun j s e z => by
  by_cases hj : j ∈ is
  · exact absurd (clr_un hj e) z
  · rw [clr_get hj] at e; rw [wipe_get hj]; exact h.get j s e z⟩
end
/-! ### targets -/
def Tg.ix : Tg → List Nat
  | .n i => [i]
  | .t is => is
def TrG (c : Ctx) (tg : Expr) (t : Tg) : Prop := ∀ ρ d (Q : List Sl → Prop), bindT t d ρ Q → ∀ X, c.Is X → ∀ F As σ H v, SR c.K F As ρ σ → Same F H → DV c.K F d v →
  ∀ R : L2.St → Hp → Prop, (∀ ρ' σ', Q ρ' → SR c.K F As ρ' σ' → σ'.length = σ.length → (∀ i, i ∉ t.ix → σ'[i]? = σ[i]?) → R σ' H) → WG X tg v σ H R
section
variable {c : Ctx} {ρ : List Sl} {M : List C} {a b e tg : Expr} {x y : E} {pos p1 p2 p3 : Pos}
theorem trG_n (i : Nat) {nm : Str} (hi : c.N[i]? = some nm) (hx : Loc c.sc nm) (hf : c.fn nm = true ∨ c.sc.names.lookup nm = some .local) : TrG c (.Name nm pos) (.n i) := fun ρ d Q h X hX F As σ H v sr hm hv R k => by
  cases hX with | mk X k0 nd calm room po =>
  refine ⟨_, pg_name nd hi hx hf, k _ _ h ?_ (by simp) fun j hj => by rw [List.getElem?_set_ne (fun z => hj (by simp [Tg.ix, z]))]⟩
  rw [pt_eq]
  exact sr.set (s := .val d) hv
theorem trG_t (i j : Nat) {nx ny : Str} {kk : Nat} (hi : c.N[i]? = some nx) (hx : Loc c.sc nx) (hf : c.fn nx = true ∨ c.sc.names.lookup nx = some .local) (hj : c.N[j]? = some ny) (hy : Loc c.sc ny) (hfy : c.fn ny = true ∨ c.sc.names.lookup ny = some .local) :
    TrG c (.Tuple [.Name nx p1, .Name ny p2] kk pos) (.t [i, j]) := fun ρ d Q h X hX F As σ H v sr hm hv R k => by
  cases hX with | mk X k0 nd calm room po =>
  dsimp only [bindT] at h
  split at h
  · rename_i d1 d2
    obtain ⟨t, vs, rfl, h1, v1, r1, rfl, h2, v2, r2, rfl, h3, h4⟩ := hv
    have h4 : r2 = [] := h4
    subst h4
    refine ⟨_, pg_tup calm (pgs_cons (pg_name nd hi hx hf) (pgs_cons (pg_name nd hj hy hfy) pgs_nil)), t, _, rfl, same_t hm h1, rfl, v1, _, rfl, v2, _, rfl, rfl, ?_⟩
    refine k _ _ h ?_ (by simp) fun l hl => by
      rw [List.getElem?_set_ne (fun z => hl (by simp [Tg.ix, z])), List.getElem?_set_ne (fun z => hl (by simp [Tg.ix, z]))]
    rw [pt_eq, pt_eq]
    exact (sr.set (s := .val d1) h2).set (s := .val d2) h3
  · exact h.elim
/-! ### what is walked -/
structure IterOk (K : PySem.W.Frag) (As : List Addr) (M : List C) (F : Hp) (ks : List Nat) (J : L2.It) (ds : List D) : Prop where
  inn : ∀ k ∈ ks, k < M.length
  ex : ∃ (G : Hp → Prop) (Y : Nat → Hp → V → Hp → Prop), Walk J ds.length G Y ∧ (∀ F' As' M' H', Same F F' → As <+: As' → HM K F' As' M' H' → (∀ k ∈ ks, M'[k]? = M[k]?) → G H') ∧
    ∀ i d F' As' M' H' x H'', ds[i]? = some d → Same F F' → As <+: As' → HM K F' As' M' H' → (∀ k ∈ ks, M'[k]? = M[k]?) → Y i H' x H'' → ∃ F'', Same F' F'' ∧ HM K F'' As' M' H'' ∧ DV K F'' d x

def TrI (c : Ctx) (tg it : Expr) (i : It) : Prop := ∀ ρ M (Q : List D → List Nat → List C → Prop), wpI c.g i ρ M Q → ∀ X, c.Is X → ∀ F As σ H, SR c.K F As ρ σ → HM c.K F As M H →
  ∀ R : L2.It → Hp → Prop, (∀ J F' As' H' M' ds ks, Same F F' → As <+: As' → HM c.K F' As' M' H' → IterOk c.K As' M' F' ks J ds → Q ds ks M' → R J H') → WI X tg it σ H R
theorem iter_lst {K : PySem.W.Frag} {As : List Addr} {F : Hp} {s : Sl} {ds : List D} {a : Addr} (q : SqS M s true ds) (r : SlR K F As s (.ref a)) (hl : As.length = M.length) : IterOk K As M F s.refs (Itl K a) ds := by
  have get : ∀ F' As' M' H', Same F F' → As <+: As' → HM K F' As' M' H' → (∀ k ∈ s.refs, M'[k]? = M[k]?) → ∃ vs, H' a = some (.lst vs) ∧ DVs K F' ds vs := fun F' As' M' H' sm p hm hk => by
    have q' : SqS M' s true ds := by
      cases q with
      | lst => exact .lst
      | own h => exact .own ((hk _ (by simp [Sl.refs])).trans h)
    obtain ⟨a', vs, e, h1, h2⟩ := q'.get hm (r.mono sm p)
    cases e
    exact ⟨vs, h2, h1⟩
  refine ⟨fun k hk => ?_, fun H => ∃ vs, H a = some (.lst vs) ∧ vs.length = ds.length, fun i H x H' => H' = H ∧ ∀ vs, H a = some (.lst vs) → vs[i]? = some x, ⟨fun i H hi ⟨vs, h1, h2⟩ => ?_, fun H ⟨vs, h1, h2⟩ => ?_, fun i H x H' hi g y => ?_⟩, fun F' As' M' H' sm p hm hk => ?_, fun i d F' As' M' H' x H'' hd sm p hm hk y => ?_⟩
  · cases q with
    | lst => cases hk
    | own h =>
      rename_i k1
      have : k = k1 := by simpa [Sl.refs] using hk
      subst this
      exact (List.getElem?_eq_some_iff.mp h).1
  · have hi' : i < vs.length := by omega
    exact ⟨vs, vs[i], .inl (.inl h1), List.getElem?_eq_getElem hi'⟩
  · exact ⟨vs, .inl (.inl h1), by omega⟩
  · exact ⟨y.1, fun vs h => y.2 vs (.inl (.inl h))⟩
  · obtain ⟨vs, h1, h2⟩ := get F' As' M' H' sm p hm hk
    exact ⟨vs, h1, h2.length.symm⟩
  · obtain ⟨vs, h1, h2⟩ := get F' As' M' H' sm p hm hk
    obtain ⟨rfl, y⟩ := y
    obtain ⟨v, h3, h4⟩ := h2.get hd
    have := y vs h1
    rw [h3] at this; cases this
    exact ⟨F', Same.refl _, hm, h4⟩
theorem iter_tup {K : PySem.W.Frag} {As : List Addr} {F : Hp} {ds : List D} {a : Addr} (r : DV K F (.tup ds) (.ref a)) : IterOk K As M F [] (Itt K a) ds := by
  obtain ⟨a', vs, e, h1, h2⟩ := r
  cases e
  have hz := h2.length
  refine ⟨fun k hk => (nomatch hk), fun H => SqT K H a vs, YAt vs, by rw [hz]; exact walk_tup, fun F' As' M' H' sm p hm _ => same_t (sm.trans hm.same) h1, fun i d F' As' M' H' x H'' hd sm p hm _ y => ?_⟩
  obtain ⟨rfl, y⟩ := y
  obtain ⟨v, h3, h4⟩ := h2.get hd
  rw [y] at h3; cases h3
  exact ⟨F', Same.refl _, hm, h4.mono sm⟩
theorem rng_get {lo : Int} {n i : Nat} {x : Int} : (rng lo n)[i]? = some x ↔ i < n ∧ x = lo + i := by
  unfold rng
  rw [List.getElem?_map]
  by_cases h : i < n
  · rw [List.getElem?_range h]; simp [h]; constructor <;> intro z <;> exact z.symm
  · rw [List.getElem?_eq_none_iff.mpr (by simp; omega)]; simp [h]
theorem rng_len {lo : Int} {n : Nat} : (rng lo n).length = n := by simp [rng]
theorem iter_fn {K : PySem.W.Frag} {As : List Addr} {F : Hp} {J : L2.It} {n : Nat} {f : Nat → Int} (w : Walk J n (fun _ => True) (YFn fun i => .int (f i))) : IterOk K As M F [] J (((List.range n).map f).map D.int) := by
  refine ⟨fun k hk => (nomatch hk), fun _ => True, YFn fun i => .int (f i), by simpa using w, fun _ _ _ _ _ _ _ _ => trivial, fun i d F' As' M' H' x H'' hd sm p hm _ y => ?_⟩
  obtain ⟨rfl, rfl⟩ := y
  rw [List.getElem?_map, List.getElem?_map] at hd
  by_cases h : i < n
  · rw [List.getElem?_range h] at hd
    simp at hd
    subst hd
    exact ⟨F', Same.refl _, hm, rfl⟩
  · rw [List.getElem?_eq_none_iff.mpr (by simp; omega)] at hd
    simp at hd
theorem iter_pair {K : PySem.W.Frag} {As : List Addr} {F : Hp} {J : L2.It} {n : Nat} {ks : List Nat} {G : Hp → Prop} {xs ys : Hp → Nat → Option V} {ds es : Nat → D} (inn : ∀ k ∈ ks, k < M.length)
    (w : Walk J n G (fun i H v H' => ∃ T x y, v = .ref T ∧ H T = none ∧ H' = upd H T (.tup [x, y]) ∧ xs H i = some x ∧ ys H i = some y)) (hG : ∀ F' As' M' H', Same F F' → As <+: As' → HM K F' As' M' H' → (∀ k ∈ ks, M'[k]? = M[k]?) → G H' ∧ ∀ i x y, i < n → xs H' i = some x → ys H' i = some y → DV K F' (ds i) x ∧ DV K F' (es i) y) :
    IterOk K As M F ks J ((List.range n).map fun i => .tup [ds i, es i]) := by
  refine ⟨inn, G, fun i H v H' => ∃ T x y, v = .ref T ∧ H T = none ∧ H' = upd H T (.tup [x, y]) ∧ xs H i = some x ∧ ys H i = some y, by simpa using w, fun F' As' M' H' s p hm hk => (hG F' As' M' H' s p hm hk).1, fun i d F' As' M' H' x H'' hd s p hm hk ⟨T, u, v, e1, e2, e3, e4, e5⟩ => ?_⟩
  subst e1; subst e3
  rw [List.getElem?_map] at hd
  by_cases hi : i < n
  · rw [List.getElem?_range hi] at hd
    cases hd
    obtain ⟨h1, h2⟩ := (hG F' As' M' H' s p hm hk).2 i u v hi e4 e5
    obtain ⟨_, fT⟩ := hm.fresh e2
    exact ⟨_, same_new fT, hm.laid e2, T, [u, v], rfl, .inl (.inl upd_same), u, [v], rfl, h1.mono (same_new fT), v, [], rfl, h2.mono (same_new fT), rfl⟩
  · rw [List.getElem?_eq_none_iff.mpr (by simp; omega)] at hd
    cases hd

theorem trI_r1 (B : Bi c.mg) (ha : Tr c a x) (hg : Glo c "range") (hs : ∀ env, starEach [a] env = [(false, eval a env)]) : TrI c tg (.Call (.Name "range" p1) [a] [] pos) (.r1 x) := fun ρ M Q h X hX F As σ H sr hm R k => by
  have hX' := hX
  cases hX with | mk X k0 nd calm room po =>
  refine ⟨_, pi_range1 hg (B _ (by decide)) (pa_cons pe_w pa_nil (hs _)) (hs _), ha.ee h X hX' F As σ H sr hm _ fun v F1 As1 H1 r M1 s1 p1 r1 hm1 h1 => ?_⟩
  split at h1
  · rename_i i
    have r1 : v = .int i := r1
    subst r1
    exact ⟨i, rfl, by omega, by omega, k _ F1 As1 H1 M1 _ _ s1 p1 hm1 (iter_fn (f := fun j => 0 + (j : Int)) walk_range) h1.2⟩
  · exact h1.elim
theorem trI_r2 (B : Bi c.mg) (ha : Tr c a x) (hb : Tr c b y) (hg : Glo c "range") (hs : ∀ env, starEach [a, b] env = [(false, eval a env), (false, eval b env)]) (hs2 : ∀ env, starEach [b] env = [(false, eval b env)]) : TrI c tg (.Call (.Name "range" p1) [a, b] [] pos) (.r2 x y) := fun ρ M Q h X hX F As σ H sr hm R k => by
  have hX' := hX
  cases hX with | mk X k0 nd calm room po =>
  refine ⟨_, pi_range2 hg (B _ (by decide)) (pa_cons pe_w (pa_cons pe_w pa_nil (hs2 _)) ((hs _).trans (by rw [hs2]))) (hs _) (hs2 _), ha.ee h X hX' F As σ H sr hm _ fun v F1 As1 H1 r M1 s1 p1 r1 hm1 h1 => hb.ee h1 X hX' F1 As1 σ H1 (sr.mono s1 p1) hm1 _ fun u F2 As2 H2 r2 M2 s2 p2 q2 hm2 h2 => ?_⟩
  split at h2
  · rename_i i j
    have r1 : v = .int i := r1
    have q2 : u = .int j := q2
    subst r1; subst q2
    exact ⟨i, j, rfl, by omega, k _ F2 As2 H2 M2 _ _ (s1.trans s2) (p1.trans p2) hm2 (iter_fn (f := fun l => i + (l : Int)) walk_range) h2.2⟩
  · exact h2.elim
theorem trI_rd {e3 : Expr} {k1 : Nat} {q1 q2 : Pos} (B : Bi c.mg) (ha : Tr c a x) (hb : Tr c b y) (he3 : e3 = .UnaryOp .USub (.Constant (.int 1) k1 q1) q2) (hg : Glo c "range") (hs : ∀ env, starEach [a, b, e3] env = [(false, eval a env), (false, eval b env), (false, eval e3 env)]) (hs2 : ∀ env, starEach [b, e3] env = [(false, eval b env), (false, eval e3 env)]) (hs3 : ∀ env, starEach [e3] env = [(false, eval e3 env)]) (hbb : ∀ env, (backTo pos [(false, eval b env), (false, eval e3 env)]).any (·.1) = false) : TrI c tg (.Call (.Name "range" p1) [a, b, e3] [] pos) (.rd x y) := fun ρ M Q h X hX F As σ H sr hm R k => by
  have hX' := hX
  cases hX with | mk X k0 nd calm room po =>
  have h3 : PE X e3 (tUn (fun v H Q => ∃ i, v = .int i ∧ Q (.int (-i)) H) (tC (.int 1))) := by
    rw [he3]
    exact pe_un un_neg pe_int
  refine ⟨_, pi_range3 hg (B _ (by decide)) (pa_cons pe_w (pa_cons pe_w (pa_cons h3 pa_nil (hs3 _)) ((hs2 _).trans (by rw [hs3]))) ((hs _).trans (by rw [hs2]))) ((hs _).trans (by rw [hs2])) (by rw [hs2]; exact hbb _), ha.ee h X hX' F As σ H sr hm _ fun v F1 As1 H1 r M1 s1 p1 r1 hm1 h1 => hb.ee h1 X hX' F1 As1 σ H1 (sr.mono s1 p1) hm1 _ fun u F2 As2 H2 r2 M2 s2 p2 q2 hm2 h2 => ?_⟩
  split at h2
  · rename_i i j
    have r1 : v = .int i := r1
    have q2 : u = .int j := q2
    subst r1; subst q2
    refine ⟨1, rfl, i, j, -1, (i - j).toNat, rfl, RgC.neg (by omega) (by omega) (by omega) (by omega), k _ F2 As2 H2 M2 _ _ (s1.trans s2) (p1.trans p2) hm2 (iter_fn (f := fun l => i + (l : Int) * (-1)) walk_rangeC) h2.2⟩
  · exact h2.elim
end
end Dl

/-! X12: for over sequences, enumerate, zip; comprehensions -/
namespace Dl
open PySem L2
/-- a value that is walked -/
def PIv (X : Cx) (tg : Expr) (r : V → Hp → (L2.It → Hp → Prop) → Prop) : Prop := ∀ (pins : List (Addr × Obj)) (s : Shared) (σ : L2.St) (H : Hp) (R : L2.It → Hp → Prop) (x : V) (v : Value), L2.Inv X pins σ H s → RelV x v → r x H R → wpAny (model X.prog X.w) X.A (pyIter v) (PIE X pins σ tg R) X.xe s
theorem pi_v {X : Cx} {tg e : Expr} {te : TE} (he : PE X e te) : PI X tg e fun σ H R => te σ H fun v H1 => ∃ r, PIv X tg r ∧ r v H1 R :=
  ⟨fun pins s σ H R I h => thn (he.run pins s σ H _ I h) fun v s1 ⟨x, H1, I1, r1, r, hr, q⟩ => hr pins s1 σ H1 R x v I1 r1 q⟩
theorem piv_list {X : Cx} {tg : Expr} : PIv X tg fun x H R => ∃ a xs, x = .ref a ∧ SqL X.K H a xs ∧ R (Itl X.K a) H := fun pins s1 σ H1 R x v I1 r1 ⟨a, xs, e, hq, q⟩ => by
  subst e
  cases r1
  obtain ⟨its, rv, p, hz⟩ := I1.list hq
  refine wpAny_pyIter_list p.isList ?_
  refine ⟨s1.heap.objs.size, [s1.heap.objs.size], _, _, H1, rfl, I1.kept (t' := s1.toks) fun b o e => Heap.get?_push_of_some _ e, turn_list a _, ⟨_, Heap.get?_push_size _ rfl, rfl, rfl⟩, fun b hb => ?_, q⟩
  have e : b = s1.heap.objs.size := by simpa using hb
  subst e
  exact I1.fpOk (Nat.le_refl _) (I1.hok.fresh (Nat.le_refl _))
theorem piv_tup {X : Cx} {tg : Expr} : PIv X tg fun x H R => ∃ a xs, x = .ref a ∧ SqT X.K H a xs ∧ R (Itt X.K a) H := fun pins s1 σ H1 R x v I1 r1 ⟨a, xs, e, hq, q⟩ => by
  subst e
  cases r1
  obtain ⟨its, rv, p, hz⟩ := I1.tuple hq
  refine wpAny_pyIter_tuple (show s1.heap.IsTuple a its.toArray from p) ?_
  refine ⟨s1.heap.objs.size, [s1.heap.objs.size], _, _, H1, rfl, I1.kept (t' := s1.toks) fun b o e => Heap.get?_push_of_some _ e, turn_tuple a _, ⟨_, Heap.get?_push_size _ rfl, rfl, rfl⟩, fun b hb => ?_, q⟩
  have e : b = s1.heap.objs.size := by simpa using hb
  subst e
  exact I1.fpOk (Nat.le_refl _) (I1.hok.fresh (Nat.le_refl _))
section
variable {c : Ctx} {ρ : List Sl} {M : List C} {a b e tg : Expr} {x y : E} {pos p1 p2 p3 : Pos}
theorem trI_e (ha : Tr c e x) : TrI c tg e (.e x) := fun ρ M Q h X hX F As σ H sr hm R k => by
  have hX' := hX
  cases hX with | mk X k0 nd calm room po =>
  refine ⟨_, pi_v pe_w, ha.ee h X hX' F As σ H sr hm _ fun v F1 As1 H1 r M1 s1 p1 r1 hm1 h1 => ?_⟩
  split at h1
  · rename_i bb ds e1
    have q := sq_s e1
    obtain ⟨l, vs, rfl, g1, g2⟩ := q.get hm1 r1
    cases bb with
    | true => exact ⟨_, piv_list, l, vs, rfl, .inl (.inl g2), k _ F1 As1 H1 M1 ds r.refs s1 p1 hm1 (iter_lst q r1 hm1.len) h1⟩
    | false =>
      cases q with
      | tup => exact ⟨_, piv_tup, l, vs, rfl, g2, k _ F1 As1 H1 M1 ds [] s1 p1 hm1 (iter_tup r1) h1⟩
  · exact h1.elim

theorem seq_stays {K : PySem.W.Frag} {F1 : Hp} {As : List Addr} {s : Sl} {ds : List D} {l : Addr} (q : SqS M s true ds) (r1 : SlR K F1 As s (.ref l)) : ∀ F' As' M' H', Same F1 F' → As <+: As' → HM K F' As' M' H' → (∀ k ∈ s.refs, M'[k]? = M[k]?) → ∃ us, H' l = some (.lst us) ∧ DVs K F' ds us := fun F' As' M' H' sm p hm hk => by
  have q' : SqS M' s true ds := by
    cases q with
    | lst => exact .lst
    | own h => exact .own ((hk _ (by simp [Sl.refs])).trans h)
  obtain ⟨a', us, e, h1, h2⟩ := q'.get hm (r1.mono sm p)
  cases e
  exact ⟨us, h2, h1⟩
theorem seq_in {s : Sl} {ds : List D} (q : SqS M s true ds) : ∀ k ∈ s.refs, k < M.length := by
  intro j hj
  cases q with
  | lst => cases hj
  | own h =>
    rename_i k1
    have : j = k1 := by simpa [Sl.refs] using hj
    subst this
    exact (List.getElem?_eq_some_iff.mp h).1
theorem trI_en {elts : List Expr} {kk : Nat} {tpos : Pos} (B : Bi c.mg) (ha : Tr c e x) (hg : Glo c "enumerate") (hs : ∀ env, starEach [e] env = [(false, eval e env)]) : TrI c (.Tuple elts kk tpos) (.Call (.Name "enumerate" p1) [e] [] pos) (.en x) := fun ρ M Q h X hX F As σ H sr hm R k => by
  have hX' := hX
  cases hX with | mk X k0 nd calm room po =>
  refine ⟨_, pi_enum hg (B _ (by decide)) (pa_cons pe_w pa_nil (hs _)) (hs _), ha.ee h X hX' F As σ H sr hm _ fun v F1 As1 H1 s M1 s1 p1 r1 hm1 h1 => ?_⟩
  split at h1
  · rename_i ds e1
    have q := sq_s e1
    obtain ⟨a, vs, rfl, g1, g2⟩ := q.get hm1 r1
    refine ⟨a, vs, rfl, .inl (.inl g2), k _ F1 As1 H1 M1 _ s.refs s1 p1 hm1 ?_ h1⟩
    have get := seq_stays q r1
    refine iter_pair (n := ds.length) (G := fun H => ∃ us, H a = some (.lst us) ∧ us.length = ds.length) (xs := fun _ i => some (.int (i : Nat))) (ys := fun H i => match H a with | some (.lst us) => us[i]? | _ => none) (ds := fun i => .int (i : Int)) (es := fun i => ds.getD i .non) (seq_in q) ⟨fun i H hi ⟨us, g1, g2⟩ => ?_, fun H ⟨us, g1, g2⟩ => ?_, fun i H x H' hi ⟨us, g1, g2⟩ y => ?_⟩ fun F' As' M' H' sm p hm hk => ?_
    · have hi' : i < us.length := by omega
      exact ⟨us, us[i], .inl (.inl g1), List.getElem?_eq_getElem hi'⟩
    · exact ⟨us, .inl (.inl g1), by omega⟩
    · obtain ⟨T, z, e1, e2, e3, e4⟩ := y
      refine ⟨T, .int (i : Nat), z, e1, e2, e3, rfl, ?_⟩
      rw [g1]; exact e4 us (.inl (.inl g1))
    · obtain ⟨us, g1, g2⟩ := get F' As' M' H' sm p hm hk
      refine ⟨⟨us, g1, g2.length.symm⟩, fun i x y hi ex ey => ?_⟩
      cases ex
      rw [g1] at ey
      have hd : ds[i]? = some ds[i] := List.getElem?_eq_getElem hi
      obtain ⟨w, w1, w2⟩ := g2.get hd
      have ey : us[i]? = some y := ey
      rw [w1] at ey; cases ey
      refine ⟨rfl, ?_⟩
      rw [List.getD_eq_getElem?_getD, hd]; exact w2
  · exact h1.elim
theorem trI_zp {e2 : Expr} {elts : List Expr} {kk : Nat} {tpos : Pos} (B : Bi c.mg) (ha : Tr c e x) (hb : Tr c e2 y) (hg : Glo c "zip") (hs : ∀ env, starEach [e, e2] env = (false, eval e env) :: starEach [e2] env) (hs2 : ∀ env, starEach [e2] env = (false, eval e2 env) :: starEach [] env) (hn : ∀ env, starEach [] env = []) :
    TrI c (.Tuple elts kk tpos) (.Call (.Name "zip" p1) [e, e2] [] pos) (.zp x y) := fun ρ M Q h X hX F As σ H sr hm R k => by
  have hX' := hX
  cases hX with | mk X k0 nd calm room po =>
  refine ⟨_, RZ.pi_zipA hg (B _ (by decide)) (pa_cons pe_w (pa_cons pe_w pa_nil (hs2 _)) (hs _)) (hs _) (by rw [hs2, hn]; rfl), ha.ee h X hX' F As σ H sr hm _ fun v F1 As1 H1 t1 M1 s1 p1 r1 hm1 h1 => hb.ee h1 X hX' F1 As1 σ H1 (sr.mono s1 p1) hm1 _ fun u F2 As2 H2 t2 M2 s2 p2 r2 hm2 h2 => ?_⟩
  have r1 := r1.mono s2 p2
  split at h2
  · -- lists
    rename_i ds es e1 e2
    have q1 := sq_s e1
    have q2 := sq_s e2
    obtain ⟨a, vs, rfl, g1, g2⟩ := q1.get hm2 r1
    obtain ⟨b, us, rfl, g3, g4⟩ := q2.get hm2 r2
    refine ⟨a, b, vs, us, rfl, .inl ⟨.inl (.inl g2), .inl (.inl g4), k _ F2 As2 H2 M2 _ (t1.refs ++ t2.refs) (s1.trans s2) (p1.trans p2) hm2 ?_ h2⟩⟩
    have get1 := seq_stays q1 r1
    have get2 := seq_stays q2 r2
    refine iter_pair (n := min ds.length es.length) (G := fun H => (∃ us, H a = some (.lst us) ∧ us.length = ds.length) ∧ ∃ us, H b = some (.lst us) ∧ us.length = es.length) (xs := fun H i => match H a with | some (.lst us) => us[i]? | _ => none) (ys := fun H i => match H b with | some (.lst us) => us[i]? | _ => none) (ds := fun i => ds.getD i .non) (es := fun i => es.getD i .non) (fun j hj => ?_) ⟨fun i H hi ⟨⟨us, g1, g2⟩, ⟨ws, g3, g4⟩⟩ => ?_, fun H ⟨⟨us, g1, g2⟩, ⟨ws, g3, g4⟩⟩ => ?_, fun i H x H' hi ⟨⟨us, g1, g2⟩, ⟨ws, g3, g4⟩⟩ y => ?_⟩ fun F' As' M' H' sm p hm hk => ?_
    · rcases List.mem_append.mp hj with z | z
      · exact seq_in q1 j z
      · exact seq_in q2 j z
    · have i1 : i < us.length := by omega
      have i2 : i < ws.length := by omega
      exact ⟨us, ws, us[i], ws[i], .inl (.inl g1), .inl (.inl g3), List.getElem?_eq_getElem i1, List.getElem?_eq_getElem i2⟩
    · exact ⟨us, ws, .inl (.inl g1), .inl (.inl g3), by omega⟩
    · obtain ⟨T, z, z', e1, e2, e3, e4, e5⟩ := y
      refine ⟨T, z, z', e1, e2, e3, ?_, ?_⟩
      · rw [g1]; exact e4 us (.inl (.inl g1))
      · rw [g3]; exact e5 ws (.inl (.inl g3))
    · obtain ⟨us, g1, g2⟩ := get1 F' As' M' H' sm p hm fun k hk' => hk k (List.mem_append_left _ hk')
      obtain ⟨ws, g3, g4⟩ := get2 F' As' M' H' sm p hm fun k hk' => hk k (List.mem_append_right _ hk')
      refine ⟨⟨⟨us, g1, g2.length.symm⟩, ⟨ws, g3, g4.length.symm⟩⟩, fun i x y hi ex ey => ?_⟩
      rw [g1] at ex
      rw [g3] at ey
      have d1 : ds[i]? = some (ds[i]'(by omega)) := List.getElem?_eq_getElem (by omega)
      have d2 : es[i]? = some (es[i]'(by omega)) := List.getElem?_eq_getElem (by omega)
      obtain ⟨w, w1, w2⟩ := g2.get d1
      obtain ⟨w', w3, w4⟩ := g4.get d2
      have ex : us[i]? = some x := ex
      have ey : ws[i]? = some y := ey
      rw [w1] at ex; cases ex
      rw [w3] at ey; cases ey
      rw [List.getD_eq_getElem?_getD, List.getD_eq_getElem?_getD, d1, d2]
      exact ⟨w2, w4⟩
  · -- tuples
    rename_i ds es e1 e2
    have q1 := sq_s e1
    have q2 := sq_s e2
    cases q1 with
    | tup =>
    cases q2 with
    | tup =>
    obtain ⟨a, vs, rfl, h1, h2'⟩ := r1
    obtain ⟨b, us, rfl, h3, h4⟩ := id r2
    refine ⟨a, b, vs, us, rfl, .inr ⟨same_t hm2.same h1, same_t hm2.same h3, k _ F2 As2 H2 M2 _ [] (s1.trans s2) (p1.trans p2) hm2 ?_ h2⟩⟩
    have l1 := h2'.length
    have l2 := h4.length
    refine iter_pair (n := min ds.length es.length) (G := fun H => SqT X.K H a vs ∧ SqT X.K H b us) (xs := fun _ i => vs[i]?) (ys := fun _ i => us[i]?) (ds := fun i => ds.getD i .non) (es := fun i => es.getD i .non) (fun _ z => (nomatch z)) ⟨fun i H hi ⟨g1, g2⟩ => ?_, fun H ⟨g1, g2⟩ => ?_, fun i H x H' hi ⟨g1, g2⟩ y => ?_⟩ fun F' As' M' H' sm p hm hk => ?_
    · have i1 : i < vs.length := by omega
      have i2 : i < us.length := by omega
      exact ⟨vs, us, vs[i], us[i], g1, g2, List.getElem?_eq_getElem i1, List.getElem?_eq_getElem i2⟩
    · exact ⟨vs, us, g1, g2, by omega⟩
    · obtain ⟨T, z, z', e1, e2, e3, e4, e5⟩ := y
      exact ⟨T, z, z', e1, e2, e3, e4 vs g1, e5 us g2⟩
    · refine ⟨⟨same_t hm.same (same_t sm h1), same_t hm.same (same_t sm h3)⟩, fun i x y hi ex ey => ?_⟩
      have d1 : ds[i]? = some (ds[i]'(by omega)) := List.getElem?_eq_getElem (by omega)
      have d2 : es[i]? = some (es[i]'(by omega)) := List.getElem?_eq_getElem (by omega)
      obtain ⟨w, w1, w2⟩ := h2'.get d1
      obtain ⟨w', w3, w4⟩ := h4.get d2
      have ex : vs[i]? = some x := ex
      have ey : us[i]? = some y := ey
      rw [w1] at ex; cases ex
      rw [w3] at ey; cases ey
      rw [List.getD_eq_getElem?_getD, List.getD_eq_getElem?_getD, d1, d2]
      exact ⟨DV.mono sm w2, DV.mono sm w4⟩
  · exact h2.elim
end
end Dl

/-! X13: comprehensions -/
namespace Dl
open PySem L2
def relS (scope sc : Scope) : Scope := { scope with names := scope.names.map fun (n, k) => if (k == .free && sc.kind == .function && sc.names.lookup n == some .cell) then (n, .cell) else (n, k) }
def Ctx.blk (c : Ctx) (scope : Scope) : Ctx := { c with sc := relS scope c.sc, fn := fun x => scope.names.lookup x == some .cell }
theorem blk_is {c : Ctx} {X : Cx} (hX : c.Is X) (s : Shared) (H : Hp) (scope : Scope) (cl : List (Str × Addr)) (C : Addr) (fp : List Addr) : (c.blk scope).Is (X.blk s H scope (compEnvC scope cl C X.env) fp) := by
  cases hX with
  | mk X k0 nd calm room po => exact .mk (X.blk s H scope (compEnvC scope cl C X.env) fp) k0 nd calm room PassesOwn.never
def gBlk (X : Cx) (scope : Scope) (tg : Expr) : TG := fun v σ H R => ∀ (s : Shared) (H' : Hp) (C : Addr) (cl : List (Str × Addr)) (fp : List Addr), WG (X.blk s H' scope (compEnvC scope cl C X.env) fp) tg v σ H R
def tBlk (X : Cx) (scope : Scope) (ifs : List Expr) : TT := fun σ H R => ∀ (s : Shared) (H' : Hp) (C : Addr) (cl : List (Str × Addr)) (fp : List Addr), WTs (X.blk s H' scope (compEnvC scope cl C X.env) fp) ifs σ H R
def eBlk (X : Cx) (scope : Scope) (elt : Expr) : TE := fun σ H R => ∀ (s : Shared) (H' : Hp) (C : Addr) (cl : List (Str × Addr)) (fp : List Addr), WE (X.blk s H' scope (compEnvC scope cl C X.env) fp) elt σ H R

theorem HM.unlast {K : PySem.W.Frag} {F : Hp} {As : List Addr} {M : List C} {H : Hp} {a : Addr} {cc : C} (h : HM K F (As ++ [a]) (M ++ [cc]) H) (hr : ∀ c ∈ M, ∀ k ∈ c.refs, k < M.length) : HM K F As M (del H a) ∧ ∃ o, H a = some o ∧ CR K F (As ++ [a]) a cc o := by
  have hl : As.length = M.length := by have := h.len; simpa using this
  have na : a ∉ As := by
    have := h.nd
    rw [List.nodup_append] at this
    exact fun z => this.2.2 a z a (by simp) rfl
  refine ⟨⟨(List.nodup_append.mp h.nd).1, hl, fun i b c' eb ec => ?_, fun b hb => h.off b (List.mem_append_left _ hb), fun b hb => ?_⟩, ?_⟩
  · obtain ⟨o, h1, h2⟩ := h.cell i b c' (by rw [List.getElem?_append_left (List.getElem?_eq_some_iff.mp eb).1]; exact eb) (by rw [List.getElem?_append_left (List.getElem?_eq_some_iff.mp ec).1]; exact ec)
    refine ⟨o, by rw [del_ne (fun z => na (by rw [← z]; exact List.mem_iff_getElem?.mpr ⟨i, eb⟩))]; exact h1, CR.cut (fun k hk => ?_) h2⟩
    rw [hl]; exact hr c' (List.mem_of_getElem? ec) k hk
  · by_cases e : b = a
    · subst e; rw [del_same]; exact (h.off b (by simp)).symm
    · rw [del_ne e]
      exact h.out b fun z => by
        rcases List.mem_append.mp z with z | z
        · exact hb z
        · exact e (by simpa using z)
  · obtain ⟨o, h1, h2⟩ := h.cell As.length a cc (by simp) (by rw [hl]; simp)
    exact ⟨o, h1, h2⟩
theorem upd_del {H : Hp} {a : Addr} {o : HO} (h : H a = some o) : upd (del H a) a o = H := by
  funext b
  unfold upd del
  split
  · rename_i e; rw [e]; exact h.symm
  · rfl
theorem del_upd {H : Hp} {a : Addr} {o : HO} (h : H a = none) : del (upd H a o) a = H := by
  funext b
  unfold upd del
  split
  · rename_i e; rw [e]; exact h.symm
  · rename_i n; exact if_neg n
section
variable {c : Ctx} {ρ : List Sl} {M : List C} {a b e tg iter elt : Expr} {pos p1 p2 p3 : Pos} {ifs : List Expr} {scope : Scope} {tx : Tg} {ix : It} {fx : Tl} {ex : E}
theorem trTs_nil : TrTs c [] .nil := fun ρ M Q h X hX F As σ H sr hm G k => ⟨_, pts_nil, k true F As H M (Same.refl _) (List.prefix_refl _) hm h⟩
theorem trTs_one {t : Te} (h : TrT c e t) : TrTs c [e] (.one t) := fun ρ M Q q X hX F As σ H sr hm G k => ⟨_, pts_one pt_w, h ρ M Q q X hX F As σ H sr hm G k⟩
abbrev OutK (Q : List D → List C → Prop) : Z → List C → Prop := fun z M' => ∃ out, z = .n (.lst out) ∧ Q out M'
theorem lc_core {vs : List Nat} {X : Cx} (hX : c.Is X) (hi : TrI c tg iter ix) (hg : TrG (c.blk scope) tg tx) (ht : TrTs (c.blk scope) ifs fx) (he : Tr (c.blk scope) elt ex) (hjs : ∀ j ∈ tx.ix, j ∈ vs) {Q : List D → List C → Prop} (h : wpG c.g (.last tx ix fx ex) (clr ρ vs) M Q) {F : Hp} {As : List Addr} {σ : L2.St} {H : Hp} (sr : SR c.K F As ρ σ) (hm : HM c.K F As M H) {G : VK} (k : Aft c.K F As (zq M.length (OutK Q)) G) :
    tLc (WI X tg iter) (gBlk X scope tg) (tBlk X scope ifs) (eBlk X scope elt) vs σ H G := by
  refine hi (clr ρ vs) M _ h X hX F As σ H (sr.clr vs) hm _ fun J F1 As1 H1 M1 ds ks s1 p1 hm1 it ⟨hz, hw⟩ Dl hD => ?_
  obtain ⟨Gd, Y, W, hG, hY⟩ := it.ex
  generalize hf : (fun (d : D) (M' : List C) (k : List D → List C → Prop) => bindT tx d (clr ρ vs) fun ρ2 => wpTs c.g fx ρ2 M' fun t M2 => (t = true → wpR c.g ex ρ2 M2 fun z M3 => z.fz M3 fun r M3 => match r with | .val y => k [y] M3 | _ => False) ∧ (t = false → k [] M2)) = f at hw
  have vis : ∀ {F' : Hp} {M' : List C} {H' : Hp} {acc : List D} {ws : List V}, HM c.K F' As1 M' (del H' Dl) → H' Dl = some (.lst ws) → DVs c.K F' acc ws → HM c.K F' (As1 ++ [Dl]) (M' ++ [.lst acc]) H' := fun {F' M' H' acc ws} hm' hD' dv => by
    have := hm'.made (c := .lst acc) (o := .lst ws) del_same ⟨ws, rfl, dv⟩
    rw [upd_del hD'] at this
    exact this
  refine lc_it (g := gBlk X scope tg) (tt := tBlk X scope ifs) (te := eBlk X scope elt) (vs := vs) (σ := σ) (H1 := H1) (D := Dl) (Qd := G (.ref Dl)) W (fun i H' => ∃ F' M' acc ws, Same F1 F' ∧ HM c.K F' As1 M' (del H' Dl) ∧ H' Dl = some (.lst ws) ∧ DVs c.K F' acc ws ∧ M'.length = M1.length ∧ (∀ k ∈ ks, M'[k]? = M1[k]?) ∧ acc.length ≤ i ∧ lcW f (fun M' => M'.length = M1.length ∧ ∀ k ∈ ks, lkM M' k = lkM M1 k) (ds.drop i) acc M' Q) ?_ ?_ ?_ ?_
  · exact ⟨F1, M1, [], [], Same.refl _, by rw [del_upd hD]; exact hm1, upd_same, rfl, rfl, fun _ _ => rfl, Nat.zero_le _, by rw [List.drop_zero]; exact hw⟩
  · rintro i H' _ ⟨F', M', acc, ws, s', h', hD', dv, hl, hk, _, _⟩
    refine hG F' _ (M' ++ [.lst acc]) H' s' (List.prefix_append _ _) (vis h' hD' dv) fun q hq => ?_
    rw [List.getElem?_append_left (by have := it.inn q hq; omega)]
    exact hk q hq
  · rintro i x H' H'' hlt ⟨F', M', acc, ws, s', h', hD', dv, hl, hk, ha, hwi⟩ y
    have hd : ds[i]? = some ds[i] := List.getElem?_eq_getElem hlt
    obtain ⟨F2, s2, hm2, dv2⟩ := hY i ds[i] F' _ (M' ++ [.lst acc]) H' x H'' hd s' (List.prefix_append _ _) (vis h' hD' dv) (fun q hq => by
      rw [List.getElem?_append_left (by have := it.inn q hq; omega)]
      exact hk q hq) y
    rw [List.drop_eq_getElem_cons hlt] at hwi
    have hwi : f ds[i] M' fun out M'' => (M''.length = M1.length ∧ ∀ k ∈ ks, lkM M'' k = lkM M1 k) ∧ lcW f _ (ds.drop (i + 1)) (acc ++ out) M'' Q := hwi
    rw [← hf] at hwi
    intro sh Hh Ch clh fph
    have srw : SR (c.blk scope).K F2 As1 (clr ρ vs) (wipe σ vs) := ((sr.mono ((s1.trans s').trans s2) p1).clrW vs)
    obtain ⟨hmu, oD, hoD, wsD, rfl, dvD⟩ := hm2.unlast h'.refs
    refine hg (clr ρ vs) ds[i] _ hwi _ (blk_is hX sh Hh scope clh Ch fph) F2 As1 (wipe σ vs) H'' x srw hm2.same dv2 _ fun ρ2 σ2 h2 sr2 hl2 hn2 => ⟨?_, fun sh Hh Ch clh fph => ?_⟩
    · rw [wipe_ext hl2 fun j hj => hn2 j fun z => hj (hjs j z)]; exact wipe_wipe
    · refine WTs.frame hoD (.lst wsD) (ht ρ2 M' _ h2 _ (blk_is hX sh Hh scope clh Ch fph) F2 As1 σ2 _ sr2 hmu _ fun bb F3 As3 H3 M3 s3 p3 hm3 h3 n3 => ?_)
      have eAs : ∀ {F4 : Hp} {As4 : List Addr} {M4 : List C} {H4 : Hp}, HM c.K F4 As4 M4 H4 → As1 <+: As4 → M4.length = M1.length → As4 = As1 := fun {F4 As4 M4 H4} hm4 p4 l4 => by
        have l1 := hm4.len
        have l2 := hm1.len
        exact (p4.eq_of_length (by omega)).symm
      cases bb with
      | false =>
        obtain ⟨⟨l3, k3⟩, h4⟩ := h3.2 rfl
        have := eAs hm3 p3 l3
        subst this
        refine ⟨F3, M3, acc, wsD, (s'.trans s2).trans s3, by rw [del_upd n3]; exact hm3, upd_same, dvD.mono s3, l3, fun q hq => by rw [← lkM_eq, ← lkM_eq]; exact k3 q hq, by omega, ?_⟩
        rw [List.append_nil, hf] at h4; exact h4
      | true =>
        show eBlk X scope elt σ2 _ _
        intro sh Hh Ch clh fph
        have hu : (upd H3 Dl (.lst wsD)) Dl = some (.lst wsD) := upd_same
        refine WE.frame hu (.lst wsD) ?_
        rw [del_upd n3]
        refine he.ee (h3.1 rfl) _ (blk_is hX sh Hh scope clh Ch fph) F3 As3 σ2 H3 (sr2.mono s3 p3) hm3 _ fun v F4 As4 H4 r M4 s4 p4 r4 hm4 h4 n4 => ?_
        split at h4
        · rename_i yd
          obtain ⟨⟨l4, k4⟩, h5⟩ := h4
          rw [hf] at h5
          have := eAs hm4 (p3.trans p4) l4
          subst this
          refine ⟨wsD, upd_same, ?_, F4, M4, acc ++ [yd], wsD ++ [v], ((s'.trans s2).trans s3).trans s4, ?_, ?_, dvs_paired.mpr (paired_append (dvs_paired.mp (dvD.mono (s3.trans s4))) (.cons r4 .nil)), l4, fun q hq => by rw [← lkM_eq, ← lkM_eq]; exact k4 q hq, ?_, h5⟩
          · rw [← dvD.length]
            exact Nat.lt_of_le_of_lt (Nat.le_trans ha (Nat.le_trans (Nat.le_of_lt hlt) hz)) (by decide)
          · rw [upd_upd, del_upd n4]; exact hm4
          · rw [upd_upd, upd_same]
          · rw [List.length_append]; exact Nat.succ_le_succ ha
        · exact h4.elim
  · rintro H' ⟨F', M', acc, ws, s', h', hD', dv, hl, hk, _, hwi⟩
    rw [List.drop_length] at hwi
    exact k _ F' (As1 ++ [Dl]) H' (.own M'.length) (M' ++ [.lst acc]) (s1.trans s') (p1.trans (List.prefix_append _ _)) ⟨Dl, by rw [← h'.len]; simp, rfl⟩ (vis h' hD' dv) ⟨.n (.lst acc), M', ⟨rfl, rfl, h'.refs⟩, by rw [hl]; exact hm.le hm1 p1, acc, rfl, hwi⟩
theorem tr_lc {own : List (Str × Nat)} (hi : TrI c tg iter ix) (hg : TrG (c.blk scope) tg tx) (ht : TrTs (c.blk scope) ifs fx) (he : Tr (c.blk scope) elt ex) (hjs : ∀ j ∈ tx.ix, j ∈ own.map (·.2)) (ok : blkC c.N c.sc scope own = true) (hs : ∀ (env : Env) x, foldedSetIterable iter env x = pure x) :
    Tr c (.ListComp elt [⟨tg, iter, ifs, 0⟩] scope pos) (.lc (.last tx ix fx ex) (own.map (·.2))) := fun ρ M Q h X hX F As σ H sr hm G k => by
  have hq := lc_core (G := G) hX hi hg ht he hjs h sr hm fun v F' As' H' r M' s p r' hm' ⟨z, M1, z1, z2, out, z3, z4⟩ => k v F' As' H' r M' s p r' hm' ⟨z, M1, z1, z2, by subst z3; exact z4⟩
  cases hX with | mk X k0 nd calm room po =>
  exact ⟨_, pe_lc calm nd pi_w (blkOk_by ok) (fun s H C cl fp => ⟨fun pins s' σ' H' v u Q I r h => pg_w.run pins s' σ' H' v u Q I r (h s H C cl fp)⟩)
      (fun s H C cl fp => ⟨fun pins s' σ' H' Q I h => pts_w.run pins s' σ' H' Q I (h s H C cl fp)⟩) (fun s H C cl fp => ⟨fun pins s' σ' H' Q I h => pe_w.run pins s' σ' H' Q I (h s H C cl fp)⟩) (hs _), hq⟩
end
end Dl

/-! X14: statements -/
namespace Dl
open PySem L2
def TrS (c : Ctx) (ss : List Stmt) (x : Ss) : Prop := ∀ ρ M Q, wpSs c.g x ρ M Q → ES c ρ M ss Q
section
variable {c : Ctx} {a b e tg iter elt : Expr} {x y : E} {pos p1 p2 p3 : Pos} {rest : List Stmt} {xs : Ss}
theorem trS_nil : TrS c [] .nil := fun ρ M Q h X hX F As B σ H E sr hm pb ends => ⟨_, pss_nil, ends.nx F As ρ M σ H (Same.refl _) pb sr hm h⟩
theorem ws_cons {X : Cx} {st : Stmt} {E : Ends} {σ : L2.St} {H : Hp} {t : TS} (h : PS X st t) (q : t { E with nx := WS X rest E } σ H) : WS X (st :: rest) E σ H := ⟨_, pss_cons h pss_w, q⟩
/-- what follows a statement -/
theorem EndsR.next {X : Cx} {D0 : DE} {E : Ends} {F : Hp} {B : List Addr} (hX : c.Is X) (hr : TrS c rest xs) (ends : EndsR c.K B.length D0 E F B) : EndsR c.K B.length { D0 with nx := fun ρ' M' => wpSs c.g xs ρ' M' D0 } { E with nx := WS X rest E } F B :=
  ⟨fun F' As' ρ' M' σ' H' s p sr hm h => hr ρ' M' D0 h X hX F' As' B σ' H' E sr hm p (ends.f s), ends.rt, ends.bk, ends.ct⟩
theorem trS_asg (i : Nat) {nm : Str} (he : Tr c e x) (hr : TrS c rest xs) (hi : c.N[i]? = some nm) (hx : Loc c.sc nm) (hf : c.fn nm = true ∨ c.sc.names.lookup nm = some .local) (hs : ∀ env : Env, env.scope = c.sc → swapsWith e (some (.Name nm p1)) pos.line env = pure false) : TrS c (.Assign [.Name nm p1] e pos :: rest) (.cons (.asg i x) xs) := fun ρ M Q h X hX F As B σ H E sr hm pb ends => by
  have hX' := hX
  cases hX with | mk X k0 nd calm room po =>
  refine ws_cons (ps_set nd hi hx pe_w (hs _ rfl) hf) (he.ee h X hX' F As σ H sr hm _ fun v F1 As1 H1 r M1 s1 p1 r1 hm1 h1 => ?_)
  rw [pt_eq] at h1
  exact hr _ M1 Q h1 X hX' F1 As1 B _ H1 E ((sr.mono s1 p1).set r1) hm1 (pb.trans p1) (ends.f s1)
/-- x = [.. for ..] on one line -/
theorem trS_asgLc (i : Nat) {nm : Str} {own : List (Str × Nat)} {ifs : List Expr} {scope : Scope} {tx : Tg} {ix : It} {fx : Tl} {ex : E} {ow : Bool} (hi : TrI c tg iter ix) (hg : TrG (c.blk scope) tg tx) (ht : TrTs (c.blk scope) ifs fx) (he : Tr (c.blk scope) elt ex) (hjs : ∀ j ∈ tx.ix, j ∈ own.map (·.2)) (ok : blkC c.N c.sc scope own = true) (hs : ∀ (env : Env) x, foldedSetIterable iter env x = pure x)
    (hr : TrS c rest xs) (hN : c.N[i]? = some nm) (hy : c.sc.names.lookup nm = some .local) (hk : c.sc.kind = .function) (hl : (p1.line == p2.line) = true) (ha : (scope.names.any fun (n, k) => n == nm && (k == .local || k == .cell)) = false) :
    TrS c (.Assign [.Name nm p1] (.ListComp elt [⟨tg, iter, ifs, 0⟩] scope p2) pos :: rest) (.cons (.asg i (if ow then .own (.lc (.last tx ix fx ex) (own.map (·.2))) else .lc (.last tx ix fx ex) (own.map (·.2)))) xs) := fun ρ M Q h X hX F As B σ H E sr hm pb ends => by
  -- both readings by one of results
  have hz : wpR c.g (.lc (.last tx ix fx ex) (own.map (·.2))) ρ M fun z M1 => (if ow then (match z with | .n c0 => wpSs c.g xs (pt ρ i (.own M1.length)) (M1 ++ [c0]) Q | .s _ => False) else z.fz M1 fun r M1 => wpSs c.g xs (pt ρ i r) M1 Q) := by
    cases ow with
    | true =>
      refine (show wpG _ _ _ _ _ from ?_)
      have h : wpG c.g (.last tx ix fx ex) (clr ρ (own.map (·.2))) M fun out M1 => (Z.s (.own M1.length)).fz (M1 ++ [.lst out]) fun r M1 => wpSs c.g xs (pt ρ i r) M1 Q := h
      exact h
    | false => exact h
  have hq : ∀ G : VK, Aft c.K F As (zq M.length (OutK fun out M1 => (if ow then wpSs c.g xs (pt ρ i (.own M1.length)) (M1 ++ [.lst out]) Q else wpSs c.g xs (pt ρ i (.val (.lst out))) M1 Q))) G → tLc (WI X tg iter) (gBlk X scope tg) (tBlk X scope ifs) (eBlk X scope elt) (own.map (·.2)) σ H G := fun G k => by
    refine lc_core (G := G) hX hi hg ht he hjs (Q := fun out M1 => (if ow then wpSs c.g xs (pt ρ i (.own M1.length)) (M1 ++ [.lst out]) Q else wpSs c.g xs (pt ρ i (.val (.lst out))) M1 Q)) ?_ sr hm k
    cases ow <;> exact hz
  have hX' := hX
  cases hX with | mk X k0 nd calm room po =>
  refine ws_cons (ps_setLc calm nd hN hy (sw_true hk hy hl ha) pi_w (blkOk_by ok) (fun s H C cl fp => ⟨fun pins s' σ' H' v u Q I r h => pg_w.run pins s' σ' H' v u Q I r (h s H C cl fp)⟩)
      (fun s H C cl fp => ⟨fun pins s' σ' H' Q I h => pts_w.run pins s' σ' H' Q I (h s H C cl fp)⟩) (fun s H C cl fp => ⟨fun pins s' σ' H' Q I h => pe_w.run pins s' σ' H' Q I (h s H C cl fp)⟩) (hs _)) (hq _ fun v F1 As1 H1 r M' s1 p1 r1 hm1 ⟨z, M1, z1, z2, out, z3, z4⟩ => ?_)
  subst z3
  obtain ⟨e1, e2, e3⟩ := z1
  subst e1; subst e2
  cases ow with
  | true =>
    have z4 : wpSs _ xs (pt ρ i (.own M1.length)) (M1 ++ [.lst out]) Q := z4
    rw [pt_eq] at z4
    exact hr _ _ Q z4 X hX' F1 As1 B _ H1 E ((sr.mono s1 p1).set r1) hm1 (pb.trans p1) (ends.f s1)
  | false =>
    have z4 : wpSs _ xs (pt ρ i (.val (.lst out))) M1 Q := z4
    rw [pt_eq] at z4
    have l1 := hm1.len
    obtain ⟨A0, p, rfl⟩ : ∃ A0 p, As1 = A0 ++ [p] := by
      have hne : As1 ≠ [] := fun z => by subst z; simp at l1
      exact ⟨As1.dropLast, As1.getLast hne, (List.dropLast_concat_getLast hne).symm⟩
    have lB : A0.length = M1.length := by simpa using l1
    obtain ⟨a', ha', rfl⟩ := r1
    have : a' = p := by
      rw [← lB] at ha'
      simpa using ha'.symm
    subst this
    obtain ⟨F2, s2, hm2, dv⟩ := hm1.freeze (d := .lst out) rfl e3
    have pA : As <+: A0 := List.prefix_of_prefix_length_le p1 (List.prefix_append _ _) (by rw [lB, hm.len]; exact z2)
    exact hr _ _ Q z4 X hX' F2 A0 B _ H1 E ((sr.mono (s1.trans s2) pA).set (s := .val (.lst out)) dv) hm2 (pb.trans pA) (ends.f (s1.trans s2))
theorem trS_ret (he : Tr c e x) : TrS c (.Return (some e) pos :: rest) (.cons (.ret x) xs) := fun ρ M Q h X hX F As B σ H E sr hm pb ends =>
  ws_cons (ps_ret pe_w) (he ρ M _ h X hX F As σ H sr hm _ fun v F1 As1 H1 r M1 s1 p1 r1 hm1 ⟨z, M2, z1, z2, q⟩ => ends.rt F1 As1 z r v M1 M2 H1 s1 (pb.trans p1) r1 hm1 z1 (Nat.le_trans (by rw [← hm.len]; exact pb.length_le) z2) q)
theorem trS_ex (he : Tr c e x) (hr : TrS c rest xs) (hs : ∀ env, swapsWith e none pos.line env = pure false) : TrS c (.Expr e pos :: rest) (.cons (.ex x) xs) := fun ρ M Q h X hX F As B σ H E sr hm pb ends =>
  ws_cons (ps_expr pe_w (hs _)) (he.ee h X hX F As σ H sr hm _ fun v F1 As1 H1 r M1 s1 p1 r1 hm1 h1 => hr ρ M1 Q h1 X hX F1 As1 B σ H1 E (sr.mono s1 p1) hm1 (pb.trans p1) (ends.f s1))
theorem trS_if {t : Te} {s1 s2 : List Stmt} {x1 x2 : Ss} (ht : TrT c e t) (h1 : TrS c s1 x1) (h2 : TrS c s2 x2) (hr : TrS c rest xs) : TrS c (.If e s1 s2 pos :: rest) (.cons (.ite t x1 x2) xs) := fun ρ M Q h X hX F As B σ H E sr hm pb ends =>
  ws_cons (ps_if pt_w pss_w pss_w) (ht ρ M _ h X hX F As σ H sr hm _ fun t F1 As1 H1 M1 sm p1 hm1 h' => by
    have ends' := (ends.next hX hr).f sm
    cases t with
    | true => exact h1 ρ M1 _ (h'.1 rfl) X hX F1 As1 B σ H1 _ (sr.mono sm p1) hm1 (pb.trans p1) ends'
    | false => exact h2 ρ M1 _ (h'.2 rfl) X hX F1 As1 B σ H1 _ (sr.mono sm p1) hm1 (pb.trans p1) ends')
end
end Dl

/-! X15: loops, pairs, stores -/
namespace Dl
open PySem L2
theorem SR.trim {K : PySem.W.Frag} {F F' : Hp} {As : List Addr} {ρ : List Sl} {σ : L2.St} {n : Nat} (sr : SR K F As ρ σ) (s : Same F F') (dead : List Nat) : SR K F' (As.take n) ((Dl.clr ρ dead).map (Sl.trim n)) σ := by
  have sr := (sr.clr dead).mono s (List.prefix_refl _)
  refine ⟨by simpa using sr.len, fun i t q z => ?_⟩
  rw [List.getElem?_map] at q
  cases e : (Dl.clr ρ dead)[i]? with
  | none => rw [e] at q; cases q
  | some s0 =>
    rw [e] at q
    cases q
    cases s0 with
    | un => exact absurd rfl z
    | val d =>
      obtain ⟨v, h1, h2⟩ := sr.get i _ e (fun z => by cases z)
      exact ⟨v, h1, h2⟩
    | own k =>
      obtain ⟨v, h1, a, h2, rfl⟩ := sr.get i _ e (fun z => by cases z)
      refine ⟨_, h1, ?_⟩
      show SlR K F' (As.take n) (if k < n then .own k else .un) _
      split
      · rename_i hk
        exact ⟨a, by rw [List.getElem?_take, if_pos hk]; exact h2, rfl⟩
      · exact trivial
section
variable {c : Ctx} {a b e tg iter elt : Expr} {x y : E} {pos p1 p2 p3 : Pos} {rest : List Stmt} {xs : Ss}
theorem trS_for {tx : Tg} {ix : It} {bx : Ss} {dead : List Nat} {body : List Stmt} (hi : TrI c tg iter ix) (hg : TrG c tg tx) (hb : TrS c body bx) (hr : TrS c rest xs) (hf : ∀ (env : Env) x, foldedSetIterable iter env x = pure x) : TrS c (.For tg iter body [] pos :: rest) (.cons (.for tx ix bx dead) xs) := fun ρ M Q h X hX F As B σ H E sr hm pb ends => by
  have hXc := hX
  cases hX with | mk X k0 nd calm room po =>
  refine ws_cons (ps_for po calm pi_w pg_w pss_w (hf _)) (hi ρ M _ h X hXc F As σ H sr hm _ fun J F1 As1 H1 M1 ds ks s1 p1 hm1 it hw => ?_)
  obtain ⟨Gd, Y, W, hG, hY⟩ := it.ex
  have l1 := hm1.len
  have ends' := (ends.next hXc hr).f s1
  generalize hfb : (fun (d : D) (ρ : List Sl) (M : List C) (Q : DE) => bindT tx d ρ fun ρ' => wpSs (⟨X.prog, X.w, X.K, X.mg, X.base, X.N, X.env.scope, X.fn, k0⟩ : Ctx).g bx ρ' M Q) = f at hw
  generalize hq : ({ Q with nx := fun ρ' M' => wpSs (⟨X.prog, X.w, X.K, X.mg, X.base, X.N, X.env.scope, X.fn, k0⟩ : Ctx).g xs ρ' M' Q } : DE) = Q1 at hw ends'
  refine for_it (g := WG X tg) (tb := WS X body) (D := { E with nx := WS X rest E }) W (fun i σ' H' => ∃ F' ρ' M', Same F1 F' ∧ SR X.K F' As1 ρ' σ' ∧ HM X.K F' As1 M' H' ∧ (∀ k ∈ ks, lkM M' k = lkM M1 k) ∧ forW f (trimW M1.length dead) (fun M' => ∀ k ∈ ks, lkM M' k = lkM M1 k) (ds.drop i) ρ' M' Q1) ?_ ?_ ?_ ?_
  · refine ⟨F1, _, M1, Same.refl _, ?_, hm1, fun _ _ => rfl, by rw [List.drop_zero]; exact hw⟩
    have := (sr.mono s1 p1).trim (n := M1.length) (Same.refl _) dead
    rwa [← l1, List.take_length, l1] at this
  · rintro i σ' H' _ ⟨F', ρ', M', s', sr', hm', hk, _⟩
    exact hG F' As1 M' H' s' (List.prefix_refl _) hm' fun q hq => by rw [← lkM_eq, ← lkM_eq]; exact hk q hq
  · rintro i x σ' H' H'' hlt ⟨F', ρ', M', s', sr', hm', hk, hwi⟩ y
    have hdi : ds[i]? = some ds[i] := List.getElem?_eq_getElem hlt
    obtain ⟨F2, s2, hm2, dv⟩ := hY i ds[i] F' As1 M' H' x H'' hdi s' (List.prefix_refl _) hm' (fun q hq => by rw [← lkM_eq, ← lkM_eq]; exact hk q hq) y
    rw [List.drop_eq_getElem_cons hlt] at hwi
    have hwi : f ds[i] ρ' M' _ := hwi
    rw [← hfb] at hwi
    refine hg ρ' ds[i] _ hwi X hXc F2 As1 σ' H'' x (sr'.mono s2 (List.prefix_refl _)) hm2.same dv _ fun ρ2 σ2 h2 sr2 _ _ => ?_
    have back : ∀ {F3 : Hp} {As3 : List Addr} {ρ3 : List Sl} {M3 : List C} {σ3 : L2.St} {H3 : Hp}, Same F2 F3 → As1 <+: As3 → SR X.K F3 As3 ρ3 σ3 → HM X.K F3 As3 M3 H3 → trimW M1.length dead (fun ρ' M' => (∀ k ∈ ks, lkM M' k = lkM M1 k) ∧ forW f (trimW M1.length dead) (fun M' => ∀ k ∈ ks, lkM M' k = lkM M1 k) (ds.drop (i + 1)) ρ' M' Q1) ρ3 M3 → ∃ F' ρ' M', Same F1 F' ∧ SR X.K F' As1 ρ' σ3 ∧ HM X.K F' As1 M' H3 ∧ (∀ k ∈ ks, lkM M' k = lkM M1 k) ∧ forW f (trimW M1.length dead) (fun M' => ∀ k ∈ ks, lkM M' k = lkM M1 k) (ds.drop (i + 1)) ρ' M' Q1 := fun {F3 As3 ρ3 M3 σ3 H3} s3 p3 sr3 hm3 ⟨t1, t2, t3, t4⟩ => by
      obtain ⟨F4, s4, hm4⟩ := hm3.drop M1.length t1 t2
      have eA : As3.take M1.length = As1 := by
        rw [← l1]
        obtain ⟨t, rfl⟩ := p3
        exact List.take_left' rfl
      rw [eA] at hm4
      have sr4 := sr3.trim (n := M1.length) s4 dead
      rw [eA] at sr4
      exact ⟨F4, _, _, ((s'.trans s2).trans s3).trans s4, sr4, hm4, t3, t4⟩
    refine hb ρ2 M' _ h2 X hXc F2 As1 As1 σ2 H'' _ sr2 hm2 (List.prefix_refl _) ⟨fun F3 As3 ρ3 M3 σ3 H3 s3 p3 sr3 hm3 hh => ?_, fun F3 As3 z r v M3 M4 H3 s3 p3 r3 hm3 z1 z2 k => ?_, fun F3 As3 ρ3 M3 σ3 H3 s3 p3 sr3 hm3 k => ?_, fun F3 As3 ρ3 M3 σ3 H3 s3 p3 sr3 hm3 hh => ?_⟩
    · rw [hfb] at hh; exact back s3 p3 sr3 hm3 hh
    · exact ends'.rt F3 As3 z r v M3 M4 H3 ((s'.trans s2).trans s3) ((pb.trans p1).trans p3) r3 hm3 z1 (Nat.le_trans (pb.trans p1).length_le z2) k
    · exact ends'.nx F3 As3 ρ3 M3 σ3 H3 ((s'.trans s2).trans s3) ((pb.trans p1).trans p3) sr3 hm3 k
    · rw [hfb] at hh; exact back s3 p3 sr3 hm3 hh
  · rintro σ' H' ⟨F', ρ', M', s', sr', hm', hk, hwi⟩
    rw [List.drop_length] at hwi
    exact ends'.nx F' As1 ρ' M' σ' H' s' (pb.trans p1) sr' hm' hwi
theorem trS_while {t : Te} {bx : Ss} {dead : List Nat} {body : List Stmt} (ht : TrT c e t) (hb : TrS c body bx) (hr : TrS c rest xs) : TrS c (.While e body [] pos :: rest) (.cons (.while t bx dead) xs) := fun ρ M Q ⟨n, hw⟩ X hX F As B σ H E sr hm pb ends => by
  have hXc := hX
  cases hX with | mk X k0 nd calm room po =>
  have l1 := hm.len
  have ends' := ends.next hXc hr
  generalize hq : ({ Q with nx := fun ρ' M' => wpSs (⟨X.prog, X.w, X.K, X.mg, X.base, X.N, X.env.scope, X.fn, k0⟩ : Ctx).g xs ρ' M' Q } : DE) = Q1 at hw ends'
  refine ws_cons (ps_while po pt_w pss_w) ?_
  refine ⟨fun n σ' H' => ∃ F' ρ' M', Same F F' ∧ SR X.K F' As ρ' σ' ∧ HM X.K F' As M' H' ∧ whileW (wpT (⟨X.prog, X.w, X.K, X.mg, X.base, X.N, X.env.scope, X.fn, k0⟩ : Ctx).g t) (wpSs (⟨X.prog, X.w, X.K, X.mg, X.base, X.N, X.env.scope, X.fn, k0⟩ : Ctx).g bx) (trimW M.length dead) Q1 n ρ' M', ⟨n, F, _, M, Same.refl _, ?_, hm, hw⟩, ?_⟩
  · have := sr.trim (n := M.length) (Same.refl _) dead
    rwa [← l1, List.take_length, l1] at this
  rintro n σ' H' ⟨F', ρ', M', s', sr', hm', hwi⟩
  cases n with
  | zero => exact False.elim hwi
  | succ n =>
    refine ht ρ' M' _ hwi X hXc F' As σ' H' sr' hm' _ fun tt F2 As2 H2 M2 s2 p2 hm2 h2 => ?_
    cases tt with
    | false => exact ends'.nx F2 As2 ρ' M2 σ' H2 (s'.trans s2) (pb.trans p2) (sr'.mono s2 p2) hm2 (h2.2 rfl)
    | true =>
      refine ⟨fun σ3 H3 => ∃ n', n' < n + 1 ∧ ∃ F' ρ' M', Same F F' ∧ SR X.K F' As ρ' σ3 ∧ HM X.K F' As M' H3 ∧ whileW (wpT (⟨X.prog, X.w, X.K, X.mg, X.base, X.N, X.env.scope, X.fn, k0⟩ : Ctx).g t) (wpSs (⟨X.prog, X.w, X.K, X.mg, X.base, X.N, X.env.scope, X.fn, k0⟩ : Ctx).g bx) (trimW M.length dead) Q1 n' ρ' M', fun σ3 H3 ⟨n', h, z⟩ => ⟨n', h, z⟩, ?_⟩
      have back : ∀ {F3 : Hp} {As3 : List Addr} {ρ3 : List Sl} {M3 : List C} {σ3 : L2.St} {H3 : Hp}, Same F2 F3 → As2 <+: As3 → SR X.K F3 As3 ρ3 σ3 → HM X.K F3 As3 M3 H3 → trimW M.length dead (fun ρ' M' => whileW (wpT (⟨X.prog, X.w, X.K, X.mg, X.base, X.N, X.env.scope, X.fn, k0⟩ : Ctx).g t) (wpSs (⟨X.prog, X.w, X.K, X.mg, X.base, X.N, X.env.scope, X.fn, k0⟩ : Ctx).g bx) (trimW M.length dead) Q1 n ρ' M') ρ3 M3 → ∃ F' ρ' M', Same F F' ∧ SR X.K F' As ρ' σ3 ∧ HM X.K F' As M' H3 ∧ whileW (wpT (⟨X.prog, X.w, X.K, X.mg, X.base, X.N, X.env.scope, X.fn, k0⟩ : Ctx).g t) (wpSs (⟨X.prog, X.w, X.K, X.mg, X.base, X.N, X.env.scope, X.fn, k0⟩ : Ctx).g bx) (trimW M.length dead) Q1 n ρ' M' := fun {F3 As3 ρ3 M3 σ3 H3} s3 p3 sr3 hm3 ⟨t1, t2, t3⟩ => by
        obtain ⟨F4, s4, hm4⟩ := hm3.drop M.length t1 t2
        have eA : As3.take M.length = As := by
          rw [← l1]
          obtain ⟨t, rfl⟩ := p2.trans p3
          exact List.take_left' rfl
        rw [eA] at hm4
        have sr4 := sr3.trim (n := M.length) s4 dead
        rw [eA] at sr4
        exact ⟨F4, _, _, ((s'.trans s2).trans s3).trans s4, sr4, hm4, t3⟩
      refine hb ρ' M2 _ (h2.1 rfl) X hXc F2 As2 As2 σ' H2 _ (sr'.mono s2 p2) hm2 (List.prefix_refl _) ⟨fun F3 As3 ρ3 M3 σ3 H3 s3 p3 sr3 hm3 hh => ?_, fun F3 As3 z r v M3 M4 H3 s3 p3 r3 hm3 z1 z2 k => ?_, fun F3 As3 ρ3 M3 σ3 H3 s3 p3 sr3 hm3 k => ?_, fun F3 As3 ρ3 M3 σ3 H3 s3 p3 sr3 hm3 hh => ?_⟩
      · exact ⟨n, Nat.lt_succ_self _, back s3 p3 sr3 hm3 hh⟩
      · exact ends'.rt F3 As3 z r v M3 M4 H3 ((s'.trans s2).trans s3) ((pb.trans p2).trans p3) r3 hm3 z1 (Nat.le_trans (pb.trans p2).length_le z2) k
      · exact ends'.nx F3 As3 ρ3 M3 σ3 H3 ((s'.trans s2).trans s3) ((pb.trans p2).trans p3) sr3 hm3 k
      · exact ⟨n, Nat.lt_succ_self _, back s3 p3 sr3 hm3 hh⟩
end
end Dl

/-! X16: stores, pairs -/
namespace Dl
open PySem L2
theorem pset_any {X : Cx} : PSet X fun o i v H Q => ∃ t, PSet X t ∧ t o i v H Q := fun pins s σ H o i v ov iv u Q I ro ri rv ⟨t, ht, q⟩ => ht pins s σ H o i v ov iv u Q I ro ri rv q
theorem set_dict {X : Cx} (hu : X.A.units + 1 < cLine) : PSet X fun o i v H Q => ∃ a H', o = .ref a ∧ DPut H a i v H' ∧ Q H' := fun pins s σ H o i v ov iv u Q I ro ri rv ⟨a, H', ex, g, q⟩ => by
  subst ex
  obtain rfl : ov = Value.ref a := ro
  exact d_setItem hu I g ri rv fun s4 I4 => ⟨H', I4, q⟩
theorem pk_any {α β : Type} {R : α → β → Prop} {k : Key} : ∀ {xs : List (Key × α)} {ys : List (Key × β)}, Paired (fun p q => p.1 = q.1 ∧ R p.2 q.2) xs ys → (xs.any fun p => decide (p.1 = k)) = ys.any fun p => decide (p.1 = k)
  | [], _, .nil => rfl
  | _ :: _, _, .cons h r => by rw [List.any_cons, List.any_cons, pk_any r, h.1]
theorem pk_map {α β : Type} {R : α → β → Prop} {k : Key} {d : α} {v : β} (hv : R d v) : ∀ {xs : List (Key × α)} {ys : List (Key × β)}, Paired (fun p q => p.1 = q.1 ∧ R p.2 q.2) xs ys → Paired (fun p q => p.1 = q.1 ∧ R p.2 q.2) (xs.map fun p => if p.1 = k then (p.1, d) else p) (ys.map fun p => if p.1 = k then (p.1, v) else p)
  | [], _, .nil => .nil
  | p :: _, q :: _, .cons h r => by
    rw [List.map_cons, List.map_cons]
    refine .cons ?_ (pk_map hv r)
    show (if p.1 = k then (p.1, d) else p).1 = (if q.1 = k then (q.1, v) else q).1 ∧ R (if p.1 = k then (p.1, d) else p).2 (if q.1 = k then (q.1, v) else q).2
    rw [h.1]
    split
    · exact ⟨rfl, hv⟩
    · exact h
theorem pk_put {β : Type} {α : Type} {R : α → V → Prop} {k : Key} {d : α} {v : V} (hv : R d v) {xs : List (Key × α)} {ys : List (Key × V)} (h : Paired (fun p q => p.1 = q.1 ∧ R p.2 q.2) xs ys) : Paired (fun p q => p.1 = q.1 ∧ R p.2 q.2) (putD xs k d) (putK ys k v) := by
  unfold putD putK
  rw [pk_any h]
  split
  · exact pk_map hv h
  · exact paired_append h (.cons ⟨rfl, hv⟩ .nil)
section
variable {c : Ctx} {a b e o tg iter elt : Expr} {x y z : E} {pos p1 p2 p3 : Pos} {rest : List Stmt} {xs : Ss}
theorem set_all {r1 r2 r : Sl} {M : List C} {Q : List C → Prop} (h : setR r1 r2 r M Q) : ∀ X, c.Is X → ∀ F As H u v w, SlR c.K F As r1 u → SlR c.K F As r2 v → SlR c.K F As r w → HM c.K F As M H → ∀ G : Hp → Prop, (∀ M' H', M'.length = M.length → HM c.K F As M' H' → Q M' → G H') → ∃ t, PSet X t ∧ t u v w H G := fun X hX F As H u v w h1 h2 h3 hm G k => by
  cases hX with | mk X k0 nd calm room po =>
  cases r1 with
  | un => exact False.elim h
  | val _ => exact False.elim h
  | own j =>
  cases r2 with
  | un => exact False.elim h
  | own _ => exact False.elim h
  | val xi =>
  obtain ⟨l, hl, rfl⟩ := h1
  unfold setR at h
  dsimp only at h
  rw [lkM_eq] at h
  cases e : M[j]? with
  | none => rw [e] at h; exact False.elim h
  | some cc =>
    rw [e] at h
    obtain ⟨ob, hob, hc⟩ := hm.cell j l cc hl e
    cases cc with
    | lst ds =>
      obtain ⟨vs, rfl, hv⟩ := hc
      dsimp only at h
      split at h
      · rename_i i yd
        split at h
        · rename_i n en
          have h2 : v = .int i := h2
          subst h2
          refine ⟨_, set_list, l, vs, i, n, rfl, rfl, hob, by rw [← hv.length]; exact en, ?_⟩
          rw [ptM_eq] at h
          exact k _ _ (by simp) (hm.set (c := .lst (ds.set n yd)) hl ⟨_, rfl, dvs_paired.mpr (paired_set (R := fun d v => DV X.K F d v) h3 n (dvs_paired.mp hv))⟩) h
        · exact h.elim
      · exact h.elim
    | dic kvs =>
      obtain ⟨vs, rfl, hv⟩ := hc
      dsimp only at h
      split at h
      · rename_i kk yd ek
        have := keyV ek h2
        subst this
        rw [ptM_eq] at h
        refine ⟨_, set_dict (lt_room room), l, _, rfl, DPut.k hob (by rw [← Paired.length hv]; exact Nat.lt_of_lt_of_le h.1 (by decide)), ?_⟩
        exact k _ _ (by simp) (hm.set (c := .dic (putD kvs kk yd)) hl ⟨_, rfl, pk_put (β := Unit) (R := fun d v => DV X.K F d v) h3 hv⟩) h.2
      · exact h.elim
    | mdc kvs =>
      obtain ⟨vs, rfl, hv⟩ := hc
      dsimp only at h
      split at h
      · rename_i kk ek
        have := keyV ek h2
        subst this
        rw [ptM_eq] at h
        refine ⟨_, set_dict (lt_room room), l, _, rfl, DPut.k hob (by rw [← Paired.length hv]; exact Nat.lt_of_lt_of_le h.1.1 (by decide)), ?_⟩
        exact k _ _ (by simp) (hm.set (c := .mdc (putD kvs kk r)) hl ⟨_, rfl, pk_put (β := Unit) (R := fun d v => SlR X.K F As d v) h3 hv⟩) h.2
      · exact h.elim
    | mls _ => exact False.elim h
    | ins _ _ _ => exact False.elim h
    | dxo _ => exact False.elim h
    | sob0 _ _ => exact False.elim h
    | sob _ _ _ => exact False.elim h
    | dxx => exact False.elim h
theorem trS_setix (he : Tr c e z) (ho : Tr c o x) (hi : Tr c a y) (hr : TrS c rest xs) (hs : ∀ env : Env, swapsWithSole [.Subscript o a p1] e pos.line env = pure false) (hw : ∀ env : Env, swappedStores [.Subscript o a p1] e env = pure none) (h1 : ∀ env : Env, (assignEach [.Subscript o a p1] env).map (·.2) = [assign (.Subscript o a p1) env])
    (has : ∀ (env : Env) v, assign (.Subscript o a p1) env v = (do
      let ov ← holding [v] (eval o env)
      let iv ← holding [v, ov] (eval a env)
      standAt p1
      holding [v, ov, iv] (setItem ov iv v)
      release [v, ov, iv] [])) : TrS c (.Assign [.Subscript o a p1] e pos :: rest) (.cons (.setix x y z) xs) := fun ρ M Q h X hX F As B σ H E sr hm pb ends => by
  have hX' := hX
  cases hX with | mk X k0 nd calm room po =>
  refine ws_cons (ps_asg pe_w (pg_sub pe_w pe_w pset_any (has _)) (hs _) (hw _) (h1 _)) (he.ee h X hX' F As σ H sr hm _ fun v F1 As1 H1 r M1 s1 p1 q1 hm1 h1 => ?_)
  refine ho.ee h1 X hX' F1 As1 σ H1 (sr.mono s1 p1) hm1 _ fun u F2 As2 H2 r1 M2 s2 p2 q2 hm2 h2 => hi.ee h2 X hX' F2 As2 σ H2 (sr.mono (s1.trans s2) (p1.trans p2)) hm2 _ fun w F3 As3 H3 r2 M3 s3 p3 q3 hm3 h3 => ?_
  exact set_all h3 X hX' F3 As3 H3 u w v (q2.mono s3 p3) q3 (q1.mono (s2.trans s3) (p2.trans p3)) hm3 _ fun M4 H4 _ hm4 h4 =>
    hr ρ M4 Q h4 X hX' F3 As3 B σ H4 E (sr.mono ((s1.trans s2).trans s3) ((p1.trans p2).trans p3)) hm4 (pb.trans ((p1.trans p2).trans p3)) (ends.f ((s1.trans s2).trans s3))
theorem trS_aug (i : Nat) {nm : Str} {op : Operator} (he : Tr c e x) (hop : op = .Add ∨ op = .Sub) (hr : TrS c rest xs) (hi : c.N[i]? = some nm) (hx : Loc c.sc nm) (hf : c.fn nm = true ∨ c.sc.names.lookup nm = some .local) : TrS c (.AugAssign (.Name nm p1) op e pos :: rest) (.cons (.aug i op x) xs) := fun ρ M Q h X hX F As B σ H E sr hm pb ends => by
  have hX' := hX
  cases hX with | mk X k0 nd calm room po =>
  dsimp only [wpSs, wpS] at h
  cases el : lk ρ i with
  | un => rw [el] at h; exact False.elim h
  | own _ => rw [el] at h; exact False.elim h
  | val d =>
    rw [el] at h
    cases d with
    | int n =>
      obtain ⟨v0, hv0, hn0⟩ := sr.get i _ (lk_eq ρ i (by rw [el]; exact fun z => (nomatch z))) (by rw [el]; exact fun z => (nomatch z))
      rw [el] at hn0
      have hn0 : v0 = .int n := hn0
      subst hn0
      have fin : ∀ {F1 : Hp} {As1 : List Addr} {H1 : Hp} {M1 : List C} {m : Int}, Same F F1 → As <+: As1 → HM X.K F1 As1 M1 H1 → wpSs _ xs (pt ρ i (.val (.int m))) M1 Q → WS X rest E (σ.set i (some (.int m))) H1 := fun {F1 As1 H1 M1 m} s1 p1 hm1 q => by
        rw [pt_eq] at q
        exact hr _ M1 Q q X hX' F1 As1 B _ H1 E ((sr.mono s1 p1).set (s := .val (.int m)) rfl) hm1 (pb.trans p1) (ends.f s1)
      rcases hop with rfl | rfl
      · refine ws_cons (ps_aug nd hi hx pe_w ip_add hf) ⟨_, hv0, he.ee h X hX' F As σ H sr hm _ fun v F1 As1 H1 r M1 s1 p1 r1 hm1 h1 => ?_⟩
        dsimp only [binR] at h1
        split at h1
        · rename_i i' j' e1
          cases e1
          exact ⟨n, j', rfl, r1, fin s1 p1 hm1 h1⟩
        · split at h1
          · rename_i e1 _; cases e1
          · rename_i e1 _; cases e1
          · exact h1.elim
      · refine ws_cons (ps_aug nd hi hx pe_w ip_sub hf) ⟨_, hv0, he.ee h X hX' F As σ H sr hm _ fun v F1 As1 H1 r M1 s1 p1 r1 hm1 h1 => ?_⟩
        dsimp only [binR] at h1
        split at h1
        · rename_i i' j' e1
          cases e1
          exact ⟨n, j', rfl, r1, fin s1 p1 hm1 h1⟩
        · exact h1.elim
    | _ => exact False.elim h
/-! ### pairs -/
theorem trS_par2 (i j : Nat) {n1 n2 : Str} {as : Es} {kt k2} {pt2 : Pos} (ha : TrA c [a, b] as) (hr : TrS c rest xs) (hij : i ≠ j) (hi : c.N[i]? = some n1) (hj : c.N[j]? = some n2)
    (hx : c.sc.names.lookup n1 = some .local) (hy : c.sc.names.lookup n2 = some .local)
    (hw : ∀ env : Env, env.scope = c.sc → swappedStores [.Tuple [.Name n1 p1, .Name n2 p2] kt p3] (.Tuple [a, b] k2 pt2) env = pure (some [n1, n2]))
    (hs : ∀ env : Env, swapsWithSole [.Tuple [.Name n1 p1, .Name n2 p2] kt p3] (.Tuple [a, b] k2 pt2) pos.line env = pure false) :
    TrS c (.Assign [.Tuple [.Name n1 p1, .Name n2 p2] kt p3] (.Tuple [a, b] k2 pt2) pos :: rest) (.cons (.par [i, j] as) xs) := fun ρ M Q h X hX F As B σ H E sr hm pb ends => by
  have hX' := hX
  cases hX with | mk X k0 nd calm room po =>
  refine ws_cons (ps_par calm nd hi hj hij hx hy pa_w (hw _ rfl) (hs _)) (ha ρ M _ h X hX' F As σ H sr hm _ fun vs F1 As1 H1 rs M1 s1 p1 r1 hm1 ⟨hl, k⟩ => ?_)
  match rs, hl with
  | [ra, rb], _ =>
    obtain ⟨v, u, rfl, h1, h2⟩ := slrs2 r1
    have k : wpSs _ xs (pt (pt ρ i ra) j rb) M1 Q := k
    rw [pt_eq, pt_eq] at k
    exact ⟨v, u, rfl, hr _ M1 Q k X hX' F1 As1 B _ H1 E (((sr.mono s1 p1).set h1).set h2) hm1 (pb.trans p1) (ends.f s1)⟩
theorem trS_par3 (i j l : Nat) {n1 n2 n3 : Str} {e3 : Expr} {as : Es} {kt k2} {pt2 pz : Pos} (ha : TrA c [a, b, e3] as) (hr : TrS c rest xs) (hij : i ≠ j) (hil : i ≠ l) (hjl : j ≠ l) (hi : c.N[i]? = some n1) (hj : c.N[j]? = some n2) (hl : c.N[l]? = some n3)
    (hx : c.sc.names.lookup n1 = some .local) (hy : c.sc.names.lookup n2 = some .local) (hz : c.sc.names.lookup n3 = some .local)
    (hw : ∀ env : Env, env.scope = c.sc → swappedStores [.Tuple [.Name n1 p1, .Name n2 p2, .Name n3 pz] kt p3] (.Tuple [a, b, e3] k2 pt2) env = pure (some [n1, n2, n3]))
    (hs : ∀ env : Env, swapsWithSole [.Tuple [.Name n1 p1, .Name n2 p2, .Name n3 pz] kt p3] (.Tuple [a, b, e3] k2 pt2) pos.line env = pure false) :
    TrS c (.Assign [.Tuple [.Name n1 p1, .Name n2 p2, .Name n3 pz] kt p3] (.Tuple [a, b, e3] k2 pt2) pos :: rest) (.cons (.par [i, j, l] as) xs) := fun ρ M Q h X hX F As B σ H E sr hm pb ends => by
  have hX' := hX
  cases hX with | mk X k0 nd calm room po =>
  refine ws_cons (ps_par3 calm nd hi hj hl hij hil hjl hx hy hz pa_w (hw _ rfl) (hs _)) (ha ρ M _ h X hX' F As σ H sr hm _ fun vs F1 As1 H1 rs M1 s1 p1 r1 hm1 ⟨hln, k⟩ => ?_)
  match rs, hln with
  | [ra, rb, rc], _ =>
    cases r1 with
    | cons h1 r2 =>
      obtain ⟨v, u, rfl, h2, h3⟩ := slrs2 r2
      have k : wpSs _ xs (pt (pt (pt ρ i ra) j rb) l rc) M1 Q := k
      rw [pt_eq, pt_eq, pt_eq] at k
      exact ⟨_, v, u, rfl, hr _ M1 Q k X hX' F1 As1 B _ H1 E ((((sr.mono s1 p1).set h1).set h2).set h3) hm1 (pb.trans p1) (ends.f s1)⟩
/-- names that are stored one after another -/
structure StN (c : Ctx) (i : Nat) (n : Str) : Prop where
  at_ : c.N[i]? = some n
  loc : Loc c.sc n
  fn : c.fn n = true ∨ c.sc.names.lookup n = some .local
theorem trS_parC2 (i j : Nat) {n1 n2 : Str} {as : Es} {kt k2} {pt2 : Pos} (ha : TrA c [a, b] as) (hr : TrS c rest xs) (h1 : StN c i n1) (h2 : StN c j n2)
    (hw : ∀ env : Env, env.scope = c.sc → swappedStores [.Tuple [.Name n1 p1, .Name n2 p2] kt p3] (.Tuple [a, b] k2 pt2) env = pure none)
    (hs : ∀ env : Env, swapsWithSole [.Tuple [.Name n1 p1, .Name n2 p2] kt p3] (.Tuple [a, b] k2 pt2) pos.line env = pure false) :
    TrS c (.Assign [.Tuple [.Name n1 p1, .Name n2 p2] kt p3] (.Tuple [a, b] k2 pt2) pos :: rest) (.cons (.par [i, j] as) xs) := fun ρ M Q h X hX F As B σ H E sr hm pb ends => by
  have hX' := hX
  cases hX with | mk X k0 nd calm room po =>
  refine ws_cons (ps_asg (pe_tup pa_w) (pg_tup calm (pgs_cons (pg_name nd h1.at_ h1.loc h1.fn) (pgs_cons (pg_name nd h2.at_ h2.loc h2.fn) pgs_nil))) (hs _) (hw _ rfl)) (ha ρ M _ h X hX' F As σ H sr hm _ fun vs F1 As1 H1 rs M1 s1 p1 r1 hm1 ⟨hl, k⟩ => ?_)
  match rs, hl with
  | [ra, rb], _ =>
    obtain ⟨v, u, rfl, g1, g2⟩ := slrs2 r1
    refine ⟨by simp; decide, fun p hp => ?_⟩
    obtain ⟨_, fp⟩ := hm1.fresh hp
    refine ⟨p, [v, u], rfl, .inl (.inl upd_same), rfl, v, _, rfl, u, _, rfl, rfl, ?_⟩
    have s2 := same_new (o := .tup [v, u]) fp
    have k : wpSs _ xs (pt (pt ρ i ra) j rb) M1 Q := k
    rw [pt_eq, pt_eq] at k
    exact hr _ M1 Q k X hX' _ As1 B _ _ E ((((sr.mono s1 p1).mono s2 (List.prefix_refl _)).set (g1.mono s2 (List.prefix_refl _))).set (g2.mono s2 (List.prefix_refl _))) (hm1.laid hp) (pb.trans p1) (ends.f (s1.trans s2))
theorem trS_parC3 (i j l : Nat) {n1 n2 n3 : Str} {e3 : Expr} {as : Es} {kt k2} {pt2 pz : Pos} (ha : TrA c [a, b, e3] as) (hr : TrS c rest xs) (h1 : StN c i n1) (h2 : StN c j n2) (h3 : StN c l n3)
    (hw : ∀ env : Env, env.scope = c.sc → swappedStores [.Tuple [.Name n1 p1, .Name n2 p2, .Name n3 pz] kt p3] (.Tuple [a, b, e3] k2 pt2) env = pure none)
    (hs : ∀ env : Env, swapsWithSole [.Tuple [.Name n1 p1, .Name n2 p2, .Name n3 pz] kt p3] (.Tuple [a, b, e3] k2 pt2) pos.line env = pure false) :
    TrS c (.Assign [.Tuple [.Name n1 p1, .Name n2 p2, .Name n3 pz] kt p3] (.Tuple [a, b, e3] k2 pt2) pos :: rest) (.cons (.par [i, j, l] as) xs) := fun ρ M Q h X hX F As B σ H E sr hm pb ends => by
  have hX' := hX
  cases hX with | mk X k0 nd calm room po =>
  refine ws_cons (ps_asg (pe_tup pa_w) (pg_tup calm (pgs_cons (pg_name nd h1.at_ h1.loc h1.fn) (pgs_cons (pg_name nd h2.at_ h2.loc h2.fn) (pgs_cons (pg_name nd h3.at_ h3.loc h3.fn) pgs_nil)))) (hs _) (hw _ rfl)) (ha ρ M _ h X hX' F As σ H sr hm _ fun vs F1 As1 H1 rs M1 s1 p1 r1 hm1 ⟨hl, k⟩ => ?_)
  match rs, hl with
  | [ra, rb, rc], _ =>
    cases r1 with
    | @cons _ v0 _ _ g0 r2 =>
      obtain ⟨v, u, rfl, g1, g2⟩ := slrs2 r2
      refine ⟨by simp; decide, fun p hp => ?_⟩
      obtain ⟨_, fp⟩ := hm1.fresh hp
      refine ⟨p, [_, v, u], rfl, .inl (.inl upd_same), rfl, _, _, rfl, v, _, rfl, u, _, rfl, rfl, ?_⟩
      have s2 := same_new (o := .tup [v0, v, u]) fp
      have k : wpSs _ xs (pt (pt (pt ρ i ra) j rb) l rc) M1 Q := k
      rw [pt_eq, pt_eq, pt_eq] at k
      exact hr _ M1 Q k X hX' _ As1 B _ _ E (((((sr.mono s1 p1).mono s2 (List.prefix_refl _)).set (g0.mono s2 (List.prefix_refl _))).set (g1.mono s2 (List.prefix_refl _))).set (g2.mono s2 (List.prefix_refl _))) (hm1.laid hp) (pb.trans p1) (ends.f (s1.trans s2))
/-- a, b = e -/
theorem trS_tgt {tx : Tg} (he : Tr c e x) (hg : TrG c tg tx) (hr : TrS c rest xs) (hs : ∀ env : Env, swapsWithSole [tg] e pos.line env = pure false) (hw : ∀ env : Env, env.scope = c.sc → swappedStores [tg] e env = pure none) (h1 : ∀ env : Env, (assignEach [tg] env).map (·.2) = [assign tg env]) : TrS c (.Assign [tg] e pos :: rest) (.cons (.tgt tx x) xs) := fun ρ M Q h X hX F As B σ H E sr hm pb ends => by
  have hX' := hX
  cases hX with | mk X k0 nd calm room po =>
  refine ws_cons (ps_asg pe_w pg_w (hs _) (hw _ rfl) (h1 _)) (he.ee h X hX' F As σ H sr hm _ fun v F1 As1 H1 r M1 s1 p1 r1 hm1 h1 => ?_)
  split at h1
  · rename_i d
    exact hg ρ d _ h1 X hX' F1 As1 σ H1 v (sr.mono s1 p1) hm1.same r1 _ fun ρ' σ' q sr' _ _ => hr ρ' M1 Q q X hX' F1 As1 B σ' H1 E sr' hm1 (pb.trans p1) (ends.f s1)
  · exact h1.elim
theorem trS_pass (hr : TrS c rest xs) : TrS c (.Pass pos :: rest) (.cons .pass xs) := fun ρ M Q h X hX F As B σ H E sr hm pb ends =>
  ws_cons ps_pass (hr ρ M Q h X hX F As B σ H E sr hm pb ends)
end
end Dl

/-! X17: fields that are stored, promises, entries, calls -/
namespace Dl
open PySem L2
theorem sr_put {K : PySem.W.Frag} {F : Hp} {As : List Addr} {vs : List Sl} {us : List (Option V)} {i : Nat} {r : Sl} {v : V} (h : SR K F As vs us) (hr : SlR K F As r v) : SR K F As (putSl i r vs) (SlX.putS i v us) := by
  unfold putSl SlX.putS
  have hl := h.len
  have h2 : SR K F As (vs ++ List.replicate (i + 1 - vs.length) .un) (us ++ List.replicate (i + 1 - us.length) none) := by
    refine ⟨by simp [hl], fun j s e z => ?_⟩
    by_cases hj : j < vs.length
    · rw [List.getElem?_append_left hj] at e
      rw [List.getElem?_append_left (by omega)]
      exact h.get j s e z
    · rw [List.getElem?_append_right (by omega)] at e
      exact absurd (List.eq_of_mem_replicate (List.mem_of_getElem? e)) z
  exact SR.set h2 hr
section
variable {c : Ctx} {a b e o tg iter elt : Expr} {x y z : E} {pos p1 p2 p3 : Pos} {rest : List Stmt} {xs : Ss}
theorem trS_setfld {f : Str} (he : Tr c e z) (ho : Tr c o x) (hr : TrS c rest xs) (hs : ∀ env, swapsWith e (some (.Attribute o f p1)) pos.line env = pure false) : TrS c (.Assign [.Attribute o f p1] e pos :: rest) (.cons (.setfld x f z) xs) := fun ρ M Q h X hX F As B σ H E sr hm pb ends => by
  have hX' := hX
  cases hX with | mk X k0 nd calm room po =>
  refine ws_cons (SlX.ps_sl pe_w pe_w (hs _)) (he.ee h X hX' F As σ H sr hm _ fun v F1 As1 H1 r M1 s1 p1 q1 hm1 h1 => ?_)
  refine ho.ee h1 X hX' F1 As1 σ H1 (sr.mono s1 p1) hm1 _ fun u F2 As2 H2 r1 M2 s2 p2 q2 hm2 ⟨hu, h2⟩ => ?_
  have q1 := q1.mono s2 p2
  have fin : ∀ {Cl al dx : Addr} {n j i : Nat} {us : List (Option V)} {vs : List Sl}, As2[n]? = some al → As2[j]? = some dx → n ≠ j → SR X.K F2 As2 vs us → wpSs (⟨X.prog, X.w, X.K, X.mg, X.base, X.N, X.env.scope, X.fn, k0⟩ : Ctx).g xs ρ (ptM (ptM M2 j .dxx) n (.sob Cl j (putSl i r vs))) Q → WS X rest E σ (SlX.slH H2 al Cl dx (SlX.putS i v us)) := fun {Cl al dx n j i us vs} ha hd hne hsr q => by
    rw [ptM_eq, ptM_eq] at q
    have hm3 := hm2.set (c := .dxx) (o := .xd []) hd rfl
    have hm4 := hm3.set (c := .sob Cl j (putSl i r vs)) (o := SlX.SlO al Cl dx (SlX.putS i v us)) ha ⟨dx, _, hd, rfl, sr_put hsr q1⟩
    exact hr ρ _ Q q X hX' F2 As2 B σ _ E (sr.mono (s1.trans s2) (p1.trans p2)) hm4 (pb.trans (p1.trans p2)) (ends.f (s1.trans s2))
  cases h2 with
  | @sob0 Cl p i j n hk cl t hkj q =>
    obtain ⟨al, ha, rfl⟩ := q2
    rw [lkM_eq] at hk
    obtain ⟨ob, hob, dx, hdx, rfl⟩ := hm2.cell n al _ ha hk
    exact ⟨al, Cl, dx, p, [], i, rfl, .inl ⟨hob, rfl⟩, cl, t, fin ha hdx hkj ⟨rfl, fun _ _ e => by simp at e⟩ q⟩
  | @sob Cl p i j n vs hk hj cl t hkj q =>
    obtain ⟨al, ha, rfl⟩ := q2
    obtain ⟨dx, us, g0, _, g2, g3⟩ := slt_of hm2 ha hk hj
    exact ⟨al, Cl, dx, p, us, i, rfl, g2, cl, t, fin ha g0 hkj g3 q⟩
end
/-! ### promises -/
/-- what a result asks of a caller -/
def ZG (K : PySem.W.Frag) (z : Z) (H : Hp) (G : VK) : Prop :=
  match z with
  | .s (.val d) => ∀ v H', Same H H' → DV K H' d v → G v H'
  | .n (.lst ds) => ∀ p H' ws, Same H H' → H' p = none → DVs K H' ds ws → G (.ref p) (upd H' p (.lst ws))
  | .n (.dic kvs) => ∀ p H' ws, Same H H' → H' p = none → KD K H' kvs ws → G (.ref p) (upd H' p (.dK ws))
  | _ => False
/-- values come in, a value or something new comes out -/
def spZ (K : PySem.W.Frag) (R : List D → Z → Prop) : Sp := fun vs H G _ => ∃ ds z, DVs K H ds vs ∧ R ds z ∧ ZG K z H G
/-- the first argument is an owned list -/
def spO (K : PySem.W.Frag) (Pre : List D → List D → Prop) (R : List D → List D → Z → List D → Prop) : Sp := fun vs H G _ => ∃ (b : Addr) (F : Hp) (c0 : List D) (w0 : List V) (ds : List D) (us : List V), vs = .ref b :: us ∧ F b = none ∧ H = upd F b (.lst w0) ∧ DVs K F c0 w0 ∧ DVs K F ds us ∧ Pre c0 ds ∧
  ∀ z c1 F' w1, R c0 ds z c1 → Same F F' → F' b = none → DVs K F' c1 w1 → (match z with
    | .s (.val d) => ∀ v, DV K F' d v → G v (upd F' b (.lst w1))
    | .s (.own 0) => G (.ref b) (upd F' b (.lst w1))
    | .n (.lst xs) => ∀ p ws, F' p = none → p ≠ b → DVs K F' xs ws → G (.ref p) (upd (upd F' b (.lst w1)) p (.lst ws))
    | _ => True)
/-- what must hold of a result that is promised as z -/
def vwZ (z : Z) (M : List C) : Option D :=
  match z with
  | .s r => vw M r
  | .n c => c.frz
def cZ (z : Z) (M : List C) : Option C :=
  match z with
  | .s (.own k) => lkM M k
  | .n c => some c
  | _ => none
def Gives (z z' : Z) (M : List C) : Prop :=
  match z with
  | .s (.val d) => vwZ z' M = some d
  | .n c => cZ z' M = some c
  | _ => False
section
variable {P : Program} {w : World} {K : PySem.W.Frag} {mg : Str → Option Value} {base : Heap}
abbrev ctxOf (P : Program) (w : World) (K : PySem.W.Frag) (mg : Str → Option Value) (base : Heap) (N : List Str) (st : Stmt) (k : Nat) : Ctx := ⟨P, w, K, mg, base, N, defScope st, fun _ => true, k⟩
abbrev gOf (P : Program) (w : World) (K : PySem.W.Frag) (mg : Str → Option Value) (base : Heap) (k : Nat) : Gx := ⟨P, w, K, mg, base, k⟩
def rho (N : List Str) (rs : List Sl) : List Sl := rs ++ List.replicate (N.length - rs.length) .un
theorem sr_start {F : Hp} {As : List Addr} {N : List Str} {rs : List Sl} {vs : List V} (h : SlRs K F As rs vs) : SR K F As (rho N rs) (L2.start N vs) := by
  have hl := Paired.length h
  have get : ∀ (i : Nat) (r : Sl), (rho N rs)[i]? = some r → r ≠ .un → ∃ v, (L2.start N vs)[i]? = some (some v) ∧ SlR K F As r v := fun i r e hr => by
    unfold rho at e
    unfold L2.start
    by_cases hi : i < rs.length
    · rw [List.getElem?_append_left hi] at e
      obtain ⟨v, h1, h2⟩ := paired_get h e
      rw [List.getElem?_append_left (by simp; omega), List.getElem?_map, h1]
      exact ⟨v, rfl, h2⟩
    · rw [List.getElem?_append_right (by omega)] at e
      have := List.mem_of_getElem? e
      exact absurd (List.eq_of_mem_replicate this) hr
  exact ⟨by simp [rho, L2.start, hl], fun i d e z => get i _ e z⟩

variable {x qual : Str} {st : Stmt} {f : Addr} {fd : FuncData} {N ps : List Str} {k : Nat}
theorem hm_nil (H : Hp) : HM K H [] [] H := ⟨.nil, rfl, fun i a c e => by simp at e, fun a h => (nomatch h), fun _ _ => rfl⟩
/-- what is frozen in the end -/
theorem gives_fin {F : Hp} {As : List Addr} {M' M1 : List C} {H' H0 : Hp} {z z' : Z} {r : Sl} {v : V} {G : VK} (sm : Same H0 F) (hm : HM K F As M' H') (hr : SlR K F As r v) (hz : Zr z' M1 r M') (g : Gives z z' M1) (k : ZG K z H0 G) : G v H' := by
  have cellOf : ∀ {n : Nat} {a : Addr} {ds : List D}, As[n]? = some a → M'[n]? = some (.lst ds) → ∃ ws, H' a = some (.lst ws) ∧ Same F (del H' a) ∧ DVs K (del H' a) ds ws := fun {n a ds} ha hn => by
    obtain ⟨o, ho, ws, rfl, hw⟩ := hm.cell n a _ ha hn
    have fa : F a = none := hm.off a (List.mem_iff_getElem?.mpr ⟨n, ha⟩)
    have sd : Same F (del H' a) := fun b o e => by
      rw [del_ne (ne_of_none e fa)]; exact hm.same b o e
    exact ⟨ws, ho, sd, hw.mono sd⟩
  have cellOfD : ∀ {n : Nat} {a : Addr} {ds : List (Key × D)}, As[n]? = some a → M'[n]? = some (.dic ds) → ∃ ws, H' a = some (.dK ws) ∧ Same F (del H' a) ∧ KD K (del H' a) ds ws := fun {n a ds} ha hn => by
    obtain ⟨o, ho, ws, rfl, hw⟩ := hm.cell n a _ ha hn
    have fa : F a = none := hm.off a (List.mem_iff_getElem?.mpr ⟨n, ha⟩)
    have sd : Same F (del H' a) := fun b o e => by
      rw [del_ne (ne_of_none e fa)]; exact hm.same b o e
    exact ⟨ws, ho, sd, Paired.mapP hw fun _ _ z => ⟨z.1, z.2.mono sd⟩⟩
  -- the result's cell
  have vis : ∀ {c0 : C}, cZ z' M1 = some c0 → ∃ n a, r = .own n ∧ v = .ref a ∧ As[n]? = some a ∧ M'[n]? = some c0 := fun {c0} e => by
    cases z' with
    | s s0 =>
      obtain ⟨e1, e2⟩ := hz
      subst e1; subst e2
      cases r with
      | own n =>
        obtain ⟨a, ha, rfl⟩ := hr
        refine ⟨n, a, rfl, rfl, ha, ?_⟩
        rw [← lkM_eq]; exact e
      | un => cases e
      | val _ => cases e
    | n c1 =>
      obtain ⟨e1, e2, _⟩ := hz
      subst e1; subst e2
      cases e
      obtain ⟨a, ha, rfl⟩ := hr
      exact ⟨M1.length, a, rfl, rfl, ha, by simp⟩
  cases z with
  | s s0 =>
    cases s0 with
    | val d =>
      have g : vwZ z' M1 = some d := g
      have dv : DV K H' d v := by
        cases z' with
        | s s1 =>
          obtain ⟨e1, e2⟩ := hz
          subst e1; subst e2
          exact vw_dv g hm hr
        | n c1 =>
          obtain ⟨e1, e2, _⟩ := hz
          subst e1; subst e2
          refine vw_dv (M := M1 ++ [c1]) (s := .own M1.length) ?_ hm hr
          show (match lkM (M1 ++ [c1]) M1.length with | some c => c.frz | none => none) = some d
          rw [lkM_eq]; simp; exact g
      exact k v H' (sm.trans hm.same) dv
    | un => exact False.elim k
    | own _ => exact False.elim k
  | n c0 =>
    cases c0 with
    | lst ds =>
      obtain ⟨n, a, rfl, rfl, ha, hn⟩ := vis g
      obtain ⟨ws, ho, sd, hw⟩ := cellOf ha hn
      have := k a (del H' a) ws (sm.trans sd) del_same hw
      rwa [upd_del ho] at this
    | dic ds =>
      obtain ⟨n, a, rfl, rfl, ha, hn⟩ := vis g
      obtain ⟨ws, ho, sd, hw⟩ := cellOfD ha hn
      have := k a (del H' a) ws (sm.trans sd) del_same hw
      rwa [upd_del ho] at this
    | _ => exact False.elim k
theorem okZ {R : List D → Z → Prop} {bx : Ss} (Fn : Fun K x qual st f fd) (S : FnScope N ps (defScope st)) (tr : TrS (ctxOf P w K mg base N st k) (defBody st) bx) (hlen : ∀ ds z, R ds z → ds.length = ps.length)
    (h : ∀ ds z, R ds z → wpSs (gOf P w K mg base k) bx (rho N (ds.map .val)) [] { nx := fun _ _ => z = .s (.val .non), rt := Gives z }) : FnOk P w K mg base CX0 (k + 1) f fd ps (spZ K R) := by
  refine Fn.ok S (fun vs H Q E ⟨ds, d, h1, h2, _⟩ => by rw [← h1.length]; exact hlen ds d h2) fun cdv A outer s H vs Q E hr ⟨ds, z, h1, h2, h3⟩ => ?_
  refine tr _ _ _ (h ds z h2) _ (.mk (cxOf CX0 P w K mg base N qual (defScope st) f cdv A outer s H E).nox k S.nd rfl hr PassesOwn.never) H [] [] (L2.start N vs) H _ (sr_start (vals_slrs h1)) (hm_nil H) (List.prefix_refl _)
    ⟨fun F' As' ρ' M' σ' H' s' p' sr' hm' zz => ?_, fun F' As' z' r v M' M1 H' s' p' r' hm' z1 z2 g => gives_fin s' hm' r' z1 g h3, fun _ _ _ _ _ _ _ _ _ _ z => z.elim, fun _ _ _ _ _ _ _ _ _ _ z => z.elim⟩
  have zz : z = .s (.val .non) := zz
  subst zz
  exact h3 _ _ (s'.trans hm'.same) rfl
end
end Dl

/-! X18: calls by promises; entries of other kinds -/
namespace Dl
open PySem L2
def valsOf : List Sl → Option (List D)
  | [] => some []
  | .val d :: rs => match valsOf rs with
    | some ds => some (d :: ds)
    | none => none
  | _ :: _ => none
theorem valsOf_eq : ∀ {rs : List Sl} {ds : List D}, valsOf rs = some ds → rs = ds.map .val
  | [], ds, h => by cases h; rfl
  | .val d :: rs, ds, h => by
    have h : (match valsOf rs with | some ds => some (d :: ds) | none => none) = some ds := h
    cases e : valsOf rs with
    | none => rw [e] at h; cases h
    | some ds' => rw [e] at h; cases h; rw [valsOf_eq e]; rfl
  | .un :: _, _, h => by cases h
  | .own _ :: _, _, h => by cases h
theorem valsOf_map (ds : List D) : valsOf (ds.map .val) = some ds := by
  induction ds with
  | nil => rfl
  | cons d ds ih => show (match valsOf (ds.map .val) with | some ds => some (d :: ds) | none => none) = _; rw [ih]
section
variable {g : Gx} {x m : Str} {k : Nat} {M : List C} {Q : Z → List C → Prop} {rs : List Sl} {ds : List D} {z : Z} {R : List D → Z → Prop}
/-- a result that can be promised -/
def okz : Z → Bool
  | .s (.val _) => true
  | .n (.lst _) => true
  | .n (.dic _) => true
  | _ => false
theorem new_back {K : PySem.W.Frag} {F F' : Hp} {As : List Addr} {H : Hp} {p : Addr} {o : HO} (hm : HM K F As M H) (sm : Same F F') (n : ∀ a ∈ As, upd F' p o a = none) : (∀ a ∈ As, F' a = none) ∧ p ∉ As ∧ puts (upd F' p o) H As = upd (puts F' H As) p o := by
  have np : p ∉ As := fun z => by
    have := n p z
    rw [upd_same] at this; cases this
  refine ⟨fun a ha => ?_, np, ?_⟩
  · have := n a ha
    rw [upd_ne (fun z => by subst z; exact np ha)] at this
    exact this
  · funext a
    by_cases ha : a = p
    · subst ha; rw [puts_ne np, upd_same, upd_same]
    · rw [upd_ne ha]
      by_cases hb : a ∈ As
      · rw [puts_in hb, puts_in hb]
      · rw [puts_ne hb, puts_ne hb, upd_ne ha]
theorem sp_z (hds : valsOf rs = some ds) (hr : R ds z) (hz : okz z = true) (q : Q z M) : SpS g (spZ g.K R) rs M (zq M.length Q) := fun F As H vs hm hrs G k => by
  rw [valsOf_eq hds] at hrs
  refine ⟨As, hm.frs, ds, z, by rw [hm.bare]; exact slrs_vals hrs, hr, ?_⟩
  rw [hm.bare]
  cases z with
  | s s0 =>
    cases s0 with
    | val d => exact fun v F' sm dv n => k v F' As _ (.val d) M sm (List.prefix_refl _) dv (hm.back sm n) ⟨.s _, M, ⟨rfl, rfl⟩, Nat.le_refl _, q⟩
    | un => cases hz
    | own _ => cases hz
  | n c0 =>
    cases c0 with
    | lst xs =>
      intro p F' ws sm hp hw n
      obtain ⟨n', np, e⟩ := new_back hm sm n
      have hb := hm.back sm n'
      rw [e]
      exact fin_lst (Aft.mono k sm (List.prefix_refl _)) hb (Nat.le_refl _) (by rw [puts_ne np]; exact hp) hw q
    | dic xs =>
      intro p F' ws sm hp hw n
      obtain ⟨n', np, e⟩ := new_back hm sm n
      have hb := hm.back sm n'
      rw [e]
      exact fin_new (c := .dic xs) (Aft.mono k sm (List.prefix_refl _)) hb (Nat.le_refl _) (by rw [puts_ne np]; exact hp) ⟨ws, rfl, hw⟩ q
    | _ => cases hz
theorem call_z (df : Def g x k (spZ g.K R)) (hr : R ds z) (q : Q z M) (hk : k ≤ g.k := by first | exact Nat.le_of_ble_eq_true rfl | assumption) (hds : valsOf rs = some ds := by rfl) (hz : okz z = true := by rfl) : CallZ g x rs M Q := ⟨k, _, df, hk, sp_z hds hr hz q⟩
theorem callk_z {ks : List Str} {idx : List Nat} (df : DefK g x k ks idx (spZ g.K R)) (hr : R ds z) (q : Q z M) (hk : k ≤ g.k := by first | exact Nat.le_of_ble_eq_true rfl | assumption) (hl : rs.length = ks.length := by rfl) (hds : valsOf (idx.map fun i => lk0 rs i) = some ds := by rfl) (hz : okz z = true := by rfl) : CallK g x ks rs M Q := ⟨k, idx, _, df, hk, hl, sp_z hds hr hz q⟩
theorem meth_z {Cl : Addr} (df : DefM g Cl m k (spZ g.K R)) (hr : R ds z) (q : Q z M) (hk : k ≤ g.k := by first | exact Nat.le_of_ble_eq_true rfl | assumption) (hds : valsOf rs = some ds := by rfl) (hz : okz z = true := by rfl) : MethZ g Cl m rs M Q := ⟨k, _, df, hk, sp_z hds hr hz q⟩
/-! ### an owned list handed on -/
def renO (j : Nat) : Z → Z
  | .s (.own 0) => .s (.own j)
  | z => z
def okzo : Z → Bool
  | .s (.val _) => true
  | .s (.own 0) => true
  | .n (.lst _) => true
  | _ => false

/-- an instance's dict is one -/
def okM (M : List C) : Bool := M.all fun c => match c with
  | .dxo k => match lkM M k with
    | some (.ins _ _ _) => true
    | some (.sob0 _ _) => true
    | _ => false
  | _ => true
theorem sp_o {Pre : List D → List D → Prop} {R : List D → List D → Z → List D → Prop} {j : Nat} {c0 : List D} (hj : lkM M j = some (.lst c0)) (hp : Pre c0 ds) (q : ∀ z c1, R c0 ds z c1 → okzo z = true → Q (renO j z) (ptM M j (.lst c1))) (hds : valsOf rs = some ds) (hM : okM M = true) : SpS g (spO g.K Pre R) (.own j :: rs) M (zq M.length Q) := fun F As H vs hm hrs G k => by
  rw [lkM_eq] at hj
  cases hrs with
  | @cons _ v0 _ vs0 h0 hrs =>
  rw [valsOf_eq hds] at hrs
  obtain ⟨b, hb, rfl⟩ := h0
  obtain ⟨o, ho, w0, rfl, hw0⟩ := hm.cell j b _ hb hj
  have bA : b ∈ As := List.mem_iff_getElem?.mpr ⟨j, hb⟩
  have fb : F b = none := hm.off b bA
  have e1 : dels H (As.filter fun a => decide (a ≠ b)) = upd F b (.lst w0) := by
    funext a
    by_cases ha : a = b
    · subst ha; rw [upd_same, dels_ne (by simp), ho]
    · rw [upd_ne ha]
      by_cases hA : a ∈ As
      · unfold dels; rw [if_pos (by simp [hA, ha])]; exact (hm.off a hA).symm
      · rw [dels_ne (by simp [hA])]; exact hm.out a hA
  refine ⟨As.filter fun a => decide (a ≠ b), fun a ha => ?_, b, F, c0, w0, ds, vs0, rfl, fb, e1, hw0, slrs_vals hrs, hp, fun z c1 F' w1 hR sm fb' hw1 => ?_⟩
  · obtain ⟨i, ei⟩ := List.mem_iff_getElem?.mp (List.mem_filter.mp ha).1
    have hi : i < M.length := by rw [← hm.len]; exact (List.getElem?_eq_some_iff.mp ei).1
    obtain ⟨o, h1, h2⟩ := hm.cell i a M[i] ei (List.getElem?_eq_getElem hi)
    refine ⟨o, h1, ?_⟩
    have hMi := (List.all_eq_true.mp hM) M[i] (List.getElem_mem hi)
    generalize M[i] = cc at h2 hMi
    cases cc with
    | lst xs => obtain ⟨vs, rfl, _⟩ := h2; exact .lst vs
    | dic xs => obtain ⟨vs, rfl, _⟩ := h2; exact .dK vs
    | mls xs => obtain ⟨vs, rfl, _⟩ := h2; exact .lst vs
    | mdc xs => obtain ⟨vs, rfl, _⟩ := h2; exact .dK vs
    | ins Cl j' fs =>
      obtain ⟨dx, kvs, h3, rfl, _⟩ := h2
      refine .ins fun e => List.mem_filter.mpr ⟨List.mem_iff_getElem?.mpr ⟨j', h3⟩, decide_eq_true fun z => ?_⟩
      rw [z, ho] at e; cases e
    | sob0 Cl j' =>
      obtain ⟨dx, h3, rfl⟩ := h2
      refine .ins fun e => List.mem_filter.mpr ⟨List.mem_iff_getElem?.mpr ⟨j', h3⟩, decide_eq_true fun z => ?_⟩
      rw [z, ho] at e; cases e
    | dxo k1 =>
      obtain ⟨a1, h3, rfl⟩ := h2
      refine .own (List.mem_filter.mpr ⟨List.mem_iff_getElem?.mpr ⟨k1, h3⟩, decide_eq_true fun z => ?_⟩)
      subst z
      have hMi : (match lkM M k1 with | some (.ins _ _ _) => true | some (.sob0 _ _) => true | _ => false) = true := hMi
      rw [lkM_eq] at hMi
      cases e : M[k1]? with
      | none => rw [e] at hMi; cases hMi
      | some c2 =>
        obtain ⟨o2, ho2, hc2⟩ := hm.cell k1 a1 c2 h3 e
        rw [ho] at ho2; cases ho2
        rw [e] at hMi
        cases c2 with
        | ins _ _ _ => obtain ⟨_, _, _, e3, _⟩ := hc2; cases e3
        | sob0 _ _ => obtain ⟨_, _, e3⟩ := hc2; cases e3
        | _ => cases hMi
    | sob Cl j' vs => obtain ⟨dx, us, h3, rfl, _⟩ := h2; exact .ext _
    | dxx => cases h2; exact .xd []
  have fin : ∀ {H2 : Hp}, (∀ a ∈ As.filter (fun a => decide (a ≠ b)), upd F' b (.lst w1) a = none) → puts (upd F' b (.lst w1)) H (As.filter fun a => decide (a ≠ b)) = upd (puts F' H As) b (.lst w1) ∧ (∀ a ∈ As, F' a = none) ∧ HM g.K F' As (M.set j (.lst c1)) (upd (puts F' H As) b (.lst w1)) := fun {H2} n => by
    have n' : ∀ a ∈ As, F' a = none := fun a ha => by
      by_cases hab : a = b
      · subst hab; exact fb'
      · have := n a (by simp [ha, hab])
        rw [upd_ne hab] at this; exact this
    refine ⟨?_, n', (hm.back sm n').set (c := .lst c1) hb ⟨w1, rfl, hw1⟩⟩
    funext a
    by_cases ha : a = b
    · subst ha; rw [puts_ne (by simp), upd_same, upd_same]
    · rw [upd_ne ha]
      by_cases hA : a ∈ As
      · rw [puts_in (by simp [hA, ha]), puts_in hA]
      · rw [puts_ne (by simp [hA]), puts_ne hA, upd_ne ha]
  have hl : M.length ≤ (M.set j (.lst c1)).length := by simp
  cases z with
  | s s0 =>
    cases s0 with
    | un => exact trivial
    | val d =>
      intro v dv n
      obtain ⟨e2, n', hm'⟩ := fin (H2 := F') n
      rw [e2]
      have q := q (.s (.val d)) c1 hR rfl
      rw [ptM_eq] at q
      exact k v F' As _ (.val d) _ sm (List.prefix_refl _) dv hm' ⟨.s _, _, ⟨rfl, rfl⟩, hl, q⟩
    | own i =>
      cases i with
      | zero =>
        intro n
        obtain ⟨e2, n', hm'⟩ := fin (H2 := F') n
        rw [e2]
        have q := q (.s (.own 0)) c1 hR rfl
        rw [ptM_eq] at q
        exact k _ F' As _ (.own j) _ sm (List.prefix_refl _) ⟨b, hb, rfl⟩ hm' ⟨.s _, _, ⟨rfl, rfl⟩, hl, q⟩
      | succ i => exact trivial
  | n cc =>
    cases cc with
    | lst xs =>
      intro p ws hp hpb hw n
      have n2 : ∀ a ∈ As.filter (fun a => decide (a ≠ b)), upd F' b (.lst w1) a = none := fun a ha => by
        have := n a ha
        have hap : a ≠ p := fun z => by subst z; rw [upd_same] at this; cases this
        rwa [upd_ne hap] at this
      obtain ⟨e2, n', hm'⟩ := fin (H2 := F') n2
      have np : p ∉ As := fun z => by
        by_cases hpb' : p = b
        · exact hpb hpb'
        · have := n p (by simp [z, hpb'])
          rw [upd_same] at this; cases this
      have e3 : puts (upd (upd F' b (.lst w1)) p (.lst ws)) H (As.filter fun a => decide (a ≠ b)) = upd (upd (puts F' H As) b (.lst w1)) p (.lst ws) := by
        rw [← e2]
        funext a
        by_cases ha : a = p
        · subst ha; rw [upd_same, puts_ne (by simp [np]), upd_same]
        · rw [upd_ne ha]
          by_cases hb' : a ∈ As.filter (fun a => decide (a ≠ b))
          · rw [puts_in hb', puts_in hb']
          · rw [puts_ne hb', puts_ne hb', upd_ne ha]
      rw [e3]
      have q := q (.n (.lst xs)) c1 hR rfl
      rw [ptM_eq] at q
      refine fin_lst (Aft.mono k sm (List.prefix_refl _)) hm' hl ?_ hw q
      rw [upd_ne hpb, puts_ne np]; exact hp
    | _ => exact trivial
theorem call_o {Pre : List D → List D → Prop} {R : List D → List D → Z → List D → Prop} {j : Nat} {c0 : List D} (df : Def g x k (spO g.K Pre R)) (hp : Pre c0 ds) (q : ∀ z c1, R c0 ds z c1 → okzo z = true → Q (renO j z) (ptM M j (.lst c1))) (hj : lkM M j = some (.lst c0) := by rfl) (hk : k ≤ g.k := by first | exact Nat.le_of_ble_eq_true rfl | assumption) (hds : valsOf rs = some ds := by rfl) (hM : okM M = true := by rfl) : CallZ g x (.own j :: rs) M Q := ⟨k, _, df, hk, sp_o hj hp q hds hM⟩
end
end Dl

/-! X19: entries with an owned list, with stars, __init__ of slotted classes; len by an own __len__ -/
namespace Dl
open PySem L2
section
variable {P : Program} {w : World} {K : PySem.W.Frag} {mg : Str → Option Value} {base : Heap} {x qual : Str} {st : Stmt} {f : Addr} {fd : FuncData} {N ps : List Str} {k : Nat}
/-- how a def with an owned list ends -/
def GivesO (R : Z → List D → Prop) (z' : Z) (M : List C) : Prop := ∃ z c1, R z c1 ∧ lkM M 0 = some (.lst c1) ∧ (match z with
  | .s (.val d) => vwZ z' M = some d ∧ z' ≠ .s (.own 0)
  | .s (.own 0) => z' = .s (.own 0)
  | .n (.lst xs) => cZ z' M = some (.lst xs) ∧ z' ≠ .s (.own 0)
  | _ => False)
theorem okO {Pre : List D → List D → Prop} {R : List D → List D → Z → List D → Prop} {bx : Ss} (Fn : Fun K x qual st f fd) (S : FnScope N ps (defScope st)) (tr : TrS (ctxOf P w K mg base N st k) (defBody st) bx) (hlen : ∀ c0 ds, Pre c0 ds → ds.length + 1 = ps.length)
    (h : ∀ c0 ds, Pre c0 ds → wpSs (gOf P w K mg base k) bx (rho N (.own 0 :: ds.map .val)) [.lst c0] { nx := fun _ M => GivesO (R c0 ds) (.s (.val .non)) M, rt := GivesO (R c0 ds) }) : FnOk P w K mg base CX0 (k + 1) f fd ps (spO K Pre R) := by
  refine Fn.ok S (fun vs H Q E ⟨b, F, c0, w0, ds, us, e, _, _, _, h1, h2, _⟩ => by subst e; rw [← hlen _ _ h2, h1.length]; rfl) fun cdv A outer s H vs Q E hr ⟨b, F, c0, w0, ds, us, e, fb, eH, hw0, h1, h2, h3⟩ => ?_
  subst e; subst eH
  have hm0 : HM K F [b] [.lst c0] (upd F b (.lst w0)) := ⟨by simp, rfl, fun i a c e1 e2 => by
      cases i with
      | zero =>
        simp at e1 e2
        subst e1; subst e2
        exact ⟨_, upd_same, w0, rfl, hw0⟩
      | succ i => simp at e1, fun a ha => by
      have : a = b := by simpa using ha
      subst this; exact fb, fun a ha => by
      have : a ≠ b := by simpa using ha
      rw [upd_ne this]⟩
  have fin : ∀ {F' : Hp} {As' : List Addr} {r : Sl} {v : V} {M' M1 : List C} {H' : Hp} {z' : Z}, Same F F' → [b] <+: As' → SlR K F' As' r v → HM K F' As' M' H' → Zr z' M1 r M' → GivesO (R c0 ds) z' M1 → Q v H' := fun {F' As' r v M' M1 H' z'} s' p' r' hm' z1 ⟨z, c1, hR, g0, g1⟩ => by
    have h0 : As'[0]? = some b := pfx_get p' (k := 0) rfl
    have hM0 : M'[0]? = some (.lst c1) := by
      rw [lkM_eq] at g0
      cases z' with
      | s s0 => obtain ⟨_, e2⟩ := z1; subst e2; exact g0
      | n cc =>
        obtain ⟨_, e2, _⟩ := z1
        subst e2
        rw [List.getElem?_append_left (List.getElem?_eq_some_iff.mp g0).1]; exact g0
    obtain ⟨o, ho, w1, rfl, hw1⟩ := hm'.cell 0 b _ h0 hM0
    have fb' : F' b = none := hm'.off b (List.mem_iff_getElem?.mpr ⟨0, h0⟩)
    have sd : Same F' (del H' b) := fun c o e => by rw [del_ne (ne_of_none e fb')]; exact hm'.same c o e
    have := h3 z c1 (del H' b) w1 hR (s'.trans sd) del_same (hw1.mono sd)
    rw [upd_del ho] at this
    -- another cell than the first
    have vis : ∀ {cc : C}, z' ≠ .s (.own 0) → cZ z' M1 = some cc → ∃ n a, n ≠ 0 ∧ r = .own n ∧ v = .ref a ∧ As'[n]? = some a ∧ M'[n]? = some cc ∧ a ≠ b := fun {cc} hne e => by
      have apart : ∀ {n : Nat} {a : Addr}, n ≠ 0 → As'[n]? = some a → a ≠ b := fun {n a} hn ha z => by
        subst z
        obtain ⟨q1, e1⟩ := List.getElem?_eq_some_iff.mp h0
        obtain ⟨q2, e2⟩ := List.getElem?_eq_some_iff.mp ha
        have := (List.getElem_inj hm'.nd).mp (e1.trans e2.symm)
        omega
      cases z' with
      | s s0 =>
        obtain ⟨e1, e2⟩ := z1
        subst e1; subst e2
        cases r with
        | own n =>
          obtain ⟨a, ha, rfl⟩ := r'
          have hn : n ≠ 0 := fun z => hne (by rw [z])
          exact ⟨n, a, hn, rfl, rfl, ha, by rw [← lkM_eq]; exact e, apart hn ha⟩
        | un => cases e
        | val _ => cases e
      | n c2 =>
        obtain ⟨e1, e2, _⟩ := z1
        subst e1; subst e2
        cases e
        obtain ⟨a, ha, rfl⟩ := r'
        have hn : M1.length ≠ 0 := fun z => by
          rw [List.length_eq_zero_iff] at z
          rw [z] at g0; cases g0
        exact ⟨M1.length, a, hn, rfl, rfl, ha, by simp, apart hn ha⟩
    have sdd : Same F' (del H' b) := sd
    cases z with
    | s s0 =>
      cases s0 with
      | val d =>
        refine this v ?_
        obtain ⟨g1, g2⟩ := g1
        -- as data, the first cell apart
        cases hz : cZ z' M1 with
        | none =>
          cases z' with
          | s s0 =>
            obtain ⟨e1, e2⟩ := z1
            subst e1; subst e2
            cases r with
            | un => cases g1
            | val d' => cases g1; exact DV.mono sd r'
            | own n =>
              have g1 : (match lkM M' n with | some c => c.frz | none => none) = some d := g1
              have hz : lkM M' n = none := hz
              rw [hz] at g1; cases g1
          | n cc => cases hz
        | some cc =>
          obtain ⟨n, a, hn, rfl, rfl, ha, hMn, nab⟩ := vis g2 hz
          have gf : cc.frz = some d := by
            cases z' with
            | s s0 =>
              obtain ⟨e1, e2⟩ := z1
              subst e1; subst e2
              have g1 : (match lkM M' n with | some c => c.frz | none => none) = some d := g1
              have hz : lkM M' n = some cc := hz
              rw [hz] at g1; exact g1
            | n c2 => cases hz; exact g1
          obtain ⟨o, ho2, hc⟩ := hm'.cell n a cc ha hMn
          cases cc with
          | lst xs => cases gf; obtain ⟨ws, rfl, hw⟩ := hc; exact ⟨a, ws, rfl, by rw [del_ne nab]; exact ho2, hw.mono sd⟩
          | dic kvs =>
            cases gf
            obtain ⟨ws, rfl, hw⟩ := hc
            refine ⟨a, ws, rfl, by rw [del_ne nab]; exact ho2, ?_, ?_⟩
            · clear hMn hz g1 ho2 this vis hR
              induction hw with
              | nil => rfl
              | cons z _ ih => rw [List.map_cons, List.map_cons, ih, z.1]
            · refine dvs_paired.mpr ?_
              clear hMn hz g1 ho2 this vis hR
              induction hw with
              | nil => exact .nil
              | cons z _ ih => exact .cons (z.2.mono sd) ih
          | _ => cases gf
      | un => exact False.elim g1
      | own i =>
        cases i with
        | zero =>
          have g1 : z' = .s (.own 0) := g1
          subst g1
          obtain ⟨e1, e2⟩ := z1
          subst e1
          obtain ⟨a, ha, rfl⟩ := r'
          rw [h0] at ha; cases ha
          exact this
        | succ i => exact False.elim g1
    | n cc =>
      cases cc with
      | lst xs =>
        obtain ⟨g1, g2⟩ := g1
        obtain ⟨n, a, hn, rfl, rfl, ha, hMn, nab⟩ := vis g2 g1
        obtain ⟨o, ho2, ws, rfl, hw⟩ := hm'.cell n a _ ha hMn
        have fa : F' a = none := hm'.off a (List.mem_iff_getElem?.mpr ⟨n, ha⟩)
        -- both set aside
        have sd2 : Same F' (del (del H' b) a) := fun c o e => by
          rw [del_ne (ne_of_none e fa), del_ne (ne_of_none e fb')]; exact hm'.same c o e
        have t := h3 (.n (.lst xs)) c1 (del (del H' b) a) w1 hR (s'.trans sd2) (by rw [del_ne (Ne.symm nab)]; exact del_same) (hw1.mono sd2) a ws del_same nab (hw.mono sd2)
        have e5 : upd (upd (del (del H' b) a) b (.lst w1)) a (.lst ws) = H' := by
          funext q
          by_cases q1 : q = a
          · subst q1; rw [upd_same]; exact ho2.symm
          · rw [upd_ne q1]
            by_cases q2 : q = b
            · subst q2; rw [upd_same]; exact ho.symm
            · rw [upd_ne q2, del_ne q1, del_ne q2]
        rw [e5] at t; exact t
      | _ => exact False.elim g1
  refine tr _ _ _ (h c0 ds h2) _ (.mk (cxOf CX0 P w K mg base N qual (defScope st) f cdv A outer s (upd F b (.lst w0)) E).nox k S.nd rfl hr PassesOwn.never) F [b] [b] (L2.start N (.ref b :: us)) _ _ (sr_start (.cons ⟨b, rfl, rfl⟩ (vals_slrs h1))) hm0 (List.prefix_refl _)
    ⟨fun F' As' ρ' M' σ' H' s' p' sr' hm' z => fin (r := .val .non) (z' := .s (.val .non)) s' p' rfl hm' ⟨rfl, rfl⟩ z, fun F' As' z' r v M' M1 H' s' p' r' hm' z1 z2 z => fin s' p' r' hm' z1 z, fun _ _ _ _ _ _ _ _ _ _ z => z.elim, fun _ _ _ _ _ _ _ _ _ _ z => z.elim⟩

/-! ### __init__ of a slotted class whose instances do not change afterwards -/
def spI (K : PySem.W.Frag) (C : Addr) (R : List D → List D → Prop) : Sp := fun vs H G _ => ∃ (a dx : Addr) (us : List V) (ds fs : List D) (H0 : Hp), vs = .ref a :: us ∧ H0 a = none ∧ H0 dx = none ∧ dx ≠ a ∧ H = upd (upd H0 dx (.own a)) a (.ins C dx []) ∧ DVs K H0 ds us ∧ R ds fs ∧
  ∀ H', Same H0 H' → DV K H' (.slo C fs) (.ref a) → G .non H'
/-- the slots as data -/
def viewF (M : List C) : List Sl → Option (List D)
  | [] => some []
  | r :: rs => match vw M r, viewF M rs with
    | some d, some ds => some (d :: ds)
    | _, _ => none
theorem viewF_dvs {F : Hp} {As : List Addr} {M : List C} {H : Hp} (hm : HM K F As M H) : ∀ {rs : List Sl} {us : List (Option V)} {ds : List D}, SR K F As rs us → viewF M rs = some ds → ∃ vs, us = vs.map some ∧ DVs K H ds vs
  | [], us, ds, sr, h => by
    cases h
    have := sr.len
    have : us = [] := List.length_eq_zero_iff.mp (by simpa using this.symm)
    subst this
    exact ⟨[], rfl, rfl⟩
  | r :: rs, us, ds, sr, h => by
    have h : (match vw M r, viewF M rs with | some d, some ds => some (d :: ds) | _, _ => none) = some ds := h
    cases e1 : vw M r with
    | none => rw [e1] at h; cases h
    | some d =>
      cases e2 : viewF M rs with
      | none => rw [e1, e2] at h; cases h
      | some ds' =>
        rw [e1, e2] at h
        cases h
        cases us with
        | nil => have := sr.len; simp at this
        | cons u us =>
          have hu : r ≠ .un := fun z => by subst z; cases e1
          obtain ⟨v, g1, g2⟩ := sr.get 0 r rfl hu
          have g1 : u = some v := by simpa using g1
          subst g1
          have sr' : SR K F As rs us := ⟨by have := sr.len; simpa using this, fun i s e z => by
            have := sr.get (i + 1) s (by simpa using e) z
            simpa using this⟩
          obtain ⟨vs, q1, q2⟩ := viewF_dvs hm sr' e2
          exact ⟨v :: vs, by rw [q1]; rfl, v, vs, rfl, vw_dv e1 hm g2, q2⟩
theorem okI {C : Addr} {R : List D → List D → Prop} {bx : Ss} (Fn : Fun K x qual st f fd) (S : FnScope N ps (defScope st)) (tr : TrS (ctxOf P w K mg base N st k) (defBody st) bx) (hlen : ∀ ds fs, R ds fs → ds.length + 1 = ps.length)
    (h : ∀ ds fs, R ds fs → wpSs (gOf P w K mg base k) bx (rho N (.own 0 :: ds.map .val)) [.sob0 C 1, .dxo 0] { nx := fun _ M => ∃ vs, lkM M 0 = some (.sob C 1 vs) ∧ lkM M 1 = some .dxx ∧ viewF M vs = some fs, rt := fun _ _ => False }) : FnOk P w K mg base CX0 (k + 1) f fd ps (spI K C R) := by
  refine Fn.ok S (fun vs H Q E ⟨a, dx, us, ds, fs, H0, e, _, _, _, _, h1, h2, _⟩ => by subst e; rw [← hlen _ _ h2, h1.length]; rfl) fun cdv A outer s H vs Q E hr ⟨a, dx, us, ds, fs, H0, ev, ha, hdx, ne, eH, hds, hR, kk⟩ => ?_
  subst ev; subst eH
  have hm0 : HM K H0 [a, dx] [.sob0 C 1, .dxo 0] (upd (upd H0 dx (.own a)) a (.ins C dx [])) := ⟨by simp [Ne.symm ne], rfl, fun i b c e1 e2 => by
      match i with
      | 0 =>
        simp at e1 e2
        subst e1; subst e2
        exact ⟨_, upd_same, dx, rfl, rfl⟩
      | 1 =>
        simp at e1 e2
        subst e1; subst e2
        exact ⟨_, by rw [upd_ne ne]; exact upd_same, a, rfl, rfl⟩
      | i + 2 => simp at e1, fun b hb => by
      rcases List.mem_cons.mp hb with rfl | hb
      · exact ha
      · have : b = dx := by simpa using hb
        subst this; exact hdx, fun b hb => by
      have h1 : b ≠ a := fun z => hb (by simp [z])
      have h2 : b ≠ dx := fun z => hb (by simp [z])
      rw [upd_ne h1, upd_ne h2]⟩
  refine tr _ _ _ (h ds fs hR) _ (.mk (cxOf CX0 P w K mg base N qual (defScope st) f cdv A outer s _ E).nox k S.nd rfl hr PassesOwn.never) H0 [a, dx] [a, dx] (L2.start N (.ref a :: us)) _ _ (sr_start (.cons ⟨a, rfl, rfl⟩ (vals_slrs hds))) hm0 (List.prefix_refl _)
    ⟨fun F' As' ρ' M' σ' H' s' p' sr' hm' ⟨vs, g1, g2, g3⟩ => ?_, fun F' As' z' r v M' M1 H' s' p' r' hm' z1 z2 z => z.elim, fun _ _ _ _ _ _ _ _ _ _ z => z.elim, fun _ _ _ _ _ _ _ _ _ _ z => z.elim⟩
  have h0 : As'[0]? = some a := pfx_get p' (k := 0) rfl
  obtain ⟨dx', us', q0, _, q2, q3⟩ := slt_of hm' h0 g1 g2
  obtain ⟨ws, e1, hw⟩ := viewF_dvs hm' q3 g3
  subst e1
  exact kk H' (s'.trans hm'.same) ⟨a, dx', ws, rfl, q2, hw⟩
end
section
variable {g : Gx} {x m : Str} {k : Nat} {M : List C} {Q : Z → List C → Prop} {rs : List Sl} {ds : List D}
theorem make_i {Cl : Addr} {fs : List D} {R : List D → List D → Prop} (df : DefI g x Cl k (spI g.K Cl R)) (hr : R ds fs) (q : Q (.s (.val (.slo Cl fs))) M) (hk : k + 1 ≤ g.k := by first | exact Nat.le_of_ble_eq_true rfl | assumption) (hds : valsOf rs = some ds := by rfl) : MakeZ g x rs M Q := ⟨Cl, k, _, df, hk, fun F As H vs hm hrs G kk a dx ha hdx ne => by
  rw [valsOf_eq hds] at hrs
  obtain ⟨nx, fx⟩ := hm.fresh ha
  obtain ⟨ndx, fdx⟩ := hm.fresh hdx
  have e1 : dels (upd (upd H dx (.own a)) a (.ins Cl dx [])) As = upd (upd F dx (.own a)) a (.ins Cl dx []) := by
    funext b
    by_cases hb : b ∈ As
    · have b1 : b ≠ a := fun z => by subst z; exact nx hb
      have b2 : b ≠ dx := fun z => by subst z; exact ndx hb
      unfold dels
      rw [if_pos hb, upd_ne b1, upd_ne b2]; exact (hm.off b hb).symm
    · rw [dels_ne hb]
      by_cases b1 : b = a
      · subst b1; rw [upd_same, upd_same]
      · rw [upd_ne b1, upd_ne b1]
        by_cases b2 : b = dx
        · subst b2; rw [upd_same, upd_same]
        · rw [upd_ne b2, upd_ne b2]; exact hm.out b hb
  refine ⟨As, fun b hb => ?_, ?_⟩
  · obtain ⟨o, h4, h5⟩ := hm.frs b hb
    have b1 : b ≠ a := fun z => by subst z; exact nx hb
    have b2 : b ≠ dx := fun z => by subst z; exact ndx hb
    refine ⟨o, by rw [upd_ne b1, upd_ne b2]; exact h4, ?_⟩
    cases h5 with
    | lst xs => exact .lst xs
    | dK xs => exact .dK xs
    | @ins C' dx' fs' h =>
      refine .ins fun e => ?_
      by_cases z1 : dx' = a
      · subst z1; rw [upd_same] at e; cases e
      · rw [upd_ne z1] at e
        by_cases z2 : dx' = dx
        · subst z2; rw [upd_same] at e; cases e; exact absurd hb nx
        · rw [upd_ne z2] at e; exact h e
    | own h => exact .own h
    | ext φ => exact .ext φ
    | xd fs => exact .xd fs
  · refine ⟨a, dx, vs, ds, fs, F, rfl, fx, fdx, ne, e1, slrs_vals hrs, hr, fun H' sm dv n => ⟨rfl, ?_⟩⟩
    have e2 : puts H' (upd (upd H dx (.own a)) a (.ins Cl dx [])) As = puts H' H As := by
      funext b
      by_cases hb : b ∈ As
      · have b1 : b ≠ a := fun z => by subst z; exact nx hb
        have b2 : b ≠ dx := fun z => by subst z; exact ndx hb
        rw [puts_in hb, puts_in hb, upd_ne b1, upd_ne b2]
      · rw [puts_ne hb, puts_ne hb]
    rw [e2]
    exact kk _ H' As _ (.val (.slo Cl fs)) M sm (List.prefix_refl _) dv (hm.back sm n) ⟨.s _, M, ⟨rfl, rfl⟩, Nat.le_refl _, q⟩⟩
end
end Dl

/-! X20: dict comprehensions -/
namespace Dl
open PySem L2
section
variable {X : Cx}
theorem sw_dict {kx vx : Expr} {gs : List Comprehension} {scope : Scope} {pos py : Pos} {y : Str} {l : Nat} {env : Env} (hf : env.scope.kind = .function) (hloc : env.scope.names.lookup y = some .local) (hline : (py.line == pos.line) = true)
    (hno : (scope.names.any fun (n, k) => n == y && (k == .local || k == .cell)) = false) : swapsWith (.DictComp kx vx gs scope pos) (some (.Name y py)) l env = pure true := by
  have e1 : env.kindOf y = some .local := hloc
  have e2 : env.blockKind = .function := by unfold Env.blockKind; rw [hf]; rfl
  unfold swapsWith
  simp only [e2, e1, hno, Expr.pos, hline]
  rfl
/-- y = {k: v for ..}, y a local name -/
theorem ps_setDc {i : Nat} {y : Str} {py : Pos} {kx vx tg iter : Expr} {ifs : List Expr} {scope : Scope} {own : List (Str × Nat)} {pos spos : Pos} {wi : TI} {g : TG} {tt : TT} {tk tv : TE} (calm : X.calm = true) (nd : X.N.Nodup) (hy : X.N[i]? = some y) (hloc : X.env.scope.names.lookup y = some .local)
    (sw : swapsWith (.DictComp kx vx [⟨tg, iter, ifs, 0⟩] scope pos) (some (.Name y py)) spos.line X.env = pure true) (hi : PI X tg iter wi) (ok : BlkOk X.N X.env.scope scope own)
    (pg : ∀ s H C cl fp, PG (X.blk s H scope (compEnvC scope cl C X.env) fp) tg g) (pt : ∀ s H C cl fp, PTs (X.blk s H scope (compEnvC scope cl C X.env) fp) ifs tt)
    (pk : ∀ s H C cl fp, PE (X.blk s H scope (compEnvC scope cl C X.env) fp) kx tk) (pv : ∀ s H C cl fp, PE (X.blk s H scope (compEnvC scope cl C X.env) fp) vx tv) (fi : ∀ x, foldedSetIterable iter X.env x = pure x) :
    PS X (.Assign [.Name y py] (.DictComp kx vx [⟨tg, iter, ifs, 0⟩] scope pos) spos) (tAsg (tDc wi g tt tk tv (own.map (·.2))) (gName i)) := by
  refine ⟨fun pins s σ H D I q => ?_⟩
  rw [exec_Assign_Name_used _ _ _ _ sw]
  refine wpAny_bind (wpAny_standAt (wpAny_bind ?_))
  have q : tDc wi g tt tk tv (own.map (·.2)) σ H (fun x H1 => gName i x σ H1 D.nx) := q
  show wpAny _ X.A (do let _ ← comprehension (.DictComp kx vx [⟨tg, iter, ifs, 0⟩] scope pos) scope X.env (firstIterPos [⟨tg, iter, ifs, 0⟩] pos) newDict false (eval iter X.env) (some (assign (.Name y py) X.env))) _ _ s
  refine wpAny_bind (thn (dc_core (Qf := fun _ s' => SP X pins D .next s') calm nd I hi ok pg pt pk pv fi q fun L C s1 m H1 I1 q1 hn fp => ?_) fun _ s' hq => wpAny_pure (wpAny_pure hq))
  obtain ⟨z0, z1, z2, z3, z4, z5⟩ := fp
  show wpAny _ _ (assign (.Name y py) X.env (.ref L)) _ _ _
  refine wpAny_assign_Name (store_ok2 (v := V.ref L) I1 nd hy (.inl hloc) rfl (fun s2 I2 ⟨a, sb, ha⟩ => ?_) (.inr hloc))
  have nC : C ≠ a := by
    rcases ha with r | r
    · rw [r]; exact z1
    · exact fun e => z4 y a r e.symm
  exact ⟨m, hn.sameBut sb nC, fun h3 sb3 => ⟨_, H1, I2.turned (t' := s2.toks) (fun b o hb e => (sb3.2 b hb).trans e) z0 z1 z3 z4 z5, q1⟩⟩
end
theorem dc_it {J : L2.It} {n : Nat} {Gd : Hp → Prop} {Y : Nat → Hp → V → Hp → Prop} (wk : Walk J n Gd Y) {g : TG} {tt : TT} {tk tv : TE} {vs : List Nat} {σ : L2.St} {H1 : Hp} {Dl : Addr} {Qd : Hp → Prop} (Pv : Nat → Hp → Prop) (start : Pv 0 (upd H1 Dl (.dK []))) (good : ∀ j H, j ≤ n → Pv j H → Gd H)
    (step : ∀ j x H H', j < n → Pv j H → Y j H x H' → g x (wipe σ vs) H' fun σ2 H2 => wipe σ2 vs = wipe σ vs ∧ tt σ2 H2 fun b H3 =>
      if b = true then tk σ2 H3 fun y H4 => tv σ2 H4 fun z H5 => ∃ kvs k, y = kV k ∧ H5 Dl = some (.dK kvs) ∧ kvs.length < sizeLine ∧ Pv (j + 1) (upd H5 Dl (.dK (putK kvs k z))) else Pv (j + 1) H3) (fin : ∀ H, Pv n H → Qd H) :
    ∃ W : Nat → Nat → Hp → Prop, (∃ m, W 0 m (upd H1 Dl (.dK []))) ∧ ∀ j m H, W j m H →
      (J.stop j H ∧ Qd H) ∨ (J.go j H ∧ ∃ Nx : Hp → Prop, (∀ H', Nx H' → ∃ m', m' < m ∧ W (j + 1) m' H') ∧ ∀ x H', J.yld j H x H' → g x (wipe σ vs) H' fun σ2 H2 => wipe σ2 vs = wipe σ vs ∧ tt σ2 H2 fun b H3 =>
        if b = true then tk σ2 H3 fun y H4 => tv σ2 H4 fun z H5 => ∃ kvs k, y = kV k ∧ H5 Dl = some (.dK kvs) ∧ kvs.length < sizeLine ∧ Nx (upd H5 Dl (.dK (putK kvs k z))) else Nx H3) := by
  refine ⟨fun j m H => j ≤ n ∧ m = n - j ∧ Pv j H, ⟨n, Nat.zero_le _, rfl, start⟩, ?_⟩
  rintro j m H ⟨hj, rfl, p⟩
  have gd := good j H hj p
  rcases Nat.lt_or_ge j n with hlt | hge
  · exact .inr ⟨wk.goes j H hlt gd, Pv (j + 1), fun H' p' => ⟨n - (j + 1), by omega, hlt, rfl, p'⟩, fun x H' y => step j x H H' hlt p (wk.yields j H x H' hlt gd y)⟩
  · have : j = n := by omega
    subst this
    exact .inl ⟨wk.stops H gd, fin H p⟩

theorem putD_len {α : Type} (kvs : List (Key × α)) (k : Key) (d : α) : (putD kvs k d).length ≤ kvs.length + 1 := by
  unfold putD; split <;> simp
section
variable {c : Ctx} {ρ : List Sl} {M : List C} {a b e tg iter kx vx : Expr} {pos p1 p2 p3 : Pos} {ifs : List Expr} {scope : Scope} {tx : Tg} {ix : It} {fx : Tl} {ek ev : E} {rest : List Stmt} {xs : Ss}
abbrev OutD (Q : List (Key × D) → List C → Prop) : Z → List C → Prop := fun z M' => ∃ out, z = .n (.dic out) ∧ Q out M'
theorem dc_core1 {vs : List Nat} {X : Cx} (hX : c.Is X) (hi : TrI c tg iter ix) (hg : TrG (c.blk scope) tg tx) (ht : TrTs (c.blk scope) ifs fx) (hk : Tr (c.blk scope) kx ek) (hv : Tr (c.blk scope) vx ev) (hjs : ∀ j ∈ tx.ix, j ∈ vs) {Q : List (Key × D) → List C → Prop} (h : wpD c.g (.dlast tx ix fx ek ev) (clr ρ vs) M Q) {F : Hp} {As : List Addr} {σ : L2.St} {H : Hp} (sr : SR c.K F As ρ σ) (hm : HM c.K F As M H) {G : VK} (k : Aft c.K F As (zq M.length (OutD Q)) G) :
    tDc (WI X tg iter) (gBlk X scope tg) (tBlk X scope ifs) (eBlk X scope kx) (eBlk X scope vx) vs σ H G := by
  refine hi (clr ρ vs) M _ h X hX F As σ H (sr.clr vs) hm _ fun J F1 As1 H1 M1 ds ks s1 p1 hm1 it ⟨hz, hw⟩ Dl hD => ?_
  obtain ⟨Gd, Y, W, hG, hY⟩ := it.ex
  generalize hf : (fun (d : D) (M' : List C) (k : List (Key × D) → List C → Prop) => bindT tx d (clr ρ vs) fun ρ2 => wpTs c.g fx ρ2 M' fun t M2 => (t = true → wpR c.g ek ρ2 M2 fun z M3 => z.fz M3 fun r1 M3 => wpR c.g ev ρ2 M3 fun z M4 => z.fz M4 fun r2 M4 => match r1, r2 with
        | .val x, .val y => match keyD x with
          | some kk => k [(kk, y)] M4
          | none => False
        | _, _ => False) ∧ (t = false → k [] M2)) = f at hw
  have vis : ∀ {F' : Hp} {M' : List C} {H' : Hp} {acc : List (Key × D)} {ws : List (Key × V)}, HM c.K F' As1 M' (del H' Dl) → H' Dl = some (.dK ws) → KD c.K F' acc ws → HM c.K F' (As1 ++ [Dl]) (M' ++ [.dic acc]) H' := fun {F' M' H' acc ws} hm' hD' dv => by
    have := hm'.made (c := .dic acc) (o := .dK ws) del_same ⟨ws, rfl, dv⟩
    rw [upd_del hD'] at this
    exact this
  refine dc_it (g := gBlk X scope tg) (tt := tBlk X scope ifs) (tk := eBlk X scope kx) (tv := eBlk X scope vx) (vs := vs) (σ := σ) (H1 := H1) (Dl := Dl) (Qd := G (.ref Dl)) W (fun i H' => ∃ F' M' acc ws, Same F1 F' ∧ HM c.K F' As1 M' (del H' Dl) ∧ H' Dl = some (.dK ws) ∧ KD c.K F' acc ws ∧ M'.length = M1.length ∧ (∀ k ∈ ks, M'[k]? = M1[k]?) ∧ acc.length ≤ i ∧ dcW f (fun M' => M'.length = M1.length ∧ ∀ k ∈ ks, lkM M' k = lkM M1 k) (ds.drop i) acc M' Q) ?_ ?_ ?_ ?_
  · exact ⟨F1, M1, [], [], Same.refl _, by rw [del_upd hD]; exact hm1, upd_same, .nil, rfl, fun _ _ => rfl, Nat.zero_le _, by rw [List.drop_zero]; exact hw⟩
  · rintro i H' _ ⟨F', M', acc, ws, s', h', hD', dv, hl, hk, _, _⟩
    refine hG F' _ (M' ++ [.dic acc]) H' s' (List.prefix_append _ _) (vis h' hD' dv) fun q hq => ?_
    rw [List.getElem?_append_left (by have := it.inn q hq; omega)]
    exact hk q hq
  · rintro i x H' H'' hlt ⟨F', M', acc, ws, s', h', hD', dv, hl, hkk, ha, hwi⟩ y
    have hd : ds[i]? = some ds[i] := List.getElem?_eq_getElem hlt
    obtain ⟨F2, s2, hm2, dv2⟩ := hY i ds[i] F' _ (M' ++ [.dic acc]) H' x H'' hd s' (List.prefix_append _ _) (vis h' hD' dv) (fun q hq => by
      rw [List.getElem?_append_left (by have := it.inn q hq; omega)]
      exact hkk q hq) y
    rw [List.drop_eq_getElem_cons hlt] at hwi
    have hwi : f ds[i] M' fun out M'' => (M''.length = M1.length ∧ ∀ k ∈ ks, lkM M'' k = lkM M1 k) ∧ dcW f _ (ds.drop (i + 1)) (out.foldl (fun a p => putD a p.1 p.2) acc) M'' Q := hwi
    rw [← hf] at hwi
    intro sh Hh Ch clh fph
    have srw : SR (c.blk scope).K F2 As1 (clr ρ vs) (wipe σ vs) := ((sr.mono ((s1.trans s').trans s2) p1).clrW vs)
    obtain ⟨hmu, oD, hoD, wsD, rfl, dvD⟩ := hm2.unlast h'.refs
    refine hg (clr ρ vs) ds[i] _ hwi _ (blk_is hX sh Hh scope clh Ch fph) F2 As1 (wipe σ vs) H'' x srw hm2.same dv2 _ fun ρ2 σ2 h2 sr2 hl2 hn2 => ⟨?_, fun sh Hh Ch clh fph => ?_⟩
    · rw [wipe_ext hl2 fun j hj => hn2 j fun z => hj (hjs j z)]; exact wipe_wipe
    · refine WTs.frame hoD (.dK wsD) (ht ρ2 M' _ h2 _ (blk_is hX sh Hh scope clh Ch fph) F2 As1 σ2 _ sr2 hmu _ fun bb F3 As3 H3 M3 s3 p3 hm3 h3 n3 => ?_)
      have eAs : ∀ {F4 : Hp} {As4 : List Addr} {M4 : List C} {H4 : Hp}, HM c.K F4 As4 M4 H4 → As1 <+: As4 → M4.length = M1.length → As4 = As1 := fun {F4 As4 M4 H4} hm4 p4 l4 => by
        have l1 := hm4.len
        have l2 := hm1.len
        exact (p4.eq_of_length (by omega)).symm
      cases bb with
      | false =>
        obtain ⟨⟨l3, k3⟩, h4⟩ := h3.2 rfl
        have := eAs hm3 p3 l3
        subst this
        refine ⟨F3, M3, acc, wsD, (s'.trans s2).trans s3, by rw [del_upd n3]; exact hm3, upd_same, Paired.mapP dvD fun _ _ z => ⟨z.1, z.2.mono s3⟩, l3, fun q hq => by rw [← lkM_eq, ← lkM_eq]; exact k3 q hq, by omega, ?_⟩
        rw [hf] at h4; exact h4
      | true =>
        show eBlk X scope kx σ2 _ _
        intro sh Hh Ch clh fph
        have hu : (upd H3 Dl (.dK wsD)) Dl = some (.dK wsD) := upd_same
        refine WE.frame hu (.dK wsD) ?_
        rw [del_upd n3]
        refine hk.ee (h3.1 rfl) _ (blk_is hX sh Hh scope clh Ch fph) F3 As3 σ2 H3 (sr2.mono s3 p3) hm3 _ fun kv F4 As4 H4 r1 M4 s4 p4 r4 hm4 h4 n4 => ?_
        show eBlk X scope vx σ2 _ _
        intro sh Hh Ch clh fph
        have hu : (upd H4 Dl (.dK wsD)) Dl = some (.dK wsD) := upd_same
        refine WE.frame hu (.dK wsD) ?_
        rw [del_upd n4]
        refine hv.ee h4 _ (blk_is hX sh Hh scope clh Ch fph) F4 As4 σ2 H4 (sr2.mono (s3.trans s4) (p3.trans p4)) hm4 _ fun vv F5 As5 H5 r2 M5 s5 p5 r5 hm5 h5 n5 => ?_
        split at h5
        · rename_i xd yd
          split at h5
          · rename_i kk ekk
            obtain ⟨⟨l4, k4⟩, h6⟩ := h5
            rw [hf] at h6
            have := eAs hm5 ((p3.trans p4).trans p5) l4
            subst this
            have r4 : DV c.K F4 xd kv := r4
            have hkv := keyV ekk r4
            refine ⟨wsD, kk, hkv, upd_same, ?_, F5, M5, putD acc kk yd, putK wsD kk vv, (((s'.trans s2).trans s3).trans s4).trans s5, ?_, ?_, ?_, l4, fun q hq => by rw [← lkM_eq, ← lkM_eq]; exact k4 q hq, ?_, h6⟩
            · rw [← Paired.length dvD]
              exact Nat.lt_of_le_of_lt (Nat.le_trans ha (Nat.le_trans (Nat.le_of_lt hlt) hz)) (by decide)
            · rw [upd_upd, del_upd n5]; exact hm5
            · rw [upd_upd, upd_same]
            · exact pk_put (β := Unit) (R := fun d v => DV c.K F5 d v) r5 (Paired.mapP dvD fun _ _ z => ⟨z.1, z.2.mono ((s3.trans s4).trans s5)⟩)
            · exact Nat.le_trans (putD_len _ _ _) (Nat.succ_le_succ ha)
          · exact h5.elim
        · exact h5.elim
  · rintro H' ⟨F', M', acc, ws, s', h', hD', dv, hl, hk, _, hwi⟩
    rw [List.drop_length] at hwi
    exact k _ F' (As1 ++ [Dl]) H' (.own M'.length) (M' ++ [.dic acc]) (s1.trans s') (p1.trans (List.prefix_append _ _)) ⟨Dl, by rw [← h'.len]; simp, rfl⟩ (vis h' hD' dv) ⟨.n (.dic acc), M', ⟨rfl, rfl, h'.refs⟩, by rw [hl]; exact hm.le hm1 p1, acc, rfl, hwi⟩
theorem tr_dc {own : List (Str × Nat)} (hi : TrI c tg iter ix) (hg : TrG (c.blk scope) tg tx) (ht : TrTs (c.blk scope) ifs fx) (hk : Tr (c.blk scope) kx ek) (hv : Tr (c.blk scope) vx ev) (hjs : ∀ j ∈ tx.ix, j ∈ own.map (·.2)) (ok : blkC c.N c.sc scope own = true) (hs : ∀ (env : Env) x, foldedSetIterable iter env x = pure x) :
    Tr c (.DictComp kx vx [⟨tg, iter, ifs, 0⟩] scope pos) (.dc (.dlast tx ix fx ek ev) (own.map (·.2))) := fun ρ M Q h X hX F As σ H sr hm G k => by
  have hq := dc_core1 (G := G) hX hi hg ht hk hv hjs h sr hm fun v F' As' H' r M' s p r' hm' ⟨z, M1, z1, z2, out, z3, z4⟩ => k v F' As' H' r M' s p r' hm' ⟨z, M1, z1, z2, by subst z3; exact z4⟩
  cases hX with | mk X k0 nd calm room po =>
  exact ⟨_, pe_dc calm nd pi_w (blkOk_by ok) (fun s H C cl fp => ⟨fun pins s' σ' H' v u Q I r h => pg_w.run pins s' σ' H' v u Q I r (h s H C cl fp)⟩)
      (fun s H C cl fp => ⟨fun pins s' σ' H' Q I h => pts_w.run pins s' σ' H' Q I (h s H C cl fp)⟩) (fun s H C cl fp => ⟨fun pins s' σ' H' Q I h => pe_w.run pins s' σ' H' Q I (h s H C cl fp)⟩) (fun s H C cl fp => ⟨fun pins s' σ' H' Q I h => pe_w.run pins s' σ' H' Q I (h s H C cl fp)⟩) (hs _), hq⟩
/-- x = {.. for ..} on one line -/
theorem trS_asgDc (i : Nat) {nm : Str} {own : List (Str × Nat)} {ow : Bool} (hi : TrI c tg iter ix) (hg : TrG (c.blk scope) tg tx) (ht : TrTs (c.blk scope) ifs fx) (hkx : Tr (c.blk scope) kx ek) (hvx : Tr (c.blk scope) vx ev) (hjs : ∀ j ∈ tx.ix, j ∈ own.map (·.2)) (ok : blkC c.N c.sc scope own = true) (hs : ∀ (env : Env) x, foldedSetIterable iter env x = pure x)
    (hr : TrS c rest xs) (hN : c.N[i]? = some nm) (hy : c.sc.names.lookup nm = some .local) (hk : c.sc.kind = .function) (hl : (p1.line == p2.line) = true) (ha : (scope.names.any fun (n, k) => n == nm && (k == .local || k == .cell)) = false) :
    TrS c (.Assign [.Name nm p1] (.DictComp kx vx [⟨tg, iter, ifs, 0⟩] scope p2) pos :: rest) (.cons (.asg i (if ow then .own (.dc (.dlast tx ix fx ek ev) (own.map (·.2))) else .dc (.dlast tx ix fx ek ev) (own.map (·.2)))) xs) := fun ρ M Q h X hX F As B σ H E sr hm pb ends => by
  have hz : wpD c.g (.dlast tx ix fx ek ev) (clr ρ (own.map (·.2))) M fun out M1 => (if ow then wpSs c.g xs (pt ρ i (.own M1.length)) (M1 ++ [.dic out]) Q else wpSs c.g xs (pt ρ i (.val (.dic (out.map (·.1)) (out.map (·.2))))) M1 Q) := by
    cases ow <;> exact h
  have hq : ∀ G : VK, Aft c.K F As (zq M.length (OutD fun out M1 => (if ow then wpSs c.g xs (pt ρ i (.own M1.length)) (M1 ++ [.dic out]) Q else wpSs c.g xs (pt ρ i (.val (.dic (out.map (·.1)) (out.map (·.2))))) M1 Q))) G → tDc (WI X tg iter) (gBlk X scope tg) (tBlk X scope ifs) (eBlk X scope kx) (eBlk X scope vx) (own.map (·.2)) σ H G := fun G k => dc_core1 (G := G) hX hi hg ht hkx hvx hjs hz sr hm k
  have hX' := hX
  cases hX with | mk X k0 nd calm room po =>
  refine ws_cons (ps_setDc calm nd hN hy (sw_dict hk hy hl ha) pi_w (blkOk_by ok) (fun s H C cl fp => ⟨fun pins s' σ' H' v u Q I r h => pg_w.run pins s' σ' H' v u Q I r (h s H C cl fp)⟩)
      (fun s H C cl fp => ⟨fun pins s' σ' H' Q I h => pts_w.run pins s' σ' H' Q I (h s H C cl fp)⟩) (fun s H C cl fp => ⟨fun pins s' σ' H' Q I h => pe_w.run pins s' σ' H' Q I (h s H C cl fp)⟩) (fun s H C cl fp => ⟨fun pins s' σ' H' Q I h => pe_w.run pins s' σ' H' Q I (h s H C cl fp)⟩) (hs _)) (hq _ fun v F1 As1 H1 r M' s1 p1 r1 hm1 ⟨z, M1, z1, z2, out, z3, z4⟩ => ?_)
  subst z3
  obtain ⟨e1, e2, e3⟩ := z1
  subst e1; subst e2
  cases ow with
  | true =>
    have z4 : wpSs _ xs (pt ρ i (.own M1.length)) (M1 ++ [.dic out]) Q := z4
    rw [pt_eq] at z4
    exact hr _ _ Q z4 X hX' F1 As1 B _ H1 E ((sr.mono s1 p1).set r1) hm1 (pb.trans p1) (ends.f s1)
  | false =>
    have z4 : wpSs _ xs (pt ρ i (.val (.dic (out.map (·.1)) (out.map (·.2))))) M1 Q := z4
    rw [pt_eq] at z4
    have l1 := hm1.len
    obtain ⟨A0, p, rfl⟩ : ∃ A0 p, As1 = A0 ++ [p] := by
      have hne : As1 ≠ [] := fun z => by subst z; simp at l1
      exact ⟨As1.dropLast, As1.getLast hne, (List.dropLast_concat_getLast hne).symm⟩
    have lB : A0.length = M1.length := by simpa using l1
    obtain ⟨a', ha', rfl⟩ := r1
    have : a' = p := by
      rw [← lB] at ha'
      simpa using ha'.symm
    subst this
    obtain ⟨F2, s2, hm2, dv⟩ := hm1.freeze (d := .dic (out.map (·.1)) (out.map (·.2))) rfl e3
    have pA : As <+: A0 := List.prefix_of_prefix_length_le p1 (List.prefix_append _ _) (by rw [lB, hm.len]; exact z2)
    exact hr _ _ Q z4 X hX' F2 A0 B _ H1 E ((sr.mono (s1.trans s2) pA).set (s := .val _) dv) hm2 (pb.trans pA) (ends.f (s1.trans s2))
end
end Dl

/-! X21: len by an own __len__; def f(a, *v) -/
namespace Dl
open PySem L2
def rLenOwn (C : Addr) (sp : Sp) (E : XK) : List V → Hp → VK → Prop := fun xs H Q => ∃ a dx vs, xs = [V.ref a] ∧ SlX.Slt H a C dx vs ∧ sp [.ref a] H (fun z H' => ∃ i : Int, z = .int i ∧ 0 ≤ i ∧ i < 2 ^ 63 ∧ Q z H') E
theorem call_lenOwn {X : Cx} {C g : Addr} {CX : CXT} {n : Nat} {sp : Sp} {E : XK} (hs : PySem.W.findIn X.K (.ref C) "__len__" = some (some (.ref g))) (hf : PySem.W.isFn X.K (.ref g) = true) (Fn : FnR X.prog X.w X.K X.mg X.base CX n g sp) (hr : Room (n + 1) X.A) (hx : Passes CX X E) : CallR X (.builtin "len") (rLenOwn C sp E) := by
  intro pins s σ H xs us Q I r h
  obtain ⟨a, dx, vs, rfl, hsl, q⟩ := h
  obtain ⟨u, rfl, ru⟩ := r.one
  cases (show u = Value.ref a from ru)
  obtain ⟨sl, od, _, J, _⟩ := SlX.slt_inst I hsl
  obtain ⟨mF, hF⟩ := I.fr
  refine PySem.W.len_K hF I.ok.mod.kin J hs hf (wpAny_mono (wpAny_call (SlX.run_at (us := [.ref a]) (ws := [.ref a]) Fn hr.in1 I.env0.in1 hx I (.cons rfl .nil) q)) (fun w s' z => ?_) fun _ _ x => x)
  obtain ⟨z', H', I', rz, i, ei, i0, i1, qz⟩ := z
  subst ei
  obtain ⟨t, e⟩ := (show ∃ t, w = Value.int i t from rz)
  cases e
  exact ⟨⟨i0, i1⟩, .int i, H', I'.tok _, ⟨_, rfl⟩, qz⟩

section
variable {c : Ctx} {a b e : Expr} {x : E} {pos p1 p2 p3 : Pos}
theorem tr_lenO (B : Bi c.mg) (ha : Tr c e x) (hg : Glo c "len") (he : ∀ env, starEach [e] env = (false, eval e env) :: starEach [] env) : Tr c (.Call (.Name "len" p1) [e] [] pos) (.lenO x) := fun ρ M Q h X hX F As σ H sr hm G k => by
  have hX' := hX
  cases hX with | mk X k0 nd calm room po =>
  refine ⟨_, pe_callB callR_any hg (B _ (by decide)) PySem.boot_len (pa_cons pe_w pa_nil (he _)) (by decide) (by decide) (he _), ha.ee h X hX' F As σ H sr hm _ fun v F1 As1 H1 r M1 s1 p1 r1 hm1 ⟨Cl, ds, kk, sp, er, df, hk, q⟩ => ?_⟩
  subst er
  obtain ⟨f, h1, h2, h3⟩ := df.ok
  obtain ⟨l, dx, vs, rfl, h4, h5⟩ := id r1
  refine ⟨_, call_lenOwn h1 h2 (FnR.frame h3) (room.mono hk) pass0, l, dx, vs.map some, rfl, same_slt hm1.same h4, q F1 As1 H1 [.ref l] hm1 (.cons r1 .nil) _ fun v' F2 As2 H2 r2 M2 s2 p2 q2 hm2 ⟨i, e1, i0, i1, e2, qq⟩ => ?_⟩
  subst e1; subst e2
  exact ⟨i, q2, i0, i1, fin_val (d := .int i) (Aft.mono k (s1.trans s2) (p1.trans p2)) hm2 (hm.le hm1 p1) q2 qq⟩
end
section
variable {g : Gx} {k : Nat} {M : List C} {Q : Z → List C → Prop}
theorem len_z {Cl : Addr} {fs : List D} {i : Int} {R : List D → Z → Prop} (df : DefL g Cl k (spZ g.K R)) (hr : R [.slo Cl fs] (.s (.val (.int i)))) (hi : 0 ≤ i ∧ i < 2 ^ 63) (q : Q (.s (.val (.int i))) M) (hk : k + 1 ≤ g.k := by first | exact Nat.le_of_ble_eq_true rfl | assumption) : LenZ g (.val (.slo Cl fs)) M Q := by
  refine ⟨Cl, fs, k, _, rfl, df, hk, fun F As H vs hm hrs G kk => ?_⟩
  refine ⟨As, hm.frs, [.slo Cl fs], .s (.val (.int i)), by rw [hm.bare]; exact slrs_vals (ds := [.slo Cl fs]) hrs, hr, ?_⟩
  rw [hm.bare]
  exact fun v F' sm dv n => kk v F' As _ (.val (.int i)) M sm (List.prefix_refl _) dv (hm.back sm n) ⟨i, rfl, hi.1, hi.2, rfl, q⟩
end
section
variable {P : Program} {w : World} {K : PySem.W.Frag} {mg : Str → Option Value} {base : Heap} {x qual : Str} {st : Stmt} {f : Addr} {fd : FuncData} {N ps : List Str} {k : Nat} {pv : Str}
theorem okStar {R : List D → Z → Prop} {bx : Ss} (Fn : Fun K x qual st f fd) (S : FnScope N (ps ++ [pv]) (defScope st)) (tr : TrS (ctxOf P w K mg base N st k) (defBody st) bx) (hlen : ∀ ds z, R ds z → ps.length ≤ ds.length ∧ ds.length ≤ 1000)
    (hb : ∀ (kV doc pm : Value) (an : Option Addr) (cdv ct : Value) (us rest : List Value), us.length = ps.length → bindArgs (PySem.W.fnOf x qual (defArgs st) (defBody st) (defScope st) .none kV doc pm an cdv ct) ⟨us ++ rest, []⟩ = (newTuple rest >>= fun t => pure (ps.zip us ++ [(pv, t)])))
    (h : ∀ (ws rest : List D) (z : Z), ws.length = ps.length → R (ws ++ rest) z → wpSs (gOf P w K mg base k) bx (rho N ((ws ++ [D.tup rest]).map Sl.val)) [] { nx := fun _ _ => z = .s (.val .non), rt := Gives z }) : FnR P w K mg base CX0 (k + 1) f (spZ K R) := by
  obtain ⟨oc, od, kV, doc, pm, an, cdv, ct, osl, rfl, lk, hcd⟩ := Fn.ex
  have zgm : ∀ {z : Z} {H H' : Hp} {G : VK}, Same H H' → ZG K z H G → ZG K z H' G := fun {z H H' G} sm hz => by
    cases z with
    | s s0 =>
      cases s0 with
      | val d => exact fun v H2 s dv => hz v H2 (sm.trans s) dv
      | _ => exact hz
    | n c0 =>
      cases c0 with
      | lst xs => exact fun p H2 ws s => hz p H2 ws (sm.trans s)
      | dic xs => exact fun p H2 ws s => hz p H2 ws (sm.trans s)
      | _ => exact hz
  refine (StX.fn_star (sp := fun vs H Q _ => ∃ (ws rest : List D) (z : Z) (p : Addr) (us rs : List V), ws.length = ps.length ∧ vs = us ++ [.ref p] ∧ H p = some (.tup rs) ∧ DVs K H ws us ∧ DVs K H rest rs ∧ R (ws ++ rest) z ∧ ZG K z H Q) lk hcd S StX.cxUp_none (hb kV doc pm an cdv ct) fun A outer s H vs Q E hr ⟨ws, rest, z, p, us, rs, hl, ev, hp, h1, h2, h3, h4⟩ => ?_).imp fun vs H Q E ⟨ds, z, h1, h2, h3⟩ => ?_
  · subst ev
    have hq : DVs K H (ws ++ [.tup rest]) (us ++ [.ref p]) := dvs_paired.mpr (paired_append (dvs_paired.mp h1) (.cons ⟨p, rs, rfl, .inl (.inl hp), h2⟩ .nil))
    obtain ⟨t, ht, q⟩ := tr _ _ _ (h ws rest z hl h3) _ (.mk (cxOf CX0 P w K mg base N qual (defScope st) f cdv A outer s H E).nox k S.nd rfl hr PassesOwn.never) H [] [] (L2.start N (us ++ [.ref p])) H { nx := fun _ H' => Q .non H', rt := Q } (sr_start (vals_slrs hq)) (hm_nil H) (List.prefix_refl _)
      ⟨fun F' As' ρ' M' σ' H' s' p' sr' hm' zz => by
          have zz : z = .s (.val .non) := zz
          subst zz
          exact h4 _ _ (s'.trans hm'.same) rfl, fun F' As' z' r v M' M1 H' s' p' r' hm' z1 z2 gg => gives_fin s' hm' r' z1 gg h4, fun _ _ _ _ _ _ _ _ _ _ z => z.elim, fun _ _ _ _ _ _ _ _ _ _ z => z.elim⟩
    exact ⟨t, ht.nox, q⟩
  · obtain ⟨l1, l2⟩ := hlen ds z h2
    have hl := h1.length
    have e1 : ds.take ps.length ++ ds.drop ps.length = ds := List.take_append_drop _ _
    have q1 : DVs K H (ds.take ps.length) (vs.take ps.length) := dvs_paired.mpr (paired_take _ (dvs_paired.mp h1))
    have q2 : DVs K H (ds.drop ps.length) (vs.drop ps.length) := dvs_paired.mpr (paired_drop _ (dvs_paired.mp h1))
    refine ⟨vs.take ps.length, vs.drop ps.length, (List.take_append_drop _ _).symm, by rw [List.length_take]; omega, ?_, fun p hp => ⟨ds.take ps.length, ds.drop ps.length, z, p, vs.take ps.length, vs.drop ps.length, by rw [List.length_take]; omega, rfl, upd_same, q1.mono (same_new hp), q2.mono (same_new hp), by rw [e1]; exact h2, zgm (same_new hp) h3⟩⟩
    rw [List.length_drop]
    exact Nat.le_trans (by omega : _ ≤ 1000) (by decide)
end
end Dl

/-! X22: side conditions, rules to reason with -/
namespace Dl
open PySem L2
def visB (sc : Scope) (x : Str) : Bool := match sc.names.lookup x with
  | some .local => true
  | some .cell => true
  | some .free => true
  | _ => false
def locB (sc : Scope) (x : Str) : Bool := match sc.names.lookup x with
  | some .local => true
  | some .cell => true
  | _ => false
theorem vis_of {sc : Scope} {x : Str} (h : visB sc x = true) : Vis sc x := by
  unfold visB at h
  unfold Vis
  split at h <;> simp_all
theorem loc_of {sc : Scope} {x : Str} (h : locB sc x = true) : L2.Loc sc x := by
  unfold locB at h
  unfold L2.Loc
  split at h <;> simp_all
def fnB (c : Ctx) (x : Str) : Bool := c.fn x || (match c.sc.names.lookup x with | some .local => true | _ => false)
theorem fn_of {c : Ctx} {x : Str} (h : fnB c x = true) : c.fn x = true ∨ c.sc.names.lookup x = some .local := by
  unfold fnB at h
  rcases Bool.or_eq_true_iff.mp h with h | h
  · exact .inl h
  · split at h <;> simp_all
section
variable {c : Ctx} {e : Expr} {x : E} {pos p1 : Pos} {rest : List Stmt} {xs : Ss}
theorem tv (i : Nat) {nm : Str} (hN : c.N[i]? = some nm) (hv : visB c.sc nm = true) (hd : (nm == ("__debug__" : Str)) = false) (hcd : (nm == ("__classdict__" : Str)) = false) : Tr c (.Name nm pos) (.v i) := tr_v i hN (vis_of hv) hd hcd
theorem trS_retN : TrS c (.Return none pos :: rest) (.cons (.ret (.k .non)) xs) := fun ρ M Q h X hX F As B σ H E sr hm pb ends =>
  ws_cons ps_retN (ends.rt F As (.s (.val .non)) (.val .non) .non M M H (Same.refl _) pb rfl hm ⟨rfl, rfl⟩ (by rw [← hm.len]; exact pb.length_le) h)
end
end Dl

/-! X23: two fors -/
namespace Dl
open PySem L2
def TrID (c : Ctx) (tg it : Expr) (i : It) : Prop := ∀ ρ M (Q : List D → List Nat → List C → Prop), wpI c.g i ρ M Q → ∀ X, c.Is X → ∀ F As σ H a o, SR c.K F As ρ σ → H a = some o → FrL o → HM c.K F As M (del H a) →
  ∀ R : L2.It → Hp → Prop, (∀ J F' As' H' M' ds ks, Same F F' → As <+: As' → HM c.K F' As' M' H' → H' a = none → IterOk c.K As' M' F' ks J ds → Q ds ks M' → R J (upd H' a o)) → WI X tg it σ H R
section
variable {c : Ctx} {ρ : List Sl} {M : List C} {a b e tg iter tg1 iter1 elt : Expr} {x y : E} {pos p1 p2 p3 : Pos} {ifs ifs1 : List Expr} {scope : Scope} {tx tx1 : Tg} {ix ix1 : It} {fx fx1 : Tl} {ex : E} {rest : List Stmt} {xs : Ss}
theorem trID_e (ha : Tr c e x) : TrID c tg e (.e x) := fun ρ M Q h X hX F As σ H a0 o0 sr hH fr hm R k => by
  have hX' := hX
  cases hX with | mk X k0 nd calm room po =>
  refine ⟨_, pi_v pe_w, WE.frame hH fr (ha.ee h X hX' F As σ _ sr hm _ fun v F1 As1 H1 r M1 s1 p1 r1 hm1 h1 n1 => ?_)⟩
  split at h1
  · rename_i bb ds e1
    have q := sq_s e1
    obtain ⟨l, vs, rfl, g1, g2⟩ := q.get hm1 r1
    cases bb with
    | true =>
      have g2 : H1 l = some (.lst vs) := g2
      have hne : l ≠ a0 := fun z => by subst z; rw [n1] at g2; cases g2
      exact ⟨_, piv_list, l, vs, rfl, .inl (.inl (by rw [upd_ne hne]; exact g2)), k _ F1 As1 H1 M1 ds r.refs s1 p1 hm1 n1 (iter_lst q r1 hm1.len) h1⟩
    | false =>
      cases q with
      | tup => exact ⟨_, piv_tup, l, vs, rfl, same_t (same_new n1) g2, k _ F1 As1 H1 M1 ds [] s1 p1 hm1 n1 (iter_tup r1) h1⟩
  · exact h1.elim
theorem trID_r1 (B : Bi c.mg) (ha : Tr c a x) (hg : Glo c "range") (hs : ∀ env, starEach [a] env = [(false, eval a env)]) : TrID c tg (.Call (.Name "range" p1) [a] [] pos) (.r1 x) := fun ρ M Q h X hX F As σ H a0 o0 sr hH fr hm R k => by
  have hX' := hX
  cases hX with | mk X k0 nd calm room po =>
  refine ⟨_, pi_range1 hg (B _ (by decide)) (pa_cons pe_w pa_nil (hs _)) (hs _), WE.frame hH fr (ha.ee h X hX' F As σ _ sr hm _ fun v F1 As1 H1 r M1 s1 p1 r1 hm1 h1 n1 => ?_)⟩
  split at h1
  · rename_i i
    have r1 : v = .int i := r1
    subst r1
    exact ⟨i, rfl, by omega, by omega, k _ F1 As1 H1 M1 _ _ s1 p1 hm1 n1 (iter_fn (f := fun j => 0 + (j : Int)) walk_range) h1.2⟩
  · exact h1.elim
theorem trID_r2 (B : Bi c.mg) (ha : Tr c a x) (hb : Tr c b y) (hg : Glo c "range") (hs : ∀ env, starEach [a, b] env = [(false, eval a env), (false, eval b env)]) (hs2 : ∀ env, starEach [b] env = [(false, eval b env)]) : TrID c tg (.Call (.Name "range" p1) [a, b] [] pos) (.r2 x y) := fun ρ M Q h X hX F As σ H a0 o0 sr hH fr hm R k => by
  have hX' := hX
  cases hX with | mk X k0 nd calm room po =>
  refine ⟨_, pi_range2 hg (B _ (by decide)) (pa_cons pe_w (pa_cons pe_w pa_nil (hs2 _)) ((hs _).trans (by rw [hs2]))) (hs _) (hs2 _), WE.frame hH fr (ha.ee h X hX' F As σ _ sr hm _ fun v F1 As1 H1 r M1 s1 p1 r1 hm1 h1 n1 => ?_)⟩
  refine WE.frame (a := a0) (o := o0) upd_same fr ?_
  rw [del_upd n1]
  refine hb.ee h1 X hX' F1 As1 σ H1 (sr.mono s1 p1) hm1 _ fun u F2 As2 H2 r2 M2 s2 p2 q2 hm2 h2 n2 => ?_
  split at h2
  · rename_i i j
    have r1 : v = .int i := r1
    have q2 : u = .int j := q2
    subst r1; subst q2
    exact ⟨i, j, rfl, by omega, k _ F2 As2 H2 M2 _ _ (s1.trans s2) (p1.trans p2) hm2 n2 (iter_fn (f := fun l => i + (l : Int)) walk_range) h2.2⟩
  · exact h2.elim
def iBlk (X : Cx) (scope : Scope) (tg it : Expr) : TI := fun σ H R => ∀ (s : Shared) (H' : Hp) (C : Addr) (cl : List (Str × Addr)) (fp : List Addr), WI (X.blk s H' scope (compEnvC scope cl C X.env) fp) tg it σ H R
theorem lc2_coreX {vs vs1 : List Nat} {X : Cx} (hX : c.Is X) (hi : TrI c tg iter ix) (hg : TrG (c.blk scope) tg tx) (ht : TrTs (c.blk scope) ifs fx) (hi1 : TrID (c.blk scope) tg1 iter1 ix1) (hg1 : TrG (c.blk scope) tg1 tx1) (ht1 : TrTs (c.blk scope) ifs1 fx1) (he : Tr (c.blk scope) elt ex) (hjs : ∀ j ∈ tx.ix, j ∈ vs) (hjs1 : ∀ j ∈ tx1.ix, j ∈ vs1) (hv1 : (Gs.last tx1 ix1 fx1 ex).ix1 = vs1) {Q : List D → List C → Prop} (h : wpG c.g (.cons tx ix fx (.last tx1 ix1 fx1 ex)) (clr ρ vs) M Q) {F : Hp} {As : List Addr} {σ : L2.St} {H : Hp} (sr : SR c.K F As ρ σ) (hm : HM c.K F As M H) {G : VK} (k : Aft c.K F As (zq M.length (OutK Q)) G) :
    tLc2 (WI X tg iter) (gBlk X scope tg) (tBlk X scope ifs) (iBlk X scope tg1 iter1) (gBlk X scope tg1) (tBlk X scope ifs1) (eBlk X scope elt) vs vs1 σ H G := by
  refine hi (clr ρ vs) M _ h X hX F As σ H (sr.clr vs) hm _ fun J F1 As1 H1 M1 ds ks s1 p1 hm1 it ⟨hz, hw⟩ Dl hD => ?_
  obtain ⟨Gd, Y, W, hG, hY⟩ := it.ex
  generalize hf : (fun (d : D) (M' : List C) (k : List D → List C → Prop) => bindT tx d (clr ρ vs) fun ρ2 => wpTs c.g fx ρ2 M' fun t M2 => (t = true → wpG c.g (.last tx1 ix1 fx1 ex) (clr ρ2 (Gs.last tx1 ix1 fx1 ex).ix1) M2 fun out M3 => out.length ≤ 1000 ∧ k out M3) ∧ (t = false → k [] M2)) = f at hw
  rw [hv1] at hf
  have vis : ∀ {F' : Hp} {As' : List Addr} {M' : List C} {H' : Hp} {acc : List D} {ws : List V}, HM c.K F' As' M' (del H' Dl) → H' Dl = some (.lst ws) → DVs c.K F' acc ws → HM c.K F' (As' ++ [Dl]) (M' ++ [.lst acc]) H' := fun {F' As' M' H' acc ws} hm' hD' dv => by
    have := hm'.made (c := .lst acc) (o := .lst ws) del_same ⟨ws, rfl, dv⟩
    rw [upd_del hD'] at this
    exact this
  let Pv : Nat → Hp → Prop := fun i H' => ∃ F' M' acc ws, Same F1 F' ∧ HM c.K F' As1 M' (del H' Dl) ∧ H' Dl = some (.lst ws) ∧ DVs c.K F' acc ws ∧ M'.length = M1.length ∧ (∀ k ∈ ks, M'[k]? = M1[k]?) ∧ acc.length ≤ 1000 * i ∧ lcW f (fun M' => M'.length = M1.length ∧ ∀ k ∈ ks, lkM M' k = lkM M1 k) (ds.drop i) acc M' Q
  refine ⟨fun i m H' => i ≤ ds.length ∧ m = ds.length - i ∧ Pv i H', ⟨ds.length, Nat.zero_le _, rfl, F1, M1, [], [], Same.refl _, by rw [del_upd hD]; exact hm1, upd_same, rfl, rfl, fun _ _ => rfl, Nat.zero_le _, by rw [List.drop_zero]; exact hw⟩, ?_⟩
  rintro i m H' ⟨hi0, rfl, F', M', acc, ws, s', h', hD', dv, hl, hk, ha, hwi⟩
  have app : ∀ (q : Nat), q ∈ ks → (M' ++ [C.lst acc])[q]? = M1[q]? := fun q hq => by
    rw [List.getElem?_append_left (by have := it.inn q hq; omega)]
    exact hk q hq
  have gd := hG F' _ (M' ++ [.lst acc]) H' s' (List.prefix_append _ _) (vis h' hD' dv) app
  rcases Nat.lt_or_ge i ds.length with hlt | hge
  · refine .inr ⟨W.goes i H' hlt gd, Pv (i + 1), fun H2 p2 => ⟨ds.length - (i + 1), by omega, hlt, rfl, p2⟩, fun x H'' y => ?_⟩
    have y := W.yields i H' x H'' hlt gd y
    have hd : ds[i]? = some ds[i] := List.getElem?_eq_getElem hlt
    obtain ⟨F2, s2, hm2, dv2⟩ := hY i ds[i] F' _ (M' ++ [.lst acc]) H' x H'' hd s' (List.prefix_append _ _) (vis h' hD' dv) app y
    rw [List.drop_eq_getElem_cons hlt] at hwi
    have hwi : f ds[i] M' fun out M'' => (M''.length = M1.length ∧ ∀ k ∈ ks, lkM M'' k = lkM M1 k) ∧ lcW f _ (ds.drop (i + 1)) (acc ++ out) M'' Q := hwi
    rw [← hf] at hwi
    intro sh Hh Ch clh fph
    have srw : SR (c.blk scope).K F2 As1 (clr ρ vs) (wipe σ vs) := ((sr.mono ((s1.trans s').trans s2) p1).clrW vs)
    obtain ⟨hmu, oD, hoD, wsD, rfl, dvD⟩ := hm2.unlast h'.refs
    refine hg (clr ρ vs) ds[i] _ hwi _ (blk_is hX sh Hh scope clh Ch fph) F2 As1 (wipe σ vs) H'' x srw hm2.same dv2 _ fun ρ2 σ2 h2 sr2 hl2 hn2 => ⟨?_, fun sh Hh Ch clh fph => ?_⟩
    · rw [wipe_ext hl2 fun j hj => hn2 j fun z => hj (hjs j z)]; exact wipe_wipe
    refine WTs.frame hoD (.lst wsD) (ht ρ2 M' _ h2 _ (blk_is hX sh Hh scope clh Ch fph) F2 As1 σ2 _ sr2 hmu _ fun bb F3 As3 H3 M3 s3 p3 hm3 h3 n3 => ?_)
    have eAs : ∀ {F4 : Hp} {As4 : List Addr} {M4 : List C} {H4 : Hp}, HM c.K F4 As4 M4 H4 → As1 <+: As4 → M4.length = M1.length → As4 = As1 := fun {F4 As4 M4 H4} hm4 p4 l4 => by
      have l1 := hm4.len
      have l2 := hm1.len
      exact (p4.eq_of_length (by omega)).symm
    cases bb with
    | false =>
      obtain ⟨⟨l3, k3⟩, h4⟩ := h3.2 rfl
      have := eAs hm3 p3 l3
      subst this
      refine ⟨F3, M3, acc, wsD, (s'.trans s2).trans s3, by rw [del_upd n3]; exact hm3, upd_same, dvD.mono s3, l3, fun q hq => by rw [← lkM_eq, ← lkM_eq]; exact k3 q hq, by omega, ?_⟩
      rw [List.append_nil, hf] at h4; exact h4
    | true =>
      show iBlk X scope tg1 iter1 σ2 _ _
      intro sh Hh Ch clh fph
      have h4 := h3.1 rfl
      rw [hf] at h4
      refine hi1 (clr ρ2 vs1) M3 _ h4 _ (blk_is hX sh Hh scope clh Ch fph) F3 As3 σ2 _ Dl (.lst wsD) ((sr2.mono s3 p3).clr vs1) upd_same (.lst wsD) (by rw [del_upd n3]; exact hm3) _ fun J1 F5 As5 H5 M5 ds1 ks1 s5 p5 hm5 n5 it1 ⟨hz1, hw1⟩ => ?_
      obtain ⟨Gd1, Y1, W1, hG1, hY1⟩ := it1.ex
      generalize hf1 : (fun (d : D) (M' : List C) (k : List D → List C → Prop) => bindT tx1 d (clr ρ2 vs1) fun ρ2 => wpTs c.g fx1 ρ2 M' fun t M2 => (t = true → wpR c.g ex ρ2 M2 fun z M3 => z.fz M3 fun r M3 => match r with | .val y => k [y] M3 | _ => False) ∧ (t = false → k [] M2)) = f1 at hw1
      let Pv1 : Nat → Hp → Prop := fun j H' => ∃ F' M' out ws, Same F5 F' ∧ HM c.K F' As5 M' (del H' Dl) ∧ H' Dl = some (.lst ws) ∧ DVs c.K F' (acc ++ out) ws ∧ M'.length = M5.length ∧ (∀ k ∈ ks1, M'[k]? = M5[k]?) ∧ out.length ≤ j ∧ lcW f1 (fun M' => M'.length = M5.length ∧ ∀ k ∈ ks1, lkM M' k = lkM M5 k) (ds1.drop j) out M' (fun out M3 => out.length ≤ 1000 ∧ (M3.length = M1.length ∧ ∀ k ∈ ks, lkM M3 k = lkM M1 k) ∧ lcW f (fun M' => M'.length = M1.length ∧ ∀ k ∈ ks, lkM M' k = lkM M1 k) (ds.drop (i + 1)) (acc ++ out) M3 Q)
      refine ⟨fun j m H' => j ≤ ds1.length ∧ m = ds1.length - j ∧ Pv1 j H', ⟨_, Nat.zero_le _, rfl, F5, M5, [], wsD, Same.refl _, by rw [del_upd n5]; exact hm5, upd_same, by rw [List.append_nil]; exact dvD.mono (s3.trans s5), rfl, fun _ _ => rfl, Nat.zero_le _, by rw [List.drop_zero]; exact hw1⟩, ?_⟩
      rintro j m H6 ⟨hj0, rfl, F6, M6, out, w6, s6, h6, hD6, dv6, l6, k6, a6, hw6⟩
      have app1 : ∀ (q : Nat), q ∈ ks1 → (M6 ++ [C.lst (acc ++ out)])[q]? = M5[q]? := fun q hq => by
        rw [List.getElem?_append_left (by have := it1.inn q hq; omega)]
        exact k6 q hq
      have vis6 : HM (c.blk scope).K F6 (As5 ++ [Dl]) (M6 ++ [.lst (acc ++ out)]) H6 := vis h6 hD6 dv6
      have gd1 := hG1 F6 _ (M6 ++ [.lst (acc ++ out)]) H6 s6 (List.prefix_append _ _) vis6 app1
      rcases Nat.lt_or_ge j ds1.length with hlt1 | hge1
      · refine .inr ⟨W1.goes j H6 hlt1 gd1, Pv1 (j + 1), fun H2 p2 => ⟨ds1.length - (j + 1), by omega, hlt1, rfl, p2⟩, fun x1 H7 y1 => ?_⟩
        have y1 := W1.yields j H6 x1 H7 hlt1 gd1 y1
        have hd1 : ds1[j]? = some ds1[j] := List.getElem?_eq_getElem hlt1
        obtain ⟨F7, s7, hm7, dv7⟩ := hY1 j ds1[j] F6 _ (M6 ++ [.lst (acc ++ out)]) H6 x1 H7 hd1 s6 (List.prefix_append _ _) vis6 app1 y1
        rw [List.drop_eq_getElem_cons hlt1] at hw6
        have hw6 : f1 ds1[j] M6 fun o1 M'' => (M''.length = M5.length ∧ ∀ k ∈ ks1, lkM M'' k = lkM M5 k) ∧ lcW f1 _ (ds1.drop (j + 1)) (out ++ o1) M'' _ := hw6
        rw [← hf1] at hw6
        intro sh Hh Ch clh fph
        have srw1 : SR (c.blk scope).K F7 As5 (clr ρ2 vs1) (wipe σ2 vs1) := ((sr2.mono (((s3.trans s5).trans s6).trans s7) (p3.trans p5)).clrW vs1)
        obtain ⟨hmu1, oD1, hoD1, wsD1, rfl, dvD1⟩ := hm7.unlast h6.refs
        refine hg1 (clr ρ2 vs1) ds1[j] _ hw6 _ (blk_is hX sh Hh scope clh Ch fph) F7 As5 (wipe σ2 vs1) H7 x1 srw1 hm7.same dv7 _ fun ρ3 σ3 h8 sr3 hl3 hn3 => ⟨?_, fun sh Hh Ch clh fph => ?_⟩
        · rw [wipe_ext hl3 fun j hj => hn3 j fun z => hj (hjs1 j z)]; exact wipe_wipe
        refine WTs.frame hoD1 (.lst wsD1) (ht1 ρ3 M6 _ h8 _ (blk_is hX sh Hh scope clh Ch fph) F7 As5 σ3 _ sr3 hmu1 _ fun bb F8 As8 H8 M8 s8 p8 hm8 h9 n8 => ?_)
        have eA1 : ∀ {F4 : Hp} {As4 : List Addr} {M4 : List C} {H4 : Hp}, HM c.K F4 As4 M4 H4 → As5 <+: As4 → M4.length = M5.length → As4 = As5 := fun {F4 As4 M4 H4} hm4 p4 l4 => by
          have l1 := hm4.len
          have l2 := hm5.len
          exact (p4.eq_of_length (by omega)).symm
        cases bb with
        | false =>
          obtain ⟨⟨l3, k3⟩, h10⟩ := h9.2 rfl
          have := eA1 hm8 p8 l3
          subst this
          refine ⟨F8, M8, out, wsD1, (s6.trans s7).trans s8, by rw [del_upd n8]; exact hm8, upd_same, dvD1.mono s8, l3, fun q hq => by rw [← lkM_eq, ← lkM_eq]; exact k3 q hq, by omega, ?_⟩
          rw [List.append_nil, hf1] at h10; exact h10
        | true =>
          show eBlk X scope elt σ3 _ _
          intro sh Hh Ch clh fph
          refine WE.frame (a := Dl) (o := .lst wsD1) upd_same (.lst wsD1) ?_
          rw [del_upd n8]
          refine he.ee (h9.1 rfl) _ (blk_is hX sh Hh scope clh Ch fph) F8 As8 σ3 H8 (sr3.mono s8 p8) hm8 _ fun v F9 As9 H9 r M9 s9 p9 r9 hm9 h11 n9 => ?_
          split at h11
          · rename_i yd
            obtain ⟨⟨l9, k9⟩, h12⟩ := h11
            rw [hf1] at h12
            have := eA1 hm9 (p8.trans p9) l9
            subst this
            refine ⟨wsD1, upd_same, ?_, F9, M9, out ++ [yd], wsD1 ++ [v], ((s6.trans s7).trans s8).trans s9, ?_, ?_, ?_, l9, fun q hq => by rw [← lkM_eq, ← lkM_eq]; exact k9 q hq, ?_, h12⟩
            · have q1 := dvD1.length
              rw [List.length_append] at q1
              have : wsD1.length ≤ 1200000 := by
                have : 1000 * i ≤ 1000 * 1000 := Nat.mul_le_mul_left _ (by omega)
                omega
              exact Nat.lt_of_le_of_lt this (by decide)
            · rw [upd_upd, del_upd n9]; exact hm9
            · rw [upd_upd, upd_same]
            · rw [← List.append_assoc]
              exact dvs_paired.mpr (paired_append (dvs_paired.mp (dvD1.mono (s8.trans s9))) (.cons r9 .nil))
            · rw [List.length_append]; exact Nat.succ_le_succ a6
          · exact h11.elim
      · have ej : j = ds1.length := by omega
        subst ej
        rw [List.drop_length] at hw6
        obtain ⟨b1, ⟨b2, b3⟩, b4⟩ := hw6
        have := eAs h6 (p3.trans p5) b2
        subst this
        exact .inl ⟨W1.stops H6 gd1, F6, M6, acc ++ out, w6, (((s'.trans s2).trans s3).trans s5).trans s6, h6, hD6, dv6, b2, fun q hq => by rw [← lkM_eq, ← lkM_eq]; exact b3 q hq, by rw [List.length_append]; omega, b4⟩
  · have ei : i = ds.length := by omega
    subst ei
    rw [List.drop_length] at hwi
    exact .inl ⟨W.stops H' gd, k _ F' (As1 ++ [Dl]) H' (.own M'.length) (M' ++ [.lst acc]) (s1.trans s') (p1.trans (List.prefix_append _ _)) ⟨Dl, by rw [← h'.len]; simp, rfl⟩ (vis h' hD' dv) ⟨.n (.lst acc), M', ⟨rfl, rfl, h'.refs⟩, by rw [hl]; exact hm.le hm1 p1, acc, rfl, hwi⟩⟩
end
end Dl

/-! X24: two fors, displays, what is never reached, a or b of lists -/
namespace Dl
open PySem L2
section
variable {c : Ctx} {ρ : List Sl} {M : List C} {a b e tg iter tg1 iter1 elt : Expr} {x y : E} {pos p1 p2 p3 : Pos} {ifs ifs1 : List Expr} {scope : Scope} {tx tx1 : Tg} {ix ix1 : It} {fx fx1 : Tl} {ex : E} {rest : List Stmt} {xs : Ss} {st : Stmt}
theorem tr_bad : Tr c e .bad := fun ρ M Q h => h.elim
theorem trS_bad : TrS c rest (.cons .bad xs) := fun ρ M Q h => h.elim
theorem tr_lc2 {own : List (Str × Nat)} (hi : TrI c tg iter ix) (hg : TrG (c.blk scope) tg tx) (ht : TrTs (c.blk scope) ifs fx) (hi1 : TrID (c.blk scope) tg1 iter1 ix1) (hg1 : TrG (c.blk scope) tg1 tx1) (ht1 : TrTs (c.blk scope) ifs1 fx1) (he : Tr (c.blk scope) elt ex) (hjs : ∀ j ∈ tx.ix, j ∈ own.map (·.2)) (hjs1 : ∀ j ∈ tx1.ix, j ∈ (Gs.last tx1 ix1 fx1 ex).ix1) (hv1 : ∀ j ∈ (Gs.last tx1 ix1 fx1 ex).ix1, j ∈ own.map (·.2)) (ok : blkC c.N c.sc scope own = true) (hs : ∀ (env : Env) x, foldedSetIterable iter env x = pure x) (hs1 : ∀ (env : Env) x, foldedSetIterable iter1 env x = pure x) :
    Tr c (.ListComp elt [⟨tg, iter, ifs, 0⟩, ⟨tg1, iter1, ifs1, 0⟩] scope pos) (.lc (.cons tx ix fx (.last tx1 ix1 fx1 ex)) (own.map (·.2))) := fun ρ M Q h X hX F As σ H sr hm G k => by
  have hq := lc2_coreX (G := G) hX hi hg ht hi1 hg1 ht1 he hjs hjs1 rfl h sr hm fun v F' As' H' r M' s p r' hm' ⟨z, M1, z1, z2, out, z3, z4⟩ => k v F' As' H' r M' s p r' hm' ⟨z, M1, z1, z2, by subst z3; exact z4⟩
  cases hX with | mk X k0 nd calm room po =>
  exact ⟨_, pe_lc2 calm nd pi_w (blkOk_by ok) hv1 (fun s H C cl fp => ⟨fun pins s' σ' H' v u Q I r h => pg_w.run pins s' σ' H' v u Q I r (h s H C cl fp)⟩)
      (fun s H C cl fp => ⟨fun pins s' σ' H' Q I h => pts_w.run pins s' σ' H' Q I (h s H C cl fp)⟩) (fun s H C cl fp => ⟨fun pins s' σ' H' R I h => pi_w.run pins s' σ' H' R I (h s H C cl fp)⟩)
      (fun s H C cl fp => ⟨fun pins s' σ' H' v u Q I r h => pg_w.run pins s' σ' H' v u Q I r (h s H C cl fp)⟩) (fun s H C cl fp => ⟨fun pins s' σ' H' Q I h => pts_w.run pins s' σ' H' Q I (h s H C cl fp)⟩)
      (fun s H C cl fp => ⟨fun pins s' σ' H' Q I h => pe_w.run pins s' σ' H' Q I (h s H C cl fp)⟩) (hs _) hs1, hq⟩
theorem trS_asgLc2 (i : Nat) {nm : Str} {own : List (Str × Nat)} {ow : Bool} (hi : TrI c tg iter ix) (hg : TrG (c.blk scope) tg tx) (ht : TrTs (c.blk scope) ifs fx) (hi1 : TrID (c.blk scope) tg1 iter1 ix1) (hg1 : TrG (c.blk scope) tg1 tx1) (ht1 : TrTs (c.blk scope) ifs1 fx1) (he : Tr (c.blk scope) elt ex) (hjs : ∀ j ∈ tx.ix, j ∈ own.map (·.2)) (hjs1 : ∀ j ∈ tx1.ix, j ∈ (Gs.last tx1 ix1 fx1 ex).ix1) (hv1 : ∀ j ∈ (Gs.last tx1 ix1 fx1 ex).ix1, j ∈ own.map (·.2)) (ok : blkC c.N c.sc scope own = true) (hs : ∀ (env : Env) x, foldedSetIterable iter env x = pure x) (hs1 : ∀ (env : Env) x, foldedSetIterable iter1 env x = pure x)
    (hr : TrS c rest xs) (hN : c.N[i]? = some nm) (hy : c.sc.names.lookup nm = some .local) (hk : c.sc.kind = .function) (hl : (p1.line == p2.line) = true) (ha : (scope.names.any fun (n, k) => n == nm && (k == .local || k == .cell)) = false) :
    TrS c (.Assign [.Name nm p1] (.ListComp elt [⟨tg, iter, ifs, 0⟩, ⟨tg1, iter1, ifs1, 0⟩] scope p2) pos :: rest) (.cons (.asg i (if ow then .own (.lc (.cons tx ix fx (.last tx1 ix1 fx1 ex)) (own.map (·.2))) else .lc (.cons tx ix fx (.last tx1 ix1 fx1 ex)) (own.map (·.2)))) xs) := fun ρ M Q h X hX F As B σ H E sr hm pb ends => by
  have hz : wpG c.g (.cons tx ix fx (.last tx1 ix1 fx1 ex)) (clr ρ (own.map (·.2))) M fun out M1 => (if ow then wpSs c.g xs (pt ρ i (.own M1.length)) (M1 ++ [.lst out]) Q else wpSs c.g xs (pt ρ i (.val (.lst out))) M1 Q) := by
    cases ow <;> exact h
  have hq : ∀ G : VK, Aft c.K F As (zq M.length (OutK fun out M1 => (if ow then wpSs c.g xs (pt ρ i (.own M1.length)) (M1 ++ [.lst out]) Q else wpSs c.g xs (pt ρ i (.val (.lst out))) M1 Q))) G → tLc2 (WI X tg iter) (gBlk X scope tg) (tBlk X scope ifs) (iBlk X scope tg1 iter1) (gBlk X scope tg1) (tBlk X scope ifs1) (eBlk X scope elt) (own.map (·.2)) _ σ H G := fun G k => lc2_coreX (G := G) hX hi hg ht hi1 hg1 ht1 he hjs hjs1 rfl hz sr hm k
  have hX' := hX
  cases hX with | mk X k0 nd calm room po =>
  refine ws_cons (ps_setLc2 calm nd hN hy (sw_true hk hy hl ha) pi_w (blkOk_by ok) hv1 (fun s H C cl fp => ⟨fun pins s' σ' H' v u Q I r h => pg_w.run pins s' σ' H' v u Q I r (h s H C cl fp)⟩)
      (fun s H C cl fp => ⟨fun pins s' σ' H' Q I h => pts_w.run pins s' σ' H' Q I (h s H C cl fp)⟩) (fun s H C cl fp => ⟨fun pins s' σ' H' R I h => pi_w.run pins s' σ' H' R I (h s H C cl fp)⟩)
      (fun s H C cl fp => ⟨fun pins s' σ' H' v u Q I r h => pg_w.run pins s' σ' H' v u Q I r (h s H C cl fp)⟩) (fun s H C cl fp => ⟨fun pins s' σ' H' Q I h => pts_w.run pins s' σ' H' Q I (h s H C cl fp)⟩)
      (fun s H C cl fp => ⟨fun pins s' σ' H' Q I h => pe_w.run pins s' σ' H' Q I (h s H C cl fp)⟩) (hs _) hs1) (hq _ fun v F1 As1 H1 r M' s1 p1 r1 hm1 ⟨z, M1, z1, z2, out, z3, z4⟩ => ?_)
  subst z3
  obtain ⟨e1, e2, e3⟩ := z1
  subst e1; subst e2
  cases ow with
  | true =>
    have z4 : wpSs _ xs (pt ρ i (.own M1.length)) (M1 ++ [.lst out]) Q := z4
    rw [pt_eq] at z4
    exact hr _ _ Q z4 X hX' F1 As1 B _ H1 E ((sr.mono s1 p1).set r1) hm1 (pb.trans p1) (ends.f s1)
  | false =>
    have z4 : wpSs _ xs (pt ρ i (.val (.lst out))) M1 Q := z4
    rw [pt_eq] at z4
    have l1 := hm1.len
    obtain ⟨A0, p, rfl⟩ : ∃ A0 p, As1 = A0 ++ [p] := by
      have hne : As1 ≠ [] := fun z => by subst z; simp at l1
      exact ⟨As1.dropLast, As1.getLast hne, (List.dropLast_concat_getLast hne).symm⟩
    have lB : A0.length = M1.length := by simpa using l1
    obtain ⟨a', ha', rfl⟩ := r1
    have : a' = p := by
      rw [← lB] at ha'
      simpa using ha'.symm
    subst this
    obtain ⟨F2, s2, hm2, dv⟩ := hm1.freeze (d := .lst out) rfl e3
    have pA : As <+: A0 := List.prefix_of_prefix_length_le p1 (List.prefix_append _ _) (by rw [lB, hm.len]; exact z2)
    exact hr _ _ Q z4 X hX' F2 A0 B _ H1 E ((sr.mono (s1.trans s2) pA).set (s := .val (.lst out)) dv) hm2 (pb.trans pA) (ends.f (s1.trans s2))
end
end Dl

/-! X25: displays of dicts, get, a or b of lists -/
namespace Dl
open PySem L2
section
variable {c : Ctx} {ρ : List Sl} {M : List C} {a b e f o : Expr} {x y z : E} {pos p1 p2 p3 apos : Pos}
/-! ### a or b -/
theorem tr_orl (ha : Tr c a x) (hb : Tr c b y) : Tr c (.BoolOp .Or [a, b] pos) (.orl x y) := fun ρ M Q h X hX F As σ H sr hm G k => by
  refine ⟨_, pe_orT pe_w (pe_one pe_w), ha ρ M _ h X hX F As σ H sr hm _ fun v F1 As1 H1 r M' s1 p1 r1 hm1 ⟨z, M1, z1, z2, q⟩ => ?_⟩
  cases z with
  | s s0 => exact False.elim q
  | n c0 =>
    cases c0 with
    | lst ds =>
      obtain ⟨e1, e2, e3⟩ := z1
      subst e1; subst e2
      have l1 := hm1.len
      obtain ⟨A0, p, rfl⟩ : ∃ A0 p, As1 = A0 ++ [p] := by
        have hne : As1 ≠ [] := fun z => by subst z; simp at l1
        exact ⟨As1.dropLast, As1.getLast hne, (List.dropLast_concat_getLast hne).symm⟩
      have lB : A0.length = M1.length := by simpa using l1
      obtain ⟨a', ha', rfl⟩ := r1
      have : a' = p := by
        rw [← lB] at ha'
        simpa using ha'.symm
      subst this
      obtain ⟨ob, ho, vs, rfl, hv⟩ := hm1.cell A0.length a' (.lst ds) (by simp) (by rw [lB]; simp)
      refine ⟨!ds.isEmpty, .inl ⟨vs, .inl (.inl ho), ?_⟩, ?_⟩
      · have := hv.length
        cases ds <;> cases vs <;> first | rfl | (simp at this)
      · cases ds with
        | nil =>
          obtain ⟨F2, s2, hm2, dv⟩ := hm1.freeze (d := .lst []) rfl e3
          have pA : As <+: A0 := List.prefix_of_prefix_length_le p1 (List.prefix_append _ _) (by rw [lB, hm.len]; exact z2)
          exact hb ρ M1 Q q X hX F2 A0 σ H1 (sr.mono (s1.trans s2) pA) hm2 G (Aft.less (Aft.mono k (s1.trans s2) pA) z2)
        | cons d ds => exact k _ F1 (A0 ++ [a']) H1 (.own M1.length) _ s1 p1 ⟨a', by rw [← lB]; simp, rfl⟩ hm1 ⟨.n (.lst (d :: ds)), M1, ⟨rfl, rfl, e3⟩, z2, q⟩
    | _ => exact False.elim q
/-! ### {} and {k: v, ..} -/
def flat2 : List (V × V) → List V
  | [] => []
  | p :: r => p.1 :: p.2 :: flat2 r
def TrP (c : Ctx) (ks : List (Option Expr)) (vs : List Expr) (as : Es) : Prop := ∀ ρ M Q, wpA c.g as ρ M Q → ∀ X, c.Is X → ∀ F As σ H p, SR c.K F As ρ σ → H p = some (.dK []) → HM c.K F As M (del H p) → ∀ (pos : Pos) (R : List (V × V) → Hp → Prop),
  (∀ ps F' As' H' rs M', Same F F' → As <+: As' → SlRs c.K F' As' rs (flat2 ps) → HM c.K F' As' M' H' → H' p = none → Q rs M' → R ps (upd H' p (.dK []))) → ∃ trs, PPs X pos ks vs trs ∧ tPairs trs σ H R
/-- the trees of the pairs -/
def wes (X : Cx) : List (Option Expr) → List Expr → List (TE × TE)
  | some k :: ks, v :: vs => (WE X k, WE X v) :: wes X ks vs
  | _, _ => []
def TrP' (c : Ctx) (ks : List (Option Expr)) (vs : List Expr) (as : Es) : Prop := (∀ X pos, PPs X pos ks vs (wes X ks vs)) ∧ ∀ ρ M Q, wpA c.g as ρ M Q → ∀ X, c.Is X → ∀ F As σ H p, SR c.K F As ρ σ → H p = some (.dK []) → HM c.K F As M (del H p) → ∀ (R : List (V × V) → Hp → Prop),
  (∀ ps F' As' H' rs M', Same F F' → As <+: As' → SlRs c.K F' As' rs (flat2 ps) → HM c.K F' As' M' H' → H' p = none → Q rs M' → R ps (upd H' p (.dK []))) → tPairs (wes X ks vs) σ H R
theorem trP_nil : TrP' c [] [] .nil := ⟨fun X pos => pps_nil, fun ρ M Q h X hX F As σ H p sr hp hm R k => by
  have := k [] F As (del H p) [] M (Same.refl _) (List.prefix_refl _) .nil hm del_same h
  rw [upd_del hp] at this
  exact this⟩
theorem trP_cons {ks : List (Option Expr)} {vs : List Expr} {as : Es} (hk : Tr c a x) (hv : Tr c b y) (hr : TrP' c ks vs as) : TrP' c (some a :: ks) (b :: vs) (.cons x (.cons y as)) := ⟨fun X pos => pps_cons pe_w pe_w (hr.1 X pos), fun ρ M Q h X hX F As σ H p sr hp hm R k => by
  refine WE.frame hp (.dK []) (hk.ee h X hX F As σ _ sr hm _ fun v F1 As1 H1 r1 M1 s1 p1 q1 hm1 h1 n1 => ?_)
  refine WE.frame (a := p) (o := .dK []) upd_same (.dK []) ?_
  rw [del_upd n1]
  refine hv.ee h1 X hX F1 As1 σ H1 (sr.mono s1 p1) hm1 _ fun u F2 As2 H2 r2 M2 s2 p2 q2 hm2 h2 n2 => ?_
  refine hr.2 ρ M2 _ h2 X hX F2 As2 σ _ p (sr.mono (s1.trans s2) (p1.trans p2)) upd_same (by rw [del_upd n2]; exact hm2) _ fun ps F' As' H' rs M' s' p' q' hm' n' h' => ?_
  exact k ((v, u) :: ps) F' As' H' (r1 :: r2 :: rs) M' ((s1.trans s2).trans s') ((p1.trans p2).trans p') (.cons (q1.mono (s2.trans s') (p2.trans p')) (.cons (q2.mono s' p') q')) hm' n' h'⟩
theorem pairs_kv {K : PySem.W.Frag} {F : Hp} {As : List Addr} : ∀ {ps : List (V × V)} {rs : List Sl} {kvs : List (Key × Sl)}, SlRs K F As rs (flat2 ps) → pairsR rs = some kvs → ∃ ws : List (Key × V), ps = ws.map (fun kv => (kV kv.1, kv.2)) ∧ KSl K F As kvs ws
  | [], rs, kvs, h, e => by
    cases h
    cases e
    exact ⟨[], rfl, .nil⟩
  | (v, u) :: ps, rs, kvs, h, e => by
    cases h with
    | @cons r1 _ rs1 _ g1 g2 =>
      cases g2 with
      | @cons r2 _ rs2 _ g2 g3 =>
        cases r1 with
        | val d =>
          have e : (match keyD d, pairsR rs2 with | some k, some kvs => some ((k, r2) :: kvs) | _, _ => none) = some kvs := e
          split at e
          · rename_i k kvs2 e1 e2
            cases e
            obtain ⟨ws, rfl, hw⟩ := pairs_kv g3 e2
            have := keyV e1 g1
            subst this
            exact ⟨(k, u) :: ws, rfl, .cons ⟨rfl, g2⟩ hw⟩
          · cases e
        | un => cases e
        | own _ => cases e
theorem merge_kv {α : Type} {R : α → V → Prop} : ∀ {kvs : List (Key × α)} {ws : List (Key × V)} {acc : List (Key × α)} {bcc : List (Key × V)}, Paired (fun p q => p.1 = q.1 ∧ R p.2 q.2) kvs ws → Paired (fun p q => p.1 = q.1 ∧ R p.2 q.2) acc bcc → Paired (fun p q => p.1 = q.1 ∧ R p.2 q.2) (mergeD acc kvs) (mergeK bcc ws)
  | [], ws, acc, bcc, h, g => by cases h; exact g
  | p :: r, ws, acc, bcc, h, g => by
    cases h with
    | @cons _ q _ ws h1 h2 =>
      obtain ⟨k, d⟩ := p
      obtain ⟨k', v⟩ := q
      obtain ⟨e1, e2⟩ := h1
      cases e1
      show Paired _ (mergeD (putD acc k d) r) (mergeK (putK bcc k v) ws)
      exact merge_kv h2 (pk_put (β := Unit) e2 g)
theorem valsK_kv {K : PySem.W.Frag} {F : Hp} {As : List Addr} : ∀ {kvs : List (Key × Sl)} {ws : List (Key × V)} {l : List (Key × D)}, KSl K F As kvs ws → valsK kvs = some l → Paired (fun p q => p.1 = q.1 ∧ DV K F p.2 q.2) l ws
  | [], ws, l, h, e => by cases h; cases e; exact .nil
  | (k, s) :: r, ws, l, h, e => by
    cases h with
    | @cons _ q _ ws h1 h2 =>
      cases s with
      | val d =>
        have e : (match valsK r with | some kvs => some ((k, d) :: kvs) | none => none) = some l := e
        split at e
        · rename_i l2 e2
          cases e
          exact .cons ⟨h1.1, h1.2⟩ (valsK_kv h2 e2)
        · cases e
      | un => cases e
      | own _ => cases e
theorem cr_kvC {K : PySem.W.Frag} {F : Hp} {As : List Addr} {p : Addr} {kvs : List (Key × Sl)} {ws : List (Key × V)} (h : KSl K F As kvs ws) : CR K F As p (kvC kvs) (.dK (mergeK [] ws)) := by
  unfold kvC
  split
  · rename_i l e
    exact ⟨_, rfl, merge_kv (R := fun d v => DV K F d v) (valsK_kv h e) .nil⟩
  · exact ⟨_, rfl, merge_kv (R := fun d v => SlR K F As d v) h .nil⟩
theorem tr_dct0 : Tr c (.Dict [] [] pos) (.dct .nil) := fun ρ M Q h X hX F As σ H sr hm G k =>
  ⟨_, pe_dnewK, fun p hp => by
    obtain ⟨kvs, e, _, q⟩ := h
    cases e
    exact fin_new (c := .dic []) k hm (Nat.le_refl _) hp ⟨[], rfl, .nil⟩ q⟩
theorem tr_dct {ks : List Expr} {vs : List Expr} {as : Es} (hp : TrP' c ((a :: ks).map some) vs as) (hl : (a :: ks).length = vs.length) (h15 : (a :: ks).length ≤ 15) : Tr c (.Dict ((a :: ks).map some) vs pos) (.dct as) := fun ρ M Q h X hX F As σ H sr hm G k =>
  ⟨_, pe_disp (hp.1 X pos) (by simp) (by simpa using hl) (by simp) (by simpa using h15), fun p hpn => by
    refine hp.2 ρ M _ h X hX F As σ _ p sr upd_same (by rw [del_upd hpn]; exact hm) _ fun ps F' As' H' rs M' s' p' q' hm' n' ⟨kvs, e1, e2, q⟩ => ?_
    obtain ⟨ws, rfl, hw⟩ := pairs_kv q' e1
    refine ⟨upd_same, ws, rfl, by rw [← Paired.length hw]; exact e2, ?_⟩
    rw [upd_upd]
    exact fin_new (Aft.mono k s' p') hm' (hm.le hm' p') n' (cr_kvC hw) q⟩
/-! ### get -/
theorem mtOk_isD {m : Mth} {r : Sl} {M : List C} {K : PySem.W.Frag} {F : Hp} {As : List Addr} {H : Hp} {v : V} (hm : HM K F As M H) (hr : SlR K F As r v) (hl : m.isL = false) (h : mtOk m r M = true) : ∃ al, v = .ref al ∧ IsD H al := by
  unfold mtOk at h
  split at h
  · rename_i k
    obtain ⟨al, ha, rfl⟩ := hr
    split at h
    · rw [hl] at h; cases h
    · rw [hl] at h; cases h
    · rename_i kvs e
      rw [lkM_eq] at e
      obtain ⟨ob, ho, ws, rfl, hw⟩ := hm.cell k al _ ha e
      exact ⟨al, rfl, .inl ⟨ws, .inl ho⟩⟩
    · rename_i kvs e
      rw [lkM_eq] at e
      obtain ⟨ob, ho, ws, rfl, hw⟩ := hm.cell k al _ ha e
      exact ⟨al, rfl, .inl ⟨ws, .inl ho⟩⟩
    · cases h
  · rename_i ks vs
    obtain ⟨al, ws, rfl, h1, h2⟩ := dq_kd (M := M) (s := .val (.dic ks vs)) rfl hm hr
    exact ⟨al, rfl, .inl ⟨ws, .inl h1⟩⟩
  · cases h
theorem inv_get1 {r s : Sl} {M : List C} {Q : Z → List C → Prop} (h : mtR .get1 r [s] M Q) : ∃ d kvs kk, s = .val d ∧ dq M r = some kvs ∧ keyD d = some kk ∧ (match getK kvs kk with | some x => Q (.s (.val x)) M | none => Q (.s (.val .non)) M) := by
  cases s with
  | val d =>
    have h : (match dq M r, keyD d with | some kvs, some kk => (match getK kvs kk with | some x => Q (.s (.val x)) M | none => Q (.s (.val .non)) M) | _, _ => False) := h
    split at h
    · rename_i kvs kk e1 e2
      exact ⟨d, kvs, kk, rfl, e1, e2, h⟩
    · exact h.elim
  | un => exact False.elim h
  | own _ => exact False.elim h
theorem inv_get2 {r s t : Sl} {M : List C} {Q : Z → List C → Prop} (h : mtR .get2 r [s, t] M Q) : ∃ d kvs kk, s = .val d ∧ dq M r = some kvs ∧ keyD d = some kk ∧ (match getK kvs kk with | some x => Q (.s (.val x)) M | none => t ≠ .un ∧ Q (.s t) M) := by
  cases s with
  | val d =>
    have h : (match dq M r, keyD d with | some kvs, some kk => (match getK kvs kk with | some x => Q (.s (.val x)) M | none => t ≠ .un ∧ Q (.s t) M) | _, _ => False) := h
    split at h
    · rename_i kvs kk e1 e2
      exact ⟨d, kvs, kk, rfl, e1, e2, h⟩
    · exact h.elim
  | un => exact False.elim h
  | own _ => exact False.elim h
theorem tr_get1 (ho : Tr c o x) (ha : Tr c e y) (m : ∀ X : Cx, M1 X o "get" apos e pos) : Tr c (.Call (.Attribute o "get" apos) [e] [] pos) (.mt x .get1 (.cons y .nil)) := fun ρ M Q h X hX F As σ H sr hm G k => by
  have hX' := hX
  cases hX with | mk X k0 nd calm room po =>
  refine ⟨_, pe_dget1 (lt_room room) pe_w pe_w (m X), ho.ee h X hX' F As σ H sr hm _ fun v F1 As1 H1 r1 M1 s1 p1 q1 hm1 ⟨hk, h1⟩ => ?_⟩
  obtain ⟨al, rfl, hd⟩ := mtOk_isD hm1 q1 rfl hk
  refine ⟨al, rfl, hd, ha.ee h1 X hX' F1 As1 σ H1 (sr.mono s1 p1) hm1 _ fun u F2 As2 H2 r2 M2 s2 p2 q2 hm2 h2 => ?_⟩
  have kk := Aft.mono k (s1.trans s2) (p1.trans p2)
  have hn := Nat.le_trans (hm.le hm1 p1) (hm1.le hm2 p2)
  obtain ⟨d, kvs, kk', rfl, e1, e2, h2⟩ := inv_get1 (show mtR .get1 r1 [r2] M2 Q from h2)
  obtain ⟨a', ws, e3, g1, g2⟩ := dq_kd e1 hm2 (q1.mono s2 p2)
  cases e3
  have ek := keyV e2 q2
  subst ek
  refine ⟨_, DGet.k g1, ?_⟩
  rcases kd_get (k := kk') g2 with ⟨e4, e5⟩ | ⟨d', v', e4, e5, hv⟩
  · rw [e5]; rw [e4] at h2
    exact fin_val (d := .non) kk hm2 hn rfl h2
  · rw [e5]; rw [e4] at h2
    exact fin_val (d := d') kk hm2 hn hv h2
theorem tr_get2 (ho : Tr c o x) (ha : Tr c e y) (hf : Tr c f z) (m : ∀ X : Cx, M2 X o "get" apos e f pos) : Tr c (.Call (.Attribute o "get" apos) [e, f] [] pos) (.mt x .get2 (.cons y (.cons z .nil))) := fun ρ M Q h X hX F As σ H sr hm G k => by
  have hX' := hX
  cases hX with | mk X k0 nd calm room po =>
  refine ⟨_, pe_dget2 (lt_room room) pe_w pe_w pe_w (m X), ho.ee h X hX' F As σ H sr hm _ fun v F1 As1 H1 r1 M1 s1 p1 q1 hm1 ⟨hk, h1⟩ => ?_⟩
  obtain ⟨al, rfl, hd⟩ := mtOk_isD hm1 q1 rfl hk
  refine ⟨al, rfl, hd, ha.ee h1 X hX' F1 As1 σ H1 (sr.mono s1 p1) hm1 _ fun u F2 As2 H2 r2 M2 s2 p2 q2 hm2 h2 => hf.ee h2 X hX' F2 As2 σ H2 (sr.mono (s1.trans s2) (p1.trans p2)) hm2 _ fun w F3 As3 H3 r3 M3 s3 p3 q3 hm3 h3 => ?_⟩
  have kk := Aft.mono k ((s1.trans s2).trans s3) ((p1.trans p2).trans p3)
  have hn := Nat.le_trans (Nat.le_trans (hm.le hm1 p1) (hm1.le hm2 p2)) (hm2.le hm3 p3)
  obtain ⟨d, kvs, kk', rfl, e1, e2, h3⟩ := inv_get2 (show mtR .get2 r1 [r2, r3] M3 Q from h3)
  obtain ⟨a', ws, e3, g1, g2⟩ := dq_kd e1 hm3 ((q1.mono s2 p2).mono s3 p3)
  cases e3
  have ek := keyV (F := F3) e2 (DV.mono s3 (show DV _ F2 d u from q2))
  subst ek
  refine ⟨_, DGet.k g1, ?_⟩
  rcases kd_get (k := kk') g2 with ⟨e4, e5⟩ | ⟨d', v', e4, e5, hv⟩
  · rw [e5]; rw [e4] at h3
    exact fin_s kk hm3 hn q3 h3.2
  · rw [e5]; rw [e4] at h3
    exact fin_val (d := d') kk hm3 hn hv h3
end
end Dl

/-! X26: a op b op' c as a test -/
namespace Dl
open PySem L2
section
variable {c : Ctx} {ρ : List Sl} {M : List C} {a b e3 : Expr} {x y z : E} {pos : Pos} {op op' : CmpOp}
theorem chain_core (ha : Tr c a x) (hb : Tr c b y) (hc : Tr c e3 z) {Q : Z → List C → Prop} (h : wpR c.g (.cmp2 op op' x y z) ρ M Q) {X : Cx} (hX : c.Is X) {F : Hp} {As : List Addr} {σ : L2.St} {H : Hp} (sr : SR c.K F As ρ σ) (hm : HM c.K F As M H) {G : VK} (k : Aft c.K F As (zq M.length Q) G) :
    tChain (fun x y H' G' => ∃ r, OpR X (compareOp op) r ∧ r x y H' G') (fun x y H' G' => ∃ r, OpR X (compareOp op') r ∧ r x y H' G') (WE X a) (WE X b) (WE X e3) σ H G :=
  ha.ee h X hX F As σ H sr hm _ fun x F1 As1 H1 r1 M1 s1 p1 q1 hm1 h1 => hb.ee h1 X hX F1 As1 σ H1 (sr.mono s1 p1) hm1 _ fun y F2 As2 H2 r2 M2 s2 p2 q2 hm2 h2 => by
    refine cmp_all op h2 X hX F2 As2 H2 x y (q1.mono s2 p2) q2 hm2 M.length _ (Nat.le_trans (hm.le hm1 p1) (hm1.le hm2 p2)) fun v F3 As3 H3 r M' s3 p3 r3 hm3 ⟨zz, M3, z1, z2, z3, t, z4, z5⟩ => ?_
    subst z3; subst z4
    obtain ⟨e1, e2⟩ := z1
    subst e1; subst e2
    refine ⟨t, r3, ?_⟩
    cases t with
    | false => exact fin_val (d := .bl false) (Aft.mono k ((s1.trans s2).trans s3) ((p1.trans p2).trans p3)) hm3 z2 rfl (z5.2 rfl)
    | true =>
      refine hc.ee (z5.1 rfl) X hX F3 As3 σ H3 (sr.mono ((s1.trans s2).trans s3) ((p1.trans p2).trans p3)) hm3 _ fun w F4 As4 H4 r4 M4 s4 p4 q4 hm4 h4 => ?_
      exact cmp_all op' h4 X hX F4 As4 H4 y w (q2.mono (s3.trans s4) (p3.trans p4)) q4 hm4 M.length G (Nat.le_trans z2 (hm3.le hm4 p4)) (Aft.bz k (((s1.trans s2).trans s3).trans s4) (((p1.trans p2).trans p3).trans p4))
theorem trT_cmp2 (ha : Tr c a x) (hb : Tr c b y) (hc : Tr c e3 z) (hl : lastMarks [op, op'] [b, e3] = false) : TrT c (.Compare a [op, op'] [b, e3] pos) (.e (.cmp2 op op' x y z)) := fun ρ M Q h X hX F As σ H sr hm G k =>
  ⟨_, pt_chain opR_any opR_any pe_w pe_w pe_w (hm := hl), chain_core ha hb hc h hX sr hm fun v F' As' H' r M' s p r' hm' ⟨zz, M3, z1, z2, q⟩ => by
    cases zz with
    | s r0 =>
      obtain ⟨e1, e2⟩ := z1
      subst e1; subst e2
      cases r with
      | val d =>
        cases d with
        | bl t => exact ⟨t, r', k t F' As' H' _ s p hm' q⟩
        | _ => exact False.elim q
      | _ => exact False.elim q
    | n c0 =>
      have q : (match c0.frz with | some d => (match Sl.val d with | .val (.bl t) => Q t M3 | _ => False) | none => False) := q
      cases c0 <;> exact False.elim q⟩
end
end Dl

/-! X27: rules to reason with -/
namespace Dl
open PySem L2
section
variable {g : Gx} {s : S} {ss : Ss} {ρ : List Sl} {M : List C} {Q : DE}
theorem wc (h : wpS g s ρ M { Q with nx := fun ρ' M' => wpSs g ss ρ' M' Q }) : wpSs g (.cons s ss) ρ M Q := h
theorem wpSs_nil : wpSs g .nil ρ M Q = Q.nx ρ M := rfl
theorem forW_nil {body : D → List Sl → List C → DE → Prop} {tr : (List Sl → List C → Prop) → List Sl → List C → Prop} {ok : List C → Prop} : forW body tr ok [] ρ M Q = Q.nx ρ M := rfl
theorem wn (h : Q.nx ρ M) : wpSs g .nil ρ M Q := h
/-- a for loop: states of a type T -/
theorem for_r {T : Type} (R : T → List Sl) (Ms : T → List C) (I : Nat → T → Prop) {body : D → List Sl → List C → DE → Prop} {tr : (List Sl → List C → Prop) → List Sl → List C → Prop} {ok : List C → Prop} :
    ∀ (ds : List D) (n : Nat) (t : T), I n t → (∀ i d t (k : List Sl → List C → Prop), ds[i]? = some d → I (n + i) t → (∀ t', I (n + i + 1) t' → k (R t') (Ms t')) → (∀ t', I (n + i + 1) t' → ok (Ms t') → ok (Ms t') ∧ k (R t') (Ms t')) → body d (R t) (Ms t) { nx := tr fun ρ' M' => ok M' ∧ k ρ' M', ct := tr fun ρ' M' => ok M' ∧ k ρ' M', bk := Q.nx, rt := Q.rt }) →
    (∀ t, I (n + ds.length) t → Q.nx (R t) (Ms t)) → forW body tr ok ds (R t) (Ms t) Q
  | [], n, t, h0, _, he => he t h0
  | d :: ds, n, t, h0, hs, he => hs 0 d t _ rfl h0 (fun t' h => for_r R Ms I ds (n + 1) t' (by simpa using h) (fun i d t k e h hk hk2 => hs (i + 1) d t k (by simpa using e) (by rw [show n + (i + 1) = n + 1 + i by omega]; exact h) (fun t' h' => hk t' (by rw [show n + 1 + i + 1 = n + (i + 1) + 1 by omega]; exact h')) (fun t' h' => hk2 t' (by rw [show n + 1 + i + 1 = n + (i + 1) + 1 by omega]; exact h'))) (fun t h => he t (by rw [show n + (d :: ds).length = n + 1 + ds.length by simp; omega]; exact h)))
      (fun t' h ho => ⟨ho, for_r R Ms I ds (n + 1) t' (by simpa using h) (fun i d t k e h hk hk2 => hs (i + 1) d t k (by simpa using e) (by rw [show n + (i + 1) = n + 1 + i by omega]; exact h) (fun t' h' => hk t' (by rw [show n + 1 + i + 1 = n + (i + 1) + 1 by omega]; exact h')) (fun t' h' => hk2 t' (by rw [show n + 1 + i + 1 = n + (i + 1) + 1 by omega]; exact h'))) (fun t h => he t (by rw [show n + (d :: ds).length = n + 1 + ds.length by simp; omega]; exact h))⟩)
/-- from the start -/
theorem for0 {T : Type} (R : T → List Sl) (Ms : T → List C) (I : Nat → T → Prop) {α : Type} {xs : List α} {enc : α → D} {body : D → List Sl → List C → DE → Prop} {tr : (List Sl → List C → Prop) → List Sl → List C → Prop} {ok : List C → Prop} (t : T) (h0 : I 0 t)
    (step : ∀ i x t (k : List Sl → List C → Prop), xs[i]? = some x → I i t → (∀ t', I (i + 1) t' → k (R t') (Ms t')) → body (enc x) (R t) (Ms t) { nx := tr fun ρ' M' => ok M' ∧ k ρ' M', ct := tr fun ρ' M' => ok M' ∧ k ρ' M', bk := Q.nx, rt := Q.rt })
    (he : ∀ t, I xs.length t → Q.nx (R t) (Ms t)) : forW body tr ok (xs.map enc) (R t) (Ms t) Q :=
  for_r R Ms I (xs.map enc) 0 t h0 (fun i d t k e h hk _ => by
    rw [List.getElem?_map] at e
    cases ex : xs[i]? with
    | none => rw [ex] at e; cases e
    | some x =>
      rw [ex] at e
      cases e
      rw [Nat.zero_add] at h hk
      exact step i x t k ex h hk) (fun t h => he t (by rw [List.length_map, Nat.zero_add] at h; exact h))
/-- a comprehension that changes nothing -/
theorem lc_r {α : Type} {enc : α → D} {out : α → List D} {F : D → List C → (List D → List C → Prop) → Prop} {ok : List C → Prop} {QQ : List D → List C → Prop} (ho : ok M) : ∀ (xs : List α) (acc : List D), (∀ x ∈ xs, ∀ k : List D → List C → Prop, k (out x) M → F (enc x) M k) → QQ (acc ++ xs.flatMap out) M → lcW F ok (xs.map enc) acc M QQ
  | [], acc, _, q => by
    have q : QQ (acc ++ []) M := q
    rw [List.append_nil] at q
    exact q
  | x :: xs, acc, h, q => h x (by simp) _ ⟨ho, lc_r ho xs (acc ++ out x) (fun y hy => h y (by simp [hy])) (by simpa using q)⟩
/-- .. with a test and an element -/
theorem lc_t {α : Type} {enc : α → D} {t : α → Bool} {f : α → D} {F : D → List C → (List D → List C → Prop) → Prop} {ok : List C → Prop} {QQ : List D → List C → Prop} {xs : List α} (ho : ok M) (h : ∀ x ∈ xs, ∀ k : List D → List C → Prop, (t x = true → k [f x] M) → (t x = false → k [] M) → F (enc x) M k) (q : QQ ((xs.filter t).map f) M) : lcW F ok (xs.map enc) [] M QQ := by
  refine lc_r (out := fun x => if t x then [f x] else []) ho xs [] (fun x hx k hk => h x hx k (fun e => by simpa [e] using hk) (fun e => by simpa [e] using hk)) ?_
  have : (xs.flatMap fun x => if t x then [f x] else []) = (xs.filter t).map f := by
    clear h q
    induction xs with
    | nil => rfl
    | cons x xs ih =>
      rw [List.flatMap_cons, ih, List.filter_cons]
      split <;> simp
  rw [List.nil_append, this]
  exact q
theorem lc_m {α : Type} {enc : α → D} {f : α → D} {F : D → List C → (List D → List C → Prop) → Prop} {ok : List C → Prop} {QQ : List D → List C → Prop} {xs : List α} (ho : ok M) (h : ∀ x ∈ xs, ∀ k : List D → List C → Prop, k [f x] M → F (enc x) M k) (q : QQ (xs.map f) M) : lcW F ok (xs.map enc) [] M QQ :=
  lc_r (out := fun x => [f x]) ho xs [] h (by rw [List.nil_append, ← List.map_eq_flatMap]; exact q)
/-- a comprehension that draws: states of a type T -/
theorem lc_s {T : Type} (Ms : T → List C) {α : Type} {enc : α → D} {F : D → List C → (List D → List C → Prop) → Prop} {ok : List C → Prop} {QQ : List D → List C → Prop} (I : Nat → T → List D → Prop) (ho : ∀ t, ok (Ms t)) : ∀ (xs : List α) (n : Nat) (t : T) (acc : List D), I n t acc → (∀ i x t acc, xs[i]? = some x → I (n + i) t acc → ∀ k : List D → List C → Prop, (∀ t' out, I (n + i + 1) t' (acc ++ out) → k out (Ms t')) → F (enc x) (Ms t) k) → (∀ t acc, I (n + xs.length) t acc → QQ acc (Ms t)) → lcW F ok (xs.map enc) acc (Ms t) QQ
  | [], n, t, acc, h0, _, q => q t acc h0
  | x :: xs, n, t, acc, h0, h, q => h 0 x t acc rfl h0 _ fun t' out h' => ⟨ho t', lc_s Ms I ho xs (n + 1) t' (acc ++ out) (by simpa using h') (fun i y t acc e h2 k hk => h (i + 1) y t acc (by simpa using e) (by rw [show n + (i + 1) = n + 1 + i by omega]; exact h2) k (fun t' out h3 => hk t' out (by rw [show n + 1 + i + 1 = n + (i + 1) + 1 by omega]; exact h3))) (fun t acc h2 => q t acc (by rw [show n + (x :: xs).length = n + 1 + xs.length by simp; omega]; exact h2))⟩
/-- a dict comprehension that changes nothing -/
theorem dc_r {α : Type} {enc : α → D} {kf : α → Key} {vf : α → D} {F : D → List C → (List (Key × D) → List C → Prop) → Prop} {ok : List C → Prop} {QQ : List (Key × D) → List C → Prop} (ho : ok M) : ∀ (xs : List α) (acc : List (Key × D)), (∀ x ∈ xs, ∀ k : List (Key × D) → List C → Prop, k [(kf x, vf x)] M → F (enc x) M k) → QQ (mergeD acc (xs.map fun x => (kf x, vf x))) M → dcW F ok (xs.map enc) acc M QQ
  | [], acc, _, q => q
  | x :: xs, acc, h, q => h x (by simp) _ ⟨ho, dc_r ho xs _ (fun y hy => h y (by simp [hy])) q⟩
end
theorem trim_nil {dead : List Nat} {Q : List Sl → List C → Prop} {ρ : List Sl} (h : Q ((clr ρ dead).map (Sl.trim 0)) []) : trimW 0 dead Q ρ [] := ⟨Nat.le_refl _, fun _ h => (nomatch h), h⟩
theorem trim_to {M M2 : List C} {dead : List Nat} {Q : List Sl → List C → Prop} {ρ : List Sl} (n : Nat) (hn : n = M.length) (hc : ∀ c ∈ M, closedC n c) (h : Q ((clr ρ dead).map (Sl.trim n)) M) : trimW n dead Q ρ (M ++ M2) := by
  subst hn
  refine ⟨by simp, ?_, ?_⟩
  · rw [List.take_left]; exact hc
  · rw [List.take_left]; exact h
theorem trim_id {M : List C} {dead : List Nat} {Q : List Sl → List C → Prop} {ρ : List Sl} (n : Nat) (hn : n = M.length) (hc : ∀ c ∈ M, closedC n c) (h : Q ((clr ρ dead).map (Sl.trim n)) M) : trimW n dead Q ρ M := by
  have := trim_to (M2 := []) n hn hc h
  rwa [List.append_nil] at this
/-! ### readings that are known -/
section
variable {M : List C} {ds vs : List D} {ks : List Key} {k : Nat} {d : D} {i : Int} {b : Bool} {x : Str} {ns : List Int} {Cl : Addr}
theorem sqL : sq M (.val (.lst ds)) = some (true, ds) := rfl
theorem sqT : sq M (.val (.tup ds)) = some (false, ds) := rfl
theorem sqO : sq M (.own k) = (match lkM M k with | some (.lst ds) => some (true, ds) | _ => none) := rfl
theorem sqD : sq M (.val (.dic ks vs)) = none := rfl
theorem sqI : sq M (.val (.int i)) = none := rfl
theorem sqB : sq M (.val (.bl b)) = none := rfl
theorem sqS : sq M (.val (.str x)) = none := rfl
theorem sqN : sq M (.val .non) = none := rfl
theorem sqC : sq M (.val (.scr ns)) = none := rfl
theorem sqX : sq M (.val (.slo Cl ds)) = none := rfl
theorem dqD : dq M (.val (.dic ks vs)) = some (ks.zip vs) := rfl
theorem dqO : dq M (.own k) = (match lkM M k with | some (.dic kvs) => some kvs | _ => none) := rfl
theorem dqI : dq M (.val (.int i)) = none := rfl
theorem vwV : vw M (.val d) = some d := rfl
theorem vwO : vw M (.own k) = (match lkM M k with | some c => c.frz | none => none) := rfl
theorem kdL : kindD (.lst ds) ≠ "?" := by show ("list" : String) ≠ "?"; decide
theorem kdT : kindD (.tup ds) ≠ "?" := by show ("tuple" : String) ≠ "?"; decide
theorem kdI : kindD (.int i) ≠ "?" := by show ("int" : String) ≠ "?"; decide
theorem kdB : kindD (.bl b) ≠ "?" := by show ("bool" : String) ≠ "?"; decide
theorem kdS : kindD (.str x) ≠ "?" := by show ("str" : String) ≠ "?"; decide
theorem kdN : kindD .non ≠ "?" := by show ("NoneType" : String) ≠ "?"; decide
theorem kdD : kindD (.dic ks vs) ≠ "?" := by show ("dict" : String) ≠ "?"; decide
end
/-! ### data of ints -/
theorem all_isI (ns : List Int) : (ns.map D.int).all isI = true := by simp [isI]
theorem map_intD (ns : List Int) : (ns.map D.int).map intD = ns := by
  rw [List.map_map]
  conv => rhs; rw [← List.map_id ns]
  rfl
theorem all_atom (ns : List Int) : (ns.map D.int).all atomD = true := by simp [atomD]
theorem inD_int (x : Int) (ns : List Int) : inD (.int x) (ns.map D.int) = decide (x ∈ ns) := by
  unfold inD
  rw [List.any_map, Bool.eq_iff_iff, List.any_eq_true, decide_eq_true_iff]
  constructor
  · rintro ⟨y, hy, e⟩
    have : (y == x) = true := e
    rw [beq_iff_eq] at this
    exact this ▸ hy
  · exact fun h => ⟨x, h, by show (x == x) = true; simp⟩
theorem map_vals (ds : List D) : ∃ es : List D, ds.map Sl.val = es.map Sl.val ∧ es = ds := ⟨ds, rfl, rfl⟩
end Dl

/-! X28: what is asked of a def's code, apart from a law's text -/
namespace Dl
open PySem L2
def rhoN (n : Nat) (rs : List Sl) : List Sl := rs ++ List.replicate (n - rs.length) .un
def endZ (z : Z) : DE := { nx := fun _ _ => z = .s (.val .non), rt := Gives z }
def endO (R : Z → List D → Prop) : DE := { nx := fun _ M => GivesO R (.s (.val .non)) M, rt := GivesO R }
def endI (C : Addr) (fs : List D) : DE := { nx := fun _ M => ∃ vs, lkM M 0 = some (.sob C 1 vs) ∧ lkM M 1 = some .dxx ∧ viewF M vs = some fs, rt := fun _ _ => False }
def WpZ (g : Gx) (c : Ss) (n : Nat) (R : List D → Z → Prop) : Prop := ∀ ds z, R ds z → wpSs g c (rhoN n (ds.map .val)) [] (endZ z)
def WpO (g : Gx) (c : Ss) (n : Nat) (Pre : List D → List D → Prop) (R : List D → List D → Z → List D → Prop) : Prop := ∀ c0 ds, Pre c0 ds → wpSs g c (rhoN n (.own 0 :: ds.map .val)) [.lst c0] (endO (R c0 ds))
def WpI (g : Gx) (c : Ss) (n : Nat) (C : Addr) (R : List D → List D → Prop) : Prop := ∀ ds fs, R ds fs → wpSs g c (rhoN n (.own 0 :: ds.map .val)) [.sob0 C 1, .dxo 0] (endI C fs)
def WpStar (g : Gx) (c : Ss) (n j : Nat) (R : List D → Z → Prop) : Prop := ∀ ws rest z, ws.length = j → R (ws ++ rest) z → wpSs g c (rhoN n ((ws ++ [D.tup rest]).map Sl.val)) [] (endZ z)
section
variable {P : Program} {w : World} {K : PySem.W.Frag} {mg : Str → Option Value} {base : Heap} {x qual : Str} {st : Stmt} {f : Addr} {fd : FuncData} {N ps : List Str} {k : Nat} {bx : Ss}
theorem fnZ {R : List D → Z → Prop} (Fn : Fun K x qual st f fd) (S : FnScope N ps (defScope st)) (tr : TrS (ctxOf P w K mg base N st k) (defBody st) bx) (hlen : ∀ ds z, R ds z → ds.length = ps.length) (h : WpZ (gOf P w K mg base k) bx N.length R) : FnOk P w K mg base CX0 (k + 1) f fd ps (spZ K R) := okZ Fn S tr hlen h
theorem fnO {Pre : List D → List D → Prop} {R : List D → List D → Z → List D → Prop} (Fn : Fun K x qual st f fd) (S : FnScope N ps (defScope st)) (tr : TrS (ctxOf P w K mg base N st k) (defBody st) bx) (hlen : ∀ c0 ds, Pre c0 ds → ds.length + 1 = ps.length) (h : WpO (gOf P w K mg base k) bx N.length Pre R) : FnOk P w K mg base CX0 (k + 1) f fd ps (spO K Pre R) := okO Fn S tr hlen h
theorem fnI {C : Addr} {R : List D → List D → Prop} (Fn : Fun K x qual st f fd) (S : FnScope N ps (defScope st)) (tr : TrS (ctxOf P w K mg base N st k) (defBody st) bx) (hlen : ∀ ds fs, R ds fs → ds.length + 1 = ps.length) (h : WpI (gOf P w K mg base k) bx N.length C R) : FnOk P w K mg base CX0 (k + 1) f fd ps (spI K C R) := okI Fn S tr hlen h
theorem fnS {pv : Str} {R : List D → Z → Prop} (Fn : Fun K x qual st f fd) (S : FnScope N (ps ++ [pv]) (defScope st)) (tr : TrS (ctxOf P w K mg base N st k) (defBody st) bx) (hlen : ∀ ds z, R ds z → ps.length ≤ ds.length ∧ ds.length ≤ 1000)
    (hb : ∀ (kV doc pm : Value) (an : Option Addr) (cdv ct : Value) (us rest : List Value), us.length = ps.length → bindArgs (PySem.W.fnOf x qual (defArgs st) (defBody st) (defScope st) .none kV doc pm an cdv ct) ⟨us ++ rest, []⟩ = (newTuple rest >>= fun t => pure (ps.zip us ++ [(pv, t)]))) (h : WpStar (gOf P w K mg base k) bx N.length ps.length R) : FnR P w K mg base CX0 (k + 1) f (spZ K R) := okStar Fn S tr hlen hb h
end
/-! the level of what stands around -/
section
variable {P : Program} {w : World} {K : PySem.W.Frag} {mg : Str → Option Value} {base : Heap} {x : Str} {C : Addr} {m : Str} {k i j : Nat} {sp : Sp} {ks : List Str} {idx : List Nat}
theorem Def.up (h : Def (gOf P w K mg base i) x k sp) : Def (gOf P w K mg base j) x k sp := ⟨h.ok⟩
theorem DefK.up (h : DefK (gOf P w K mg base i) x k ks idx sp) : DefK (gOf P w K mg base j) x k ks idx sp := ⟨h.ok⟩
theorem DefM.up (h : DefM (gOf P w K mg base i) C m k sp) : DefM (gOf P w K mg base j) C m k sp := ⟨h.cl, h.ok⟩
theorem DefI.up (h : DefI (gOf P w K mg base i) x C k sp) : DefI (gOf P w K mg base j) x C k sp := ⟨h.ok⟩
theorem DefL.up (h : DefL (gOf P w K mg base i) C k sp) : DefL (gOf P w K mg base j) C k sp := ⟨h.ok⟩
end
end Dl

/-! X29: what is asked is monotone -/
namespace Dl
open PySem L2
def LeB (Q Q' : Bool → Prop) : Prop := ∀ z, Q z → Q' z
def LeZ (Q Q' : Z → Prop) : Prop := ∀ z, Q z → Q' z
def LeS (Q Q' : Sl → Prop) : Prop := ∀ z, Q z → Q' z
def LeZM (Q Q' : Z → List C → Prop) : Prop := ∀ z M, Q z M → Q' z M
section
variable {g : Gx} {ρ : List Sl} {M : List C}
theorem Z.fz_mono {z : Z} {Q Q' : Sl → List C → Prop} (hq : ∀ r M, Q r M → Q' r M) (h : z.fz M Q) : z.fz M Q' := by
  unfold Z.fz at h ⊢
  split
  · exact hq _ _ h
  · split <;> simp_all
theorem binR_mono {o : Operator} {r1 r2 : Sl} {Q Q' : Z → Prop} (hq : LeZ Q Q') (h : binR o r1 r2 M Q) : binR o r1 r2 M Q' := by
  revert h
  unfold binR
  intro h
  split at h <;> (try exact h.elim)
  all_goals (repeat' split at h) <;> first | exact h.elim | exact hq _ h | exact ⟨h.1, hq _ h.2⟩ | exact hq _ _ h | exact ⟨h.1, hq _ _ h.2⟩ | (simp_all; done) | (simp_all; first | exact hq _ h | exact hq _ h.2 | exact ⟨h.1, hq _ h.2⟩ | exact hq _ _ h | exact hq _ _ h.2 | exact ⟨h.1, hq _ _ h.2⟩)
theorem eqR_mono {r1 r2 : Sl} {Q Q' : Bool → Prop} (hq : LeB Q Q') (h : eqR r1 r2 M Q) : eqR r1 r2 M Q' := by
  unfold eqR at h ⊢
  repeat' split at h
  all_goals first | exact h.elim | exact hq _ h | exact ⟨h.1, hq _ h.2⟩ | exact hq _ _ h | exact ⟨h.1, hq _ _ h.2⟩ | (simp_all; done) | (simp_all; first | exact hq _ h | exact hq _ h.2 | exact ⟨h.1, hq _ h.2⟩ | exact hq _ _ h | exact hq _ _ h.2 | exact ⟨h.1, hq _ _ h.2⟩)
theorem inR_mono {r1 r2 : Sl} {Q Q' : Bool → Prop} (hq : LeB Q Q') (h : inR r1 r2 M Q) : inR r1 r2 M Q' := by
  unfold inR at h ⊢
  repeat' split at h
  all_goals first | exact h.elim | exact hq _ h | exact ⟨h.1, hq _ h.2⟩ | exact hq _ _ h | exact ⟨h.1, hq _ _ h.2⟩ | (simp_all; done) | (simp_all; first | exact hq _ h | exact hq _ h.2 | exact ⟨h.1, hq _ h.2⟩ | exact hq _ _ h | exact hq _ _ h.2 | exact ⟨h.1, hq _ _ h.2⟩)
theorem cmpR_mono {o : CmpOp} {r1 r2 : Sl} {Q Q' : Bool → Prop} (hq : LeB Q Q') (h : cmpR o r1 r2 M Q) : cmpR o r1 r2 M Q' := by
  cases o with
  | Eq => exact eqR_mono hq h
  | NotEq => exact eqR_mono (fun z => hq _) h
  | In => exact inR_mono hq h
  | NotIn => exact inR_mono (fun z => hq _) h
  | _ =>
    unfold cmpR at h ⊢
    simp only at h ⊢
    repeat' split at h
    all_goals first | exact h.elim | exact hq _ h | exact ⟨h.1, hq _ h.2⟩ | exact hq _ _ h | exact ⟨h.1, hq _ _ h.2⟩ | (simp_all; done) | (simp_all; first | exact hq _ h | exact hq _ h.2 | exact ⟨h.1, hq _ h.2⟩ | exact hq _ _ h | exact hq _ _ h.2 | exact ⟨h.1, hq _ _ h.2⟩)
theorem biR_mono {b : Fb} {rs : List Sl} {Q Q' : Z → Prop} (hq : LeZ Q Q') (h : biR b rs M Q) : biR b rs M Q' := by
  cases b with
  | abs =>
    cases rs with
    | nil => exact False.elim h
    | cons r rs =>
      cases rs with
      | nil =>
        cases r with
        | val d =>
          cases d with
          | int i => exact hq _ h
          | _ => exact False.elim h
        | _ => exact False.elim h
      | cons r2 rs =>
        cases r with
        | val d => cases d <;> exact False.elim h
        | _ => exact False.elim h
  | _ =>
    unfold biR at h ⊢
    simp only at h ⊢
    repeat' split at h
    all_goals first | exact h.elim | exact hq _ h | exact ⟨h.1, hq _ h.2⟩ | exact hq _ _ h | exact ⟨h.1, hq _ _ h.2⟩ | (simp_all; done) | (simp_all; first | exact hq _ h | exact hq _ h.2 | exact ⟨h.1, hq _ h.2⟩ | exact hq _ _ h | exact hq _ _ h.2 | exact ⟨h.1, hq _ _ h.2⟩)
theorem ixR_mono {r1 r2 : Sl} {Q Q' : Sl → Prop} (hq : LeS Q Q') (h : ixR r1 r2 M Q) : ixR r1 r2 M Q' := by
  unfold ixR at h ⊢
  repeat' split at h
  all_goals first | exact h.elim | exact hq _ h | exact ⟨h.1, hq _ h.2⟩ | exact hq _ _ h | exact ⟨h.1, hq _ _ h.2⟩ | (simp_all; done) | (simp_all; first | exact hq _ h | exact hq _ h.2 | exact ⟨h.1, hq _ h.2⟩ | exact hq _ _ h | exact hq _ _ h.2 | exact ⟨h.1, hq _ _ h.2⟩)
theorem mtR_mono {m : Mth} {r : Sl} {rs : List Sl} {Q Q' : Z → List C → Prop} (hq : LeZM Q Q') (h : mtR m r rs M Q) : mtR m r rs M Q' := by
  cases m with
  | pop =>
    unfold mtR at h ⊢
    simp only at h ⊢
    repeat' split at h
    all_goals first | exact h.elim | (obtain ⟨xs, d, e, q⟩ := h; simp_all; exact ⟨xs, d, ⟨rfl, rfl⟩, hq _ _ q⟩)
  | _ =>
    unfold mtR at h ⊢
    simp only at h ⊢
    repeat' split at h
    all_goals first | exact h.elim | exact hq _ h | exact ⟨h.1, hq _ h.2⟩ | exact hq _ _ h | exact ⟨h.1, hq _ _ h.2⟩ | (simp_all; done) | (simp_all; first | exact hq _ h | exact hq _ h.2 | exact ⟨h.1, hq _ h.2⟩ | exact hq _ _ h | exact hq _ _ h.2 | exact ⟨h.1, hq _ _ h.2⟩)
theorem FldS_mono {f : Str} {r : Sl} {Q Q' : Sl → Prop} (hq : LeS Q Q') (h : FldS g M f Q r) : FldS g M f Q' r := by
  cases h with
  | slo cl t hd q => exact .slo cl t hd (hq _ q)
  | sob h hj cl t hd hu q => exact .sob h hj cl t hd hu (hq _ q)
theorem zq_mono {n : Nat} {Q Q' : Z → List C → Prop} (hq : LeZM Q Q') {r : Sl} {M' : List C} (h : zq n Q r M') : zq n Q' r M' := by
  obtain ⟨z, M1, a, b, c⟩ := h
  exact ⟨z, M1, a, b, hq _ _ c⟩
theorem SpS_mono {sp : Sp} {rs : List Sl} {Q Q' : Sl → List C → Prop} (hq : ∀ r M, Q r M → Q' r M) (h : SpS g sp rs M Q) : SpS g sp rs M Q' := fun F As H vs hm hv G k => h F As H vs hm hv G fun v F' As' H' r M' s p a b c => k v F' As' H' r M' s p a b (hq _ _ c)
theorem lcW_mono {f : D → List C → (List D → List C → Prop) → Prop} {ok : List C → Prop} (hf : ∀ d M k k', (∀ o M, k o M → k' o M) → f d M k → f d M k') {Q Q' : List D → List C → Prop} (hq : ∀ o M, Q o M → Q' o M) : ∀ {ds acc M}, lcW f ok ds acc M Q → lcW f ok ds acc M Q'
  | [], _, _, h => hq _ _ h
  | d :: ds, acc, M, h => hf d M _ _ (fun o M ⟨a, b⟩ => ⟨a, lcW_mono hf hq b⟩) h
theorem dcW_mono {f : D → List C → (List (Key × D) → List C → Prop) → Prop} {ok : List C → Prop} (hf : ∀ d M k k', (∀ o M, k o M → k' o M) → f d M k → f d M k') {Q Q' : List (Key × D) → List C → Prop} (hq : ∀ o M, Q o M → Q' o M) : ∀ {ds acc M}, dcW f ok ds acc M Q → dcW f ok ds acc M Q'
  | [], _, _, h => hq _ _ h
  | d :: ds, acc, M, h => hf d M _ _ (fun o M ⟨a, b⟩ => ⟨a, dcW_mono hf hq b⟩) h
theorem bindT_mono {tg : Tg} {d : D} {Q Q' : List Sl → Prop} (hq : ∀ ρ, Q ρ → Q' ρ) (h : bindT tg d ρ Q) : bindT tg d ρ Q' := by
  unfold bindT at h ⊢
  repeat' split at h
  all_goals first | exact h.elim | exact hq _ h | (simp_all; done)
theorem MakeZ_mono {x : Str} {rs : List Sl} {Q Q' : Z → List C → Prop} (hq : LeZM Q Q') (h : MakeZ g x rs M Q) : MakeZ g x rs M Q' := by
  obtain ⟨C, k, sp, d, hk, h⟩ := h
  exact ⟨C, k, sp, d, hk, fun F As H vs hm hv G kk => h F As H vs hm hv G fun v F' As' H' r M' s p a b c => kk v F' As' H' r M' s p a b (zq_mono hq c)⟩
theorem lendR_mono {z : Z} {Q Q' : Z → List C → Prop} (hq : LeZM Q Q') (h : lendR z M Q) : lendR z M Q' := by
  unfold lendR at h ⊢
  repeat' split at h
  all_goals first | exact h.elim | exact ⟨h.1, hq _ _ h.2⟩ | (simp_all; done)
end
mutual
theorem wpR_mono (g : Gx) : ∀ (e : E) {ρ : List Sl} {M : List C} {Q Q' : Z → List C → Prop}, LeZM Q Q' → wpR g e ρ M Q → wpR g e ρ M Q'
  | .v i, ρ, M, Q, Q', hq, h => by
    unfold wpR at h ⊢
    split <;> simp_all <;> exact hq _ _ h
  | .k d, ρ, M, Q, Q', hq, h => hq _ _ h
  | .g x d, ρ, M, Q, Q', hq, h => ⟨h.1, hq _ _ h.2⟩
  | .bin o a b, ρ, M, Q, Q', hq, h => wpR_mono g a (fun _ _ => Z.fz_mono fun _ _ => wpR_mono g b fun _ _ => Z.fz_mono fun _ _ => binR_mono fun _ => hq _ _) h
  | .neg a, ρ, M, Q, Q', hq, h => wpR_mono g a (fun _ _ => Z.fz_mono fun r M h => by
      split at h
      · exact hq _ _ h
      · exact h.elim) h
  | .cmp o a b, ρ, M, Q, Q', hq, h => wpR_mono g a (fun _ _ => Z.fz_mono fun _ _ => wpR_mono g b fun _ _ => Z.fz_mono fun _ _ => cmpR_mono fun _ => hq _ _) h
  | .cmp2 o o' a b c, ρ, M, Q, Q', hq, h => wpR_mono g a (fun _ _ => Z.fz_mono fun _ _ => wpR_mono g b fun _ _ => Z.fz_mono fun _ _ => cmpR_mono fun _ ⟨h1, h2⟩ => ⟨fun e => wpR_mono g c (fun _ _ => Z.fz_mono fun _ _ => cmpR_mono fun _ => hq _ _) (h1 e), fun e => hq _ _ (h2 e)⟩) h
  | .not a, ρ, M, Q, Q', hq, h => wpR_mono g a (fun _ _ => Z.fz_mono fun r M h => by
      split at h
      · exact hq _ _ h
      · exact h.elim) h
  | .and a b, ρ, M, Q, Q', hq, h => wpR_mono g a (fun _ _ => Z.fz_mono fun r M h => by
      split at h
      · exact ⟨fun e => wpR_mono g b hq (h.1 e), fun e => hq _ _ (h.2 e)⟩
      · exact h.elim) h
  | .or a b, ρ, M, Q, Q', hq, h => wpR_mono g a (fun _ _ => Z.fz_mono fun r M h => by
      split at h
      · exact ⟨fun e => wpR_mono g b hq (h.1 e), fun e => hq _ _ (h.2 e)⟩
      · exact h.elim) h
  | .ife t a b, ρ, M, Q, Q', hq, h => wpT_mono g t (fun _ _ ⟨h1, h2⟩ => ⟨fun e => wpR_mono g a hq (h1 e), fun e => wpR_mono g b hq (h2 e)⟩) h
  | .tup as, ρ, M, Q, Q', hq, h => wpA_mono g as (fun _ _ ⟨ds, a, b, c⟩ => ⟨ds, a, b, hq _ _ c⟩) h
  | .lst as, ρ, M, Q, Q', hq, h => wpA_mono g as (fun _ _ ⟨ds, a, b, c⟩ => ⟨ds, a, b, hq _ _ c⟩) h
  | .dct ps, ρ, M, Q, Q', hq, h => wpA_mono g ps (fun _ _ ⟨ds, a, b, c⟩ => ⟨ds, a, b, hq _ _ c⟩) h
  | .orl a b, ρ, M, Q, Q', hq, h => wpR_mono g a (fun z M h => by
      split at h
      · exact hq _ _ h
      · exact wpR_mono g b hq h
      · exact h.elim) h
  | .bad, ρ, M, Q, Q', hq, h => h
  | .ix a i, ρ, M, Q, Q', hq, h => wpR_mono g a (fun _ _ => Z.fz_mono fun _ _ => wpR_mono g i fun _ _ => Z.fz_mono fun _ _ => ixR_mono fun _ => hq _ _) h
  | .cut a lo hi, ρ, M, Q, Q', hq, h => wpR_mono g a (fun _ _ => Z.fz_mono fun _ _ => wpO_mono g lo fun _ _ => wpO_mono g hi fun _ _ h => by
      split at h
      · exact hq _ _ h
      · exact hq _ _ h
      · split at h
        · exact hq _ _ h
        · exact h.elim) h
  | .rev a, ρ, M, Q, Q', hq, h => wpR_mono g a (fun _ _ => Z.fz_mono fun r M h => by
      split at h
      · exact hq _ _ h
      · exact h.elim) h
  | .fld a f, ρ, M, Q, Q', hq, h => wpR_mono g a (fun _ _ => Z.fz_mono fun r M h => FldS_mono (fun _ => hq _ _) h) h
  | .bi b as, ρ, M, Q, Q', hq, h => wpA_mono g as (fun _ _ => biR_mono fun _ => hq _ _) h
  | .isi a ts, ρ, M, Q, Q', hq, h => wpR_mono g a (fun _ _ => Z.fz_mono fun r M h => by
      split at h
      · exact ⟨h.1, hq _ _ h.2⟩
      · exact h.elim) h
  | .lenO a, ρ, M, Q, Q', hq, h => wpR_mono g a (fun _ _ => Z.fz_mono fun r M ⟨Cl, ds, k, sp, e, d, hk, h⟩ => ⟨Cl, ds, k, sp, e, d, hk, SpS_mono (fun _ _ ⟨i, a, b, c, d, e⟩ => ⟨i, a, b, c, d, hq _ _ e⟩) h⟩) h
  | .call x as, ρ, M, Q, Q', hq, h => ⟨h.1, wpA_mono g as (fun _ _ ⟨k, sp, d, hk, h⟩ => ⟨k, sp, d, hk, SpS_mono (fun _ _ => zq_mono hq) h⟩) h.2⟩
  | .callk x ks as, ρ, M, Q, Q', hq, h => ⟨h.1, wpA_mono g as (fun _ _ ⟨k, ix, sp, d, hk, hl, h⟩ => ⟨k, ix, sp, d, hk, hl, SpS_mono (fun _ _ => zq_mono hq) h⟩) h.2⟩
  | .meth a m as, ρ, M, Q, Q', hq, h => wpR_mono g a (fun _ _ => Z.fz_mono fun r M ⟨Cl, hM, h⟩ => ⟨Cl, hM, wpA_mono g as (fun _ _ ⟨k, sp, d, hk, h⟩ => ⟨k, sp, d, hk, SpS_mono (fun _ _ => zq_mono hq) h⟩) h⟩) h
  | .make x as, ρ, M, Q, Q', hq, h => ⟨h.1, wpA_mono g as (fun _ _ => MakeZ_mono hq) h.2⟩
  | .mt a m as, ρ, M, Q, Q', hq, h => wpR_mono g a (fun _ _ => Z.fz_mono fun r M ⟨h1, h⟩ => ⟨h1, wpA_mono g as (fun _ _ => mtR_mono hq) h⟩) h
  | .lc gs own, ρ, M, Q, Q', hq, h => wpG_mono g gs (fun _ _ => hq _ _) h
  | .dc gs own, ρ, M, Q, Q', hq, h => wpD_mono g gs (fun _ _ => hq _ _) h
  | .own a, ρ, M, Q, Q', hq, h => wpR_mono g a (fun z M h => by
      split at h
      · exact hq _ _ h
      · exact h.elim) h
  | .lend a, ρ, M, Q, Q', hq, h => wpR_mono g a (fun _ _ => lendR_mono hq) h
theorem wpT_mono (g : Gx) : ∀ (t : Te) {ρ : List Sl} {M : List C} {Q Q' : Bool → List C → Prop}, (∀ t M, Q t M → Q' t M) → wpT g t ρ M Q → wpT g t ρ M Q'
  | .not a, ρ, M, Q, Q', hq, h => wpT_mono g a (fun _ _ => hq _ _) h
  | .and a b, ρ, M, Q, Q', hq, h => wpT_mono g a (fun _ _ ⟨h1, h2⟩ => ⟨fun e => wpT_mono g b hq (h1 e), fun e => hq _ _ (h2 e)⟩) h
  | .or a b, ρ, M, Q, Q', hq, h => wpT_mono g a (fun _ _ ⟨h1, h2⟩ => ⟨fun e => wpT_mono g b hq (h1 e), fun e => hq _ _ (h2 e)⟩) h
  | .cmp o a b, ρ, M, Q, Q', hq, h => wpR_mono g a (fun _ _ => Z.fz_mono fun _ _ => wpR_mono g b fun _ _ => Z.fz_mono fun _ _ => cmpR_mono fun _ => hq _ _) h
  | .e a, ρ, M, Q, Q', hq, h => wpR_mono g a (fun _ _ => Z.fz_mono fun r M h => by
      split at h
      · exact hq _ _ h
      · exact h.elim) h
theorem wpA_mono (g : Gx) : ∀ (as : Es) {ρ : List Sl} {M : List C} {Q Q' : List Sl → List C → Prop}, (∀ t M, Q t M → Q' t M) → wpA g as ρ M Q → wpA g as ρ M Q'
  | .nil, ρ, M, Q, Q', hq, h => hq _ _ h
  | .cons e es, ρ, M, Q, Q', hq, h => wpR_mono g e (fun _ _ => Z.fz_mono fun _ _ => wpA_mono g es fun _ _ => hq _ _) h
  | .star e es, ρ, M, Q, Q', hq, h => wpR_mono g e (fun _ _ => Z.fz_mono fun r M h => by
      split at h
      · exact wpA_mono g es (fun _ _ => hq _ _) h
      · exact h.elim) h
theorem wpO_mono (g : Gx) : ∀ (o : Eo) {ρ : List Sl} {M : List C} {Q Q' : Option Int → List C → Prop}, (∀ t M, Q t M → Q' t M) → wpO g o ρ M Q → wpO g o ρ M Q'
  | .none, ρ, M, Q, Q', hq, h => hq _ _ h
  | .some e, ρ, M, Q, Q', hq, h => wpR_mono g e (fun _ _ => Z.fz_mono fun r M h => by
      split at h
      · exact hq _ _ h
      · exact h.elim) h
theorem wpI_mono (g : Gx) : ∀ (i : It) {ρ : List Sl} {M : List C} {Q Q' : List D → List Nat → List C → Prop}, (∀ t k M, Q t k M → Q' t k M) → wpI g i ρ M Q → wpI g i ρ M Q'
  | .e a, ρ, M, Q, Q', hq, h => wpR_mono g a (fun _ _ => Z.fz_mono fun r M h => by
      split at h
      · exact hq _ _ _ h
      · exact h.elim) h
  | .r1 a, ρ, M, Q, Q', hq, h => wpR_mono g a (fun _ _ => Z.fz_mono fun r M h => by
      split at h
      · exact ⟨h.1, hq _ _ _ h.2⟩
      · exact h.elim) h
  | .r2 a b, ρ, M, Q, Q', hq, h => wpR_mono g a (fun _ _ => Z.fz_mono fun _ _ => wpR_mono g b fun _ _ => Z.fz_mono fun r M h => by
      split at h
      · exact ⟨h.1, hq _ _ _ h.2⟩
      · exact h.elim) h
  | .rd a b, ρ, M, Q, Q', hq, h => wpR_mono g a (fun _ _ => Z.fz_mono fun _ _ => wpR_mono g b fun _ _ => Z.fz_mono fun r M h => by
      split at h
      · exact ⟨h.1, hq _ _ _ h.2⟩
      · exact h.elim) h
  | .en a, ρ, M, Q, Q', hq, h => wpR_mono g a (fun _ _ => Z.fz_mono fun r M h => by
      split at h
      · exact hq _ _ _ h
      · exact h.elim) h
  | .zp a b, ρ, M, Q, Q', hq, h => wpR_mono g a (fun _ _ => Z.fz_mono fun _ _ => wpR_mono g b fun _ _ => Z.fz_mono fun r M h => by
      split at h
      · exact hq _ _ _ h
      · exact hq _ _ _ h
      · exact h.elim) h
  | .items a, ρ, M, Q, Q', hq, h => h
  | .vals a, ρ, M, Q, Q', hq, h => h
theorem wpG_mono (g : Gx) : ∀ (gs : Gs) {ρ : List Sl} {M : List C} {Q Q' : List D → List C → Prop}, (∀ t M, Q t M → Q' t M) → wpG g gs ρ M Q → wpG g gs ρ M Q'
  | .last tg it ifs elt, ρ, M, Q, Q', hq, h => by
    refine wpI_mono g it (fun _ _ _ h => ⟨h.1, ?_⟩) h
    refine lcW_mono ?_ hq h.2
    intro d M k k' hk h
    refine bindT_mono (fun ρ2 h => ?_) h
    refine wpTs_mono g ifs (fun t M2 h => ⟨fun e => ?_, fun e => hk _ _ (h.2 e)⟩) h
    refine wpR_mono g elt (fun _ _ => Z.fz_mono fun r M h => ?_) (h.1 e)
    split at h
    · exact hk _ _ h
    · exact h.elim
  | .dlast _ _ _ _ _, ρ, M, Q, Q', hq, h => h
  | .cons tg it ifs gs, ρ, M, Q, Q', hq, h => by
    refine wpI_mono g it (fun _ _ _ h => ⟨h.1, ?_⟩) h
    refine lcW_mono ?_ hq h.2
    intro d M k k' hk h
    refine bindT_mono (fun ρ2 h => ?_) h
    refine wpTs_mono g ifs (fun t M2 h => ⟨fun e => ?_, fun e => hk _ _ (h.2 e)⟩) h
    exact wpG_mono g gs (fun _ _ h => ⟨h.1, hk _ _ h.2⟩) (h.1 e)
theorem wpD_mono (g : Gx) : ∀ (gs : Gs) {ρ : List Sl} {M : List C} {Q Q' : List (Key × D) → List C → Prop}, (∀ t M, Q t M → Q' t M) → wpD g gs ρ M Q → wpD g gs ρ M Q'
  | .last tg it ifs elt, ρ, M, Q, Q', hq, h => h
  | .cons tg it ifs gs, ρ, M, Q, Q', hq, h => h
  | .dlast tg it ifs ke ve, ρ, M, Q, Q', hq, h => by
    refine wpI_mono g it (fun _ _ _ h => ⟨h.1, ?_⟩) h
    refine dcW_mono ?_ hq h.2
    intro d M k k' hk h
    refine bindT_mono (fun ρ2 h => ?_) h
    refine wpTs_mono g ifs (fun t M2 h => ⟨fun e => ?_, fun e => hk _ _ (h.2 e)⟩) h
    refine wpR_mono g ke (fun _ _ => Z.fz_mono fun _ _ => wpR_mono g ve fun _ _ => Z.fz_mono fun r M h => ?_) (h.1 e)
    split at h
    · split at h
      · exact hk _ _ h
      · exact h.elim
    · exact h.elim
theorem wpTs_mono (g : Gx) : ∀ (t : Tl) {ρ : List Sl} {M : List C} {Q Q' : Bool → List C → Prop}, (∀ t M, Q t M → Q' t M) → wpTs g t ρ M Q → wpTs g t ρ M Q'
  | .nil, ρ, M, Q, Q', hq, h => hq _ _ h
  | .one t, ρ, M, Q, Q', hq, h => wpT_mono g t hq h
end
/-- an assignment, with what is known of the value -/
theorem asg_cut {g : Gx} {i : Nat} {e : E} {ρ : List Sl} {M : List C} {Q : DE} (P : Sl → List C → Prop) (h : wpR g e ρ M fun z M1 => z.fz M1 P) (hn : ∀ r M', P r M' → Q.nx (pt ρ i r) M') : wpS g (.asg i e) ρ M Q := wpR_mono g e (fun _ _ => Z.fz_mono hn) h
theorem bin_cut {g : Gx} {o : Operator} {a b : E} {ρ : List Sl} {M : List C} {Q : Z → List C → Prop} (P : Sl → List C → Prop) (h : wpR g a ρ M fun z M1 => z.fz M1 P) (hn : ∀ r M', P r M' → wpR g b ρ M' fun z M2 => z.fz M2 fun r2 M2 => binR o r r2 M2 fun z => Q z M2) : wpR g (.bin o a b) ρ M Q := wpR_mono g a (fun _ _ => Z.fz_mono hn) h
theorem par_cut {g : Gx} {is : List Nat} {e : E} {es : Es} {ρ : List Sl} {M : List C} {Q : DE} (P : Sl → List C → Prop) (h : wpR g e ρ M fun z M1 => z.fz M1 P) (hn : ∀ r M', P r M' → wpA g es ρ M' fun rs M2 => (r :: rs).length = is.length ∧ Q.nx (pts ρ is (r :: rs)) M2) : wpS g (.par is (.cons e es)) ρ M Q := wpR_mono g e (fun _ _ => Z.fz_mono hn) h
theorem ite_cut {g : Gx} {t : Te} {a b : Ss} {ρ : List Sl} {M : List C} {Q : DE} (P : Bool → List C → Prop) (h : wpT g t ρ M P) (h1 : ∀ M', P true M' → wpSs g a ρ M' Q) (h2 : ∀ M', P false M' → wpSs g b ρ M' Q) : wpS g (.ite t a b) ρ M Q := wpT_mono g t (fun t M' h => ⟨fun e => by subst e; exact h1 M' h, fun e => by subst e; exact h2 M' h⟩) h
end Dl

/-! X30: calls by keywords, from the text -/
namespace Dl
open PySem L2
theorem vals_getD {zs : List V} {ws : List Value} (h : Vals zs ws) (i : Nat) : RelV (zs.getD i .non) (ws.getD i .none) := by
  rw [List.getD_eq_getElem?_getD, List.getD_eq_getElem?_getD]
  cases e : zs[i]? with
  | none => rw [Vals.none_of h e]; exact rfl
  | some z =>
    obtain ⟨u, h1, h2⟩ := Vals.get h e
    rw [h1]; exact h2
theorem perm_rel {n : Nat} {idx : List Nat} {vs zs : List V} {us ws : List Value} (hv : Vals vs us) (h : Vals zs ws) : Vals (permV n idx vs zs) (permU n idx us ws) := by
  unfold permV permU
  rw [← h.length, ← hv.length]
  split
  · induction idx with
    | nil => exact .nil
    | cons i r ih => exact .cons (vals_getD h i) ih
  · exact .nil
theorem kb_of {K : PySem.W.Frag} {x qual : Str} {st : Stmt} {f : Addr} {fd : FuncData} {ps ks : List Str} {idx : List Nat} (F : Fun K x qual st f fd) (hi : 0 < ps.length)
    (h : ∀ (kV doc pm : Value) (an : Option Addr) (cdv ct : Value) (ws : List Value), ws.length = ks.length → bindArgs (PySem.W.fnOf x qual (defArgs st) (defBody st) (defScope st) .none kV doc pm an cdv ct) ⟨[], ks.zip ws⟩ = pure (ps.zip (idx.map fun i => ws.getD i .none))) : KBinds K fd ps ks (permU ks.length idx) (permV ks.length idx) := by
  obtain ⟨oc, od, kV, doc, pm, an, cdv, ct, osl, rfl, lk, hcd⟩ := F.ex
  refine ⟨fun s us ws _ hl => ?_, fun h1 h2 => perm_rel h1 h2⟩
  by_cases hc : us.length = 0 ∧ ws.length = ks.length
  · have e : permU ks.length idx us ws = idx.map fun i => ws.getD i .none := by unfold permU; rw [if_pos hc]
    rw [e]
    have eu : us = [] := List.length_eq_zero_iff.mp hc.1
    subst eu
    exact .of_eq (h kV doc pm an cdv ct ws hc.2)
  · have e : permU ks.length idx us ws = [] := by unfold permU; rw [if_neg hc]
    rw [e] at hl
    simp at hl
    omega
end Dl

/-! PG: graphs as data, in plain Lean -/
namespace Dl
open PySem L2
def IsSeq (d : D) (ds : List D) : Prop := d = .lst ds ∨ d = .tup ds
theorem sq_seq {d : D} {ds : List D} (h : IsSeq d ds) : ∃ t, ∀ M, sq M (.val d) = some (t, ds) := by
  rcases h with rfl | rfl
  · exact ⟨_, fun _ => rfl⟩
  · exact ⟨_, fun _ => rfl⟩
theorem rf_seq {d : D} : (Sl.val d).refs = [] := rfl
theorem atI_of {α : Type} {xs : List α} {i : Int} {x : α} (h0 : 0 ≤ i) (h : xs[i.toNat]? = some x) : atI xs i = some x := by
  have := atI_nat h
  rwa [Int.toNat_of_nonneg h0] at this
theorem atI_getD {α : Type} {xs : List α} {i : Int} {z : α} (h0 : 0 ≤ i) (h1 : i < xs.length) : atI xs i = some (xs.getD i.toNat z) := by
  refine atI_of h0 ?_
  have : i.toNat < xs.length := by omega
  rw [List.getElem?_eq_getElem this, List.getD_eq_getElem?_getD, List.getElem?_eq_getElem this]; rfl
theorem atI_map {α : Type} {f : α → D} {xs : List α} {i : Int} {z : α} (h0 : 0 ≤ i) (h1 : i < xs.length) : atI (xs.map f) i = some (f (xs.getD i.toNat z)) := by
  refine atI_of h0 ?_
  have : i.toNat < xs.length := by omega
  rw [List.getElem?_map, List.getElem?_eq_getElem this, List.getD_eq_getElem?_getD, List.getElem?_eq_getElem this]; rfl
theorem ixN_of {n : Nat} {i : Int} (h0 : 0 ≤ i) (h1 : i < n) : ixN n i = some i.toNat := by
  have h : atI (List.range n) i = some i.toNat := atI_of h0 (List.getElem?_range (by omega))
  unfold atI at h
  rw [List.length_range] at h
  cases e : ixN n i with
  | none => rw [e] at h; cases h
  | some j =>
    rw [e] at h
    have h : (List.range n)[j]? = some i.toNat := h
    obtain ⟨q1, q2⟩ := List.getElem?_eq_some_iff.mp h
    rw [List.getElem_range] at q2
    rw [q2]

/-! ### graphs -/
abbrev Gr := List (Int × List Int)
def rowT (r : Int × List Int) : D := .tup [.int r.1, .tup (r.2.map D.int)]
def rowL (r : Int × List Int) : D := .lst [.int r.1, .lst (r.2.map D.int)]
def gT (g : Gr) : D := .tup (g.map rowT)
def gL (g : Gr) : D := .lst (g.map rowL)
def IsRow (r : Int × List Int) (d : D) : Prop := ∃ pd, IsSeq d [.int r.1, pd] ∧ IsSeq pd (r.2.map D.int)
def IsG (g : Gr) (d : D) : Prop := ∃ ps : List ((Int × List Int) × D), ps.map (·.1) = g ∧ IsSeq d (ps.map (·.2)) ∧ ∀ p ∈ ps, IsRow p.1 p.2
theorem isG_T (g : Gr) : IsG g (gT g) := ⟨g.map fun r => (r, rowT r), by rw [List.map_map]; exact List.map_id'' (fun _ => rfl) _, .inr (by unfold gT; rw [List.map_map]; rfl), fun p hp => by
  obtain ⟨r, _, rfl⟩ := List.mem_map.mp hp
  exact ⟨_, .inr rfl, .inr rfl⟩⟩
theorem isG_L (g : Gr) : IsG g (gL g) := ⟨g.map fun r => (r, rowL r), by rw [List.map_map]; exact List.map_id'' (fun _ => rfl) _, .inl (by unfold gL; rw [List.map_map]; rfl), fun p hp => by
  obtain ⟨r, _, rfl⟩ := List.mem_map.mp hp
  exact ⟨_, .inl rfl, .inl rfl⟩⟩
/-- a graph as [4] has it, small -/
structure WF (g : Gr) : Prop where
  len : g.length ≤ 24
  row : ∀ (i : Nat) (r : Int × List Int), g[i]? = some r → 0 ≤ r.1 ∧ r.1 ≤ 1000000 ∧ r.2.Pairwise (· < ·) ∧ ∀ p ∈ r.2, 0 ≤ p ∧ p < (i : Int)
def gdate (g : Gr) (i : Int) : Int := (g.getD i.toNat (0, [])).1
def gpar (g : Gr) (i : Int) : List Int := (g.getD i.toNat (0, [])).2
theorem asc_len : ∀ (l : List Int) (n : Nat), l.Pairwise (· < ·) → (∀ p ∈ l, 0 ≤ p ∧ p < (n : Int)) → l.length ≤ n
  | [], _, _, _ => Nat.zero_le _
  | x :: l, n, h, b => by
    have h' := List.pairwise_cons.mp h
    have hx := b x List.mem_cons_self
    have key : ∀ (l : List Int) (lo : Int), l.Pairwise (· < ·) → (∀ p ∈ l, lo < p ∧ p < (n : Int)) → (l.length : Int) ≤ n - lo - 1 ∨ l = [] := by
      intro l
      induction l with
      | nil => exact fun _ _ _ => .inr rfl
      | cons y r ih =>
        intro lo h b
        have h' := List.pairwise_cons.mp h
        have hy := b y List.mem_cons_self
        left
        rcases ih y h'.2 (fun p hp => ⟨h'.1 p hp, (b p (List.mem_cons_of_mem _ hp)).2⟩) with z | z
        · simp; omega
        · subst z; simp; omega
    rcases key l x h'.2 (fun p hp => ⟨h'.1 p hp, (b p (List.mem_cons_of_mem _ hp)).2⟩) with z | z
    · simp; omega
    · subst z; simp; omega
theorem getD_some {α : Type} {xs : List α} {i : Int} {z : α} (h0 : 0 ≤ i) (h1 : i < xs.length) : xs[i.toNat]? = some (xs.getD i.toNat z) := by
  have : i.toNat < xs.length := by omega
  rw [List.getElem?_eq_getElem this, List.getD_eq_getElem?_getD, List.getElem?_eq_getElem this]; rfl
section
variable {g : Gr} {i : Int}
theorem WF.at (h : WF g) (h0 : 0 ≤ i) (h1 : i < g.length) : 0 ≤ gdate g i ∧ gdate g i ≤ 1000000 ∧ (gpar g i).Pairwise (· < ·) ∧ ∀ p ∈ gpar g i, 0 ≤ p ∧ p < i := by
  have := h.row i.toNat _ (getD_some (z := (0, [])) h0 h1)
  refine ⟨this.1, this.2.1, this.2.2.1, fun p hp => ?_⟩
  have := this.2.2.2 p hp
  omega
theorem WF.parlen (h : WF g) (h0 : 0 ≤ i) (h1 : i < g.length) : (gpar g i).length ≤ 24 := by
  have w := h.at h0 h1
  have := asc_len (gpar g i) i.toNat w.2.2.1 fun p hp => ⟨(w.2.2.2 p hp).1, by have := (w.2.2.2 p hp).2; omega⟩
  have := h.len
  omega
end
/-- the object that Graph(graph) makes -/
def grO (C : Addr) (g : Gr) : D := .slo C [.lst ((g.map (·.1)).map D.int), .lst (g.map fun r => .tup (r.2.map D.int)), .dic [] []]
theorem filt_true {α : Type} (xs : List α) : xs.filter (fun _ => true) = xs := List.filter_eq_self.mpr fun _ _ => rfl
theorem rng_mem {lo x : Int} {n : Nat} : x ∈ rng lo n ↔ lo ≤ x ∧ x < lo + n := by
  unfold rng
  rw [List.mem_map]
  constructor
  · rintro ⟨i, hi, rfl⟩
    have := List.mem_range.mp hi
    omega
  · intro h
    exact ⟨(x - lo).toNat, List.mem_range.mpr (by omega), by omega⟩

/-- x is one of ns, or a parent of one that is had -/
inductive Anc (g : Gr) (ns : List Int) : Int → Prop
  | base {x : Int} : x ∈ ns → Anc g ns x
  | step {y p : Int} : Anc g ns y → 0 ≤ y → y < g.length → p ∈ gpar g y → Anc g ns p
def sweepL (st : Nat → List Int → List Int) : Nat → List Int → List Int
  | 0, ks => ks
  | n + 1, ks => sweepL st n (st n ks)
theorem Anc.in_ {g : Gr} (hw : WF g) {ns : List Int} (h : ∀ x ∈ ns, 0 ≤ x ∧ x < g.length) {x : Int} (a : Anc g ns x) : 0 ≤ x ∧ x < g.length := by
  induction a with
  | base hx => exact h _ hx
  | step _ h0 h1 hp _ => have := (hw.at h0 h1).2.2.2 _ hp; omega
theorem sweep_sound {g : Gr} {st : Nat → List Int → List Int} (hst : ∀ i ks, i < g.length → ∀ x, x ∈ st i ks ↔ x ∈ ks ∨ ((i : Int) ∈ ks ∧ x ∈ gpar g i)) {ns : List Int} : ∀ (n : Nat) (ks : List Int), n ≤ g.length → (∀ x ∈ ks, Anc g ns x) → ∀ x ∈ sweepL st n ks, Anc g ns x
  | 0, ks, _, h => h
  | n + 1, ks, hn, h => sweep_sound hst n (st n ks) (by omega) fun x hx => by
    rcases (hst n ks (by omega) x).mp hx with z | ⟨z1, z2⟩
    · exact h x z
    · exact .step (h _ z1) (by omega) (by omega) z2
theorem sweep_sub {g : Gr} {st : Nat → List Int → List Int} (hst : ∀ i ks, i < g.length → ∀ x, x ∈ st i ks ↔ x ∈ ks ∨ ((i : Int) ∈ ks ∧ x ∈ gpar g i)) : ∀ (n : Nat) (ks : List Int), n ≤ g.length → ∀ x ∈ ks, x ∈ sweepL st n ks
  | 0, ks, _, x, h => h
  | n + 1, ks, hn, x, h => sweep_sub hst n (st n ks) (by omega) x ((hst n ks (by omega) x).mpr (.inl h))
/-- those at n and above are closed already, and what comes lies below -/
theorem sweep_closed {g : Gr} (hw : WF g) {st : Nat → List Int → List Int} (hst : ∀ i ks, i < g.length → ∀ x, x ∈ st i ks ↔ x ∈ ks ∨ ((i : Int) ∈ ks ∧ x ∈ gpar g i)) : ∀ (n : Nat) (ks : List Int), n ≤ g.length → (∀ y ∈ ks, (n : Int) ≤ y → y < g.length → ∀ p ∈ gpar g y, p ∈ ks) →
    ∀ y ∈ sweepL st n ks, 0 ≤ y → y < g.length → ∀ p ∈ gpar g y, p ∈ sweepL st n ks
  | 0, ks, _, h => fun y hy h0 h1 p hp => h y hy h0 h1 p hp
  | n + 1, ks, hn, h => sweep_closed hw hst n (st n ks) (by omega) fun y hy h0 h1 p hp => by
    have hnl : n < g.length := by omega
    refine (hst n ks hnl p).mpr ?_
    rcases (hst n ks hnl y).mp hy with z | ⟨z1, z2⟩
    · by_cases e : y = (n : Int)
      · subst e; exact .inr ⟨z, hp⟩
      · exact .inl (h y z (by omega) h1 p hp)
    · have := (hw.at (i := (n : Int)) (by omega) (by omega)).2.2.2 _ z2
      omega
theorem sweep_mem {g : Gr} (hw : WF g) {st : Nat → List Int → List Int} (hst : ∀ i ks, i < g.length → ∀ x, x ∈ st i ks ↔ x ∈ ks ∨ ((i : Int) ∈ ks ∧ x ∈ gpar g i)) {ns : List Int} (h : ∀ x ∈ ns, 0 ≤ x ∧ x < g.length) (ks : List Int) (hks : ∀ x, x ∈ ks ↔ x ∈ ns) (x : Int) :
    x ∈ sweepL st g.length ks ↔ Anc g ns x := by
  constructor
  · exact sweep_sound hst g.length ks (Nat.le_refl _) (fun x hx => .base ((hks x).mp hx)) x
  · intro a
    induction a with
    | base hx => exact sweep_sub hst _ _ (Nat.le_refl _) _ ((hks _).mpr hx)
    | step ha h0 h1 hp ih => exact sweep_closed hw hst g.length ks (Nat.le_refl _) (fun y hy z0 z1 => by omega) _ ih h0 h1 _ hp
/-- a parent's ancestors lie below -/
theorem Anc.of_one {g : Gr} (hw : WF g) {b x : Int} (hb : 0 ≤ b ∧ b < g.length) (a : Anc g [b] x) : x = b ∨ Anc g (gpar g b) x := by
  induction a with
  | base hx => exact .inl (List.mem_singleton.mp hx)
  | step ha h0 h1 hp ih =>
    rcases ih with rfl | ih
    · exact .inr (.base hp)
    · exact .inr (.step ih h0 h1 hp)
theorem Anc.le {g : Gr} (hw : WF g) {ns : List Int} {x m : Int} (hm : ∀ y ∈ ns, y ≤ m) (a : Anc g ns x) : x ≤ m := by
  induction a with
  | base hx => exact hm _ hx
  | step _ h0 h1 hp ih => have := (hw.at h0 h1).2.2.2 _ hp; omega
theorem Anc.mono {g : Gr} {ns ms : List Int} (h : ∀ y ∈ ns, Anc g ms y) {x : Int} (a : Anc g ns x) : Anc g ms x := by
  induction a with
  | base hx => exact h _ hx
  | step _ h0 h1 hp ih => exact .step ih h0 h1 hp
theorem Anc.some {g : Gr} {ns : List Int} {x : Int} (a : Anc g ns x) : ∃ y ∈ ns, Anc g [y] x := by
  induction a with
  | base hx => exact ⟨_, hx, .base (by simp)⟩
  | step _ h0 h1 hp ih => obtain ⟨y, h, a⟩ := ih; exact ⟨y, h, .step a h0 h1 hp⟩
/-- below the common ones: had by parents of theirs, or by another of them -/
theorem below_iff {g : Gr} (hw : WF g) {both : List Int} (hb : ∀ y ∈ both, 0 ≤ y ∧ y < g.length) {x : Int} : Anc g (both.flatMap (gpar g)) x ↔ ∃ y ∈ both, y ≠ x ∧ Anc g [y] x := by
  constructor
  · intro a
    obtain ⟨p, hp, a⟩ := a.some
    obtain ⟨y, hy, hp⟩ := List.mem_flatMap.mp hp
    have hy' := hb y hy
    have hlt := (hw.at hy'.1 hy'.2).2.2.2 _ hp
    have := a.le hw (m := p) (fun z hz => by rw [List.mem_singleton] at hz; omega)
    exact ⟨y, hy, by omega, a.mono fun z hz => by rw [List.mem_singleton] at hz; subst hz; exact .step (.base (by simp)) hy'.1 hy'.2 hp⟩
  · rintro ⟨y, hy, ne, a⟩
    rcases a.of_one hw (hb y hy) with e | a
    · exact absurd e.symm ne
    · exact a.mono fun z hz => .base (List.mem_flatMap.mpr ⟨y, hy, hz⟩)

def addI (ks : List Int) (p : Int) : List Int := if p ∈ ks then ks else ks ++ [p]
def dT (ks : List Int) : List (Key × D) := ks.map fun n => (.inl n, .bl true)
theorem dT_any (ks : List Int) (p : Int) : ((dT ks).any fun q => decide (q.1 = (Sum.inl p : Key))) = decide (p ∈ ks) := by
  induction ks with
  | nil => rfl
  | cons k ks ih =>
    show (decide ((Sum.inl k : Key) = Sum.inl p) || (dT ks).any _) = _
    rw [ih]
    by_cases e : k = p
    · subst e; simp
    · have : ¬ (Sum.inl k : Key) = Sum.inl p := fun z => e (by injection z)
      simp [this, Ne.symm e]
theorem put_dT (ks : List Int) (p : Int) : putD (dT ks) (.inl p) (.bl true) = dT (addI ks p) := by
  unfold putD addI
  rw [dT_any]
  by_cases h : p ∈ ks
  · rw [if_pos (decide_eq_true h), if_pos h]
    unfold dT
    rw [List.map_map]
    refine List.map_congr_left fun n _ => ?_
    show (if (Sum.inl n : Key) = Sum.inl p then ((Sum.inl n : Key), D.bl true) else (Sum.inl n, D.bl true)) = _
    split <;> rfl
  · rw [if_neg (by simpa using h), if_neg h]
    unfold dT
    rw [List.map_append]; rfl
theorem find_any {α : Type} (f : α → Bool) : ∀ l : List α, (l.find? f).isSome = l.any f
  | [] => rfl
  | x :: l => by
    rw [List.find?_cons, List.any_cons]
    cases e : f x with
    | true => rfl
    | false => simpa using find_any f l
theorem get_dT (ks : List Int) (p : Int) : (getK (dT ks) (.inl p)).isSome = decide (p ∈ ks) := by
  rw [← dT_any]
  unfold getK
  rw [Option.isSome_map]
  exact find_any _ _
theorem all_dT (ns : List Int) : mergeD [] (ns.map fun x => ((Sum.inl x : Key), D.bl true)) = dT (ns.foldl addI []) := by
  have key : ∀ (l : List Int) (acc : List Int), mergeD (dT acc) (l.map fun x => ((Sum.inl x : Key), D.bl true)) = dT (l.foldl addI acc) := by
    intro l
    induction l with
    | nil => exact fun _ => rfl
    | cons x l ih =>
      intro acc
      show mergeD (putD (dT acc) (.inl x) (.bl true)) (l.map _) = _
      rw [put_dT, ih]; rfl
  exact key ns []
theorem mem_addI {ks : List Int} {p x : Int} : x ∈ addI ks p ↔ x ∈ ks ∨ x = p := by
  unfold addI
  split
  · rename_i h
    constructor
    · exact .inl
    · rintro (z | rfl)
      · exact z
      · exact h
  · simp
theorem mem_addAll {x : Int} : ∀ {l ks : List Int}, x ∈ l.foldl addI ks ↔ x ∈ ks ∨ x ∈ l
  | [], ks => by simp
  | p :: l, ks => by rw [List.foldl_cons, mem_addAll, mem_addI, List.mem_cons, or_assoc]
theorem nd_addI {ks : List Int} {p : Int} (h : ks.Nodup) : (addI ks p).Nodup := by
  unfold addI
  split
  · exact h
  · rename_i z
    rw [List.nodup_append]
    exact ⟨h, by simp, fun a ha b hb => by rw [List.mem_singleton] at hb; subst hb; exact fun e => z (e ▸ ha)⟩
theorem nd_addAll : ∀ {l ks : List Int}, ks.Nodup → (l.foldl addI ks).Nodup
  | [], _, h => h
  | _ :: l, _, h => nd_addAll (l := l) (nd_addI h)
theorem asc_isort {l : List Int} (h : l.Nodup) : (isort l).Pairwise (· < ·) := by
  have h1 := isort_sorted l
  have h2 : (isort l).Nodup := (isort_perm l).symm.nodup h
  exact (h1.and h2).imp fun ⟨a, b⟩ => by omega
theorem nd_len {l : List Int} {n : Nat} (h : l.Nodup) (hb : ∀ x ∈ l, 0 ≤ x ∧ x < (n : Int)) : l.length ≤ n := by
  rw [← (isort_perm l).length_eq]
  exact asc_len _ n (asc_isort h) fun p hp => hb p ((isort_perm l).mem_iff.mp hp)
def hadSt (g : Gr) (i : Nat) (ks : List Int) : List Int := if (i : Int) ∈ ks then (gpar g i).foldl addI ks else ks
theorem hadSt_mem (g : Gr) (i : Nat) (ks : List Int) (_ : i < g.length) (x : Int) : x ∈ hadSt g i ks ↔ x ∈ ks ∨ ((i : Int) ∈ ks ∧ x ∈ gpar g i) := by
  unfold hadSt
  split
  · rename_i h; rw [mem_addAll]; simp [h]
  · rename_i h; simp [h]
theorem nd_hadSt {g : Gr} {i : Nat} {ks : List Int} (h : ks.Nodup) : (hadSt g i ks).Nodup := by
  unfold hadSt
  split
  · exact nd_addAll h
  · exact h
def hadL (g : Gr) (ns : List Int) : List Int := isort (sweepL (hadSt g) g.length (ns.foldl addI []))
theorem mem_hadL {g : Gr} (hw : WF g) {ns : List Int} (h : ∀ x ∈ ns, 0 ≤ x ∧ x < g.length) (x : Int) : x ∈ hadL g ns ↔ Anc g ns x := by
  unfold hadL
  rw [(isort_perm _).mem_iff]
  exact sweep_mem hw (hadSt_mem g) h _ (fun y => by rw [mem_addAll]; simp) x

def bothL (g : Gr) (a b : Int) : List Int := (hadL g [a]).filter fun x => decide (x ∈ hadL g [b])
def nearL (g : Gr) (a b : Int) : List Int := (bothL g a b).filter fun x => !decide (x ∈ hadL g ((bothL g a b).flatMap (gpar g)))
theorem one_in {g : Gr} {a : Int} (h : 0 ≤ a ∧ a < g.length) : ∀ x ∈ [a], 0 ≤ x ∧ x < (g.length : Int) := fun x hx => by rw [List.mem_singleton] at hx; subst hx; exact h
theorem hadL_in {g : Gr} (hw : WF g) {ns : List Int} (h : ∀ x ∈ ns, 0 ≤ x ∧ x < g.length) {x : Int} (hx : x ∈ hadL g ns) : 0 ≤ x ∧ x < g.length := ((mem_hadL hw h x).mp hx).in_ hw h
theorem nd_sweep {g : Gr} {st : Nat → List Int → List Int} (h : ∀ i ks, i < g.length → ks.Nodup → (st i ks).Nodup) : ∀ (n : Nat) (ks : List Int), n ≤ g.length → ks.Nodup → (sweepL st n ks).Nodup
  | 0, _, _, z => z
  | n + 1, ks, hn, z => nd_sweep h n _ (by omega) (h n ks (by omega) z)
theorem asc_hadL (g : Gr) (ns : List Int) : (hadL g ns).Pairwise (· < ·) := asc_isort (nd_sweep (fun _ _ _ z => nd_hadSt z) _ _ (Nat.le_refl _) (nd_addAll List.nodup_nil))
theorem hadL_len {g : Gr} (hw : WF g) {ns : List Int} (h : ∀ x ∈ ns, 0 ≤ x ∧ x < g.length) : (hadL g ns).length ≤ 24 := Nat.le_trans (asc_len _ g.length (asc_hadL g ns) fun p hp => hadL_in hw h hp) hw.len
theorem bothL_in {g : Gr} (hw : WF g) {a b : Int} (ha : 0 ≤ a ∧ a < g.length) : ∀ x ∈ bothL g a b, 0 ≤ x ∧ x < g.length := fun x hx => hadL_in hw (one_in ha) (List.mem_filter.mp hx).1
theorem bothL_len {g : Gr} (hw : WF g) {a b : Int} (ha : 0 ≤ a ∧ a < g.length) : (bothL g a b).length ≤ 24 := Nat.le_trans (List.length_filter_le _ _) (hadL_len hw (one_in ha))
theorem flat_in {g : Gr} (hw : WF g) {l : List Int} (h : ∀ x ∈ l, 0 ≤ x ∧ x < g.length) : ∀ x ∈ l.flatMap (gpar g), 0 ≤ x ∧ x < g.length := fun x hx => by
  obtain ⟨y, hy, hp⟩ := List.mem_flatMap.mp hx
  have hy := h y hy
  have := (hw.at hy.1 hy.2).2.2.2 x hp
  omega
theorem flat_len {g : Gr} (hw : WF g) : ∀ {l : List Int}, (∀ x ∈ l, 0 ≤ x ∧ x < g.length) → (l.flatMap (gpar g)).length ≤ 24 * l.length
  | [], _ => by simp
  | x :: l, h => by
    have h1 := hw.parlen (h x (by simp)).1 (h x (by simp)).2
    have h2 := flat_len hw (l := l) fun y hy => h y (List.mem_cons_of_mem _ hy)
    rw [List.flatMap_cons, List.length_append, List.length_cons]; omega

end Dl

/-! CB1: codes, printed by tgen.py --codes -/
namespace Dl
open PySem L2
--@code _wall
def c__wall : Ss :=
  (.cons (.while (.e (.k (.bl true)))
      (.cons (.pass)
      .nil) [])
  .nil)
--@code tupled
def c_tupled : Ss :=
  (.cons (.ret (.ife (.e (.isi (.v 0) ["list", "tuple"])) (.bi .tuple (.cons (.lc (.last (.n 1) (.e (.v 0)) .nil (.call "tupled" (.cons (.v 1) .nil))) [1]) .nil)) (.v 0)))
  .nil)
--@code Graph.__init__
def c_Graph_init : Ss :=
  (.cons (.setfld (.v 0) "own_dates" (.lc (.last (.n 2) (.e (.v 1)) .nil (.ix (.v 2) (.k (.int 0)))) [2]))
  (.cons (.setfld (.v 0) "own_parents" (.lc (.last (.n 2) (.e (.v 1)) .nil (.call "tupled" (.cons (.ix (.v 2) (.k (.int 1))) .nil))) [2]))
  (.cons (.setfld (.v 0) "own_ways" (.dct .nil))
  .nil)))
--@code Graph.__len__
def c_Graph_len : Ss :=
  (.cons (.ret (.bi .len (.cons (.fld (.v 0) "own_dates") .nil)))
  .nil)
--@code Graph.size
def c_Graph_size : Ss :=
  (.cons (.ex (.call "_wall" (.cons (.k (.int 0)) .nil)))
  .nil)
--@code Graph.commits
def c_Graph_commits : Ss :=
  (.cons (.ret (.bi .lrange (.cons (.bi .len (.cons (.fld (.v 0) "own_dates") .nil)) .nil)))
  .nil)
--@code Graph.date
def c_Graph_date : Ss :=
  (.cons (.ex (.call "_wall" (.cons (.k (.int 1)) .nil)))
  .nil)
--@code Graph.dates
def c_Graph_dates : Ss :=
  (.cons (.ret (.bi .list (.cons (.fld (.v 0) "own_dates") .nil)))
  .nil)
--@code Graph.parents
def c_Graph_parents : Ss :=
  (.cons (.ret (.ix (.fld (.v 0) "own_parents") (.v 1)))
  .nil)
--@code Graph.check
def c_Graph_check : Ss :=
  (.cons (.for (.n 2) (.e (.v 1))
      (.cons (.ite (.not (.e (.cmp2 .LtE .Lt (.k (.int 0)) (.v 2) (.bi .len (.cons (.fld (.v 0) "own_dates") .nil)))))
          (.cons (.bad)
          .nil)
          .nil)
      .nil) [2])
  .nil)
--@code Graph.way
def c_Graph_way : Ss :=
  (.cons (.ex (.call "_wall" (.cons (.k (.int 2)) .nil)))
  .nil)
--@code Graph.ways
def c_Graph_ways : Ss :=
  (.cons (.ex (.call "_wall" (.cons (.k (.int 3)) .nil)))
  .nil)
--@code Graph.had
def c_Graph_had : Ss :=
  (.cons (.asg 2 (.own (.dc (.dlast (.n 3) (.e (.v 1)) .nil (.v 3) (.k (.bl true))) [3])))
  (.cons (.for (.n 4) (.rd (.bin .Sub (.bi .len (.cons (.fld (.v 0) "own_dates") .nil)) (.k (.int 1))) (.neg (.k (.int 1))))
      (.cons (.for (.n 5) (.e (.ife (.cmp .In (.v 4) (.v 2)) (.ix (.fld (.v 0) "own_parents") (.v 4)) (.tup .nil)))
          (.cons (.setix (.v 2) (.v 5) (.k (.bl true)))
          .nil) [5])
      .nil) [4, 5])
  (.cons (.ret (.bi .sorted (.cons (.v 2) .nil)))
  .nil)))
--@code graph_at
def c_graph_at : Ss :=
  (.cons (.asg 2 (.make "Graph" (.cons (.v 0) .nil)))
  (.cons (.for (.n 3) (.e (.v 1))
      (.cons (.ex (.meth (.v 2) "check" (.cons (.v 3) .nil)))
      .nil) [3])
  (.cons (.ret (.v 2))
  .nil)))
--@code nearest
def c_nearest : Ss :=
  (.cons (.asg 3 (.call "graph_at" (.cons (.v 0) (.cons (.lst (.cons (.v 1) (.cons (.v 2) .nil))) .nil))))
  (.cons (.asg 4 (.meth (.v 3) "had" (.cons (.lst (.cons (.v 2) .nil)) .nil)))
  (.cons (.asg 5 (.lc (.last (.n 6) (.e (.meth (.v 3) "had" (.cons (.lst (.cons (.v 1) .nil)) .nil))) (.one (.cmp .In (.v 6) (.v 4))) (.v 6)) [6]))
  (.cons (.asg 7 (.meth (.v 3) "had" (.cons (.lc (.cons (.n 6) (.e (.v 5)) .nil (.last (.n 8) (.e (.meth (.v 3) "parents" (.cons (.v 6) .nil))) .nil (.v 8))) [6, 8]) .nil)))
  (.cons (.ret (.lc (.last (.n 6) (.e (.v 5)) (.one (.cmp .NotIn (.v 6) (.v 7))) (.v 6)) [6]))
  .nil)))))
--@code _law_box
def c__law_box : Ss :=
  (.cons (.asg 2 (.ife (.cmp .Lt (.v 1) (.bi .len (.cons (.v 0) .nil))) (.ix (.v 0) (.v 1)) (.k (.int 0))))
  (.cons (.ret (.lst (.cons (.bin .Mult (.bi .abs (.cons (.v 2) .nil)) (.bi .int (.cons (.cmp .GtE (.bi .abs (.cons (.v 2) .nil)) (.bin .Pow (.k (.int 10)) (.k (.int 18)))) .nil))) (.cons (.bin .Add (.bin .Add (.bin .Mod (.bi .int (.cons (.v 2) .nil)) (.k (.int 2305843009213693951))) (.bin .Mult (.k (.int 39373)) (.v 1))) (.k (.int 197))) (.cons (.k (.int 0)) .nil)))))
  .nil))
--@code _law_take
def c__law_take : Ss :=
  (.cons (.ite (.cmp .Gt (.ix (.v 0) (.k (.int 0))) (.k (.int 0)))
      (.cons (.asg 2 (.bin .Mod (.bi .int (.cons (.ix (.v 0) (.k (.int 0))) .nil)) (.v 1)))
      (.cons (.setix (.v 0) (.k (.int 0)) (.bin .FloorDiv (.ix (.v 0) (.k (.int 0))) (.v 1)))
      (.cons (.ret (.v 2))
      .nil)))
      .nil)
  (.cons (.setix (.v 0) (.k (.int 2)) (.bin .Add (.ix (.v 0) (.k (.int 2))) (.k (.int 1))))
  (.cons (.asg 3 (.bin .Mod (.bi .int (.cons (.bin .Mult (.bin .Add (.ix (.v 0) (.k (.int 1))) (.bin .Mult (.k (.int 48271)) (.ix (.v 0) (.k (.int 2))))) (.bin .Add (.k (.int 39373)) (.ix (.v 0) (.k (.int 2))))) .nil)) (.k (.int 2147483647))))
  (.cons (.asg 4 (.bin .Add (.bin .Mod (.bi .int (.cons (.v 3) .nil)) (.k (.int 40009))) (.k (.int 7))))
  (.cons (.asg 5 (.bin .Mod (.bi .int (.cons (.bin .Mult (.bin .Add (.bin .Add (.v 3) (.ix (.v 0) (.k (.int 2)))) (.bin .FloorDiv (.ix (.v 0) (.k (.int 1))) (.k (.int 1000003)))) (.v 4)) .nil)) (.k (.int 2147483629))))
  (.cons (.ret (.bin .Mod (.bi .int (.cons (.bin .FloorDiv (.bin .Mod (.bi .int (.cons (.bin .Add (.bin .Mult (.v 5) (.k (.int 48271))) (.v 3)) .nil)) (.k (.int 2147483587))) (.k (.int 64))) .nil)) (.v 1)))
  .nil))))))
--@code _law_cells
def c__law_cells : Ss :=
  (.cons (.asg 2 (.own (.orl (.bi .list (.cons (.cut (.v 0) .none (.some (.v 1))) .nil)) (.lst (.cons (.k (.int 0)) .nil)))))
  (.cons (.for (.t [3, 4]) (.en (.cut (.v 0) (.some (.v 1)) (.some (.k (.int 63)))))
      (.cons (.asg 5 (.bin .Mod (.bi .int (.cons (.v 3) .nil)) (.v 1)))
      (.cons (.setix (.v 2) (.v 5) (.bin .Add (.ix (.v 2) (.v 5)) (.bin .Mult (.v 4) (.bin .Add (.v 3) (.k (.int 2))))))
      .nil)) [3, 4, 5])
  (.cons (.ret (.v 2))
  .nil)))
--@code _law_of
def c__law_of : Ss :=
  (.cons (.ret (.ix (.v 1) (.call "_law_take" (.cons (.v 0) (.cons (.bi .len (.cons (.v 1) .nil)) .nil)))))
  .nil)
--@code _law_lists
def c__law_lists : Ss :=
  (.cons (.ret (.ife (.e (.isi (.v 0) ["list", "tuple"])) (.lc (.last (.n 1) (.e (.v 0)) .nil (.call "_law_lists" (.cons (.v 1) .nil))) [1]) (.v 0)))
  .nil)
--@code _law_same
def c__law_same : Ss :=
  (.cons (.ite (.e (.isi (.v 1) ["list", "tuple"]))
      (.cons (.ite (.or (.cmp .NotEq (.isi (.v 0) ["list"]) (.isi (.v 1) ["list"])) (.cmp .NotEq (.isi (.v 0) ["tuple"]) (.isi (.v 1) ["tuple"])))
          (.cons (.ret (.k (.bl false)))
          .nil)
          .nil)
      (.cons (.ret (.and (.cmp .Eq (.bi .len (.cons (.v 0) .nil)) (.bi .len (.cons (.v 1) .nil))) (.bi .all (.cons (.lc (.last (.t [2, 3]) (.zp (.v 0) (.v 1)) .nil (.call "_law_same" (.cons (.v 2) (.cons (.v 3) .nil)))) [2, 3]) .nil))))
      .nil))
      .nil)
  (.cons (.ite (.e (.isi (.v 1) ["dict"]))
      (.cons (.ite (.or (.not (.e (.isi (.v 0) ["dict"]))) (.or (.cmp .NotEq (.bi .len (.cons (.v 0) .nil)) (.bi .len (.cons (.v 1) .nil))) (.cmp .NotEq (.lc (.last (.n 4) (.e (.v 1)) (.one (.cmp .NotIn (.v 4) (.v 0))) (.v 4)) [4]) (.lst .nil))))
          (.cons (.ret (.k (.bl false)))
          .nil)
          .nil)
      (.cons (.ret (.bi .all (.cons (.lc (.last (.n 4) (.e (.v 1)) .nil (.call "_law_same" (.cons (.ix (.v 0) (.v 4)) (.cons (.ix (.v 1) (.v 4)) .nil)))) [4]) .nil)))
      .nil))
      .nil)
  (.cons (.ite (.or (.cmp .Is (.v 1) (.k .non)) (.e (.isi (.v 1) ["bool", "str"])))
      (.cons (.ret (.and (.cmp .Eq (.v 0) (.v 1)) (.and (.cmp .Eq (.isi (.v 0) ["bool"]) (.isi (.v 1) ["bool"])) (.cmp .Eq (.cmp .Is (.v 0) (.k .non)) (.cmp .Is (.v 1) (.k .non))))))
      .nil)
      .nil)
  (.cons (.ret (.and (.isi (.v 0) ["int"]) (.and (.not (.isi (.v 0) ["bool"])) (.cmp .Eq (.v 0) (.v 1)))))
  .nil))))
--@code _law_graph
def c__law_graph : Ss :=
  (.cons (.par [2, 3, 4] (.cons (.own (.lst .nil)) (.cons (.k (.int 10)) (.cons (.k (.bl false)) .nil))))
  (.cons (.for (.n 5) (.r1 (.v 1))
      (.cons (.par [3, 4] (.cons (.bin .Add (.v 3) (.call "_law_of" (.cons (.v 0) (.cons (.lst (.cons (.k (.int 0)) (.cons (.k (.int 1)) (.cons (.k (.int 1)) (.cons (.k (.int 2)) (.cons (.k (.int 5)) .nil)))))) .nil)))) (.cons (.cmp .Lt (.call "_law_take" (.cons (.v 0) (.cons (.k (.int 4)) .nil))) (.bin .Add (.k (.int 1)) (.bi .int (.cons (.v 4) .nil)))) .nil)))
      (.cons (.asg 6 (.call "_law_of" (.cons (.v 0) (.cons (.lst (.cons (.k (.int 0)) (.cons (.k (.int 0)) (.cons (.k (.int 0)) (.cons (.call "_law_take" (.cons (.v 0) (.cons (.k (.int 9)) .nil))) (.cons (.neg (.k (.int 3))) .nil)))))) .nil))))
      (.cons (.asg 7 (.ife (.e (.v 4)) (.call "_law_take" (.cons (.v 0) (.cons (.k (.int 10)) .nil))) (.bin .Add (.v 3) (.v 6))))
      (.cons (.asg 8 (.ife (.cmp .Eq (.call "_law_take" (.cons (.v 0) (.cons (.k (.int 6)) .nil))) (.k (.int 0))) (.bi .lrange (.cons (.v 5) .nil)) (.bi .lrange (.cons (.bi .max (.cons (.k (.int 0)) (.cons (.bin .Sub (.v 5) (.k (.int 4))) .nil))) (.cons (.v 5) .nil)))))
      (.cons (.asg 9 (.bin .Mult (.call "_law_of" (.cons (.v 0) (.cons (.lst (.cons (.k (.int 0)) (.cons (.k (.int 1)) (.cons (.k (.int 1)) (.cons (.k (.int 1)) (.cons (.k (.int 2)) (.cons (.k (.int 3)) .nil))))))) .nil))) (.bi .int (.cons (.cmp .NotEq (.v 8) (.lst .nil)) .nil))))
      (.cons (.asg 10 (.bin .Add (.bin .Mult (.lst (.cons (.bin .Sub (.v 5) (.k (.int 1))) .nil)) (.bi .int (.cons (.and (.v 4) (.cmp .Gt (.v 5) (.k (.int 0)))) .nil))) (.lc (.last (.n 11) (.r1 (.v 9)) .nil (.call "_law_of" (.cons (.v 0) (.cons (.v 8) .nil)))) [11])))
      (.cons (.ex (.mt (.v 2) .append (.cons (.tup (.cons (.bi .max (.cons (.k (.int 0)) (.cons (.v 7) .nil))) (.cons (.bi .tuple (.cons (.bi .sset (.cons (.v 10) .nil)) .nil)) .nil))) .nil)))
      .nil))))))) [5, 6, 7, 8, 9, 10, 11])
  (.cons (.ret (.bi .tuple (.cons (.v 2) .nil)))
  .nil)))
--@code _law_had
def c__law_had : Ss :=
  (.cons (.asg 2 (.bi .sset (.cons (.v 1) .nil)))
  (.cons (.for (.n 3) (.rd (.bin .Sub (.bi .len (.cons (.v 0) .nil)) (.k (.int 1))) (.neg (.k (.int 1))))
      (.cons (.ite (.cmp .In (.v 3) (.v 2))
          (.cons (.asg 2 (.bin .Add (.v 2) (.lc (.last (.n 4) (.e (.ix (.ix (.v 0) (.v 3)) (.k (.int 1)))) (.one (.cmp .NotIn (.v 4) (.v 2))) (.v 4)) [4])))
          .nil)
          .nil)
      .nil) [3, 4])
  (.cons (.ret (.bi .sorted (.cons (.v 2) .nil)))
  .nil)))
--@code _law_common
def c__law_common : Ss :=
  (.cons (.ret (.lc (.last (.n 3) (.e (.call "_law_had" (.cons (.v 0) (.cons (.tup (.cons (.v 1) .nil)) .nil)))) (.one (.cmp .In (.v 3) (.call "_law_had" (.cons (.v 0) (.cons (.tup (.cons (.v 2) .nil)) .nil))))) (.v 3)) [3]))
  .nil)
--@code _law_nearest
def c__law_nearest : Ss :=
  (.cons (.asg 3 (.call "_law_common" (.cons (.v 0) (.cons (.v 1) (.cons (.v 2) .nil)))))
  (.cons (.ret (.lc (.last (.n 4) (.e (.v 3)) (.one (.cmp .Eq (.lc (.last (.n 5) (.e (.v 3)) (.one (.and (.cmp .NotEq (.v 5) (.v 4)) (.cmp .In (.v 4) (.call "_law_had" (.cons (.v 0) (.cons (.tup (.cons (.v 5) .nil)) .nil)))))) (.v 5)) [5]) (.lst .nil))) (.v 4)) [4]))
  .nil))
--@code _law_right
def c__law_right : Ss :=
  (.cons (.asg 1 (.tup (.cons (.tup (.cons (.k (.int 5)) (.cons (.tup .nil) .nil))) (.cons (.tup (.cons (.k (.int 3)) (.cons (.tup (.cons (.k (.int 0)) .nil)) .nil))) (.cons (.tup (.cons (.k (.int 4)) (.cons (.tup (.cons (.k (.int 0)) .nil)) .nil))) (.cons (.tup (.cons (.k (.int 1)) (.cons (.tup (.cons (.k (.int 1)) (.cons (.k (.int 2)) .nil))) .nil))) (.cons (.tup (.cons (.k (.int 9)) (.cons (.tup (.cons (.k (.int 1)) (.cons (.k (.int 2)) .nil))) .nil))) .nil)))))))
  (.cons (.ite (.not (.e (.call "_law_same" (.cons (.lst (.cons (.call "nearest" (.cons (.v 1) (.cons (.k (.int 3)) (.cons (.k (.int 4)) .nil)))) (.cons (.call "nearest" (.cons (.v 1) (.cons (.k (.int 1)) (.cons (.k (.int 4)) .nil)))) (.cons (.call "nearest" (.cons (.v 1) (.cons (.k (.int 1)) (.cons (.k (.int 2)) .nil)))) .nil)))) (.cons (.lst (.cons (.lst (.cons (.k (.int 1)) (.cons (.k (.int 2)) .nil))) (.cons (.lst (.cons (.k (.int 1)) .nil)) (.cons (.lst (.cons (.k (.int 0)) .nil)) .nil)))) .nil)))))
      (.cons (.ret (.k (.bl false)))
      .nil)
      .nil)
  (.cons (.for (.n 2) (.r1 (.k (.int 3)))
      (.cons (.asg 3 (.call "_law_graph" (.cons (.v 0) (.cons (.bin .Add (.k (.int 1)) (.call "_law_take" (.cons (.v 0) (.cons (.k (.int 10)) .nil)))) .nil))))
      (.cons (.asg 4 (.call "_law_lists" (.cons (.v 3) .nil)))
      (.cons (.for (.n 5) (.r1 (.k (.int 8)))
          (.cons (.par [6, 7] (.cons (.call "_law_take" (.cons (.v 0) (.cons (.bi .len (.cons (.v 3) .nil)) .nil))) (.cons (.call "_law_take" (.cons (.v 0) (.cons (.bi .len (.cons (.v 3) .nil)) .nil))) .nil)))
          (.cons (.par [8, 9] (.cons (.call "_law_nearest" (.cons (.v 3) (.cons (.v 6) (.cons (.v 7) .nil)))) (.cons (.own (.call "nearest" (.cons (.v 3) (.cons (.v 6) (.cons (.v 7) .nil))))) .nil)))
          (.cons (.ite (.not (.e (.lend (.call "_law_same" (.cons (.lst (.cons (.v 9) (.cons (.callk "nearest" ["other", "one", "graph"] (.cons (.v 7) (.cons (.v 6) (.cons (.v 4) .nil)))) .nil))) (.cons (.lst (.cons (.v 8) (.cons (.v 8) .nil))) .nil))))))
              (.cons (.ret (.k (.bl false)))
              .nil)
              .nil)
          (.cons (.ex (.mt (.v 9) .append (.cons (.k (.str "more")) .nil)))
          (.cons (.ite (.or (.not (.e (.call "_law_same" (.cons (.call "nearest" (.cons (.v 3) (.cons (.v 6) (.cons (.v 7) .nil)))) (.cons (.v 8) .nil))))) (.cmp .NotEq (.v 4) (.call "_law_lists" (.cons (.v 3) .nil))))
              (.cons (.ret (.k (.bl false)))
              .nil)
              .nil)
          .nil))))) [5, 6, 7, 8, 9])
      .nil))) [2, 3, 4, 5, 6, 7, 8, 9])
  (.cons (.ret (.k (.bl true)))
  .nil))))
--@code law
def c_law : Ss :=
  (.cons (.asg 1 (.call "_law_cells" (.cons (.v 0) (.cons (.k (.int 2)) .nil))))
  (.cons (.for (.n 2) (.r1 (.bi .len (.cons (.v 1) .nil)))
      (.cons (.ite (.not (.e (.call "_law_right" (.cons (.own (.call "_law_box" (.cons (.v 1) (.cons (.v 2) .nil)))) .nil))))
          (.cons (.ret (.k (.bl false)))
          .nil)
          .nil)
      .nil) [2])
  (.cons (.ret (.k (.bl true)))
  .nil)))
end Dl

/-! LP1: the program's own: tupled, Graph, graph_at -/
namespace Dl
open PySem L2
local macro_rules | `(tactic| tm_at "wp") => `(tactic| dsimp only [wpSs_nil, forW_nil, wpS, wpR, wpT, wpA, wpI, wpTs, wpG, wpD, wpO, Z.fz, C.frz, lk, pt, pts, ptM, lkM, binR, cmpR, eqR, inR, biR, ixR, sqL, sqT, sqO, sqD, sqI, sqB, sqS, sqN, sqC, sqX, dqD, dqO, dqI, vwV, vwO, keyD, bindT, clr, mtR, mtOk, Sl.trim, List.map, rhoN, List.replicate, List.length, List.append, Nat.add, Nat.sub, HAppend.hAppend, Append.append, endZ, endI, endO])
mutual
def tupD : D → D
  | .lst xs => .tup (tupDs xs)
  | .tup xs => .tup (tupDs xs)
  | d => d
def tupDs : List D → List D
  | [] => []
  | x :: xs => tupD x :: tupDs xs
end
theorem tupDs_map : ∀ xs : List D, tupDs xs = xs.map tupD
  | [] => rfl
  | x :: xs => by rw [tupDs, tupDs_map xs]; rfl
def Rtupled (n : Nat) (ds : List D) (z : Z) : Prop := ∃ x, ds = [x] ∧ plain n x = true ∧ z = .s (.val (tupD x))
theorem plains_all {n : Nat} : ∀ {xs : List D}, plains n xs = true → ∀ x ∈ xs, plain n x = true
  | [], _, _, h => nomatch h
  | y :: ys, h, x, hx => by
    unfold plains at h
    have h := Bool.and_eq_true_iff.mp h
    rcases List.mem_cons.mp hx with rfl | hx
    · exact h.1
    · exact plains_all h.2 x hx
theorem h_tupled {g : Gx} {n j : Nat} (T : n ≠ 0 → Def g "tupled" j (spZ g.K (Rtupled (n - 1)))) (hk : j ≤ g.k) : WpZ g c_tupled 2 (Rtupled n) := fun ds z ⟨x, h, hp, hz⟩ => by
  subst h; subst hz
  show wpSs g (.cons _ _) [.val x, .un] [] (endZ _)
  refine wc ?_
  have key : ∀ xs : List D, n ≠ 0 → plains (n - 1) xs = true → xs.length ≤ 1000 → ∀ t : Bool, wpG g (.last (.n 1) (.e (.v 0)) .nil (.call "tupled" (.cons (.v 1) .nil))) (clr [.val (if t then .lst xs else .tup xs), .un] [1]) [] fun out M1 => Gives (Z.s (Sl.val (.tup (tupDs xs)))) (Z.s (Sl.val (D.tup out))) M1 := fun xs hn hp hl t => by
    have T := T hn
    have hq := plains_all hp
    cases t
    all_goals
      tm_at "wp"
      refine ⟨by omega, ?_⟩
      conv => arg 3; rw [← List.map_id xs]
      refine lc_m (f := tupD) ⟨rfl, fun k hk => nomatch hk⟩ (fun x hx k q => ?_) ?_
      · exact ⟨fun _ => ⟨T.has, call_z T ⟨x, rfl, hq x hx, rfl⟩ q hk⟩, fun h => nomatch h⟩
      · rw [← tupDs_map]; exact rfl
  cases x with
  | lst xs =>
    tm_at "wp"
    cases n with
    | zero => exact absurd hp (by simp [plain])
    | succ n =>
      have hp : (decide (xs.length ≤ 1000) && plains n xs) = true := hp
      exact ⟨kdL, fun _ => key xs (by simp) (plain_items hp) (of_decide_eq_true (Bool.and_eq_true_iff.mp hp).1) true, fun h => nomatch h⟩
  | tup xs =>
    tm_at "wp"
    cases n with
    | zero => exact absurd hp (by simp [plain])
    | succ n =>
      have hp : (decide (xs.length ≤ 1000) && plains n xs) = true := hp
      exact ⟨kdT, fun _ => key xs (by simp) (plain_items hp) (of_decide_eq_true (Bool.and_eq_true_iff.mp hp).1) false, fun h => nomatch h⟩
  | non => exact ⟨kdN, (fun h => nomatch h), fun _ => rfl⟩
  | bl b => exact ⟨kdB, (fun h => nomatch h), fun _ => rfl⟩
  | int i => exact ⟨kdI, (fun h => nomatch h), fun _ => rfl⟩
  | str s => exact ⟨kdS, (fun h => nomatch h), fun _ => rfl⟩
  | _ => exact absurd hp (by simp [plain])
theorem tupD_ints {d : D} {ns : List Int} (h : IsSeq d (ns.map D.int)) : tupD d = .tup (ns.map D.int) := by
  have e : tupDs (ns.map D.int) = ns.map D.int := by
    rw [tupDs_map, List.map_map]
    rfl
  rcases h with rfl | rfl
  · rw [tupD, e]
  · rw [tupD, e]
theorem plain_ints {n : Nat} {d : D} {ns : List Int} (h : IsSeq d (ns.map D.int)) (hl : ns.length ≤ 1000) : plain (n + 1) d = true := by
  have e : plains n (ns.map D.int) = true := by
    clear hl h
    induction ns with
    | nil => cases n <;> rfl
    | cons x ns ih =>
      show (plain n (.int x) && plains n _) = true
      rw [ih]
      cases n <;> rfl
  rcases h with rfl | rfl
  all_goals
    show (decide ((ns.map D.int).length ≤ 1000) && plains n (ns.map D.int)) = true
    rw [e, List.length_map]
    simp [hl]
/-! ### Graph -/
structure TGraph (K : PySem.W.Frag) (C p0 p1 p2 : Addr) : Prop where
  cl : SlX.SCls K C
  s0 : SlX.Slot1 K C "own_dates" p0 0
  s1 : SlX.Slot1 K C "own_parents" p1 1
  s2 : SlX.Slot1 K C "own_ways" p2 2
def RinitG (ds fs : List D) : Prop := ∃ g d, ds = [d] ∧ IsG g d ∧ g.length ≤ 1000 ∧ (∀ r ∈ g, r.2.length ≤ 1000) ∧ fs = [.lst ((g.map (·.1)).map D.int), .lst (g.map fun r => .tup (r.2.map D.int)), .dic [] []]
theorem RinitG.of {g : Gr} {d : D} (hw : WF g) (hg : IsG g d) : RinitG [d] [.lst ((g.map (·.1)).map D.int), .lst (g.map fun r => .tup (r.2.map D.int)), .dic [] []] :=
  ⟨g, d, rfl, hg, by have := hw.len; omega, fun r hr => by
    obtain ⟨i, hi⟩ := List.mem_iff_getElem?.mp hr
    have h1 := (List.getElem?_eq_some_iff.mp hi).1
    have h2 := hw.row i r hi
    have := asc_len r.2 i h2.2.2.1 h2.2.2.2
    have := hw.len
    omega, rfl⟩
theorem row_sq {r : Int × List Int} {d : D} (h : IsRow r d) : ∃ t pd, (∀ M, sq M (.val d) = some (t, [.int r.1, pd])) ∧ IsSeq pd (r.2.map D.int) := by
  obtain ⟨pd, hd, hp⟩ := h
  obtain ⟨t, e⟩ := sq_seq hd
  exact ⟨t, pd, e, hp⟩
theorem at0 {α : Type} {x y : α} : atI [x, y] 0 = some x := rfl
theorem at1 {α : Type} {x y : α} : atI [x, y] 1 = some y := rfl
theorem h_Graph_init {g : Gx} {C p0 p1 p2 : Addr} {j : Nat} (G : TGraph g.K C p0 p1 p2) (T : Def g "tupled" j (spZ g.K (Rtupled 1))) (hk : j ≤ g.k) : WpI g c_Graph_init 3 C RinitG := fun ds fs ⟨gr, d, h, ⟨ps, e1, hd, hr⟩, hl, hl2, hf⟩ => by
  subst h; subst hf
  have hpl : ps.length = gr.length := by rw [← e1, List.length_map]
  show wpSs g (.cons _ _) [.own 0, .val d, .un] [.sob0 C 1, .dxo 0] (endI C _)
  refine wc ?_
  obtain ⟨t, hq⟩ := sq_seq hd
  tm_at "wp"
  rw [hq]
  refine ⟨by rw [List.length_map]; omega, lc_m (f := fun p => D.int p.1.1) ⟨rfl, fun k hk => nomatch hk⟩ (fun p hp k q => ⟨fun _ => ?_, fun h => nomatch h⟩) ?_⟩
  · obtain ⟨t, pd, e, hpd⟩ := row_sq (hr p hp)
    rw [e]
    exact q
  refine ⟨nofun, .sob0 rfl G.cl G.s0 (by decide) (wc ?_)⟩
  tm_at "wp"
  rw [hq]
  refine ⟨by rw [List.length_map]; omega, lc_m (f := fun p => D.tup (p.1.2.map D.int)) ⟨rfl, fun k hk => nomatch hk⟩ (fun p hp k q => ⟨fun _ => ⟨T.has, ?_⟩, fun h => nomatch h⟩) ?_⟩
  · obtain ⟨t, pd, e, hpd⟩ := row_sq (hr p hp)
    rw [e]
    have hm : p.1 ∈ gr := by rw [← e1]; exact List.mem_map_of_mem hp
    refine call_z T ⟨pd, rfl, plain_ints hpd (hl2 _ hm), rfl⟩ ?_ hk
    rw [tupD_ints hpd]; exact q
  refine ⟨nofun, .sob rfl rfl G.cl G.s1 (by decide) (wc ?_)⟩
  tm_at "wp"
  refine ⟨[], rfl, by simp, nofun, .sob rfl rfl G.cl G.s2 (by decide) ?_⟩
  refine ⟨_, rfl, rfl, ?_⟩
  have f1 : (ps.map fun p => D.int p.1.1) = (gr.map (·.1)).map D.int := by rw [← e1, List.map_map, List.map_map]; rfl
  have f2 : (ps.map fun p => D.tup (p.1.2.map D.int)) = gr.map fun r => .tup (r.2.map D.int) := by rw [← e1, List.map_map]; rfl
  rw [← f1, ← f2]
  rfl
def Rlen (C : Addr) (ds : List D) (z : Z) : Prop := ∃ g : Gr, ds = [grO C g] ∧ z = .s (.val (.int g.length))
theorem h_Graph_len {g : Gx} {C p0 p1 p2 : Addr} (G : TGraph g.K C p0 p1 p2) : WpZ g c_Graph_len 1 (Rlen C) := fun ds z ⟨gr, h, hz⟩ => by
  subst h; subst hz
  refine wc (.slo G.cl G.s0 rfl ?_)
  show some (D.int ((gr.map (·.1)).map D.int).length) = some (D.int gr.length)
  simp
def Rcommits (C : Addr) (ds : List D) (z : Z) : Prop := ∃ g : Gr, ds = [grO C g] ∧ g.length ≤ 1000 ∧ z = .n (.lst ((rng 0 g.length).map D.int))
theorem h_Graph_commits {g : Gx} {C p0 p1 p2 : Addr} (G : TGraph g.K C p0 p1 p2) : WpZ g c_Graph_commits 1 (Rcommits C) := fun ds z ⟨gr, h, hl, hz⟩ => by
  subst h; subst hz
  refine wc (.slo G.cl G.s0 rfl ?_)
  have e : ((gr.map (·.1)).map D.int).length = gr.length := by simp
  refine ⟨⟨by omega, by rw [e]; omega⟩, ?_⟩
  show some (Dl.C.lst ((rng 0 (((gr.map (·.1)).map D.int).length : Int).toNat).map D.int)) = _
  rw [e]; rfl
def Rdates (C : Addr) (ds : List D) (z : Z) : Prop := ∃ g : Gr, ds = [grO C g] ∧ z = .n (.lst ((g.map (·.1)).map D.int))
theorem h_Graph_dates {g : Gx} {C p0 p1 p2 : Addr} (G : TGraph g.K C p0 p1 p2) : WpZ g c_Graph_dates 1 (Rdates C) := fun ds z ⟨gr, h, hz⟩ => by
  subst h; subst hz
  exact wc (.slo G.cl G.s0 rfl rfl)
def Rparents (C : Addr) (ds : List D) (z : Z) : Prop := ∃ (g : Gr) (i : Int), ds = [grO C g, .int i] ∧ 0 ≤ i ∧ i < g.length ∧ z = .s (.val (.tup ((gpar g i).map D.int)))
theorem par_at {gr : Gr} {i : Int} (h0 : 0 ≤ i) (h1 : i < gr.length) : atI (gr.map fun r => D.tup (r.2.map D.int)) i = some (.tup ((gpar gr i).map D.int)) := atI_map (f := fun r : Int × List Int => D.tup (r.2.map D.int)) (z := (0, [])) h0 h1
theorem h_Graph_parents {g : Gx} {C p0 p1 p2 : Addr} (G : TGraph g.K C p0 p1 p2) : WpZ g c_Graph_parents 2 (Rparents C) := fun ds z ⟨gr, i, h, h0, h1, hz⟩ => by
  subst h; subst hz
  refine wc (.slo G.cl G.s1 rfl ?_)
  tm_at "wp"
  rw [par_at h0 h1]
  exact rfl
def Rcheck (C : Addr) (ds : List D) (z : Z) : Prop := ∃ (g : Gr) (x : D) (ns : List Int), ds = [grO C g, x] ∧ IsSeq x (ns.map D.int) ∧ (∀ n ∈ ns, 0 ≤ n ∧ n < g.length) ∧ z = .s (.val .non)
theorem h_Graph_check {g : Gx} {C p0 p1 p2 : Addr} (G : TGraph g.K C p0 p1 p2) : WpZ g c_Graph_check 3 (Rcheck C) := fun ds z ⟨gr, x, ns, h, hx, hn, hz⟩ => by
  subst h; subst hz
  show wpSs g (.cons _ _) [.val (grO C gr), .val x, .un] [] (endZ _)
  refine wc ?_
  obtain ⟨t, hq⟩ := sq_seq hx
  tm_at "wp"
  rw [hq]
  refine for0 (T := Unit) (fun _ => [.val (grO C gr), .val x, .un]) (fun _ => []) (fun _ _ => True) () trivial (fun i n _ k hi _ hk => ?_) (fun _ _ => rfl)
  have hn := hn n (List.mem_of_getElem? hi)
  refine wc ?_
  tm_at "wp"
  refine ⟨fun _ => .slo G.cl G.s0 rfl ?_, fun h => ?_⟩
  · have e : ((gr.map (·.1)).map D.int).length = gr.length := by simp
    tm_at "wp"
    rw [e, decide_eq_true hn.2]
    exact ⟨fun h => (nomatch h), fun _ => trim_nil ⟨fun k hk => (nomatch hk), hk () trivial⟩⟩
  · rw [decide_eq_true hn.1] at h; cases h
def Rgraph_at (C : Addr) (ds : List D) (z : Z) : Prop := ∃ (g : Gr) (x : D) (xs : List D), ds = x :: xs ∧ IsG g x ∧ WF g ∧ xs.length ≤ 10 ∧ (∀ y ∈ xs, ∃ ns : List Int, IsSeq y (ns.map D.int) ∧ ∀ n ∈ ns, 0 ≤ n ∧ n < g.length) ∧ z = .s (.val (grO C g))
theorem h_graph_at {g : Gx} {C : Addr} {i j : Nat} (Ti : DefI g "Graph" C i (spI g.K C RinitG)) (Tc : DefM g C "check" j (spZ g.K (Rcheck C))) (hi : i + 1 ≤ g.k) (hj : j ≤ g.k) : WpStar g c_graph_at 4 1 (Rgraph_at C) := fun ws rest z hl ⟨gr, x, xs, h, hg, hw, hl2, hxs, hz⟩ => by
  match ws, hl with
  | [x0], _ =>
    obtain ⟨e1, e2⟩ : x0 = x ∧ rest = xs := by simpa using h
    subst e1; subst e2
    subst hz
    show wpSs g (.cons _ _) [.val x0, .val (.tup rest), .un, .un] [] (endZ _)
    refine wc ?_
    tm_at "wp"
    refine ⟨Ti.has, make_i Ti (RinitG.of hw hg) ?_ hi⟩
    refine wc ?_
    tm_at "wp"
    conv => arg 4; rw [← List.map_id rest]
    refine for0 (T := Unit) (fun _ => [.val x0, .val (.tup rest), .val (grO C gr), .un]) (fun _ => []) (fun _ _ => True) () trivial (fun i y _ k hi _ hk => ?_) (fun _ _ => ?_)
    · obtain ⟨ns, hns, hn⟩ := hxs y (List.mem_of_getElem? hi)
      refine wc ⟨C, Tc.has, ?_⟩
      refine meth_z Tc ⟨gr, y, ns, rfl, hns, hn, rfl⟩ ?_ hj
      tm_at "wp"
      exact trim_nil ⟨fun k hk => (nomatch hk), hk () trivial⟩
    · exact wc rfl
end Dl

/-! LP2: Graph.had, nearest -/
namespace Dl
open PySem L2
local macro_rules | `(tactic| tm_at "wp") => `(tactic| dsimp only [wpSs_nil, forW_nil, wpS, wpR, wpT, wpA, wpI, wpTs, wpG, wpD, wpO, Z.fz, C.frz, lk, pt, pts, ptM, lkM, binR, cmpR, eqR, inR, biR, ixR, sqL, sqT, sqO, sqD, sqI, sqB, sqS, sqN, sqC, sqX, dqD, dqO, dqI, vwV, vwO, keyD, bindT, clr, mtR, mtOk, Sl.trim, List.map, rhoN, List.replicate, List.length, List.append, Nat.add, Nat.sub, HAppend.hAppend, Append.append, endZ, endI, endO, setR, Gs.ix1])
def Rhad (C : Addr) (ds : List D) (z : Z) : Prop := ∃ (g : Gr) (x : D) (ns : List Int), ds = [grO C g, x] ∧ WF g ∧ IsSeq x (ns.map D.int) ∧ ns.length ≤ 1000 ∧ (∀ n ∈ ns, 0 ≤ n ∧ n < g.length) ∧ z = .n (.lst ((hadL g ns).map D.int))
theorem h_Graph_had {g : Gx} {C p0 p1 p2 : Addr} (G : TGraph g.K C p0 p1 p2) : WpZ g c_Graph_had 6 (Rhad C) := fun ds z ⟨gr, x, ns, h, hw, hx, hnl, hn, hz⟩ => by
  subst h; subst hz
  show wpSs g (.cons _ _) [.val (grO C gr), .val x, .un, .un, .un, .un] [] (endZ _)
  refine wc ?_
  obtain ⟨t, hq⟩ := sq_seq hx
  have hwl := hw.len
  tm_at "wp"
  rw [hq]
  refine ⟨by rw [List.length_map]; omega, dc_r (kf := fun n => .inl n) (vf := fun _ => .bl true) ⟨rfl, fun k hk => nomatch hk⟩ ns [] (fun n hn k q => ⟨fun _ => q, fun h => nomatch h⟩) ?_⟩
  rw [all_dT]
  refine wc (.slo G.cl G.s0 rfl ?_)
  have e : ((gr.map (·.1)).map D.int).length = gr.length := by simp
  tm_at "wp"
  rw [e]
  refine ⟨by omega, ?_⟩
  refine for0 (T := List Int) (fun _ => [.val (grO C gr), .val x, .own 0, .un, .un, .un]) (fun ks => [.dic (dT ks)]) (fun i ks => ks.Nodup ∧ (∀ y ∈ ks, 0 ≤ y ∧ y < gr.length) ∧ sweepL (hadSt gr) (gr.length - i) ks = sweepL (hadSt gr) gr.length (ns.foldl addI [])) (ns.foldl addI []) ⟨nd_addAll List.nodup_nil, fun y hy => hn y ((mem_addAll.mp hy).resolve_left (fun z => nomatch z)), rfl⟩ (fun i y ks k hi ⟨nd, hks, hsw⟩ hk => ?_) (fun ks ⟨nd, hks, hsw⟩ => ?_)
  · obtain ⟨hi1, hi2⟩ : i < gr.length ∧ y = ((gr.length - 1 - i : Nat) : Int) := by
      unfold rngD at hi
      rw [List.getElem?_map] at hi
      by_cases h : i < (((gr.length : Int) - 1) - -1).toNat
      · rw [List.getElem?_range h] at hi
        simp at hi
        omega
      · rw [List.getElem?_eq_none_iff.mpr (by simp; omega)] at hi
        cases hi
    have hsw2 : sweepL (hadSt gr) (gr.length - (i + 1)) (hadSt gr (gr.length - 1 - i) ks) = sweepL (hadSt gr) gr.length (ns.foldl addI []) := by
      rw [← hsw, show gr.length - i = (gr.length - (i + 1)) + 1 by omega]
      show _ = sweepL (hadSt gr) _ (hadSt gr (gr.length - (i + 1)) ks)
      rw [show gr.length - 1 - i = gr.length - (i + 1) by omega]
    have y0 : 0 ≤ y := by omega
    have y1 : y < gr.length := by omega
    have wat := hw.at (i := y) y0 y1
    refine wc ?_
    tm_at "wp"
    rw [get_dT]
    refine ⟨fun hin => .slo G.cl G.s1 rfl ?_, fun hin => ?_⟩
    · have hin : y ∈ ks := of_decide_eq_true hin
      have he : hadSt gr (gr.length - 1 - i) ks = (gpar gr y).foldl addI ks := by
        unfold hadSt
        rw [← hi2, if_pos hin]
      tm_at "wp"
      rw [par_at y0 y1]
      refine for0 (T := List Int) (fun _ => [.val (grO C gr), .val x, .own 0, .un, .val (.int y), .un]) (fun ks => [.dic (dT ks)]) (fun j ks' => ks'.Nodup ∧ (∀ y ∈ ks', 0 ≤ y ∧ y < gr.length) ∧ ks' = ((gpar gr y).take j).foldl addI ks) ks ⟨nd, hks, rfl⟩ (fun j p ks' k2 hj ⟨nd', hks', e'⟩ hk2 => ?_) (fun ks' ⟨nd', hks', e'⟩ => ?_)
      · have hp := wat.2.2.2 p (List.mem_of_getElem? hj)
        have hl := nd_len nd' hks'
        refine wc ?_
        tm_at "wp"
        refine ⟨by unfold dT; rw [List.length_map]; omega, ?_⟩
        rw [put_dT]
        refine trim_id 1 rfl (fun c hc => ?_) ⟨fun k hk => (nomatch hk), hk2 _ ⟨nd_addI nd', fun z hz => ?_, ?_⟩⟩
        · rw [List.mem_singleton] at hc; subst hc; exact fun k hk => (nomatch hk)
        · rcases mem_addI.mp hz with h | rfl
          · exact hks' z h
          · omega
        · rw [List.take_add_one, hj, e', List.foldl_append]; rfl
      · rw [List.take_length] at e'
        tm_at "wp"
        refine trim_id 1 rfl (fun c hc => ?_) ⟨fun k hk => (nomatch hk), hk _ ⟨nd', hks', ?_⟩⟩
        · rw [List.mem_singleton] at hc; subst hc; exact fun k hk => (nomatch hk)
        · rw [e', ← he]; exact hsw2
    · have hin : y ∉ ks := of_decide_eq_false hin
      have he : hadSt gr (gr.length - 1 - i) ks = ks := by
        unfold hadSt
        rw [← hi2, if_neg hin]
      rw [he] at hsw2
      refine ⟨[], rfl, by simp, ?_⟩
      tm_at "wp"
      refine trim_id 1 rfl (fun c hc => ?_) ⟨fun k hk => (nomatch hk), hk _ ⟨nd, hks, hsw2⟩⟩
      rw [List.mem_singleton] at hc; subst hc; exact fun k hk => (nomatch hk)
  · refine wc ?_
    tm_at "wp"
    have hl := nd_len nd hks
    have e0 : ((dT ks).map fun p => kD p.1) = ks.map D.int := by unfold dT; rw [List.map_map]; rfl
    have e1 : ((dT ks).map fun p => intD (kD p.1)) = ks := by
      unfold dT
      rw [List.map_map]
      conv => rhs; rw [← List.map_id ks]
      rfl
    refine ⟨⟨by rw [e0]; exact all_isI _, by unfold dT; rw [List.length_map]; omega⟩, ?_⟩
    rw [e1]
    have e2 : gr.length - (rngD ((gr.length : Int) - 1) ((gr.length : Int) - 1 - -1).toNat).length = 0 := by
      unfold rngD
      simp
    rw [e2] at hsw
    have hsw : ks = _ := hsw
    rw [hsw]
    rfl
/-! ### nearest -/
def Rnearest (ds : List D) (z : Z) : Prop := ∃ (g : Gr) (x : D) (a b : Int), ds = [x, .int a, .int b] ∧ IsG g x ∧ WF g ∧ (0 ≤ a ∧ a < g.length) ∧ (0 ≤ b ∧ b < g.length) ∧ z = .n (.lst ((nearL g a b).map D.int))
theorem h_nearest {g : Gx} {C : Addr} {i j l : Nat} (Tg : Def g "graph_at" i (spZ g.K (Rgraph_at C))) (Th : DefM g C "had" j (spZ g.K (Rhad C))) (Tp : DefM g C "parents" l (spZ g.K (Rparents C))) (hi : i ≤ g.k) (hj : j ≤ g.k) (hl : l ≤ g.k) : WpZ g c_nearest 9 Rnearest := fun ds z ⟨gr, x, a, b, h, hg, hw, ha, hb, hz⟩ => by
  subst h; subst hz
  have hwl := hw.len
  show wpSs g (.cons _ _) [.val x, .val (.int a), .val (.int b), .un, .un, .un, .un, .un, .un] [] (endZ _)
  refine wc ?_
  tm_at "wp"
  refine ⟨Tg.has, [.int a, .int b], rfl, by simp, call_z Tg ⟨gr, x, [.lst [.int a, .int b]], rfl, hg, hw, by simp, ?_, rfl⟩ ?_ hi⟩
  · intro y hy
    rw [List.mem_singleton] at hy
    subst hy
    exact ⟨[a, b], .inl rfl, fun n hn => by
      rcases List.mem_cons.mp hn with rfl | hn
      · exact ha
      · rw [List.mem_singleton] at hn; subst hn; exact hb⟩
  refine wc ⟨C, Th.has, [.int b], rfl, by simp, meth_z Th ⟨gr, .lst [.int b], [b], rfl, hw, .inl rfl, by simp, one_in hb, rfl⟩ ?_ hj⟩
  refine wc ⟨C, Th.has, [.int a], rfl, by simp, meth_z Th ⟨gr, .lst [.int a], [a], rfl, hw, .inl rfl, by simp, one_in ha, rfl⟩ ?_ hj⟩
  have hal := hadL_len hw (one_in ha)
  tm_at "wp"
  refine ⟨by rw [List.length_map]; omega, lc_t (t := fun y => decide (y ∈ hadL gr [b])) (f := D.int) ⟨rfl, fun k hk => nomatch hk⟩ (fun y hy k q1 q2 => ⟨⟨rfl, all_atom _⟩, ?_⟩) ?_⟩
  · rw [inD_int]
    exact ⟨q1, q2⟩
  have hbi := bothL_in (b := b) hw ha
  have hbl := bothL_len (b := b) hw ha
  have hfl := flat_len hw hbi
  show wpSs g (.cons _ _) [.val x, .val (.int a), .val (.int b), .val (grO C gr), .val (.lst ((hadL gr [b]).map D.int)), .val (.lst ((bothL gr a b).map D.int)), .un, .un, .un] [] (endZ _)
  refine wc ⟨C, Th.has, ?_⟩
  tm_at "wp"
  refine ⟨by rw [List.length_map]; omega, lc_r (out := fun y => (gpar gr y).map D.int) ⟨rfl, fun k hk => nomatch hk⟩ _ [] (fun y hy k q => ⟨fun _ => ⟨C, Tp.has, ?_⟩, fun h => nomatch h⟩) ?_⟩
  · have hpl := hw.parlen (hbi y hy).1 (hbi y hy).2
    refine meth_z Tp ⟨gr, y, rfl, (hbi y hy).1, (hbi y hy).2, rfl⟩ ?_ hl
    tm_at "wp"
    refine ⟨by rw [List.length_map]; omega, lc_m (f := D.int) ⟨rfl, fun k hk => nomatch hk⟩ (fun p hp k q => ⟨fun _ => q, fun h => nomatch h⟩) ⟨by rw [List.length_map]; omega, q⟩⟩
  rw [List.nil_append, ← List.map_flatMap]
  refine meth_z Th ⟨gr, .lst (((bothL gr a b).flatMap (gpar gr)).map D.int), _, rfl, hw, .inl rfl, by omega, flat_in hw hbi, rfl⟩ ?_ hj
  refine wc ?_
  tm_at "wp"
  refine ⟨by rw [List.length_map]; omega, lc_t (t := fun y => !decide (y ∈ hadL gr ((bothL gr a b).flatMap (gpar gr)))) (f := D.int) ⟨rfl, fun k hk => nomatch hk⟩ (fun y hy k q1 q2 => ⟨⟨rfl, all_atom _⟩, ?_⟩) rfl⟩
  rw [inD_int]
  exact ⟨q1, q2⟩
end Dl

/-! LL1: the laws' own helpers: box, take, of, cells, lists, same -/
namespace Dl
open PySem L2
local macro_rules | `(tactic| tm_at "wp") => `(tactic| dsimp only [wpSs_nil, forW_nil, wpS, wpR, wpT, wpA, wpI, wpTs, wpG, wpD, wpO, Z.fz, C.frz, lk, pt, pts, ptM, lkM, binR, cmpR, eqR, inR, biR, ixR, sqL, sqT, sqO, sqD, sqI, sqB, sqS, sqN, sqC, sqX, dqD, dqO, dqI, vwV, vwO, keyD, bindT, clr, mtR, mtOk, Sl.trim, List.map, rhoN, List.replicate, List.length, List.append, Nat.add, Nat.sub, HAppend.hAppend, Append.append, endZ, endI, endO, setR, Gs.ix1])
/-! ### the box -/
structure Bx where
  a : Int
  b : Int
  n : Int
def boxD (s : Bx) : List D := [.int s.a, .int s.b, .int s.n]
def absI (i : Int) : Int := if i < 0 then -i else i
theorem absI_nn (i : Int) : 0 ≤ absI i := by unfold absI; split <;> omega
theorem bit01 (t : Bool) : -(2 ^ 64) < (if t = true then (1 : Int) else 0) ∧ (if t = true then (1 : Int) else 0) < 2 ^ 64 := by cases t <;> decide
def mkBx (x k : Int) : Bx := ⟨absI x * (if decide ((10 : Int) ^ (18 : Int).toNat ≤ absI x) then 1 else 0), x % 2305843009213693951 + 39373 * k + 197, 0⟩
theorem mkBx_a (x k : Int) : 0 ≤ (mkBx x k).a := by
  show 0 ≤ absI x * _
  exact Int.mul_nonneg (absI_nn x) (by split <;> omega)
def Rbox (ds : List D) (z : Z) : Prop := ∃ (ns : List Int) (k : Int), ds = [.lst (ns.map D.int), .int k] ∧ 0 ≤ k ∧ k < ns.length ∧ k ≤ 100 ∧ z = .n (.lst (boxD (mkBx (ns.getD k.toNat 0) k)))
theorem h__law_box {g : Gx} : WpZ g c__law_box 3 Rbox := fun ds z ⟨ns, k, h, h0, h1, h2, hz⟩ => by
  subst h; subst hz
  show wpSs g (.cons _ _) [.val (.lst (ns.map D.int)), .val (.int k), .un] [] (endZ _)
  refine wc ?_
  tm_at "wp"
  rw [atI_map (f := D.int) (z := 0) h0 h1]
  refine ⟨fun _ => ?_, fun h => ?_⟩
  · refine wc ?_
    tm_at "wp"
    refine ⟨⟨by decide, by decide, by decide⟩, .inr (bit01 _), by decide, .inl ⟨by decide, by decide⟩, boxD (mkBx (ns.getD k.toNat 0) k), rfl, by simp [boxD], rfl⟩
  · exfalso
    have := of_decide_eq_false h
    simp at this; omega
/-- a box that has been drawn from at most n times -/
structure Bok (s : Bx) (n : Int) : Prop where
  a : 0 ≤ s.a
  n0 : 0 ≤ s.n
  n1 : s.n ≤ n
theorem Bok.up {s : Bx} {n m : Int} (h : Bok s n) (hn : n ≤ m) : Bok s m := ⟨h.a, h.n0, Int.le_trans h.n1 hn⟩
def preTake (c0 ds : List D) : Prop := ∃ (s : Bx) (n : Int), c0 = boxD s ∧ ds = [.int n] ∧ 0 < n ∧ n < 1000000 ∧ Bok s 1000000000
def postTake (c0 ds : List D) (z : Z) (c1 : List D) : Prop := ∃ (s s' : Bx) (n r : Int), c0 = boxD s ∧ c1 = boxD s' ∧ ds = [.int n] ∧ z = .s (.val (.int r)) ∧ 0 ≤ r ∧ r < n ∧ Bok s' (s.n + 1)
theorem h__law_take {g : Gx} : WpO g c__law_take 6 preTake postTake := fun c0 ds ⟨s, n, hc, h, h1, h2, ba, bn0, bn1⟩ => by
  subst h; subst hc
  show wpSs g (.cons _ _) [.own 0, .val (.int n), .un, .un, .un, .un] [.lst (boxD s)] (endO _)
  refine wc ?_
  unfold boxD
  refine ⟨fun ht => ?_, fun hf => ?_⟩
  · have hpos := of_decide_eq_true ht
    refine wc ⟨h1, wc ⟨⟨h1, by omega⟩, wc ?_⟩⟩
    exact ⟨_, boxD ⟨s.a / n, s.b, s.n⟩, ⟨s, ⟨s.a / n, s.b, s.n⟩, n, s.a % n, rfl, rfl, rfl, rfl, Int.emod_nonneg _ (by omega), Int.emod_lt_of_pos _ h1, ⟨Int.ediv_nonneg ba (by omega), bn0, by show s.n ≤ s.n + 1; omega⟩⟩, rfl, rfl, nofun⟩
  · refine wc (wc ⟨.inl ⟨by decide, by decide⟩, .inr ⟨by show -(2 ^ 64) < 39373 + (s.n + 1); omega, by show 39373 + (s.n + 1) < 2 ^ 64; omega⟩, by decide, wc ⟨by decide, wc ⟨⟨by decide, by decide⟩, .inr ⟨by omega, by omega⟩, by decide, wc ⟨.inr ⟨by decide, by decide⟩, by decide, ⟨by decide, by decide⟩, h1, ?_⟩⟩⟩⟩)
    exact ⟨_, boxD ⟨s.a, s.b, s.n + 1⟩, ⟨s, ⟨s.a, s.b, s.n + 1⟩, n, _, rfl, rfl, rfl, rfl, Int.emod_nonneg _ (by omega), Int.emod_lt_of_pos _ h1, ⟨ba, by show 0 ≤ s.n + 1; omega, Int.le_refl _⟩⟩, rfl, rfl, nofun⟩
theorem take_r {g : Gx} {j k : Nat} {M : List C} {Q : Z → List C → Prop} {s : Bx} {n m : Int} (T : Def g "_law_take" k (spO g.K preTake postTake)) (hj : lkM M j = some (.lst (boxD s))) (h1 : 0 < n) (h2 : n < 1000000) (b : Bok s m) (hm : m ≤ 1000000000) (hk : k ≤ g.k) (hM : okM M = true) (q : ∀ r s', 0 ≤ r → r < n → Bok s' (m + 1) → Q (.s (.val (.int r))) (ptM M j (.lst (boxD s')))) : CallZ g "_law_take" [.own j, .val (.int n)] M Q :=
  call_o (j := j) T ⟨s, n, rfl, rfl, h1, h2, b.up hm⟩ (fun z c1 ⟨s0, s', n', r, e1, e2, e3, e4, h3, h4, b'⟩ _ => by
    cases e3
    have : s0 = s := by
      obtain ⟨a1, a2, a3⟩ := s0
      obtain ⟨b1, b2, b3⟩ := s
      cases e1; rfl
    subst this
    subst e2; subst e4
    exact q r s' h3 h4 (b'.up (by have := b.n1; omega))) hj hk rfl hM
def preOf (c0 ds : List D) : Prop := ∃ (s : Bx) (x : D) (xs : List D), c0 = boxD s ∧ ds = [x] ∧ IsSeq x xs ∧ 0 < xs.length ∧ xs.length < 1000000 ∧ Bok s 1000000000
def postOf (c0 ds : List D) (z : Z) (c1 : List D) : Prop := ∃ (s s' : Bx) (x : D) (xs : List D) (d : D), c0 = boxD s ∧ c1 = boxD s' ∧ ds = [x] ∧ IsSeq x xs ∧ d ∈ xs ∧ z = .s (.val d) ∧ Bok s' (s.n + 1)
theorem h__law_of {g : Gx} {k : Nat} (T : Def g "_law_take" k (spO g.K preTake postTake)) (hk : k ≤ g.k) : WpO g c__law_of 2 preOf postOf := fun c0 ds ⟨s, x, xs, hc, h, hx, h1, h2, b⟩ => by
  subst h; subst hc
  show wpSs g (.cons _ _) [.own 0, .val x] [.lst (boxD s)] (endO _)
  refine wc ?_
  obtain ⟨t, hq⟩ := sq_seq hx
  have bk : Bok s s.n := ⟨b.a, b.n0, Int.le_refl _⟩
  tm_at "wp"
  refine ⟨T.has, ?_⟩
  rw [hq]
  refine take_r T rfl (by omega) (by omega) bk b.n1 hk rfl fun r s' r0 r1 b' => ?_
  tm_at "wp"
  rw [hq]
  tm_at "wp"
  rw [atI_getD (z := D.non) r0 r1]
  exact ⟨_, boxD s', ⟨s, s', x, xs, _, rfl, rfl, rfl, hx, List.mem_of_getElem? (getD_some r0 r1), rfl, b'⟩, rfl, rfl, nofun⟩
theorem of_r {g : Gx} {j k : Nat} {M : List C} {Q : Z → List C → Prop} {s : Bx} {m : Int} {x : D} {xs : List D} (T : Def g "_law_of" k (spO g.K preOf postOf)) (hj : lkM M j = some (.lst (boxD s))) (hx : IsSeq x xs) (h1 : 0 < xs.length) (h2 : xs.length < 1000000) (b : Bok s m) (hm : m ≤ 1000000000) (hk : k ≤ g.k) (hM : okM M = true) (q : ∀ d s', d ∈ xs → Bok s' (m + 1) → Q (.s (.val d)) (ptM M j (.lst (boxD s')))) : CallZ g "_law_of" [.own j, .val x] M Q :=
  call_o (j := j) T ⟨s, x, xs, rfl, rfl, hx, h1, h2, b.up hm⟩ (fun z c1 ⟨s0, s', x', xs', d, e1, e2, e3, e4, h3, e5, b'⟩ _ => by
    cases e3
    have : s0 = s := by
      obtain ⟨a1, a2, a3⟩ := s0
      obtain ⟨b1, b2, b3⟩ := s
      cases e1; rfl
    subst this
    subst e2; subst e5
    have : xs' = xs := by
      rcases hx with rfl | rfl
      · rcases e4 with e | e <;> cases e; rfl
      · rcases e4 with e | e <;> cases e; rfl
    subst this
    exact q d s' h3 (b'.up (by have := b.n1; omega))) hj hk rfl hM
/-! ### the cells -/
def cell0 (m : Nat) (ns : List Int) : List Int := if cutL ns none (some (m : Int)) = [] then [0] else cutL ns none (some (m : Int))
def cellStep (m : Nat) (cs : List Int) (k : Nat) (x : Int) : List Int := cs.set (k % m) (cs.getD (k % m) 0 + x * ((k : Int) + 2))
def cellP (m : Nat) (ns : List Int) : Nat → List Int
  | 0 => cell0 m ns
  | n + 1 => cellStep m (cellP m ns n) n ((cutL ns (some (m : Int)) (some 63)).getD n 0)
def cellM (m : Nat) (ns : List Int) : List Int := cellP m ns (cutL ns (some (m : Int)) (some 63)).length
theorem cellP_len (m : Nat) (ns : List Int) : ∀ n, (cellP m ns n).length = (cell0 m ns).length
  | 0 => rfl
  | n + 1 => by unfold cellP cellStep; rw [List.length_set, cellP_len m ns n]
theorem cut_lo (m : Nat) (ns : List Int) : cutL ns none (some (m : Int)) = ns.take m := by
  show (ns.drop 0).take (min m ns.length - 0) = ns.take m
  rw [List.drop_zero, Nat.sub_zero]
  by_cases h : m ≤ ns.length
  · rw [Nat.min_eq_left h]
  · rw [Nat.min_eq_right (by omega), List.take_of_length_le (by omega), List.take_of_length_le (by omega)]
theorem cut_hi_len (m : Nat) (ns : List Int) : (cutL ns (some (m : Int)) (some 63)).length ≤ 63 ∧ (0 < (cutL ns (some (m : Int)) (some 63)).length → m < ns.length) := by
  have e : (cutL ns (some (m : Int)) (some 63)).length = min (min 63 ns.length - min m ns.length) (ns.length - min m ns.length) := by
    show ((ns.drop (min m ns.length)).take (min 63 ns.length - min m ns.length)).length = _
    rw [List.length_take, List.length_drop]
  rw [e]; omega
theorem cell0_len (m : Nat) (hm : 0 < m) (ns : List Int) : 0 < (cell0 m ns).length ∧ (cell0 m ns).length ≤ m ∧ (m < ns.length → (cell0 m ns).length = m) := by
  unfold cell0
  rw [cut_lo]
  split
  · rename_i h
    refine ⟨by decide, by simp; omega, fun z => ?_⟩
    have := congrArg List.length h
    rw [List.length_take, List.length_nil] at this
    exfalso; omega
  · rename_i h
    have : (ns.take m).length ≠ 0 := fun z => h (List.length_eq_zero_iff.mp z)
    refine ⟨by omega, by simp; omega, fun z => by simp; omega⟩
theorem cellM_len (m : Nat) (hm : 0 < m) (ns : List Int) : 0 < (cellM m ns).length ∧ (cellM m ns).length ≤ m := by
  unfold cellM; rw [cellP_len]; exact ⟨(cell0_len m hm ns).1, (cell0_len m hm ns).2.1⟩
def Rcells (ds : List D) (z : Z) : Prop := ∃ (m : Nat) (ns : List Int), ds = [.scr ns, .int (m : Int)] ∧ 0 < m ∧ m < 1000 ∧ z = .n (.lst ((cellM m ns).map D.int))
theorem h__law_cells {g : Gx} : WpZ g c__law_cells 6 Rcells := fun ds z ⟨m, ns, h, m0, m1, hz⟩ => by
  subst h; subst hz
  show wpSs g (.cons _ _) [.val (.scr ns), .val (.int (m : Int)), .un, .un, .un, .un] [] (endZ _)
  refine wc ?_
  have fin : wpSs g (.cons (.for (.t [3, 4]) (.en (.cut (.v 0) (.some (.v 1)) (.some (.k (.int 63)))))
      (.cons (.asg 5 (.bin .Mod (.bi .int (.cons (.v 3) .nil)) (.v 1)))
      (.cons (.setix (.v 2) (.v 5) (.bin .Add (.ix (.v 2) (.v 5)) (.bin .Mult (.v 4) (.bin .Add (.v 3) (.k (.int 2))))))
      .nil)) [3, 4, 5])
  (.cons (.ret (.v 2))
  .nil)) [.val (.scr ns), .val (.int (m : Int)), .own 0, .un, .un, .un] [.lst ((cell0 m ns).map D.int)] (endZ (.n (.lst ((cellM m ns).map D.int)))) := by
    refine wc ?_
    tm_at "wp"
    rw [List.length_map]
    refine for0 (T := Unit × Nat) (fun _ => [.val (.scr ns), .val (.int (m : Int)), .own 0, .un, .un, .un]) (fun t => [.lst ((cellP m ns t.2).map D.int)]) (fun i t => t.2 = i) ((), 0) rfl (fun i x t k hi ht hk => ?_) (fun t ht => ?_)
    · obtain ⟨_, t⟩ := t
      have ht : t = i := ht
      subst ht
      have hi2 := List.getElem?_eq_some_iff.mp hi
      have hi3 : t < (cutL ns (some (m : Int)) (some 63)).length := by simpa using hi2.1
      have ex : x = t := by have := hi2.2; rw [List.getElem_range] at this; exact this.symm
      subst ex
      have hc := cut_hi_len m ns
      have hlen : (cellP m ns x).length = m := by rw [cellP_len]; exact (cell0_len m m0 ns).2.2 (hc.2 (by omega))
      have elow : ((cutL ns (some (m : Int)) (some 63)).map D.int).getD x .non = .int ((cutL ns (some (m : Int)) (some 63)).getD x 0) := by
        rw [List.getD_eq_getElem?_getD, List.getElem?_map, List.getElem?_eq_getElem hi3, List.getD_eq_getElem?_getD, List.getElem?_eq_getElem hi3]; rfl
      rw [elow]
      refine wc ?_
      tm_at "wp"
      refine ⟨by omega, wc ?_⟩
      have em : ((x : Int) % (m : Int)).toNat = x % m := by omega
      have e0 : 0 ≤ (x : Int) % (m : Int) := by omega
      have e1 : (x : Int) % (m : Int) < m := Int.emod_lt_of_pos _ (by omega)
      tm_at "wp"
      rw [atI_map (f := D.int) (z := 0) e0 (by rw [hlen]; exact e1)]
      tm_at "wp"
      rw [ixN_of e0 (by rw [List.length_map, hlen]; exact e1), em]
      refine ⟨.inr ⟨by omega, by omega⟩, trim_id 1 rfl (fun c hc => ?_) ⟨fun k hk => (nomatch hk), ?_⟩⟩
      · rw [List.mem_singleton] at hc; subst hc; exact fun k hk => (nomatch hk)
      · have := hk ((), x + 1) rfl
        have e : ((cellP m ns x).map D.int).set (x % m) (.int ((cellP m ns x).getD (x % m) 0 + (cutL ns (some (m : Int)) (some 63)).getD x 0 * ((x : Int) + 2))) = (cellP m ns (x + 1)).map D.int := by
          rw [← List.map_set]; rfl
        rw [e]
        exact this
    · refine wc ?_
      show some _ = _
      obtain ⟨_, t⟩ := t
      have ht : t = _ := ht
      subst ht
      show some (C.lst ((cellP m ns (List.range _).length).map D.int)) = some _
      rw [List.length_range]
      rfl
  tm_at "wp"
  by_cases hn : cutL ns none (some (m : Int)) = []
  · rw [hn]
    refine ⟨[.int 0], rfl, by simp, ?_⟩
    have e : (cell0 m ns).map D.int = [.int 0] := by unfold cell0; rw [if_pos hn]; rfl
    rw [e] at fin
    exact fin
  · have e : (cell0 m ns) = cutL ns none (some (m : Int)) := by unfold cell0; rw [if_neg hn]
    rw [e] at fin
    cases ec : cutL ns none (some (m : Int)) with
    | nil => exact absurd ec hn
    | cons a l =>
      rw [ec] at fin
      exact fin
/-! ### lists -/
mutual
def lisD : D → D
  | .lst xs => .lst (lisDs xs)
  | .tup xs => .lst (lisDs xs)
  | d => d
def lisDs : List D → List D
  | [] => []
  | x :: xs => lisD x :: lisDs xs
end
theorem lisDs_map : ∀ xs : List D, lisDs xs = xs.map lisD
  | [] => rfl
  | x :: xs => by rw [lisDs, lisDs_map xs]; rfl
/-- a list that is made anew, or what it was -/
def lisZ : D → Z
  | .lst xs => .n (.lst (lisDs xs))
  | .tup xs => .n (.lst (lisDs xs))
  | d => .s (.val d)
def Rlists (n : Nat) (ds : List D) (z : Z) : Prop := ∃ x, ds = [x] ∧ plain n x = true ∧ (z = lisZ x ∨ z = .s (.val (lisD x)))
theorem h__law_lists {g : Gx} {n j : Nat} (T : n ≠ 0 → Def g "_law_lists" j (spZ g.K (Rlists (n - 1)))) (hk : j ≤ g.k) : WpZ g c__law_lists 2 (Rlists n) := fun ds z ⟨x, h, hp, hz⟩ => by
  subst h
  show wpSs g (.cons _ _) [.val x, .un] [] (endZ _)
  refine wc ?_
  have key : ∀ xs : List D, n ≠ 0 → plains (n - 1) xs = true → xs.length ≤ 1000 → (z = .n (.lst (lisDs xs)) ∨ z = .s (.val (.lst (lisDs xs)))) → ∀ t : Bool, wpG g (.last (.n 1) (.e (.v 0)) .nil (.call "_law_lists" (.cons (.v 1) .nil))) (clr [.val (if t then .lst xs else .tup xs), .un] [1]) [] fun out M1 => Gives z (Z.n (.lst out)) M1 := fun xs hn hp hl hz t => by
    have T := T hn
    have hq := plains_all hp
    cases t
    all_goals
      tm_at "wp"
      refine ⟨by omega, ?_⟩
      conv => arg 3; rw [← List.map_id xs]
      refine lc_m (f := lisD) ⟨rfl, fun k hk => nomatch hk⟩ (fun x hx k q => ?_) ?_
      · exact ⟨fun _ => ⟨T.has, call_z T ⟨x, rfl, hq x hx, .inr rfl⟩ q hk⟩, fun h => nomatch h⟩
      · rw [← lisDs_map]
        rcases hz with rfl | rfl
        · exact rfl
        · exact rfl
  have at_ : ∀ d : D, (z = .s (.val d) ∨ z = .s (.val d)) → Gives z (.s (.val d)) [] := fun d h => by
    rcases h with rfl | rfl
    · exact rfl
    · exact rfl
  cases x with
  | lst xs =>
    tm_at "wp"
    cases n with
    | zero => exact absurd hp (by simp [plain])
    | succ n =>
      have hp : (decide (xs.length ≤ 1000) && plains n xs) = true := hp
      exact ⟨kdL, fun _ => key xs (by simp) (plain_items hp) (of_decide_eq_true (Bool.and_eq_true_iff.mp hp).1) (by simpa [lisD, lisZ] using hz) true, fun h => nomatch h⟩
  | tup xs =>
    tm_at "wp"
    cases n with
    | zero => exact absurd hp (by simp [plain])
    | succ n =>
      have hp : (decide (xs.length ≤ 1000) && plains n xs) = true := hp
      exact ⟨kdT, fun _ => key xs (by simp) (plain_items hp) (of_decide_eq_true (Bool.and_eq_true_iff.mp hp).1) (by simpa [lisD, lisZ] using hz) false, fun h => nomatch h⟩
  | non => exact ⟨kdN, (fun h => nomatch h), fun _ => at_ _ (by simpa [lisD, lisZ] using hz)⟩
  | bl b => exact ⟨kdB, (fun h => nomatch h), fun _ => at_ _ (by simpa [lisD, lisZ] using hz)⟩
  | int i => exact ⟨kdI, (fun h => nomatch h), fun _ => at_ _ (by simpa [lisD, lisZ] using hz)⟩
  | str s => exact ⟨kdS, (fun h => nomatch h), fun _ => at_ _ (by simpa [lisD, lisZ] using hz)⟩
  | _ => exact absurd hp (by simp [plain])
end Dl

/-! LL2: same; graphs as lists -/
namespace Dl
open PySem L2
local macro_rules | `(tactic| tm_at "wp") => `(tactic| dsimp only [wpSs_nil, forW_nil, wpS, wpR, wpT, wpA, wpI, wpTs, wpG, wpD, wpO, Z.fz, C.frz, lk, pt, pts, ptM, lkM, binR, cmpR, eqR, inR, biR, ixR, sqL, sqT, sqO, sqD, sqI, sqB, sqS, sqN, sqC, sqX, dqD, dqO, dqI, vwV, vwO, keyD, bindT, clr, mtR, mtOk, Sl.trim, List.map, rhoN, List.replicate, List.length, List.append, Nat.add, Nat.sub, HAppend.hAppend, Append.append, endZ, endI, endO, setR, Gs.ix1])
def Rsame (n : Nat) (ds : List D) (z : Z) : Prop := ∃ x, ds = [x, x] ∧ plain n x = true ∧ z = .s (.val (.bl true))
theorem getD_in {xs : List D} {i : Nat} (h : i < xs.length) : xs.getD i .non ∈ xs := by
  rw [List.getD_eq_getElem?_getD, List.getElem?_eq_getElem h]; exact List.getElem_mem h
theorem all_isB (n : Nat) : ((List.range n).map fun _ => D.bl true).all isB = true := by simp [isB]
theorem all_blD (n : Nat) : ((List.range n).map fun _ => D.bl true).all blD = true := by simp [blD]
theorem same_atom {g : Gx} {x : D} (hp : plain 0 x = true) : wpSs g c__law_same [.val x, .val x, .un, .un, .un] [] (endZ (.s (.val (.bl true)))) := by
  cases x with
  | non =>
    refine wc ⟨kdN, (fun h => nomatch h), fun _ => wc ⟨kdN, (fun h => nomatch h), fun _ => wc ⟨fun h => (nomatch h), fun _ => ?_⟩⟩⟩
    exact ⟨fun _ => wc ⟨⟨rfl, rfl⟩, fun _ => ⟨kdN, kdN, fun _ => rfl, fun h => nomatch h⟩, fun h => nomatch h⟩, fun h => nomatch h⟩
  | bl b =>
    refine wc ⟨kdB, (fun h => nomatch h), fun _ => wc ⟨kdB, (fun h => nomatch h), fun _ => wc ⟨fun _ => ⟨kdB, fun _ => ?_, fun h => nomatch h⟩, fun h => nomatch h⟩⟩⟩
    exact wc ⟨fun _ => ⟨kdB, kdB, fun _ => rfl, fun h => nomatch h⟩, fun h => by cases b <;> cases h⟩
  | int i =>
    refine wc ⟨kdI, (fun h => nomatch h), fun _ => wc ⟨kdI, (fun h => nomatch h), fun _ => wc ⟨fun _ => ⟨kdI, (fun h => nomatch h), fun _ => ?_⟩, fun h => nomatch h⟩⟩⟩
    refine wc ⟨kdI, fun _ => ⟨kdI, fun _ => ?_, fun h => nomatch h⟩, fun h => nomatch h⟩
    show some (D.bl (decide (i = i))) = _
    rw [decide_eq_true rfl]
  | str s =>
    refine wc ⟨kdS, (fun h => nomatch h), fun _ => wc ⟨kdS, (fun h => nomatch h), fun _ => wc ⟨fun _ => ⟨kdS, fun _ => ?_, fun h => nomatch h⟩, fun h => nomatch h⟩⟩⟩
    refine wc ⟨fun _ => ⟨kdS, kdS, fun _ => rfl, fun h => nomatch h⟩, fun h => ?_⟩
    rw [decide_eq_true rfl] at h; cases h
  | _ => exact absurd hp (by simp [plain])
theorem h__law_same {g : Gx} {n j : Nat} (T : n ≠ 0 → Def g "_law_same" j (spZ g.K (Rsame (n - 1)))) (hk : j ≤ g.k) : WpZ g c__law_same 5 (Rsame n) := fun ds z ⟨x, h, hp, hz⟩ => by
  subst h; subst hz
  show wpSs g c__law_same [.val x, .val x, .un, .un, .un] [] (endZ _)
  cases x with
  | non => exact same_atom rfl
  | bl b => exact same_atom rfl
  | int i => exact same_atom rfl
  | str s => exact same_atom (by simpa [plain] using hp)
  | lst xs =>
    cases n with
    | zero => exact absurd hp (by simp [plain])
    | succ n =>
      have T := T (by simp)
      have hp : (decide (xs.length ≤ 1000) && plains n xs) = true := hp
      have hl := of_decide_eq_true (Bool.and_eq_true_iff.mp hp).1
      have hq := plains_all (plain_items hp)
      refine wc ⟨kdL, fun _ => wc ?_, fun h => nomatch h⟩
      refine ⟨kdL, kdL, fun _ => ⟨kdL, kdL, (fun h => nomatch h), fun _ => wc ?_⟩, fun h => nomatch h⟩
      tm_at "wp"
      refine ⟨fun _ => ?_, fun h => by rw [decide_eq_true rfl] at h; cases h⟩
      rw [Nat.min_self]
      refine ⟨by simp; omega, lc_m (f := fun _ => .bl true) ⟨rfl, fun k hk => nomatch hk⟩ (fun i hi k q => ⟨fun _ => ⟨T.has, call_z T ⟨_, rfl, hq _ (getD_in (List.mem_range.mp hi)), rfl⟩ q hk⟩, fun h => nomatch h⟩) ?_⟩
      exact ⟨all_isB _, by rw [all_blD]; exact rfl⟩
  | tup xs =>
    cases n with
    | zero => exact absurd hp (by simp [plain])
    | succ n =>
      have T := T (by simp)
      have hp : (decide (xs.length ≤ 1000) && plains n xs) = true := hp
      have hl := of_decide_eq_true (Bool.and_eq_true_iff.mp hp).1
      have hq := plains_all (plain_items hp)
      refine wc ⟨kdT, fun _ => wc ?_, fun h => nomatch h⟩
      refine ⟨kdT, kdT, fun _ => ⟨kdT, kdT, (fun h => nomatch h), fun _ => wc ?_⟩, fun h => nomatch h⟩
      tm_at "wp"
      refine ⟨fun _ => ?_, fun h => by rw [decide_eq_true rfl] at h; cases h⟩
      rw [Nat.min_self]
      refine ⟨by simp; omega, lc_m (f := fun _ => .bl true) ⟨rfl, fun k hk => nomatch hk⟩ (fun i hi k q => ⟨fun _ => ⟨T.has, call_z T ⟨_, rfl, hq _ (getD_in (List.mem_range.mp hi)), rfl⟩ q hk⟩, fun h => nomatch h⟩) ?_⟩
      exact ⟨all_isB _, by rw [all_blD]; exact rfl⟩
  | _ => exact absurd hp (by simp [plain])
theorem lis_gT (g : Gr) : lisD (gT g) = gL g := by
  unfold gT gL
  rw [lisD, lisDs_map, List.map_map]
  congr 1
  refine List.map_congr_left fun r _ => ?_
  show lisD (rowT r) = rowL r
  unfold rowT rowL
  have e : (r.2.map D.int).map lisD = r.2.map D.int := by
    rw [List.map_map]
    exact List.map_congr_left fun _ _ => by simp [lisD]
  simp [lisD, lisDs, lisDs_map, e]
theorem plain_gT {g : Gr} (h : WF g) : plain 3 (gT g) = true := by
  show (decide ((g.map rowT).length ≤ 1000) && plains 2 (g.map rowT)) = true
  have := h.len
  rw [Bool.and_eq_true]
  refine ⟨decide_eq_true (by simp; omega), plains_map fun r hr => ?_⟩
  obtain ⟨i, e⟩ := List.mem_iff_getElem?.mp hr
  have hi := (List.getElem?_eq_some_iff.mp e).1
  have w := h.row i r e
  have := asc_len r.2 i w.2.2.1 w.2.2.2
  show (decide (2 ≤ 1000) && plains 1 [.int r.1, .tup (r.2.map D.int)]) = true
  simp only [plains, plain, Bool.and_eq_true, List.length_map, decide_eq_true_eq]
  exact ⟨by decide, trivial, ⟨by omega, plains_ints 0 r.2⟩, trivial⟩
theorem plain_rowL {g : Gr} (h : WF g) {r : Int × List Int} (hr : r ∈ g) : plain 2 (rowL r) = true := by
  obtain ⟨i, e⟩ := List.mem_iff_getElem?.mp hr
  have hi := (List.getElem?_eq_some_iff.mp e).1
  have w := h.row i r e
  have := asc_len r.2 i w.2.2.1 w.2.2.2
  have := h.len
  show (decide (2 ≤ 1000) && plains 1 [.int r.1, .lst (r.2.map D.int)]) = true
  simp only [plains, plain, Bool.and_eq_true, List.length_map, decide_eq_true_eq]
  exact ⟨by decide, trivial, ⟨by omega, plains_ints 0 r.2⟩, trivial⟩
theorem plain_rows {g l : Gr} (h : WF g) (hl : ∀ r ∈ l, r ∈ g) (hz : l.length ≤ 1000) : plain 3 (.lst (l.map rowL)) = true := by
  show (decide ((l.map rowL).length ≤ 1000) && plains 2 (l.map rowL)) = true
  rw [Bool.and_eq_true]
  exact ⟨decide_eq_true (by simpa using hz), plains_map fun r hr => plain_rowL h (hl r hr)⟩
theorem plain_gL {g : Gr} (h : WF g) : plain 3 (gL g) = true := plain_rows h (fun _ z => z) (by have := h.len; omega)
theorem eqv_nil (ds : List D) : PyData.eqv (toPy (.lst ds)) (toPy (.lst [])) = ds.isEmpty := by
  cases ds <;> rfl
end Dl

/-! LL3: the drawn graph -/
namespace Dl
open PySem L2
local macro_rules | `(tactic| tm_at "wp") => `(tactic| dsimp only [wpSs_nil, forW_nil, wpS, wpR, wpT, wpA, wpI, wpTs, wpG, wpD, wpO, Z.fz, C.frz, lk, pt, pts, ptM, lkM, binR, cmpR, eqR, inR, biR, ixR, sqL, sqT, sqO, sqD, sqI, sqB, sqS, sqN, sqC, sqX, dqD, dqO, dqI, vwV, vwO, keyD, bindT, clr, mtR, mtOk, Sl.trim, List.map, List.nil_append, List.cons_append, List.length_cons, List.length_nil, Nat.reduceAdd, endZ, endI, endO, setR, Gs.ix1])
def preNet (c0 ds : List D) : Prop := ∃ (s : Bx) (n : Int), c0 = boxD s ∧ ds = [.int n] ∧ 0 ≤ n ∧ n ≤ 24 ∧ Bok s 900000000
def postNet (c0 ds : List D) (z : Z) (c1 : List D) : Prop := ∃ (s s' : Bx) (g : Gr) (n : Int), c0 = boxD s ∧ c1 = boxD s' ∧ ds = [.int n] ∧ z = .s (.val (gT g)) ∧ WF g ∧ (g.length : Int) = n ∧ Bok s' (s.n + 300)
/-- the rows so far -/
def Rows (g : Gr) : Prop := ∀ (i : Nat) (r : Int × List Int), g[i]? = some r → 0 ≤ r.1 ∧ r.1 ≤ 1000000 ∧ r.2.Pairwise (· < ·) ∧ ∀ p ∈ r.2, 0 ≤ p ∧ p < (i : Int)
theorem Rows.snoc {g : Gr} {r : Int × List Int} (h : Rows g) (hr : 0 ≤ r.1 ∧ r.1 ≤ 1000000 ∧ r.2.Pairwise (· < ·) ∧ ∀ p ∈ r.2, 0 ≤ p ∧ p < (g.length : Int)) : Rows (g ++ [r]) := fun i q e => by
  by_cases hi : i < g.length
  · rw [List.getElem?_append_left hi] at e; exact h i q e
  · rw [List.getElem?_append_right (by omega)] at e
    have : i - g.length = 0 := by
      have := (List.getElem?_eq_some_iff.mp e).1
      simp at this; omega
    rw [this] at e
    cases e
    have : i = g.length := by omega
    subst this
    exact hr
structure NetS where
  g : Gr
  s : Bx
  here : Int
  low : Bool
theorem h__law_graph {G : Gx} {kt ko : Nat} (Tt : Def G "_law_take" kt (spO G.K preTake postTake)) (To : Def G "_law_of" ko (spO G.K preOf postOf)) (hkt : kt ≤ G.k) (hko : ko ≤ G.k) : WpO G c__law_graph 12 preNet postNet := fun c0 ds ⟨s0, n, hc, h, n0, n1, bk0⟩ => by
  subst h; subst hc
  have b0 := bk0.n1
  have b00 : Bok s0 s0.n := ⟨bk0.a, bk0.n0, Int.le_refl _⟩
  show wpSs G (.cons _ _) [.own 0, .val (.int n), .un, .un, .un, .un, .un, .un, .un, .un, .un, .un] [.lst (boxD s0)] (endO _)
  refine wc ?_
  tm_at "wp"
  refine ⟨[], rfl, by simp, rfl, wc ?_⟩
  tm_at "wp"
  refine ⟨⟨by omega, by omega⟩, ?_⟩
  refine for0 (T := NetS) (fun t => [.own 0, .val (.int n), .own 1, .val (.int t.here), .val (.bl t.low), .un, .un, .un, .un, .un, .un, .un]) (fun t => [.lst (boxD t.s), .lst (t.g.map rowT)]) (fun i t => t.g.length = i ∧ Rows t.g ∧ Bok t.s (s0.n + 12 * i) ∧ 0 ≤ t.here ∧ t.here ≤ 10 + 5 * i) ⟨[], s0, 10, false⟩ ⟨rfl, (fun i r e => nomatch e), b00.up (by simp), by simp, by simp⟩ (fun i x t k hi ⟨hgl, hrows, bk, hh0, hh1⟩ hk => ?_) (fun t ⟨hgl, hrows, bk, _, _⟩ => ?_)
  · obtain ⟨g, s, here, low⟩ := t
    obtain ⟨hi, rfl⟩ := rng_get.mp hi
    rw [Int.zero_add]
    have hi24 : i < 24 := by omega
    dsimp only at hgl hrows bk hh0 hh1
    refine wc ?_
    tm_at "wp"
    refine ⟨To.has, [.int 0, .int 1, .int 1, .int 2, .int 5], rfl, by simp, of_r To rfl (.inl rfl) (by simp) (by simp) bk (by omega) hko rfl fun up s1 hup bk1 => ?_⟩
    obtain ⟨u, rfl, hu⟩ : ∃ u : Int, up = .int u ∧ (0 ≤ u ∧ u ≤ 5) := by
      simp at hup
      rcases hup with h | h | h | h <;> exact ⟨_, h, by decide, by decide⟩
    tm_at "wp"
    refine ⟨Tt.has, take_r Tt rfl (by omega) (by omega) bk1 (by omega) hkt rfl fun r2 s2 _ _ bk2 => ?_⟩
    tm_at "wp"
    refine ⟨rfl, ?_⟩
    generalize decide (r2 < 1 + (if low = true then 1 else 0)) = low2
    -- far
    refine wc ?_
    tm_at "wp"
    refine ⟨To.has, Tt.has, take_r Tt rfl (by omega) (by omega) bk2 (by omega) hkt rfl fun r3 s3 r30 r31 bk3 => ⟨[.int 0, .int 0, .int 0, .int r3, .int (-3)], rfl, by simp, of_r To rfl (.inl rfl) (by simp) (by simp) bk3 (by omega) hko rfl fun far s4 hfar bk4 => ?_⟩⟩
    obtain ⟨f, rfl, hf⟩ : ∃ f : Int, far = .int f ∧ (-3 ≤ f ∧ f ≤ 9) := by
      simp at hfar
      rcases hfar with h | h | h
      · exact ⟨_, h, by decide, by decide⟩
      · exact ⟨_, h, by omega, by omega⟩
      · exact ⟨_, h, by decide, by decide⟩
    -- date
    refine wc (asg_cut (fun r M' => ∃ (date : Int) (s5 : Bx), r = .val (.int date) ∧ M' = [.lst (boxD s5), .lst (g.map rowT)] ∧ date ≤ 1000 ∧ Bok s5 (s0.n + 12 * i + 5)) ?_ ?_)
    · tm_at "wp"
      exact ⟨fun _ => ⟨Tt.has, take_r Tt rfl (by omega) (by omega) bk4 (by omega) hkt rfl fun r5 s5 _ _ bk5 => ⟨r5, s5, rfl, rfl, by omega, bk5.up (by omega)⟩⟩, fun _ => ⟨_, s4, rfl, rfl, by omega, bk4.up (by omega)⟩⟩
    rintro r M' ⟨date, s5, rfl, rfl, hdate, bk5⟩
    tm_at "wp"
    -- near
    refine wc (asg_cut (fun r M' => ∃ (near : List Int) (s6 : Bx), r = .val (.lst (near.map D.int)) ∧ M' = [.lst (boxD s6), .lst (g.map rowT)] ∧ near.length ≤ 24 ∧ (∀ x ∈ near, 0 ≤ x ∧ x < (i : Int)) ∧ Bok s6 (s0.n + 12 * i + 6)) ?_ ?_)
    · tm_at "wp"
      refine ⟨Tt.has, take_r Tt rfl (by omega) (by omega) bk5 (by omega) hkt rfl fun r6 s6 _ _ bk6 => ?_⟩
      tm_at "wp"
      exact ⟨fun _ => ⟨⟨by omega, by omega⟩, _, s6, rfl, rfl, by rw [rng_len]; omega, fun x hx => by have := rng_mem.mp hx; omega, bk6.up (by omega)⟩, fun _ => ⟨⟨by omega, by omega, by omega, by omega⟩, _, s6, rfl, rfl, by rw [rng_len]; omega, fun x hx => by have := rng_mem.mp hx; omega, bk6.up (by omega)⟩⟩
    rintro r M' ⟨near, s6, rfl, rfl, hnl, hnear, bk6⟩
    tm_at "wp"
    -- how many
    have hpn : plain 60 (.lst (near.map D.int)) = true := plain_ints (.inl rfl) (by omega)
    have en : eqD (.lst (near.map D.int)) (.lst []) = (near.map D.int).isEmpty := eqv_nil _
    refine wc (asg_cut (fun r M' => ∃ (m : Nat) (s7 : Bx), r = .val (.int m) ∧ M' = [.lst (boxD s7), .lst (g.map rowT)] ∧ m ≤ 3 ∧ (0 < m → 0 < near.length) ∧ Bok s7 (s0.n + 12 * i + 7)) ?_ ?_)
    · tm_at "wp"
      refine ⟨To.has, [.int 0, .int 1, .int 1, .int 1, .int 2, .int 3], rfl, by simp, of_r To rfl (.inl rfl) (by simp) (by simp) bk6 (by omega) hko rfl fun few s7 hfew bk7 => ?_⟩
      obtain ⟨q, rfl, hq⟩ : ∃ q : Int, few = .int q ∧ (0 ≤ q ∧ q ≤ 3) := by
        simp at hfew
        rcases hfew with h | h | h | h <;> exact ⟨_, h, by decide, by decide⟩
      refine ⟨[], rfl, by simp, ⟨hpn, rfl⟩, ?_⟩
      tm_at "wp"
      rw [en]
      have hm : ∃ m : Nat, q * (if (!(near.map D.int).isEmpty) = true then 1 else 0) = (m : Int) ∧ m ≤ 3 ∧ (0 < m → 0 < near.length) := by
        cases near with
        | nil => exact ⟨0, by simp, by omega, by omega⟩
        | cons y ys => exact ⟨q.toNat, by simp; omega, by omega, fun _ => by simp⟩
      obtain ⟨m, em, hm3, hmp⟩ := hm
      rw [em]
      exact ⟨.inr (bit01 _), m, s7, rfl, rfl, hm3, hmp, bk7.up (by omega)⟩
    rintro r M' ⟨m, s7, rfl, rfl, hm3, hmp, bk7⟩
    tm_at "wp"
    -- some
    refine wc (asg_cut (fun r M' => ∃ (some : List Int) (s8 : Bx), r = .val (.lst (some.map D.int)) ∧ M' = [.lst (boxD s8), .lst (g.map rowT)] ∧ some.length ≤ 4 ∧ (∀ x ∈ some, 0 ≤ x ∧ x < (i : Int)) ∧ Bok s8 (s0.n + 12 * i + 10)) ?_ ?_)
    · refine bin_cut (fun r M' => ∃ pre : List Int, r = .val (.lst (pre.map D.int)) ∧ M' = [.lst (boxD s7), .lst (g.map rowT)] ∧ pre.length ≤ 1 ∧ ∀ x ∈ pre, 0 ≤ x ∧ x < (i : Int)) ?_ ?_
      · tm_at "wp"
        refine ⟨[.int ((i : Int) - 1)], rfl, by simp, fun _ => ?_, fun _ => ?_⟩
        · by_cases hp : 0 < (i : Int)
          · rw [decide_eq_true hp]
            exact ⟨⟨by decide, by decide, by simp⟩, [(i : Int) - 1], rfl, rfl, by simp, fun x hx => by rw [List.mem_singleton] at hx; omega⟩
          · rw [decide_eq_false hp]
            exact ⟨⟨by decide, by decide, by simp⟩, [], rfl, rfl, by simp, fun x hx => nomatch hx⟩
        · exact ⟨⟨by decide, by decide, by simp⟩, [], rfl, rfl, by simp, fun x hx => nomatch hx⟩
      · rintro r M' ⟨pre, rfl, rfl, hpl, hpre⟩
        tm_at "wp"
        refine ⟨by omega, by rw [List.length_map, rng_len]; omega, ?_⟩
        refine lc_s (T := Bx) (fun s => [.lst (boxD s), .lst (g.map rowT)]) (fun j s acc => ∃ ns : List Int, acc = ns.map D.int ∧ ns.length = j ∧ (∀ x ∈ ns, x ∈ near) ∧ Bok s (s0.n + 12 * i + 7 + j)) (fun _ => ⟨rfl, fun k hk => nomatch hk⟩) (rng 0 (m : Int).toNat) 0 s7 [] ⟨[], rfl, rfl, (fun x hx => nomatch hx), bk7.up (by omega)⟩ (fun j x sj acc hj ⟨ns, e, hnl2, hin, bkj⟩ kk hkk => ⟨fun _ => ?_, fun h => nomatch h⟩) (fun s8 acc ⟨ns, e, hnl2, hin, bk8⟩ => ?_)
        · have hj2 : j < m := by have := (List.getElem?_eq_some_iff.mp hj).1; rw [rng_len] at this; omega
          subst e
          refine ⟨To.has, of_r To rfl (.inl rfl) (by rw [List.length_map]; exact hmp (by omega)) (by rw [List.length_map]; omega) bkj (by omega) hko rfl fun d s' hd b' => ?_⟩
          obtain ⟨y, hy, rfl⟩ := List.mem_map.mp hd
          refine hkk s' [.int y] ⟨ns ++ [y], by simp, by simp; omega, fun x hx => ?_, b'.up (by omega)⟩
          rcases List.mem_append.mp hx with z | z
          · exact hin x z
          · rw [List.mem_singleton] at z; rw [z]; exact hy
        · subst e
          rw [rng_len] at hnl2 bk8
          refine ⟨by rw [List.length_map, List.length_map]; omega, pre ++ ns, s8, by rw [List.map_append], rfl, by rw [List.length_append]; omega, fun x hx => ?_, bk8.up (by omega)⟩
          rcases List.mem_append.mp hx with z | z
          · exact hpre x z
          · exact hnear x (hin x z)
    rintro r M' ⟨some, s8, rfl, rfl, hsl, hsome, bk8⟩
    tm_at "wp"
    refine wc ?_
    tm_at "wp"
    refine ⟨rfl, ⟨all_isI _, by rw [List.length_map]; omega⟩, ?_⟩
    rw [map_intD]
    refine ⟨[.int (max 0 date), .tup ((sset some).map D.int)], rfl, by simp, by rw [List.length_map]; omega, ?_⟩
    refine trim_id 2 rfl (fun c hc => ?_) ⟨fun k hk => (nomatch hk), ?_⟩
    · have : c = .lst (boxD s8) ∨ c = .lst (g.map rowT ++ [.tup [.int (max 0 date), .tup ((sset some).map D.int)]]) := by simpa using hc
      rcases this with rfl | rfl
      · exact fun k hk => (nomatch hk)
      · exact fun k hk => (nomatch hk)
    · have := hk ⟨g ++ [(max 0 date, sset some)], s8, here + u, low2⟩ ⟨by simp; omega, hrows.snoc ⟨by simp; omega, by simp; omega, sset_sorted some, fun p hp => ?_⟩, bk8.up (by push_cast; omega), by show 0 ≤ here + u; omega, by show here + u ≤ _; push_cast; omega⟩
      · have e : (g ++ [(max 0 date, sset some)]).map rowT = g.map rowT ++ [.tup [.int (max 0 date), .tup ((sset some).map D.int)]] := by rw [List.map_append]; rfl
        rw [← e]
        exact this
      · rw [hgl]
        exact hsome p (mem_sset.mp hp)
  · obtain ⟨g, s, here, low⟩ := t
    rw [rng_len] at hgl
    refine wc ?_
    dsimp only at hgl hrows bk
    refine ⟨_, boxD s, ⟨s0, s, g, n, rfl, rfl, rfl, rfl, ⟨by omega, hrows⟩, by omega, bk.up ?_⟩, rfl, rfl, nofun⟩
    rw [rng_len]; omega
end Dl

/-! K20L: the law's had, common, nearest -/
namespace Dl
open PySem L2
local macro_rules | `(tactic| tm_at "wp") => `(tactic| dsimp only [wpSs_nil, forW_nil, wpS, wpR, wpT, wpA, wpI, wpTs, wpG, wpD, wpO, Z.fz, C.frz, lk, pt, pts, ptM, lkM, binR, cmpR, eqR, inR, biR, ixR, sqL, sqT, sqO, sqD, sqI, sqB, sqS, sqN, sqC, sqX, dqD, dqO, dqI, vwV, vwO, keyD, bindT, clr, mtR, mtOk, Sl.trim, List.map, List.nil_append, List.cons_append, List.length_cons, List.length_nil, Nat.reduceAdd, endZ, endI, endO, setR, Gs.ix1])
theorem row_at {g : Gr} {i : Int} (h0 : 0 ≤ i) (h1 : i < g.length) : atI (g.map rowT) i = some (.tup [.int (gdate g i), .tup ((gpar g i).map D.int)]) := atI_map (f := rowT) (z := (0, [])) h0 h1
theorem rngD_get {n i : Nat} {y : Int} (h : (rngD ((n : Int) - 1) ((n : Int) - 1 - -1).toNat)[i]? = some y) : i < n ∧ y = ((n - 1 - i : Nat) : Int) := by
  unfold rngD at h
  rw [List.getElem?_map] at h
  by_cases hi : i < (((n : Int) - 1) - -1).toNat
  · rw [List.getElem?_range hi] at h
    simp at h
    omega
  · rw [List.getElem?_eq_none_iff.mpr (by simp; omega)] at h
    cases h
theorem rngD_len (n : Nat) : (rngD ((n : Int) - 1) ((n : Int) - 1 - -1).toNat).length = n := by
  unfold rngD
  simp
def hadSt2 (g : Gr) (i : Nat) (ks : List Int) : List Int := if (i : Int) ∈ ks then ks ++ (gpar g i).filter (fun y => !decide (y ∈ ks)) else ks
theorem hadSt2_mem (g : Gr) (i : Nat) (ks : List Int) (_ : i < g.length) (x : Int) : x ∈ hadSt2 g i ks ↔ x ∈ ks ∨ ((i : Int) ∈ ks ∧ x ∈ gpar g i) := by
  unfold hadSt2
  split
  · rename_i h
    rw [List.mem_append, List.mem_filter]
    by_cases hx : x ∈ ks <;> simp [hx, h]
  · rename_i h; simp [h]
theorem nd_asc {l : List Int} (h : l.Pairwise (· < ·)) : l.Nodup := h.imp fun h => by omega
theorem nd_hadSt2 {g : Gr} (hw : WF g) {i : Nat} (hi : i < g.length) {ks : List Int} (h : ks.Nodup) : (hadSt2 g i ks).Nodup := by
  unfold hadSt2
  split
  · rw [List.nodup_append]
    refine ⟨h, (nd_asc (hw.at (i := (i : Int)) (by omega) (by omega)).2.2.1).filter _, fun a ha b hb => ?_⟩
    have := (List.mem_filter.mp hb).2
    rintro rfl
    simp [ha] at this
  · exact h
def Rlaw_had (ds : List D) (z : Z) : Prop := ∃ (g : Gr) (ns : List Int), ds = [gT g, .tup (ns.map D.int)] ∧ WF g ∧ ns.length < 64 ∧ (∀ n ∈ ns, 0 ≤ n ∧ n < g.length) ∧ z = .n (.lst ((hadL g ns).map D.int))
theorem h__law_had {G : Gx} : WpZ G c__law_had 5 Rlaw_had := fun ds z ⟨g, ns, h, hw, hnl, hn, hz⟩ => by
  subst h; subst hz
  have hwl := hw.len
  show wpSs G (.cons _ _) [.val (.tup (g.map rowT)), .val (.tup (ns.map D.int)), .un, .un, .un] [] (endZ _)
  refine wc ?_
  tm_at "wp"
  refine ⟨⟨all_isI _, by simpa using hnl⟩, wc ?_⟩
  rw [map_intD]
  tm_at "wp"
  rw [List.length_map]
  refine ⟨by omega, ?_⟩
  refine for0 (T := List Int) (fun ks => [.val (.tup (g.map rowT)), .val (.tup (ns.map D.int)), .val (.lst (ks.map D.int)), .un, .un]) (fun _ => []) (fun i ks => ks.Nodup ∧ (∀ y ∈ ks, 0 ≤ y ∧ y < g.length) ∧ sweepL (hadSt2 g) (g.length - i) ks = sweepL (hadSt2 g) g.length (sset ns)) (sset ns) ⟨nd_asc (sset_sorted ns), fun y hy => hn y (mem_sset.mp hy), rfl⟩ (fun i y ks k hi ⟨nd, hks, hsw⟩ hk => ?_) (fun ks ⟨nd, hks, hsw⟩ => ?_)
  · obtain ⟨hi1, hi2⟩ := rngD_get hi
    have y0 : 0 ≤ y := by omega
    have y1 : y < g.length := by omega
    have wat := hw.at (i := y) y0 y1
    have hpl := hw.parlen y0 y1
    have hsw2 : sweepL (hadSt2 g) (g.length - (i + 1)) (hadSt2 g (g.length - 1 - i) ks) = sweepL (hadSt2 g) g.length (sset ns) := by
      rw [← hsw, show g.length - i = (g.length - (i + 1)) + 1 by omega]
      show _ = sweepL (hadSt2 g) _ (hadSt2 g (g.length - (i + 1)) ks)
      rw [show g.length - 1 - i = g.length - (i + 1) by omega]
    have hl := nd_len nd hks
    refine wc ?_
    tm_at "wp"
    refine ⟨⟨rfl, all_atom _⟩, ?_⟩
    rw [inD_int]
    refine ⟨fun hin => wc ?_, fun hin => ?_⟩
    · have hin : y ∈ ks := of_decide_eq_true hin
      have he : hadSt2 g (g.length - 1 - i) ks = ks ++ (gpar g y).filter (fun y => !decide (y ∈ ks)) := by
        unfold hadSt2
        rw [← hi2, if_pos hin]
      tm_at "wp"
      rw [row_at y0 y1]
      refine ⟨by rw [List.length_map]; omega, lc_t (t := fun p => !decide (p ∈ ks)) (f := D.int) ⟨rfl, fun k hk => nomatch hk⟩ (fun p hp k q1 q2 => ⟨⟨rfl, all_atom _⟩, ?_⟩) ?_⟩
      · rw [inD_int]
        exact ⟨q1, q2⟩
      refine ⟨?_, trim_nil ⟨fun k hk => (nomatch hk), ?_⟩⟩
      · have := List.length_filter_le (fun p => !decide (p ∈ ks)) (gpar g y)
        rw [List.length_map, List.length_map]; omega
      rw [← List.map_append, ← he]
      refine hk _ ⟨nd_hadSt2 hw (by omega) nd, fun z hz => ?_, hsw2⟩
      rcases (hadSt2_mem g _ ks (by omega) z).mp hz with z1 | ⟨_, z2⟩
      · exact hks z z1
      · rw [← hi2] at z2
        have := wat.2.2.2 z z2
        omega
    · have hin : y ∉ ks := of_decide_eq_false hin
      have he : hadSt2 g (g.length - 1 - i) ks = ks := by
        unfold hadSt2
        rw [← hi2, if_neg hin]
      rw [he] at hsw2
      exact trim_nil ⟨fun k hk => (nomatch hk), hk _ ⟨nd, hks, hsw2⟩⟩
  · refine wc ⟨all_isI _, ?_⟩
    rw [map_intD]
    rw [rngD_len, Nat.sub_self] at hsw
    have hsw : ks = _ := hsw
    have e : isort ks = hadL g ns := asc_unique (asc_isort nd) (asc_hadL g ns) fun x => by
      rw [(isort_perm ks).mem_iff, mem_hadL hw hn, hsw]
      exact sweep_mem hw (hadSt2_mem g) hn _ (fun y => mem_sset) x
    rw [e]
    exact rfl
def Rlaw_common (ds : List D) (z : Z) : Prop := ∃ (g : Gr) (a b : Int), ds = [gT g, .int a, .int b] ∧ WF g ∧ (0 ≤ a ∧ a < g.length) ∧ (0 ≤ b ∧ b < g.length) ∧ z = .n (.lst ((bothL g a b).map D.int))
theorem h__law_common {G : Gx} {i : Nat} (Th : Def G "_law_had" i (spZ G.K Rlaw_had)) (hi : i ≤ G.k) : WpZ G c__law_common 4 Rlaw_common := fun ds z ⟨g, a, b, h, hw, ha, hb, hz⟩ => by
  subst h; subst hz
  have hal := hadL_len hw (one_in ha)
  show wpSs G (.cons _ _) [.val (gT g), .val (.int a), .val (.int b), .un] [] (endZ _)
  refine wc ?_
  tm_at "wp"
  refine ⟨Th.has, [.int a], rfl, by simp, call_z Th ⟨g, [a], rfl, hw, by simp, one_in ha, rfl⟩ ?_ hi⟩
  refine ⟨by rw [List.length_map]; omega, lc_t (t := fun x => decide (x ∈ hadL g [b])) (f := D.int) ⟨rfl, fun k hk => nomatch hk⟩ (fun y hy k q1 q2 => ?_) rfl⟩
  refine ⟨Th.has, [.int b], rfl, by simp, call_z Th ⟨g, [b], rfl, hw, by simp, one_in hb, rfl⟩ ?_ hi⟩
  tm_at "wp"
  refine ⟨⟨rfl, all_atom _⟩, ?_⟩
  rw [inD_int]
  exact ⟨q1, q2⟩
def Rlaw_nearest (ds : List D) (z : Z) : Prop := ∃ (g : Gr) (a b : Int), ds = [gT g, .int a, .int b] ∧ WF g ∧ (0 ≤ a ∧ a < g.length) ∧ (0 ≤ b ∧ b < g.length) ∧ z = .n (.lst ((nearL g a b).map D.int))
theorem h__law_nearest {G : Gx} {i j : Nat} (Th : Def G "_law_had" i (spZ G.K Rlaw_had)) (Tc : Def G "_law_common" j (spZ G.K Rlaw_common)) (hi : i ≤ G.k) (hj : j ≤ G.k) : WpZ G c__law_nearest 6 Rlaw_nearest := fun ds z ⟨g, a, b, h, hw, ha, hb, hz⟩ => by
  subst h; subst hz
  show wpSs G (.cons _ _) [.val (gT g), .val (.int a), .val (.int b), .un, .un, .un] [] (endZ _)
  refine wc ?_
  tm_at "wp"
  refine ⟨Tc.has, call_z Tc ⟨g, a, b, rfl, hw, ha, hb, rfl⟩ ?_ hj⟩
  have hbi := bothL_in (b := b) hw ha
  have hbl := bothL_len (b := b) hw ha
  refine wc ?_
  tm_at "wp"
  refine ⟨by rw [List.length_map]; omega, lc_t (t := fun x => ((bothL g a b).filter fun y => !decide (y = x) && decide (x ∈ hadL g [y])).isEmpty) (f := D.int) ⟨rfl, fun k hk => nomatch hk⟩ (fun x hx k q1 q2 => ?_) ?_⟩
  · refine ⟨by rw [List.length_map]; omega, lc_t (t := fun y => !decide (y = x) && decide (x ∈ hadL g [y])) (f := D.int) ⟨rfl, fun k hk => nomatch hk⟩ (fun y hy k r1 r2 => ?_) ?_⟩
    · refine ⟨fun ht => ?_, fun hf => ?_⟩
      · refine ⟨Th.has, [.int y], rfl, by simp, call_z Th ⟨g, [y], rfl, hw, by simp, one_in (hbi y hy), rfl⟩ ?_ hi⟩
        tm_at "wp"
        refine ⟨⟨rfl, all_atom _⟩, ?_⟩
        rw [inD_int]
        rw [ht, Bool.true_and] at r1 r2
        exact ⟨r1, r2⟩
      · rw [hf, Bool.false_and] at r2
        exact ⟨fun h => (nomatch h), fun _ => r2 rfl⟩
    · refine ⟨[], rfl, by simp, ⟨plain_ints (.inl rfl) ?_, rfl⟩, ?_⟩
      · have := List.length_filter_le (fun y => !decide (y = x) && decide (x ∈ hadL g [y])) (bothL g a b)
        omega
      have en : ∀ l : List Int, eqD (.lst (l.map D.int)) (.lst []) = l.isEmpty := fun l => by
        rw [show eqD (.lst (l.map D.int)) (.lst []) = (l.map D.int).isEmpty from eqv_nil _]
        cases l <;> rfl
      rw [en]
      exact ⟨q1, q2⟩
  · have e : (bothL g a b).filter (fun x => ((bothL g a b).filter fun y => !decide (y = x) && decide (x ∈ hadL g [y])).isEmpty) = nearL g a b := by
      unfold nearL
      refine List.filter_congr fun x hx => ?_
      rw [Bool.eq_iff_iff, List.isEmpty_iff, List.filter_eq_nil_iff, Bool.not_eq_true', decide_eq_false_iff_not, mem_hadL hw (flat_in hw hbi), below_iff hw hbi]
      constructor
      · rintro h ⟨y, hy, ne, ay⟩
        refine h y hy ?_
        simp [ne, (mem_hadL hw (one_in (hbi y hy)) x).mpr ay]
      · intro h y hy hh
        simp at hh
        exact h ⟨y, hy, hh.1, (mem_hadL hw (one_in (hbi y hy)) x).mp hh.2⟩
    rw [e]
    exact rfl
end Dl

/-! K20R: right, law -/
namespace Dl
open PySem L2
local macro_rules | `(tactic| tm_at "wp") => `(tactic| dsimp only [wpSs_nil, forW_nil, wpS, wpR, wpT, wpA, wpI, wpTs, wpG, wpD, wpO, Z.fz, C.frz, lk, pt, pts, ptM, lkM, binR, cmpR, eqR, inR, biR, ixR, sqL, sqT, sqO, sqD, sqI, sqB, sqS, sqN, sqC, sqX, dqD, dqO, dqI, vwV, vwO, keyD, bindT, clr, mtR, mtOk, Sl.trim, List.map, List.nil_append, List.cons_append, List.length_cons, List.length_nil, Nat.reduceAdd, endZ, endI, endO, setR, Gs.ix1, lendS])
def crossed : Gr := [(5, []), (3, [0]), (4, [0]), (1, [1, 2]), (9, [1, 2])]
theorem wf_crossed : WF crossed := by
  refine ⟨by decide, fun i r e => ?_⟩
  match i, e with
  | 0, e => cases e; decide
  | 1, e => cases e; decide
  | 2, e => cases e; decide
  | 3, e => cases e; decide
  | 4, e => cases e; decide
  | n + 5, e => simp [crossed] at e
theorem net_r {g : Gx} {j k : Nat} {M : List C} {Q : Z → List C → Prop} {s : Bx} {n m : Int} (T : Def g "_law_graph" k (spO g.K preNet postNet)) (hj : lkM M j = some (.lst (boxD s))) (h1 : 0 ≤ n) (h2 : n ≤ 24) (b : Bok s m) (hm : m ≤ 900000000) (hk : k ≤ g.k) (hM : okM M = true) (q : ∀ gr s', WF gr → (gr.length : Int) = n → Bok s' (m + 300) → Q (.s (.val (gT gr))) (ptM M j (.lst (boxD s')))) : CallZ g "_law_graph" [.own j, .val (.int n)] M Q :=
  call_o (j := j) T ⟨s, n, rfl, rfl, h1, h2, b.up hm⟩ (fun z c1 ⟨s0, s', gr, n', e1, e2, e3, e4, h3, h4, b'⟩ _ => by
    cases e3
    have : s0 = s := by
      obtain ⟨a1, a2, a3⟩ := s0
      obtain ⟨b1, b2, b3⟩ := s
      cases e1; rfl
    subst this
    subst e2; subst e4
    exact q gr s' h3 h4 (b'.up (by have := b.n1; omega))) hj hk rfl hM
def preRight (c0 ds : List D) : Prop := ∃ s : Bx, c0 = boxD s ∧ ds = [] ∧ Bok s 1000
def postRight (c0 ds : List D) (z : Z) (c1 : List D) : Prop := ∃ s' : Bx, c1 = boxD s' ∧ z = .s (.val (.bl true))
theorem near_len {g : Gr} (hw : WF g) {a b : Int} (ha : 0 ≤ a ∧ a < g.length) : (nearL g a b).length ≤ 24 := Nat.le_trans (List.length_filter_le _ _) (bothL_len hw ha)
theorem plain_list2 {n : Nat} {x y : D} (hx : plain n x = true) (hy : plain n y = true) : plain (n + 1) (.lst [x, y]) = true := by
  show (decide (2 ≤ 1000) && (plain n x && (plain n y && plains n []))) = true
  rw [hx, hy]
  cases n <;> rfl
theorem eqD_refl {n : Nat} {d : D} (h : plain n d = true) : eqD d d = true := eqv_same h
theorem h__law_right {g : Gx} {kt kg kl ks kn k3 kk : Nat} (Tt : Def g "_law_take" kt (spO g.K preTake postTake)) (Tg : Def g "_law_graph" kg (spO g.K preNet postNet)) (Tl : Def g "_law_lists" kl (spZ g.K (Rlists 3))) (Ts : Def g "_law_same" ks (spZ g.K (Rsame 3))) (Tn : Def g "_law_nearest" kn (spZ g.K Rlaw_nearest)) (T3 : Def g "nearest" k3 (spZ g.K Rnearest)) (TK : DefK g "nearest" kk ["other", "one", "graph"] [2, 1, 0] (spZ g.K Rnearest))
    (hkt : kt ≤ g.k) (hkg : kg ≤ g.k) (hkl : kl ≤ g.k) (hks : ks ≤ g.k) (hkn : kn ≤ g.k) (hk3 : k3 ≤ g.k) (hkk : kk ≤ g.k) : WpO g c__law_right 10 preRight postRight := fun c0 ds ⟨s0, hc, h, bk0⟩ => by
  subst h; subst hc
  have b0 := bk0.n1
  show wpSs g (.cons _ _) [.own 0, .un, .un, .un, .un, .un, .un, .un, .un, .un] [.lst (boxD s0)] (endO _)
  have pl : ∀ l : List Int, l.length ≤ 1000 → plain 2 (.lst (l.map D.int)) = true := fun l hl => plain_ints (.inl rfl) hl
  refine wc ?_
  refine ⟨[], rfl, by simp, [.int 5, .tup []], rfl, by simp, [.int 0], rfl, by simp, [.int 3, .tup [.int 0]], rfl, by simp, [.int 0], rfl, by simp, [.int 4, .tup [.int 0]], rfl, by simp, [.int 1, .int 2], rfl, by simp, [.int 1, .tup [.int 1, .int 2]], rfl, by simp, [.int 1, .int 2], rfl, by simp, [.int 9, .tup [.int 1, .int 2]], rfl, by simp, crossed.map rowT, rfl, by decide, ?_⟩
  refine wc ?_
  refine ⟨Ts.has, T3.has, call_z T3 ⟨crossed, _, 3, 4, rfl, isG_T _, wf_crossed, by decide, by decide, rfl⟩ ?_ hk3⟩
  refine ⟨T3.has, call_z T3 ⟨crossed, _, 1, 4, rfl, isG_T _, wf_crossed, by decide, by decide, rfl⟩ ?_ hk3⟩
  refine ⟨T3.has, call_z T3 ⟨crossed, _, 1, 2, rfl, isG_T _, wf_crossed, by decide, by decide, rfl⟩ ?_ hk3⟩
  have e1 : nearL crossed 3 4 = [1, 2] := by decide +kernel
  have e2 : nearL crossed 1 4 = [1] := by decide +kernel
  have e3 : nearL crossed 1 2 = [0] := by decide +kernel
  rw [e1, e2, e3]
  refine ⟨[.lst [.int 1, .int 2], .lst [.int 1], .lst [.int 0]], rfl, by simp, [.int 1, .int 2], rfl, by simp, [.int 1], rfl, by simp, [.int 0], rfl, by simp, [.lst [.int 1, .int 2], .lst [.int 1], .lst [.int 0]], rfl, by simp, call_z Ts ⟨.lst [.lst [.int 1, .int 2], .lst [.int 1], .lst [.int 0]], rfl, by decide, rfl⟩ ?_ hks⟩
  refine ⟨fun h => (nomatch h), fun _ => wc ?_⟩
  tm_at "wp"
  refine ⟨by decide, ?_⟩
  refine for0 (T := Bx) (fun t => [.own 0, .val (gT crossed), .un, .un, .un, .un, .un, .un, .un, .un]) (fun t => [.lst (boxD t)]) (fun i t => Bok t (1000 + 1000 * i)) s0 (bk0.up (by simp)) (fun i x s k hi bk hk => ?_) (fun s bk => ?_)
  · have hi3 : i < 3 := (rng_get.mp hi).1
    refine wc ?_
    tm_at "wp"
    refine ⟨Tg.has, Tt.has, take_r Tt rfl (by omega) (by omega) bk (by omega) hkt rfl fun r1 s1 r10 r11 bk1 => ?_⟩
    refine net_r Tg rfl (by omega) (by omega) bk1 (by omega) hkg rfl fun gr s2 hw hgl bk2 => ?_
    tm_at "wp"
    refine wc ⟨Tl.has, call_z Tl ⟨gT gr, rfl, plain_gT hw, .inr rfl⟩ ?_ hkl⟩
    rw [lis_gT]
    have hgl0 : 0 < gr.length := by omega
    have hgl1 := hw.len
    refine wc ?_
    tm_at "wp"
    refine ⟨by decide, ?_⟩
    refine for0 (T := Bx) (fun t => [.own 0, .val (gT crossed), .val (.int x), .val (gT gr), .val (gL gr), .un, .un, .un, .un, .un]) (fun t => [.lst (boxD t)]) (fun i' t => Bok t (1000 + 1000 * i + 301 + 2 * i')) s2 (bk2.up (by omega)) (fun i' x' s k' hi' bk3 hk' => ?_) (fun s bk3 => ?_)
    · have hi8 : i' < 8 := (rng_get.mp hi').1
      have lenT : ((gr.map rowT).length : Int) = gr.length := by rw [List.length_map]
      refine wc ?_
      tm_at "wp"
      unfold gT
      tm_at "wp"
      rw [lenT]
      refine ⟨Tt.has, take_r Tt rfl (by omega) (by omega) bk3 (by omega) hkt rfl fun a s3 a0 a1 bk4 => ?_⟩
      tm_at "wp"
      refine ⟨Tt.has, take_r Tt rfl (by omega) (by omega) bk4 (by omega) hkt rfl fun b s4 b0 b1 bk5 => ⟨rfl, ?_⟩⟩
      tm_at "wp"
      refine wc ?_
      tm_at "wp"
      refine ⟨Tn.has, call_z Tn ⟨gr, a, b, rfl, hw, ⟨a0, a1⟩, ⟨b0, b1⟩, rfl⟩ ?_ hkn⟩
      tm_at "wp"
      refine ⟨T3.has, call_z T3 ⟨gr, gT gr, a, b, rfl, isG_T _, hw, ⟨a0, a1⟩, ⟨b0, b1⟩, rfl⟩ ?_ hk3⟩
      tm_at "wp"
      refine ⟨rfl, wc ?_⟩
      have hnl := near_len (b := b) hw ⟨a0, a1⟩
      have hpl := pl _ (show (nearL gr a b).length ≤ 1000 by omega)
      tm_at "wp"
      refine ⟨Ts.has, TK.has, callk_z TK (ds := [gL gr, .int a, .int b]) ⟨gr, gL gr, a, b, rfl, isG_L _, hw, ⟨a0, a1⟩, ⟨b0, b1⟩, rfl⟩ ?_ hkk⟩
      refine ⟨[_, _], rfl, by simp, [_, _], rfl, by simp, call_z Ts ⟨_, rfl, plain_list2 hpl hpl, rfl⟩ ?_ hks⟩
      refine ⟨rfl, fun h => (nomatch h), fun _ => wc ?_⟩
      tm_at "wp"
      refine ⟨rfl, by rw [List.length_map]; omega, wc ?_⟩
      tm_at "wp"
      refine ⟨Ts.has, T3.has, call_z T3 ⟨gr, gT gr, a, b, rfl, isG_T _, hw, ⟨a0, a1⟩, ⟨b0, b1⟩, rfl⟩ ?_ hk3⟩
      refine call_z Ts ⟨_, rfl, plain_mono (by decide) hpl, rfl⟩ ?_ hks
      refine ⟨fun _ => ?_, fun h => (nomatch h)⟩
      refine ⟨Tl.has, call_z Tl ⟨gT gr, rfl, plain_gT hw, .inr rfl⟩ ?_ hkl⟩
      rw [lis_gT]
      have hp60 : plain 60 (gL gr) = true := plain_mono (by decide) (plain_gL hw)
      refine ⟨⟨hp60, hp60⟩, ?_⟩
      rw [eqD_refl hp60]
      refine ⟨fun h => (nomatch h), fun _ => ?_⟩
      refine trim_to (M := [.lst (boxD s4)]) (M2 := [_]) 1 rfl (fun c hc => ?_) ⟨fun k hk => (nomatch hk), hk' s4 (bk5.up (by push_cast; omega))⟩
      rw [List.mem_singleton] at hc; subst hc; exact fun k hk => (nomatch hk)
    · tm_at "wp"
      refine trim_id 1 rfl (fun c hc => ?_) ⟨fun k hk => (nomatch hk), hk s (bk3.up ?_)⟩
      · rw [List.mem_singleton] at hc; subst hc; exact fun k hk => (nomatch hk)
      · rw [rng_len]; push_cast; omega
  · refine wc ?_
    exact ⟨_, boxD s, ⟨s, rfl, rfl⟩, rfl, rfl, nofun⟩
def Rlaw (ds : List D) (z : Z) : Prop := ∃ ns : List Int, ds = [.scr ns] ∧ z = .s (.val (.bl true))
theorem h_law {g : Gx} {i j l : Nat} (Tc : Def g "_law_cells" i (spZ g.K Rcells)) (Tb : Def g "_law_box" j (spZ g.K Rbox)) (Tr : Def g "_law_right" l (spO g.K preRight postRight)) (hi : i ≤ g.k) (hj : j ≤ g.k) (hl : l ≤ g.k) : WpZ g c_law 3 Rlaw := fun ds z ⟨ns, h, hz⟩ => by
  subst h; subst hz
  show wpSs g (.cons _ _) [.val (.scr ns), .un, .un] [] (endZ _)
  have hc := cellM_len 2 (by decide) ns
  refine wc ⟨Tc.has, call_z Tc ⟨2, ns, rfl, by decide, by decide, rfl⟩ ?_ hi⟩
  refine wc ?_
  tm_at "wp"
  rw [List.length_map]
  refine ⟨by omega, ?_⟩
  refine for0 (T := Unit) (fun _ => [.val (.scr ns), .val (.lst ((cellM 2 ns).map D.int)), .un]) (fun _ => []) (fun _ _ => True) () trivial (fun i x _ k hx _ hk => ?_) (fun _ _ => wc rfl)
  obtain ⟨hx1, rfl⟩ := rng_get.mp hx
  refine wc ?_
  tm_at "wp"
  refine ⟨Tr.has, Tb.has, call_z Tb (ds := [.lst ((cellM 2 ns).map D.int), .int (0 + (i : Int))]) ⟨cellM 2 ns, _, rfl, by omega, by omega, by omega, rfl⟩ ?_ hj⟩
  refine call_o (j := 0) Tr ⟨_, rfl, rfl, ⟨mkBx_a _ _, by show (0 : Int) ≤ 0; decide, by show (0 : Int) ≤ 1000; decide⟩⟩ (fun z c1 ⟨s', e1, e2⟩ _ => ?_) rfl hl rfl rfl
  subst e1; subst e2
  refine ⟨fun h => (nomatch h), fun _ => ?_⟩
  exact trim_to (M := []) (M2 := [_]) 0 rfl (fun c hc => (nomatch hc)) ⟨fun k hk => (nomatch hk), hk () trivial⟩
end Dl

/-! Ek20: derivations and the end -/
namespace Dl
open PySem L2
def top (i : Nat) : Stmt := PySem.Challenge.pw_latedates_k20_the_nearest_ones.main.body.getD i (.Pass ⟨0, 0, 0, 0⟩)
section
variable {P : Program} {w : World} {K : PySem.W.Frag} {mg : Str → Option Value} {base : Heap} {k : Nat}
abbrev s__law_cells : Stmt := top 13
def N__law_cells : List Str := ["_law_script", "_law_most", "_law_cells_here", "_law_k", "_law_cell", "_law_at_so"]
theorem sc__law_cells : FnScope N__law_cells ["_law_script", "_law_most"] (defScope s__law_cells) := ⟨rfl, rfl, rfl, by decide +kernel, rfl, by decide +kernel, by decide +kernel⟩
theorem t__law_cells (B : Bi mg) : TrS (ctxOf P w K mg base N__law_cells s__law_cells (k + 1)) (defBody s__law_cells) c__law_cells :=
  (trS_asg 2 (tr_own (tr_orl (tr_bi (b := .list) B (by decide) (trA_cons (tr_cut (tv 0 rfl rfl rfl rfl) trO_none (trO_some (tv 1 rfl rfl rfl rfl))) trA_nil (fun _ => rfl)) rfl (fun _ => rfl) (fun _ => rfl)) (tr_lst (trA_cons tr_int trA_nil (fun _ => rfl))))) 
  (trS_for (trI_en B (tr_cut (tv 0 rfl rfl rfl rfl) (trO_some (tv 1 rfl rfl rfl rfl)) (trO_some tr_int)) rfl (fun _ => rfl)) (trG_t 3 4 rfl (loc_of rfl) (fn_of rfl) rfl (loc_of rfl) (fn_of rfl))
      
      (trS_asg 5 (tr_bin (tr_bi (b := .int) B (by decide) (trA_cons (tv 3 rfl rfl rfl rfl) trA_nil (fun _ => rfl)) rfl (fun _ => rfl) (fun _ => rfl)) (tv 1 rfl rfl rfl rfl)) 
      (trS_setix (tr_bin (tr_ix (tv 2 rfl rfl rfl rfl) (tv 5 rfl rfl rfl rfl) (fun _ _ => rfl)) (tr_bin (tv 4 rfl rfl rfl rfl) (tr_bin (tv 3 rfl rfl rfl rfl) tr_int))) (tv 2 rfl rfl rfl rfl) (tv 5 rfl rfl rfl rfl) trS_nil (fun _ => rfl) (fun _ => rfl) (fun _ => rfl) (fun _ _ => rfl)) rfl (loc_of rfl) (fn_of rfl) (fun _ _ => rfl))
      
  (trS_ret (tv 2 rfl rfl rfl rfl)) (fun _ _ => rfl)) rfl (loc_of rfl) (fn_of rfl) (fun _ _ => rfl))
abbrev s__law_box : Stmt := top 11
def N__law_box : List Str := ["_law_script", "_law_k", "_law_cell"]
theorem sc__law_box : FnScope N__law_box ["_law_script", "_law_k"] (defScope s__law_box) := ⟨rfl, rfl, rfl, by decide +kernel, rfl, by decide +kernel, by decide +kernel⟩
theorem t__law_box (B : Bi mg) : TrS (ctxOf P w K mg base N__law_box s__law_box (k + 1)) (defBody s__law_box) c__law_box :=
  (trS_asg 2 (tr_ife (trT_cmp (tv 1 rfl rfl rfl rfl) (tr_bi (b := .len) B (by decide) (trA_cons (tv 0 rfl rfl rfl rfl) trA_nil (fun _ => rfl)) rfl (fun _ => rfl) (fun _ => rfl)) rfl) (tr_ix (tv 0 rfl rfl rfl rfl) (tv 1 rfl rfl rfl rfl) (fun _ _ => rfl)) tr_int) 
  (trS_ret (tr_lst (trA_cons (tr_bin (tr_bi (b := .abs) B (by decide) (trA_cons (tv 2 rfl rfl rfl rfl) trA_nil (fun _ => rfl)) rfl (fun _ => rfl) (fun _ => rfl)) (tr_bi (b := .int) B (by decide) (trA_cons (tr_cmp (tr_bi (b := .abs) B (by decide) (trA_cons (tv 2 rfl rfl rfl rfl) trA_nil (fun _ => rfl)) rfl (fun _ => rfl) (fun _ => rfl)) (tr_bin tr_int tr_int) rfl) trA_nil (fun _ => rfl)) rfl (fun _ => rfl) (fun _ => rfl))) (trA_cons (tr_bin (tr_bin (tr_bin (tr_bi (b := .int) B (by decide) (trA_cons (tv 2 rfl rfl rfl rfl) trA_nil (fun _ => rfl)) rfl (fun _ => rfl) (fun _ => rfl)) tr_int) (tr_bin tr_int (tv 1 rfl rfl rfl rfl))) tr_int) (trA_cons tr_int trA_nil (fun _ => rfl)) (fun _ => rfl)) (fun _ => rfl)))) rfl (loc_of rfl) (fn_of rfl) (fun _ _ => rfl))
abbrev s__law_take : Stmt := top 12
def N__law_take : List Str := ["_law_box_here", "_law_below_so", "_law_drawn", "_law_once", "_law_far", "_law_twice"]
theorem sc__law_take : FnScope N__law_take ["_law_box_here", "_law_below_so"] (defScope s__law_take) := ⟨rfl, rfl, rfl, by decide +kernel, rfl, by decide +kernel, by decide +kernel⟩
theorem t__law_take (B : Bi mg) : TrS (ctxOf P w K mg base N__law_take s__law_take (k + 1)) (defBody s__law_take) c__law_take :=
  (trS_if (trT_cmp (tr_ix (tv 0 rfl rfl rfl rfl) tr_int (fun _ _ => rfl)) tr_int rfl)
      
      (trS_asg 2 (tr_bin (tr_bi (b := .int) B (by decide) (trA_cons (tr_ix (tv 0 rfl rfl rfl rfl) tr_int (fun _ _ => rfl)) trA_nil (fun _ => rfl)) rfl (fun _ => rfl) (fun _ => rfl)) (tv 1 rfl rfl rfl rfl)) 
      (trS_setix (tr_bin (tr_ix (tv 0 rfl rfl rfl rfl) tr_int (fun _ _ => rfl)) (tv 1 rfl rfl rfl rfl)) (tv 0 rfl rfl rfl rfl) tr_int 
      (trS_ret (tv 2 rfl rfl rfl rfl)) (fun _ => rfl) (fun _ => rfl) (fun _ => rfl) (fun _ _ => rfl)) rfl (loc_of rfl) (fn_of rfl) (fun _ _ => rfl))
      trS_nil
      
  (trS_setix (tr_bin (tr_ix (tv 0 rfl rfl rfl rfl) tr_int (fun _ _ => rfl)) tr_int) (tv 0 rfl rfl rfl rfl) tr_int 
  (trS_asg 3 (tr_bin (tr_bi (b := .int) B (by decide) (trA_cons (tr_bin (tr_bin (tr_ix (tv 0 rfl rfl rfl rfl) tr_int (fun _ _ => rfl)) (tr_bin tr_int (tr_ix (tv 0 rfl rfl rfl rfl) tr_int (fun _ _ => rfl)))) (tr_bin tr_int (tr_ix (tv 0 rfl rfl rfl rfl) tr_int (fun _ _ => rfl)))) trA_nil (fun _ => rfl)) rfl (fun _ => rfl) (fun _ => rfl)) tr_int) 
  (trS_asg 4 (tr_bin (tr_bin (tr_bi (b := .int) B (by decide) (trA_cons (tv 3 rfl rfl rfl rfl) trA_nil (fun _ => rfl)) rfl (fun _ => rfl) (fun _ => rfl)) tr_int) tr_int) 
  (trS_asg 5 (tr_bin (tr_bi (b := .int) B (by decide) (trA_cons (tr_bin (tr_bin (tr_bin (tv 3 rfl rfl rfl rfl) (tr_ix (tv 0 rfl rfl rfl rfl) tr_int (fun _ _ => rfl))) (tr_bin (tr_ix (tv 0 rfl rfl rfl rfl) tr_int (fun _ _ => rfl)) tr_int)) (tv 4 rfl rfl rfl rfl)) trA_nil (fun _ => rfl)) rfl (fun _ => rfl) (fun _ => rfl)) tr_int) 
  (trS_ret (tr_bin (tr_bi (b := .int) B (by decide) (trA_cons (tr_bin (tr_bin (tr_bi (b := .int) B (by decide) (trA_cons (tr_bin (tr_bin (tv 5 rfl rfl rfl rfl) tr_int) (tv 3 rfl rfl rfl rfl)) trA_nil (fun _ => rfl)) rfl (fun _ => rfl) (fun _ => rfl)) tr_int) tr_int) trA_nil (fun _ => rfl)) rfl (fun _ => rfl) (fun _ => rfl)) (tv 1 rfl rfl rfl rfl))) rfl (loc_of rfl) (fn_of rfl) (fun _ _ => rfl)) rfl (loc_of rfl) (fn_of rfl) (fun _ _ => rfl)) rfl (loc_of rfl) (fn_of rfl) (fun _ _ => rfl)) (fun _ => rfl) (fun _ => rfl) (fun _ => rfl) (fun _ _ => rfl)))
abbrev s__law_of : Stmt := top 14
def N__law_of : List Str := ["_law_box_here", "_law_some"]
theorem sc__law_of : FnScope N__law_of ["_law_box_here", "_law_some"] (defScope s__law_of) := ⟨rfl, rfl, rfl, by decide +kernel, rfl, by decide +kernel, by decide +kernel⟩
theorem t__law_of (B : Bi mg) : TrS (ctxOf P w K mg base N__law_of s__law_of (k + 1)) (defBody s__law_of) c__law_of :=
  (trS_ret (tr_ix (tv 1 rfl rfl rfl rfl) (tr_call (trA_cons (tv 0 rfl rfl rfl rfl) (trA_cons (tr_bi (b := .len) B (by decide) (trA_cons (tv 1 rfl rfl rfl rfl) trA_nil (fun _ => rfl)) rfl (fun _ => rfl) (fun _ => rfl)) trA_nil (fun _ => rfl)) (fun _ => rfl)) rfl rfl (fun _ => rfl) (fun _ => rfl)) (fun _ _ => rfl)))
abbrev s__law_graph : Stmt := top 17
def N__law_graph : List Str := ["_law_box_here", "_law_many_so", "_law_rows_so", "_law_here", "_law_low", "_law_k", "_law_far", "_law_date_so", "_law_near", "_law_many_here", "_law_some", "_law_turn"]
theorem sc__law_graph : FnScope N__law_graph ["_law_box_here", "_law_many_so"] (defScope s__law_graph) := ⟨rfl, rfl, rfl, by decide +kernel, rfl, by decide +kernel, by decide +kernel⟩
theorem t__law_graph (B : Bi mg) : TrS (ctxOf P w K mg base N__law_graph s__law_graph (k + 1)) (defBody s__law_graph) c__law_graph :=
  (trS_par3 2 3 4 (trA_cons (tr_own (tr_lst trA_nil)) (trA_cons tr_int (trA_cons tr_bl trA_nil (fun _ => rfl)) (fun _ => rfl)) (fun _ => rfl)) 
  (trS_for (trI_r1 B (tv 1 rfl rfl rfl rfl) rfl (fun _ => rfl)) (trG_n 5 rfl (loc_of rfl) (fn_of rfl))
      
      (trS_par2 3 4 (trA_cons (tr_bin (tv 3 rfl rfl rfl rfl) (tr_call (trA_cons (tv 0 rfl rfl rfl rfl) (trA_cons (tr_lst (trA_cons tr_int (trA_cons tr_int (trA_cons tr_int (trA_cons tr_int (trA_cons tr_int trA_nil (fun _ => rfl)) (fun _ => rfl)) (fun _ => rfl)) (fun _ => rfl)) (fun _ => rfl))) trA_nil (fun _ => rfl)) (fun _ => rfl)) rfl rfl (fun _ => rfl) (fun _ => rfl))) (trA_cons (tr_cmp (tr_call (trA_cons (tv 0 rfl rfl rfl rfl) (trA_cons tr_int trA_nil (fun _ => rfl)) (fun _ => rfl)) rfl rfl (fun _ => rfl) (fun _ => rfl)) (tr_bin tr_int (tr_bi (b := .int) B (by decide) (trA_cons (tv 4 rfl rfl rfl rfl) trA_nil (fun _ => rfl)) rfl (fun _ => rfl) (fun _ => rfl))) rfl) trA_nil (fun _ => rfl)) (fun _ => rfl)) 
      (trS_asg 6 (tr_call (trA_cons (tv 0 rfl rfl rfl rfl) (trA_cons (tr_lst (trA_cons tr_int (trA_cons tr_int (trA_cons tr_int (trA_cons (tr_call (trA_cons (tv 0 rfl rfl rfl rfl) (trA_cons tr_int trA_nil (fun _ => rfl)) (fun _ => rfl)) rfl rfl (fun _ => rfl) (fun _ => rfl)) (trA_cons (tr_neg tr_int) trA_nil (fun _ => rfl)) (fun _ => rfl)) (fun _ => rfl)) (fun _ => rfl)) (fun _ => rfl))) trA_nil (fun _ => rfl)) (fun _ => rfl)) rfl rfl (fun _ => rfl) (fun _ => rfl)) 
      (trS_asg 7 (tr_ife (trT_e (tv 4 rfl rfl rfl rfl) (fun _ _ => rfl)) (tr_call (trA_cons (tv 0 rfl rfl rfl rfl) (trA_cons tr_int trA_nil (fun _ => rfl)) (fun _ => rfl)) rfl rfl (fun _ => rfl) (fun _ => rfl)) (tr_bin (tv 3 rfl rfl rfl rfl) (tv 6 rfl rfl rfl rfl))) 
      (trS_asg 8 (tr_ife (trT_cmp (tr_call (trA_cons (tv 0 rfl rfl rfl rfl) (trA_cons tr_int trA_nil (fun _ => rfl)) (fun _ => rfl)) rfl rfl (fun _ => rfl) (fun _ => rfl)) tr_int rfl) (tr_lrange1 B (tv 5 rfl rfl rfl rfl) rfl rfl (fun _ => rfl)) (tr_lrange2 B (tr_bi (b := .max) B (by decide) (trA_cons tr_int (trA_cons (tr_bin (tv 5 rfl rfl rfl rfl) tr_int) trA_nil (fun _ => rfl)) (fun _ => rfl)) rfl (fun _ => rfl) (fun _ => rfl)) (tv 5 rfl rfl rfl rfl) rfl rfl (fun _ => rfl) (fun _ => rfl) (fun _ => rfl))) 
      (trS_asg 9 (tr_bin (tr_call (trA_cons (tv 0 rfl rfl rfl rfl) (trA_cons (tr_lst (trA_cons tr_int (trA_cons tr_int (trA_cons tr_int (trA_cons tr_int (trA_cons tr_int (trA_cons tr_int trA_nil (fun _ => rfl)) (fun _ => rfl)) (fun _ => rfl)) (fun _ => rfl)) (fun _ => rfl)) (fun _ => rfl))) trA_nil (fun _ => rfl)) (fun _ => rfl)) rfl rfl (fun _ => rfl) (fun _ => rfl)) (tr_bi (b := .int) B (by decide) (trA_cons (tr_cmp (tv 8 rfl rfl rfl rfl) (tr_lst trA_nil) rfl) trA_nil (fun _ => rfl)) rfl (fun _ => rfl) (fun _ => rfl))) 
      (trS_asg 10 (tr_bin (tr_bin (tr_lst (trA_cons (tr_bin (tv 5 rfl rfl rfl rfl) tr_int) trA_nil (fun _ => rfl))) (tr_bi (b := .int) B (by decide) (trA_cons (tr_and (tv 4 rfl rfl rfl rfl) (tr_one (tr_cmp (tv 5 rfl rfl rfl rfl) tr_int rfl))) trA_nil (fun _ => rfl)) rfl (fun _ => rfl) (fun _ => rfl))) (tr_lc (own := [("_law_turn", 11)]) (trI_r1 B (tv 9 rfl rfl rfl rfl) rfl (fun _ => rfl)) (trG_n 11 rfl (loc_of rfl) (fn_of rfl)) trTs_nil (tr_call (trA_cons (tv 0 rfl rfl rfl rfl) (trA_cons (tv 8 rfl rfl rfl rfl) trA_nil (fun _ => rfl)) (fun _ => rfl)) rfl rfl (fun _ => rfl) (fun _ => rfl)) (by decide) (by kernel_rfl) (fun _ _ => rfl))) 
      (trS_ex (tr_append (tv 2 rfl rfl rfl rfl) (tr_tup (trA_cons (tr_bi (b := .max) B (by decide) (trA_cons tr_int (trA_cons (tv 7 rfl rfl rfl rfl) trA_nil (fun _ => rfl)) (fun _ => rfl)) rfl (fun _ => rfl) (fun _ => rfl)) (trA_cons (tr_bi (b := .tuple) B (by decide) (trA_cons (tr_sset B (tv 10 rfl rfl rfl rfl) rfl rfl (fun _ => rfl)) trA_nil (fun _ => rfl)) rfl (fun _ => rfl) (fun _ => rfl)) trA_nil (fun _ => rfl)) (fun _ => rfl))) (fun _ => rfl) rfl (fun _ => rfl) (fun _ => rfl)) trS_nil (fun _ => rfl)) rfl (loc_of rfl) (fn_of rfl) (fun _ _ => rfl)) rfl (loc_of rfl) (fn_of rfl) (fun _ _ => rfl)) rfl (loc_of rfl) (fn_of rfl) (fun _ _ => rfl)) rfl (loc_of rfl) (fn_of rfl) (fun _ _ => rfl)) rfl (loc_of rfl) (fn_of rfl) (fun _ _ => rfl)) (by decide) rfl rfl rfl rfl (by rintro ⟨_, _, _, _, _, _, _, _, _⟩ h; cases h; rfl) (fun _ => rfl))
      
  (trS_ret (tr_bi (b := .tuple) B (by decide) (trA_cons (tv 2 rfl rfl rfl rfl) trA_nil (fun _ => rfl)) rfl (fun _ => rfl) (fun _ => rfl))) (fun _ _ => rfl)) (by decide) (by decide) (by decide) rfl rfl rfl rfl rfl rfl (by rintro ⟨_, _, _, _, _, _, _, _, _⟩ h; cases h; rfl) (fun _ => rfl))
abbrev s__law_lists : Stmt := top 15
def N__law_lists : List Str := ["_law_matter", "_law_bit"]
theorem sc__law_lists : FnScope N__law_lists ["_law_matter"] (defScope s__law_lists) := ⟨rfl, rfl, rfl, by decide +kernel, rfl, by decide +kernel, by decide +kernel⟩
theorem t__law_lists (B : Bi mg) : TrS (ctxOf P w K mg base N__law_lists s__law_lists (k + 1)) (defBody s__law_lists) c__law_lists :=
  (trS_ret (tr_ife (trT_e (tr_isi2 (t := "list") (u := "tuple") B (tv 0 rfl rfl rfl rfl) (by decide) (by decide) rfl rfl rfl (fun _ => rfl)) (fun _ _ => rfl)) (tr_lc (own := [("_law_bit", 1)]) (trI_e (tv 0 rfl rfl rfl rfl)) (trG_n 1 rfl (loc_of rfl) (fn_of rfl)) trTs_nil (tr_call (trA_cons (tv 1 rfl rfl rfl rfl) trA_nil (fun _ => rfl)) rfl rfl (fun _ => rfl) (fun _ => rfl)) (by decide) (by kernel_rfl) (fun _ _ => rfl)) (tv 0 rfl rfl rfl rfl)))
abbrev s__law_same : Stmt := top 16
def N__law_same : List Str := ["_law_got", "_law_due", "_law_mine", "_law_its", "_law_own"]
theorem sc__law_same : FnScope N__law_same ["_law_got", "_law_due"] (defScope s__law_same) := ⟨rfl, rfl, rfl, by decide +kernel, rfl, by decide +kernel, by decide +kernel⟩
theorem t__law_same (B : Bi mg) : TrS (ctxOf P w K mg base N__law_same s__law_same (k + 1)) (defBody s__law_same) c__law_same :=
  (trS_if (trT_e (tr_isi2 (t := "list") (u := "tuple") B (tv 1 rfl rfl rfl rfl) (by decide) (by decide) rfl rfl rfl (fun _ => rfl)) (fun _ _ => rfl))
      
      (trS_if (TrW.tt (trW_or (trT_cmp (tr_isi1 (t := "list") B (tv 0 rfl rfl rfl rfl) (by decide) rfl rfl (fun _ => rfl)) (tr_isi1 (t := "list") B (tv 1 rfl rfl rfl rfl) (by decide) rfl rfl (fun _ => rfl)) rfl) (trW_or1 (trT_cmp (tr_isi1 (t := "tuple") B (tv 0 rfl rfl rfl rfl) (by decide) rfl rfl (fun _ => rfl)) (tr_isi1 (t := "tuple") B (tv 1 rfl rfl rfl rfl) (by decide) rfl rfl (fun _ => rfl)) rfl))))
          
          (trS_ret tr_bl)
          trS_nil
          
      (trS_ret (tr_and (tr_cmp (tr_bi (b := .len) B (by decide) (trA_cons (tv 0 rfl rfl rfl rfl) trA_nil (fun _ => rfl)) rfl (fun _ => rfl) (fun _ => rfl)) (tr_bi (b := .len) B (by decide) (trA_cons (tv 1 rfl rfl rfl rfl) trA_nil (fun _ => rfl)) rfl (fun _ => rfl) (fun _ => rfl)) rfl) (tr_one (tr_bi (b := .all) B (by decide) (trA_cons (tr_lc (own := [("_law_mine", 2), ("_law_its", 3)]) (trI_zp B (tv 0 rfl rfl rfl rfl) (tv 1 rfl rfl rfl rfl) rfl (fun _ => rfl) (fun _ => rfl) (fun _ => rfl)) (trG_t 2 3 rfl (loc_of rfl) (fn_of rfl) rfl (loc_of rfl) (fn_of rfl)) trTs_nil (tr_call (trA_cons (tv 2 rfl rfl rfl rfl) (trA_cons (tv 3 rfl rfl rfl rfl) trA_nil (fun _ => rfl)) (fun _ => rfl)) rfl rfl (fun _ => rfl) (fun _ => rfl)) (by decide) (by kernel_rfl) (fun _ _ => rfl)) trA_nil (fun _ => rfl)) rfl (fun _ => rfl) (fun _ => rfl))))))
      trS_nil
      
  (trS_if (trT_e (tr_isi1 (t := "dict") B (tv 1 rfl rfl rfl rfl) (by decide) rfl rfl (fun _ => rfl)) (fun _ _ => rfl))
      
      (trS_if (TrW.tt (trW_or (trT_not (trT_e (tr_isi1 (t := "dict") B (tv 0 rfl rfl rfl rfl) (by decide) rfl rfl (fun _ => rfl)) (fun _ _ => rfl))) (trW_or (trT_cmp (tr_bi (b := .len) B (by decide) (trA_cons (tv 0 rfl rfl rfl rfl) trA_nil (fun _ => rfl)) rfl (fun _ => rfl) (fun _ => rfl)) (tr_bi (b := .len) B (by decide) (trA_cons (tv 1 rfl rfl rfl rfl) trA_nil (fun _ => rfl)) rfl (fun _ => rfl) (fun _ => rfl)) rfl) (trW_or1 (trT_cmp (tr_lc (own := [("_law_own", 4)]) (trI_e (tv 1 rfl rfl rfl rfl)) (trG_n 4 rfl (loc_of rfl) (fn_of rfl)) (trTs_one (trT_cmp (tv 4 rfl rfl rfl rfl) (tv 0 rfl rfl rfl rfl) rfl)) (tv 4 rfl rfl rfl rfl) (by decide) (by kernel_rfl) (fun _ _ => rfl)) (tr_lst trA_nil) rfl)))))
          
          (trS_ret tr_bl)
          trS_nil
          
      (trS_ret (tr_bi (b := .all) B (by decide) (trA_cons (tr_lc (own := [("_law_own", 4)]) (trI_e (tv 1 rfl rfl rfl rfl)) (trG_n 4 rfl (loc_of rfl) (fn_of rfl)) trTs_nil (tr_call (trA_cons (tr_ix (tv 0 rfl rfl rfl rfl) (tv 4 rfl rfl rfl rfl) (fun _ _ => rfl)) (trA_cons (tr_ix (tv 1 rfl rfl rfl rfl) (tv 4 rfl rfl rfl rfl) (fun _ _ => rfl)) trA_nil (fun _ => rfl)) (fun _ => rfl)) rfl rfl (fun _ => rfl) (fun _ => rfl)) (by decide) (by kernel_rfl) (fun _ _ => rfl)) trA_nil (fun _ => rfl)) rfl (fun _ => rfl) (fun _ => rfl))))
      trS_nil
      
  (trS_if (TrW.tt (trW_or (trT_cmp (tv 1 rfl rfl rfl rfl) tr_non rfl) (trW_or1 (trT_e (tr_isi2 (t := "bool") (u := "str") B (tv 1 rfl rfl rfl rfl) (by decide) (by decide) rfl rfl rfl (fun _ => rfl)) (fun _ _ => rfl)))))
      
      (trS_ret (tr_and (tr_cmp (tv 0 rfl rfl rfl rfl) (tv 1 rfl rfl rfl rfl) rfl) (tr_and (tr_cmp (tr_isi1 (t := "bool") B (tv 0 rfl rfl rfl rfl) (by decide) rfl rfl (fun _ => rfl)) (tr_isi1 (t := "bool") B (tv 1 rfl rfl rfl rfl) (by decide) rfl rfl (fun _ => rfl)) rfl) (tr_one (tr_cmp (tr_cmp (tv 0 rfl rfl rfl rfl) tr_non rfl) (tr_cmp (tv 1 rfl rfl rfl rfl) tr_non rfl) rfl)))))
      trS_nil
      
  (trS_ret (tr_and (tr_isi1 (t := "int") B (tv 0 rfl rfl rfl rfl) (by decide) rfl rfl (fun _ => rfl)) (tr_and (tr_not (tr_isi1 (t := "bool") B (tv 0 rfl rfl rfl rfl) (by decide) rfl rfl (fun _ => rfl))) (tr_one (tr_cmp (tv 0 rfl rfl rfl rfl) (tv 1 rfl rfl rfl rfl) rfl))))))))
abbrev s__law_had : Stmt := top 18
def N__law_had : List Str := ["_law_graph_so", "_law_some", "_law_found_so", "_law_k", "_law_own"]
theorem sc__law_had : FnScope N__law_had ["_law_graph_so", "_law_some"] (defScope s__law_had) := ⟨rfl, rfl, rfl, by decide +kernel, rfl, by decide +kernel, by decide +kernel⟩
theorem t__law_had (B : Bi mg) : TrS (ctxOf P w K mg base N__law_had s__law_had (k + 1)) (defBody s__law_had) c__law_had :=
  (trS_asg 2 (tr_sset B (tv 1 rfl rfl rfl rfl) rfl rfl (fun _ => rfl)) 
  (trS_for (trI_rd B (tr_bin (tr_bi (b := .len) B (by decide) (trA_cons (tv 0 rfl rfl rfl rfl) trA_nil (fun _ => rfl)) rfl (fun _ => rfl) (fun _ => rfl)) tr_int) (tr_neg tr_int) rfl rfl (fun _ => rfl) (fun _ => rfl) (fun _ => rfl) (fun _ => rfl)) (trG_n 3 rfl (loc_of rfl) (fn_of rfl))
      
      (trS_if (trT_cmp (tv 3 rfl rfl rfl rfl) (tv 2 rfl rfl rfl rfl) rfl)
          
          (trS_asg 2 (tr_bin (tv 2 rfl rfl rfl rfl) (tr_lc (own := [("_law_own", 4)]) (trI_e (tr_ix (tr_ix (tv 0 rfl rfl rfl rfl) (tv 3 rfl rfl rfl rfl) (fun _ _ => rfl)) tr_int (fun _ _ => rfl))) (trG_n 4 rfl (loc_of rfl) (fn_of rfl)) (trTs_one (trT_cmp (tv 4 rfl rfl rfl rfl) (tv 2 rfl rfl rfl rfl) rfl)) (tv 4 rfl rfl rfl rfl) (by decide) (by kernel_rfl) (fun _ _ => rfl))) trS_nil rfl (loc_of rfl) (fn_of rfl) (fun _ _ => rfl))
          trS_nil
          trS_nil)
      
  (trS_ret (tr_bi (b := .sorted) B (by decide) (trA_cons (tv 2 rfl rfl rfl rfl) trA_nil (fun _ => rfl)) rfl (fun _ => rfl) (fun _ => rfl))) (fun _ _ => rfl)) rfl (loc_of rfl) (fn_of rfl) (fun _ _ => rfl))
abbrev s__law_common : Stmt := top 19
def N__law_common : List Str := ["_law_graph_so", "_law_one_so", "_law_other_so", "_law_own"]
theorem sc__law_common : FnScope N__law_common ["_law_graph_so", "_law_one_so", "_law_other_so"] (defScope s__law_common) := ⟨rfl, rfl, rfl, by decide +kernel, rfl, by decide +kernel, by decide +kernel⟩
theorem t__law_common (B : Bi mg) : TrS (ctxOf P w K mg base N__law_common s__law_common (k + 1)) (defBody s__law_common) c__law_common :=
  (trS_ret (tr_lc (own := [("_law_own", 3)]) (trI_e (tr_call (trA_cons (tv 0 rfl rfl rfl rfl) (trA_cons (tr_tup (trA_cons (tv 1 rfl rfl rfl rfl) trA_nil (fun _ => rfl))) trA_nil (fun _ => rfl)) (fun _ => rfl)) rfl rfl (fun _ => rfl) (fun _ => rfl))) (trG_n 3 rfl (loc_of rfl) (fn_of rfl)) (trTs_one (trT_cmp (tv 3 rfl rfl rfl rfl) (tr_call (trA_cons (tv 0 rfl rfl rfl rfl) (trA_cons (tr_tup (trA_cons (tv 2 rfl rfl rfl rfl) trA_nil (fun _ => rfl))) trA_nil (fun _ => rfl)) (fun _ => rfl)) rfl rfl (fun _ => rfl) (fun _ => rfl)) rfl)) (tv 3 rfl rfl rfl rfl) (by decide) (by kernel_rfl) (fun _ _ => rfl)))
abbrev s__law_nearest : Stmt := top 20
def N__law_nearest : List Str := ["_law_graph_so", "_law_one_so", "_law_other_so", "_law_both", "_law_own", "_law_its"]
theorem sc__law_nearest : FnScope N__law_nearest ["_law_graph_so", "_law_one_so", "_law_other_so"] (defScope s__law_nearest) := ⟨rfl, rfl, rfl, by decide +kernel, rfl, by decide +kernel, by decide +kernel⟩
theorem t__law_nearest (B : Bi mg) : TrS (ctxOf P w K mg base N__law_nearest s__law_nearest (k + 1)) (defBody s__law_nearest) c__law_nearest :=
  (trS_asg 3 (tr_call (trA_cons (tv 0 rfl rfl rfl rfl) (trA_cons (tv 1 rfl rfl rfl rfl) (trA_cons (tv 2 rfl rfl rfl rfl) trA_nil (fun _ => rfl)) (fun _ => rfl)) (fun _ => rfl)) rfl rfl (fun _ => rfl) (fun _ => rfl)) 
  (trS_ret (tr_lc (own := [("_law_own", 4)]) (trI_e (tv 3 rfl rfl rfl rfl)) (trG_n 4 rfl (loc_of rfl) (fn_of rfl)) (trTs_one (trT_cmp (tr_lc (own := [("_law_its", 5)]) (trI_e (tv 3 rfl rfl rfl rfl)) (trG_n 5 rfl (loc_of rfl) (fn_of rfl)) (trTs_one (TrW.tt (trW_and (trT_cmp (tv 5 rfl rfl rfl rfl) (tv 4 rfl rfl rfl rfl) rfl) (trW_and1 (trT_cmp (tv 4 rfl rfl rfl rfl) (tr_call (trA_cons (tv 0 rfl rfl rfl rfl) (trA_cons (tr_tup (trA_cons (tv 5 rfl rfl rfl rfl) trA_nil (fun _ => rfl))) trA_nil (fun _ => rfl)) (fun _ => rfl)) rfl rfl (fun _ => rfl) (fun _ => rfl)) rfl))))) (tv 5 rfl rfl rfl rfl) (by decide) (by kernel_rfl) (fun _ _ => rfl)) (tr_lst trA_nil) rfl)) (tv 4 rfl rfl rfl rfl) (by decide) (by kernel_rfl) (fun _ _ => rfl))) rfl (loc_of rfl) (fn_of rfl) (fun _ _ => rfl))
abbrev s_tupled : Stmt := top 4
def N_tupled : List Str := ["thing", "part"]
theorem sc_tupled : FnScope N_tupled ["thing"] (defScope s_tupled) := ⟨rfl, rfl, rfl, by decide +kernel, rfl, by decide +kernel, by decide +kernel⟩
theorem t_tupled (B : Bi mg) : TrS (ctxOf P w K mg base N_tupled s_tupled (k + 1)) (defBody s_tupled) c_tupled :=
  (trS_ret (tr_ife (trT_e (tr_isi2 (t := "list") (u := "tuple") B (tv 0 rfl rfl rfl rfl) (by decide) (by decide) rfl rfl rfl (fun _ => rfl)) (fun _ _ => rfl)) (tr_bi (b := .tuple) B (by decide) (trA_cons (tr_lc (own := [("part", 1)]) (trI_e (tv 0 rfl rfl rfl rfl)) (trG_n 1 rfl (loc_of rfl) (fn_of rfl)) trTs_nil (tr_call (trA_cons (tv 1 rfl rfl rfl rfl) trA_nil (fun _ => rfl)) rfl rfl (fun _ => rfl) (fun _ => rfl)) (by decide) (by kernel_rfl) (fun _ _ => rfl)) trA_nil (fun _ => rfl)) rfl (fun _ => rfl) (fun _ => rfl)) (tv 0 rfl rfl rfl rfl)))
abbrev s_Graph_init : Stmt := inClass (top 6) 1
def N_Graph_init : List Str := ["self", "graph", "row"]
theorem sc_Graph_init : FnScope N_Graph_init ["self", "graph"] (defScope s_Graph_init) := ⟨rfl, rfl, rfl, by decide +kernel, rfl, by decide +kernel, by decide +kernel⟩
theorem t_Graph_init (B : Bi mg) : TrS (ctxOf P w K mg base N_Graph_init s_Graph_init (k + 1)) (defBody s_Graph_init) c_Graph_init :=
  (trS_setfld (tr_lc (own := [("row", 2)]) (trI_e (tv 1 rfl rfl rfl rfl)) (trG_n 2 rfl (loc_of rfl) (fn_of rfl)) trTs_nil (tr_ix (tv 2 rfl rfl rfl rfl) tr_int (fun _ _ => rfl)) (by decide) (by kernel_rfl) (fun _ _ => rfl)) (tv 0 rfl rfl rfl rfl) 
  (trS_setfld (tr_lc (own := [("row", 2)]) (trI_e (tv 1 rfl rfl rfl rfl)) (trG_n 2 rfl (loc_of rfl) (fn_of rfl)) trTs_nil (tr_call (trA_cons (tr_ix (tv 2 rfl rfl rfl rfl) tr_int (fun _ _ => rfl)) trA_nil (fun _ => rfl)) rfl rfl (fun _ => rfl) (fun _ => rfl)) (by decide) (by kernel_rfl) (fun _ _ => rfl)) (tv 0 rfl rfl rfl rfl) 
  (trS_setfld tr_dct0 (tv 0 rfl rfl rfl rfl) trS_nil (fun _ => rfl)) (fun _ => rfl)) (fun _ => rfl))
abbrev s_Graph_check : Stmt := inClass (top 6) 8
def N_Graph_check : List Str := ["self", "commits", "commit"]
theorem sc_Graph_check : FnScope N_Graph_check ["self", "commits"] (defScope s_Graph_check) := ⟨rfl, rfl, rfl, by decide +kernel, rfl, by decide +kernel, by decide +kernel⟩
theorem t_Graph_check (B : Bi mg) : TrS (ctxOf P w K mg base N_Graph_check s_Graph_check (k + 1)) (defBody s_Graph_check) c_Graph_check :=
  (trS_for (trI_e (tv 1 rfl rfl rfl rfl)) (trG_n 2 rfl (loc_of rfl) (fn_of rfl))
      
      (trS_if (trT_not (trT_cmp2 tr_int (tv 2 rfl rfl rfl rfl) (tr_bi (b := .len) B (by decide) (trA_cons (tr_fld (tv 0 rfl rfl rfl rfl) (fun _ => rfl)) trA_nil (fun _ => rfl)) rfl (fun _ => rfl) (fun _ => rfl)) rfl))
          
          trS_bad
          trS_nil
          trS_nil)
      trS_nil (fun _ _ => rfl))
abbrev s_graph_at : Stmt := top 7
def N_graph_at : List Str := ["graph", "groups", "found", "commits"]
theorem sc_graph_at : FnScope N_graph_at ((["graph"] : List Str) ++ (["groups"] : List Str)) (defScope s_graph_at) := ⟨rfl, rfl, rfl, by decide +kernel, rfl, by decide +kernel, by decide +kernel⟩
theorem t_graph_at (B : Bi mg) : TrS (ctxOf P w K mg base N_graph_at s_graph_at (k + 1)) (defBody s_graph_at) c_graph_at :=
  (trS_asg 2 (tr_make (trA_cons (tv 0 rfl rfl rfl rfl) trA_nil (fun _ => rfl)) rfl rfl (fun _ => rfl) (fun _ => rfl) (Nat.succ_pos _)) 
  (trS_for (trI_e (tv 1 rfl rfl rfl rfl)) (trG_n 3 rfl (loc_of rfl) (fn_of rfl))
      
      (trS_ex (tr_meth (tv 2 rfl rfl rfl rfl) (trA_cons (tv 3 rfl rfl rfl rfl) trA_nil (fun _ => rfl)) (fun _ => rfl) (fun _ => rfl) (fun _ => rfl)) trS_nil (fun _ => rfl))
      
  (trS_ret (tv 2 rfl rfl rfl rfl)) (fun _ _ => rfl)) rfl (loc_of rfl) (fn_of rfl) (fun _ _ => rfl))
abbrev s_Graph_had : Stmt := inClass (top 6) 11
def N_Graph_had : List Str := ["self", "commits", "found", "commit", "here", "parent"]
theorem sc_Graph_had : FnScope N_Graph_had ["self", "commits"] (defScope s_Graph_had) := ⟨rfl, rfl, rfl, by decide +kernel, rfl, by decide +kernel, by decide +kernel⟩
theorem t_Graph_had (B : Bi mg) : TrS (ctxOf P w K mg base N_Graph_had s_Graph_had (k + 1)) (defBody s_Graph_had) c_Graph_had :=
  (trS_asgDc 2 (ow := true) (own := [("commit", 3)]) (trI_e (tv 1 rfl rfl rfl rfl)) (trG_n 3 rfl (loc_of rfl) (fn_of rfl)) trTs_nil (tv 3 rfl rfl rfl rfl) tr_bl (by decide) (by kernel_rfl) (fun _ _ => rfl) 
  (trS_for (trI_rd B (tr_bin (tr_bi (b := .len) B (by decide) (trA_cons (tr_fld (tv 0 rfl rfl rfl rfl) (fun _ => rfl)) trA_nil (fun _ => rfl)) rfl (fun _ => rfl) (fun _ => rfl)) tr_int) (tr_neg tr_int) rfl rfl (fun _ => rfl) (fun _ => rfl) (fun _ => rfl) (fun _ => rfl)) (trG_n 4 rfl (loc_of rfl) (fn_of rfl))
      
      (trS_for (trI_e (tr_ife (trT_cmp (tv 4 rfl rfl rfl rfl) (tv 2 rfl rfl rfl rfl) rfl) (tr_ix (tr_fld (tv 0 rfl rfl rfl rfl) (fun _ => rfl)) (tv 4 rfl rfl rfl rfl) (fun _ _ => rfl)) (tr_tup trA_nil))) (trG_n 5 rfl (loc_of rfl) (fn_of rfl))
          
          (trS_setix tr_bl (tv 2 rfl rfl rfl rfl) (tv 5 rfl rfl rfl rfl) trS_nil (fun _ => rfl) (fun _ => rfl) (fun _ => rfl) (fun _ _ => rfl))
          trS_nil (fun _ _ => rfl))
      
  (trS_ret (tr_bi (b := .sorted) B (by decide) (trA_cons (tv 2 rfl rfl rfl rfl) trA_nil (fun _ => rfl)) rfl (fun _ => rfl) (fun _ => rfl))) (fun _ _ => rfl)) rfl rfl rfl rfl (by kernel_rfl))
abbrev s_Graph_parents : Stmt := inClass (top 6) 7
def N_Graph_parents : List Str := ["self", "commit"]
theorem sc_Graph_parents : FnScope N_Graph_parents ["self", "commit"] (defScope s_Graph_parents) := ⟨rfl, rfl, rfl, by decide +kernel, rfl, by decide +kernel, by decide +kernel⟩
theorem t_Graph_parents (B : Bi mg) : TrS (ctxOf P w K mg base N_Graph_parents s_Graph_parents (k + 1)) (defBody s_Graph_parents) c_Graph_parents :=
  (trS_ret (tr_ix (tr_fld (tv 0 rfl rfl rfl rfl) (fun _ => rfl)) (tv 1 rfl rfl rfl rfl) (fun _ _ => rfl)))
abbrev s_nearest : Stmt := top 9
def N_nearest : List Str := ["graph", "one", "other", "own", "known", "both", "commit", "below", "parent"]
theorem sc_nearest : FnScope N_nearest ["graph", "one", "other"] (defScope s_nearest) := ⟨rfl, rfl, rfl, by decide +kernel, rfl, by decide +kernel, by decide +kernel⟩
theorem t_nearest (B : Bi mg) : TrS (ctxOf P w K mg base N_nearest s_nearest (k + 1)) (defBody s_nearest) c_nearest :=
  (trS_asg 3 (tr_call (trA_cons (tv 0 rfl rfl rfl rfl) (trA_cons (tr_lst (trA_cons (tv 1 rfl rfl rfl rfl) (trA_cons (tv 2 rfl rfl rfl rfl) trA_nil (fun _ => rfl)) (fun _ => rfl))) trA_nil (fun _ => rfl)) (fun _ => rfl)) rfl rfl (fun _ => rfl) (fun _ => rfl)) 
  (trS_asg 4 (tr_meth (tv 3 rfl rfl rfl rfl) (trA_cons (tr_lst (trA_cons (tv 2 rfl rfl rfl rfl) trA_nil (fun _ => rfl))) trA_nil (fun _ => rfl)) (fun _ => rfl) (fun _ => rfl) (fun _ => rfl)) 
  (trS_asgLc 5 (ow := false) (own := [("commit", 6)]) (trI_e (tr_meth (tv 3 rfl rfl rfl rfl) (trA_cons (tr_lst (trA_cons (tv 1 rfl rfl rfl rfl) trA_nil (fun _ => rfl))) trA_nil (fun _ => rfl)) (fun _ => rfl) (fun _ => rfl) (fun _ => rfl))) (trG_n 6 rfl (loc_of rfl) (fn_of rfl)) (trTs_one (trT_cmp (tv 6 rfl rfl rfl rfl) (tv 4 rfl rfl rfl rfl) rfl)) (tv 6 rfl rfl rfl rfl) (by decide) (by kernel_rfl) (fun _ _ => rfl) 
  (trS_asg 7 (tr_meth (tv 3 rfl rfl rfl rfl) (trA_cons (tr_lc2 (own := [("commit", 6), ("parent", 8)]) (trI_e (tv 5 rfl rfl rfl rfl)) (trG_n 6 rfl (loc_of rfl) (fn_of rfl)) trTs_nil (trID_e (tr_meth (tv 3 rfl rfl rfl rfl) (trA_cons (tv 6 rfl rfl rfl rfl) trA_nil (fun _ => rfl)) (fun _ => rfl) (fun _ => rfl) (fun _ => rfl))) (trG_n 8 rfl (loc_of rfl) (fn_of rfl)) trTs_nil (tv 8 rfl rfl rfl rfl) (by decide) (by decide) (by decide) (by kernel_rfl) (fun _ _ => rfl) (fun _ _ => rfl)) trA_nil (fun _ => rfl)) (fun _ => rfl) (fun _ => rfl) (fun _ => rfl)) 
  (trS_ret (tr_lc (own := [("commit", 6)]) (trI_e (tv 5 rfl rfl rfl rfl)) (trG_n 6 rfl (loc_of rfl) (fn_of rfl)) (trTs_one (trT_cmp (tv 6 rfl rfl rfl rfl) (tv 7 rfl rfl rfl rfl) rfl)) (tv 6 rfl rfl rfl rfl) (by decide) (by kernel_rfl) (fun _ _ => rfl))) rfl (loc_of rfl) (fn_of rfl) (fun _ _ => rfl)) rfl rfl rfl rfl (by kernel_rfl)) rfl (loc_of rfl) (fn_of rfl) (fun _ _ => rfl)) rfl (loc_of rfl) (fn_of rfl) (fun _ _ => rfl))
abbrev s__law_right : Stmt := top 21
def N__law_right : List Str := ["_law_box_here", "_law_crossed", "_law_turn", "_law_data", "_law_soft", "_law_lap_so", "_law_mine", "_law_its", "_law_due", "_law_told_so"]
theorem sc__law_right : FnScope N__law_right ["_law_box_here"] (defScope s__law_right) := ⟨rfl, rfl, rfl, by decide +kernel, rfl, by decide +kernel, by decide +kernel⟩
theorem t__law_right (B : Bi mg) : TrS (ctxOf P w K mg base N__law_right s__law_right (k + 1)) (defBody s__law_right) c__law_right :=
  (trS_asg 1 (tr_tup (trA_cons (tr_tup (trA_cons tr_int (trA_cons (tr_tup trA_nil) trA_nil (fun _ => rfl)) (fun _ => rfl))) (trA_cons (tr_tup (trA_cons tr_int (trA_cons (tr_tup (trA_cons tr_int trA_nil (fun _ => rfl))) trA_nil (fun _ => rfl)) (fun _ => rfl))) (trA_cons (tr_tup (trA_cons tr_int (trA_cons (tr_tup (trA_cons tr_int trA_nil (fun _ => rfl))) trA_nil (fun _ => rfl)) (fun _ => rfl))) (trA_cons (tr_tup (trA_cons tr_int (trA_cons (tr_tup (trA_cons tr_int (trA_cons tr_int trA_nil (fun _ => rfl)) (fun _ => rfl))) trA_nil (fun _ => rfl)) (fun _ => rfl))) (trA_cons (tr_tup (trA_cons tr_int (trA_cons (tr_tup (trA_cons tr_int (trA_cons tr_int trA_nil (fun _ => rfl)) (fun _ => rfl))) trA_nil (fun _ => rfl)) (fun _ => rfl))) trA_nil (fun _ => rfl)) (fun _ => rfl)) (fun _ => rfl)) (fun _ => rfl)) (fun _ => rfl))) 
  (trS_if (trT_not (trT_e (tr_call (trA_cons (tr_lst (trA_cons (tr_call (trA_cons (tv 1 rfl rfl rfl rfl) (trA_cons tr_int (trA_cons tr_int trA_nil (fun _ => rfl)) (fun _ => rfl)) (fun _ => rfl)) rfl rfl (fun _ => rfl) (fun _ => rfl)) (trA_cons (tr_call (trA_cons (tv 1 rfl rfl rfl rfl) (trA_cons tr_int (trA_cons tr_int trA_nil (fun _ => rfl)) (fun _ => rfl)) (fun _ => rfl)) rfl rfl (fun _ => rfl) (fun _ => rfl)) (trA_cons (tr_call (trA_cons (tv 1 rfl rfl rfl rfl) (trA_cons tr_int (trA_cons tr_int trA_nil (fun _ => rfl)) (fun _ => rfl)) (fun _ => rfl)) rfl rfl (fun _ => rfl) (fun _ => rfl)) trA_nil (fun _ => rfl)) (fun _ => rfl)) (fun _ => rfl))) (trA_cons (tr_lst (trA_cons (tr_lst (trA_cons tr_int (trA_cons tr_int trA_nil (fun _ => rfl)) (fun _ => rfl))) (trA_cons (tr_lst (trA_cons tr_int trA_nil (fun _ => rfl))) (trA_cons (tr_lst (trA_cons tr_int trA_nil (fun _ => rfl))) trA_nil (fun _ => rfl)) (fun _ => rfl)) (fun _ => rfl))) trA_nil (fun _ => rfl)) (fun _ => rfl)) rfl rfl (fun _ => rfl) (fun _ => rfl)) (fun _ _ => rfl)))
      
      (trS_ret tr_bl)
      trS_nil
      
  (trS_for (trI_r1 B tr_int rfl (fun _ => rfl)) (trG_n 2 rfl (loc_of rfl) (fn_of rfl))
      
      (trS_asg 3 (tr_call (trA_cons (tv 0 rfl rfl rfl rfl) (trA_cons (tr_bin tr_int (tr_call (trA_cons (tv 0 rfl rfl rfl rfl) (trA_cons tr_int trA_nil (fun _ => rfl)) (fun _ => rfl)) rfl rfl (fun _ => rfl) (fun _ => rfl))) trA_nil (fun _ => rfl)) (fun _ => rfl)) rfl rfl (fun _ => rfl) (fun _ => rfl)) 
      (trS_asg 4 (tr_call (trA_cons (tv 3 rfl rfl rfl rfl) trA_nil (fun _ => rfl)) rfl rfl (fun _ => rfl) (fun _ => rfl)) 
      (trS_for (trI_r1 B tr_int rfl (fun _ => rfl)) (trG_n 5 rfl (loc_of rfl) (fn_of rfl))
          
          (trS_par2 6 7 (trA_cons (tr_call (trA_cons (tv 0 rfl rfl rfl rfl) (trA_cons (tr_bi (b := .len) B (by decide) (trA_cons (tv 3 rfl rfl rfl rfl) trA_nil (fun _ => rfl)) rfl (fun _ => rfl) (fun _ => rfl)) trA_nil (fun _ => rfl)) (fun _ => rfl)) rfl rfl (fun _ => rfl) (fun _ => rfl)) (trA_cons (tr_call (trA_cons (tv 0 rfl rfl rfl rfl) (trA_cons (tr_bi (b := .len) B (by decide) (trA_cons (tv 3 rfl rfl rfl rfl) trA_nil (fun _ => rfl)) rfl (fun _ => rfl) (fun _ => rfl)) trA_nil (fun _ => rfl)) (fun _ => rfl)) rfl rfl (fun _ => rfl) (fun _ => rfl)) trA_nil (fun _ => rfl)) (fun _ => rfl)) 
          (trS_par2 8 9 (trA_cons (tr_call (trA_cons (tv 3 rfl rfl rfl rfl) (trA_cons (tv 6 rfl rfl rfl rfl) (trA_cons (tv 7 rfl rfl rfl rfl) trA_nil (fun _ => rfl)) (fun _ => rfl)) (fun _ => rfl)) rfl rfl (fun _ => rfl) (fun _ => rfl)) (trA_cons (tr_own (tr_call (trA_cons (tv 3 rfl rfl rfl rfl) (trA_cons (tv 6 rfl rfl rfl rfl) (trA_cons (tv 7 rfl rfl rfl rfl) trA_nil (fun _ => rfl)) (fun _ => rfl)) (fun _ => rfl)) rfl rfl (fun _ => rfl) (fun _ => rfl))) trA_nil (fun _ => rfl)) (fun _ => rfl)) 
          (trS_if (trT_not (trT_e (tr_lend (tr_call (trA_cons (tr_lst (trA_cons (tv 9 rfl rfl rfl rfl) (trA_cons (tr_callk (trK_cons (tv 7 rfl rfl rfl rfl) (trK_cons (tv 6 rfl rfl rfl rfl) (trK_cons (tv 4 rfl rfl rfl rfl) trK_nil))) rfl rfl (fun _ => rfl) (fun _ => rfl) (fun _ => rfl)) trA_nil (fun _ => rfl)) (fun _ => rfl))) (trA_cons (tr_lst (trA_cons (tv 8 rfl rfl rfl rfl) (trA_cons (tv 8 rfl rfl rfl rfl) trA_nil (fun _ => rfl)) (fun _ => rfl))) trA_nil (fun _ => rfl)) (fun _ => rfl)) rfl rfl (fun _ => rfl) (fun _ => rfl))) (fun _ _ => rfl)))
              
              (trS_ret tr_bl)
              trS_nil
              
          (trS_ex (tr_append (tv 9 rfl rfl rfl rfl) tr_str (fun _ => rfl) rfl (fun _ => rfl) (fun _ => rfl)) 
          (trS_if (TrW.tt (trW_or (trT_not (trT_e (tr_call (trA_cons (tr_call (trA_cons (tv 3 rfl rfl rfl rfl) (trA_cons (tv 6 rfl rfl rfl rfl) (trA_cons (tv 7 rfl rfl rfl rfl) trA_nil (fun _ => rfl)) (fun _ => rfl)) (fun _ => rfl)) rfl rfl (fun _ => rfl) (fun _ => rfl)) (trA_cons (tv 8 rfl rfl rfl rfl) trA_nil (fun _ => rfl)) (fun _ => rfl)) rfl rfl (fun _ => rfl) (fun _ => rfl)) (fun _ _ => rfl))) (trW_or1 (trT_cmp (tv 4 rfl rfl rfl rfl) (tr_call (trA_cons (tv 3 rfl rfl rfl rfl) trA_nil (fun _ => rfl)) rfl rfl (fun _ => rfl) (fun _ => rfl)) rfl))))
              
              (trS_ret tr_bl)
              trS_nil
              trS_nil) (fun _ => rfl))) (by decide) rfl rfl rfl rfl (by rintro ⟨_, _, _, _, _, _, _, _, _⟩ h; cases h; rfl) (fun _ => rfl)) (by decide) rfl rfl rfl rfl (by rintro ⟨_, _, _, _, _, _, _, _, _⟩ h; cases h; rfl) (fun _ => rfl))
          trS_nil (fun _ _ => rfl)) rfl (loc_of rfl) (fn_of rfl) (fun _ _ => rfl)) rfl (loc_of rfl) (fn_of rfl) (fun _ _ => rfl))
      
  (trS_ret tr_bl) (fun _ _ => rfl))) rfl (loc_of rfl) (fn_of rfl) (fun _ _ => rfl))
abbrev s_law : Stmt := top 22
def N_law : List Str := ["_law_script", "_law_cells_here", "_law_k"]
theorem sc_law : FnScope N_law ["_law_script"] (defScope s_law) := ⟨rfl, rfl, rfl, by decide +kernel, rfl, by decide +kernel, by decide +kernel⟩
theorem t_law (B : Bi mg) : TrS (ctxOf P w K mg base N_law s_law (k + 1)) (defBody s_law) c_law :=
  (trS_asg 1 (tr_call (trA_cons (tv 0 rfl rfl rfl rfl) (trA_cons tr_int trA_nil (fun _ => rfl)) (fun _ => rfl)) rfl rfl (fun _ => rfl) (fun _ => rfl)) 
  (trS_for (trI_r1 B (tr_bi (b := .len) B (by decide) (trA_cons (tv 1 rfl rfl rfl rfl) trA_nil (fun _ => rfl)) rfl (fun _ => rfl) (fun _ => rfl)) rfl (fun _ => rfl)) (trG_n 2 rfl (loc_of rfl) (fn_of rfl))
      
      (trS_if (trT_not (trT_e (tr_call (trA_cons (tr_own (tr_call (trA_cons (tv 1 rfl rfl rfl rfl) (trA_cons (tv 2 rfl rfl rfl rfl) trA_nil (fun _ => rfl)) (fun _ => rfl)) rfl rfl (fun _ => rfl) (fun _ => rfl))) trA_nil (fun _ => rfl)) rfl rfl (fun _ => rfl) (fun _ => rfl)) (fun _ _ => rfl)))
          
          (trS_ret tr_bl)
          trS_nil
          trS_nil)
      
  (trS_ret tr_bl) (fun _ _ => rfl)) rfl (loc_of rfl) (fn_of rfl) (fun _ _ => rfl))
theorem ok__law_lists {f : Addr} {fd : FuncData} (Fn : Fun K "_law_lists" "_law_lists" s__law_lists f fd) (bd : Binds K fd ["_law_matter"] []) (hmg : mg "_law_lists" = some (.ref f)) (B : Bi mg) : ∀ n : Nat, FnOk P w K mg base CX0 (n + 2) f fd ["_law_matter"] (spZ K (Rlists n))
  | 0 => fnZ (k := 1) Fn sc__law_lists (t__law_lists B) (fun ds z ⟨_, h, _⟩ => by subst h; rfl) (h__law_lists (j := 0) (fun h => absurd rfl h) (Nat.zero_le _))
  | n + 1 => fnZ (k := n + 2) Fn sc__law_lists (t__law_lists B) (fun ds z ⟨_, h, _⟩ => by subst h; rfl) (h__law_lists (j := n + 2) (fun _ => ⟨⟨f, hmg, Fn.kp, fnr_of (ok__law_lists Fn bd hmg B n) bd⟩⟩) (Nat.le_refl _))
theorem ok__law_same {f : Addr} {fd : FuncData} (Fn : Fun K "_law_same" "_law_same" s__law_same f fd) (bd : Binds K fd ["_law_got", "_law_due"] []) (hmg : mg "_law_same" = some (.ref f)) (B : Bi mg) : ∀ n : Nat, FnOk P w K mg base CX0 (n + 2) f fd ["_law_got", "_law_due"] (spZ K (Rsame n))
  | 0 => fnZ (k := 1) Fn sc__law_same (t__law_same B) (fun ds z ⟨_, h, _⟩ => by subst h; rfl) (h__law_same (j := 0) (fun h => absurd rfl h) (Nat.zero_le _))
  | n + 1 => fnZ (k := n + 2) Fn sc__law_same (t__law_same B) (fun ds z ⟨_, h, _⟩ => by subst h; rfl) (h__law_same (j := n + 2) (fun _ => ⟨⟨f, hmg, Fn.kp, fnr_of (ok__law_same Fn bd hmg B n) bd⟩⟩) (Nat.le_refl _))
theorem ok_tupled {f : Addr} {fd : FuncData} (Fn : Fun K "tupled" "tupled" s_tupled f fd) (bd : Binds K fd ["thing"] []) (hmg : mg "tupled" = some (.ref f)) (B : Bi mg) : ∀ n : Nat, FnOk P w K mg base CX0 (n + 2) f fd ["thing"] (spZ K (Rtupled n))
  | 0 => fnZ (k := 1) Fn sc_tupled (t_tupled B) (fun ds z ⟨_, h, _⟩ => by subst h; rfl) (h_tupled (j := 0) (fun h => absurd rfl h) (Nat.zero_le _))
  | n + 1 => fnZ (k := n + 2) Fn sc_tupled (t_tupled B) (fun ds z ⟨_, h, _⟩ => by subst h; rfl) (h_tupled (j := n + 2) (fun _ => ⟨⟨f, hmg, Fn.kp, fnr_of (ok_tupled Fn bd hmg B n) bd⟩⟩) (Nat.le_refl _))
end
theorem all_mk {l : PySem.W.OpenLaw} {w : World} {K : PySem.W.Frag} {h : Heap} {mg : Str → Option Value} {fa : Addr} {f1 f2 f3 f4 f5 f6 f7 f8 f9 f10 f11 f12 f13 f14 f15 C f16 f17 f18 f19 pC0 pC1 pC2 : Addr} (X : K.In h) (G : h.Ns mainGlobals mg) (hfa : mg "law" = some (.ref fa))
    {od1 an1 od2 an2 od3 an3 od4 an4 od5 an5 od6 an6 od7 an7 od8 an8 od9 an9 od10 an10 od11 an11 od12 an12 od13 an13 od14 an14 od15 an15 od16 an16 od17 an17 od18 an18 od19 an19 : Option Addr} {sl1 sl2 sl3 sl4 sl5 sl6 sl7 sl8 sl9 sl10 sl11 sl12 sl13 sl14 sl15 sl16 sl17 sl18 sl19 : Array (Option Value)} {oc1 kV1 dc1 pm1 cd1 ct1 oc2 kV2 dc2 pm2 cd2 ct2 oc3 kV3 dc3 pm3 cd3 ct3 oc4 kV4 dc4 pm4 cd4 ct4 oc5 kV5 dc5 pm5 cd5 ct5 oc6 kV6 dc6 pm6 cd6 ct6 oc7 kV7 dc7 pm7 cd7 ct7 oc8 kV8 dc8 pm8 cd8 ct8 oc9 kV9 dc9 pm9 cd9 ct9 oc10 kV10 dc10 pm10 cd10 ct10 oc11 kV11 dc11 pm11 cd11 ct11 oc12 kV12 dc12 pm12 cd12 ct12 oc13 kV13 dc13 pm13 cd13 ct13 oc14 kV14 dc14 pm14 cd14 ct14 oc15 kV15 dc15 pm15 cd15 ct15 oc16 kV16 dc16 pm16 cd16 ct16 oc17 kV17 dc17 pm17 cd17 ct17 oc18 kV18 dc18 pm18 cd18 ct18 oc19 kV19 dc19 pm19 cd19 ct19 : Value}
    (a1 : PySem.W.nsIn K mainGlobals "_law_cells" = some (some (.ref f1)))
    (l1 : K.lookup f1 = some ⟨oc1, od1, .func (PySem.W.fnOf "_law_cells" "_law_cells" (defArgs s__law_cells) (defBody s__law_cells) (defScope s__law_cells) .none kV1 dc1 pm1 an1 cd1 ct1), sl1⟩)
    (c1 : PySem.W.codeIn K cd1 "_law_cells" = true)
    (k1 : PySem.W.keepIn K (.ref f1) = true)
    (a2 : PySem.W.nsIn K mainGlobals "_law_box" = some (some (.ref f2)))
    (l2 : K.lookup f2 = some ⟨oc2, od2, .func (PySem.W.fnOf "_law_box" "_law_box" (defArgs s__law_box) (defBody s__law_box) (defScope s__law_box) .none kV2 dc2 pm2 an2 cd2 ct2), sl2⟩)
    (c2 : PySem.W.codeIn K cd2 "_law_box" = true)
    (k2 : PySem.W.keepIn K (.ref f2) = true)
    (a3 : PySem.W.nsIn K mainGlobals "_law_take" = some (some (.ref f3)))
    (l3 : K.lookup f3 = some ⟨oc3, od3, .func (PySem.W.fnOf "_law_take" "_law_take" (defArgs s__law_take) (defBody s__law_take) (defScope s__law_take) .none kV3 dc3 pm3 an3 cd3 ct3), sl3⟩)
    (c3 : PySem.W.codeIn K cd3 "_law_take" = true)
    (k3 : PySem.W.keepIn K (.ref f3) = true)
    (a4 : PySem.W.nsIn K mainGlobals "_law_of" = some (some (.ref f4)))
    (l4 : K.lookup f4 = some ⟨oc4, od4, .func (PySem.W.fnOf "_law_of" "_law_of" (defArgs s__law_of) (defBody s__law_of) (defScope s__law_of) .none kV4 dc4 pm4 an4 cd4 ct4), sl4⟩)
    (c4 : PySem.W.codeIn K cd4 "_law_of" = true)
    (k4 : PySem.W.keepIn K (.ref f4) = true)
    (a5 : PySem.W.nsIn K mainGlobals "_law_graph" = some (some (.ref f5)))
    (l5 : K.lookup f5 = some ⟨oc5, od5, .func (PySem.W.fnOf "_law_graph" "_law_graph" (defArgs s__law_graph) (defBody s__law_graph) (defScope s__law_graph) .none kV5 dc5 pm5 an5 cd5 ct5), sl5⟩)
    (c5 : PySem.W.codeIn K cd5 "_law_graph" = true)
    (k5 : PySem.W.keepIn K (.ref f5) = true)
    (a6 : PySem.W.nsIn K mainGlobals "_law_lists" = some (some (.ref f6)))
    (l6 : K.lookup f6 = some ⟨oc6, od6, .func (PySem.W.fnOf "_law_lists" "_law_lists" (defArgs s__law_lists) (defBody s__law_lists) (defScope s__law_lists) .none kV6 dc6 pm6 an6 cd6 ct6), sl6⟩)
    (c6 : PySem.W.codeIn K cd6 "_law_lists" = true)
    (k6 : PySem.W.keepIn K (.ref f6) = true)
    (a7 : PySem.W.nsIn K mainGlobals "_law_same" = some (some (.ref f7)))
    (l7 : K.lookup f7 = some ⟨oc7, od7, .func (PySem.W.fnOf "_law_same" "_law_same" (defArgs s__law_same) (defBody s__law_same) (defScope s__law_same) .none kV7 dc7 pm7 an7 cd7 ct7), sl7⟩)
    (c7 : PySem.W.codeIn K cd7 "_law_same" = true)
    (k7 : PySem.W.keepIn K (.ref f7) = true)
    (a8 : PySem.W.nsIn K mainGlobals "_law_had" = some (some (.ref f8)))
    (l8 : K.lookup f8 = some ⟨oc8, od8, .func (PySem.W.fnOf "_law_had" "_law_had" (defArgs s__law_had) (defBody s__law_had) (defScope s__law_had) .none kV8 dc8 pm8 an8 cd8 ct8), sl8⟩)
    (c8 : PySem.W.codeIn K cd8 "_law_had" = true)
    (k8 : PySem.W.keepIn K (.ref f8) = true)
    (a9 : PySem.W.nsIn K mainGlobals "_law_common" = some (some (.ref f9)))
    (l9 : K.lookup f9 = some ⟨oc9, od9, .func (PySem.W.fnOf "_law_common" "_law_common" (defArgs s__law_common) (defBody s__law_common) (defScope s__law_common) .none kV9 dc9 pm9 an9 cd9 ct9), sl9⟩)
    (c9 : PySem.W.codeIn K cd9 "_law_common" = true)
    (k9 : PySem.W.keepIn K (.ref f9) = true)
    (a10 : PySem.W.nsIn K mainGlobals "_law_nearest" = some (some (.ref f10)))
    (l10 : K.lookup f10 = some ⟨oc10, od10, .func (PySem.W.fnOf "_law_nearest" "_law_nearest" (defArgs s__law_nearest) (defBody s__law_nearest) (defScope s__law_nearest) .none kV10 dc10 pm10 an10 cd10 ct10), sl10⟩)
    (c10 : PySem.W.codeIn K cd10 "_law_nearest" = true)
    (k10 : PySem.W.keepIn K (.ref f10) = true)
    (a11 : PySem.W.nsIn K mainGlobals "tupled" = some (some (.ref f11)))
    (l11 : K.lookup f11 = some ⟨oc11, od11, .func (PySem.W.fnOf "tupled" "tupled" (defArgs s_tupled) (defBody s_tupled) (defScope s_tupled) .none kV11 dc11 pm11 an11 cd11 ct11), sl11⟩)
    (c11 : PySem.W.codeIn K cd11 "tupled" = true)
    (k11 : PySem.W.keepIn K (.ref f11) = true)
    (a12 : PySem.W.nsIn K mainGlobals "graph_at" = some (some (.ref f12)))
    (l12 : K.lookup f12 = some ⟨oc12, od12, .func (PySem.W.fnOf "graph_at" "graph_at" (defArgs s_graph_at) (defBody s_graph_at) (defScope s_graph_at) .none kV12 dc12 pm12 an12 cd12 ct12), sl12⟩)
    (c12 : PySem.W.codeIn K cd12 "graph_at" = true)
    (k12 : PySem.W.keepIn K (.ref f12) = true)
    (a13 : PySem.W.nsIn K mainGlobals "nearest" = some (some (.ref f13)))
    (l13 : K.lookup f13 = some ⟨oc13, od13, .func (PySem.W.fnOf "nearest" "nearest" (defArgs s_nearest) (defBody s_nearest) (defScope s_nearest) .none kV13 dc13 pm13 an13 cd13 ct13), sl13⟩)
    (c13 : PySem.W.codeIn K cd13 "nearest" = true)
    (k13 : PySem.W.keepIn K (.ref f13) = true)
    (a14 : PySem.W.nsIn K mainGlobals "_law_right" = some (some (.ref f14)))
    (l14 : K.lookup f14 = some ⟨oc14, od14, .func (PySem.W.fnOf "_law_right" "_law_right" (defArgs s__law_right) (defBody s__law_right) (defScope s__law_right) .none kV14 dc14 pm14 an14 cd14 ct14), sl14⟩)
    (c14 : PySem.W.codeIn K cd14 "_law_right" = true)
    (k14 : PySem.W.keepIn K (.ref f14) = true)
    (a15 : PySem.W.nsIn K mainGlobals "law" = some (some (.ref f15)))
    (l15 : K.lookup f15 = some ⟨oc15, od15, .func (PySem.W.fnOf "law" "law" (defArgs s_law) (defBody s_law) (defScope s_law) .none kV15 dc15 pm15 an15 cd15 ct15), sl15⟩)
    (c15 : PySem.W.codeIn K cd15 "law" = true)
    (k15 : PySem.W.keepIn K (.ref f15) = true)
    (aC : PySem.W.nsIn K mainGlobals "Graph" = some (some (.ref C)))
    (a16 : PySem.W.findIn K (.ref C) "__init__" = some (some (.ref f16)))
    (i16 : PySem.W.isFn K (.ref f16) = true)
    (l16 : K.lookup f16 = some ⟨oc16, od16, .func (PySem.W.fnOf "__init__" "Graph.__init__" (defArgs s_Graph_init) (defBody s_Graph_init) (defScope s_Graph_init) .none kV16 dc16 pm16 an16 cd16 ct16), sl16⟩)
    (c16 : PySem.W.codeIn K cd16 "Graph.__init__" = true)
    (k16 : PySem.W.keepIn K (.ref f16) = true)
    (a17 : PySem.W.findIn K (.ref C) "check" = some (some (.ref f17)))
    (i17 : PySem.W.isFn K (.ref f17) = true)
    (l17 : K.lookup f17 = some ⟨oc17, od17, .func (PySem.W.fnOf "check" "Graph.check" (defArgs s_Graph_check) (defBody s_Graph_check) (defScope s_Graph_check) .none kV17 dc17 pm17 an17 cd17 ct17), sl17⟩)
    (c17 : PySem.W.codeIn K cd17 "Graph.check" = true)
    (k17 : PySem.W.keepIn K (.ref f17) = true)
    (a18 : PySem.W.findIn K (.ref C) "had" = some (some (.ref f18)))
    (i18 : PySem.W.isFn K (.ref f18) = true)
    (l18 : K.lookup f18 = some ⟨oc18, od18, .func (PySem.W.fnOf "had" "Graph.had" (defArgs s_Graph_had) (defBody s_Graph_had) (defScope s_Graph_had) .none kV18 dc18 pm18 an18 cd18 ct18), sl18⟩)
    (c18 : PySem.W.codeIn K cd18 "Graph.had" = true)
    (k18 : PySem.W.keepIn K (.ref f18) = true)
    (a19 : PySem.W.findIn K (.ref C) "parents" = some (some (.ref f19)))
    (i19 : PySem.W.isFn K (.ref f19) = true)
    (l19 : K.lookup f19 = some ⟨oc19, od19, .func (PySem.W.fnOf "parents" "Graph.parents" (defArgs s_Graph_parents) (defBody s_Graph_parents) (defScope s_Graph_parents) .none kV19 dc19 pm19 an19 cd19 ct19), sl19⟩)
    (c19 : PySem.W.codeIn K cd19 "Graph.parents" = true)
    (k19 : PySem.W.keepIn K (.ref f19) = true)
    (pgC : PySem.W.plainGet K C Str.empty = true)
    (icC : PySem.W.isClsIn K C = true)
    (poC : PySem.W.plainOver K C = true)
    (saC : PySem.W.findIn K (.ref C) "__setattr__" = some (some (.builtin "object.__setattr__")))
    (mkC : PySem.W.makesIn K C = true)
    (kcC : PySem.W.keepIn K (.ref C) = true)
    (sxC0 : PySem.W.findIn K (.ref C) "own_dates" = some (some (.ref pC0)))
    (sgC0 : PySem.W.specialIn K (.ref pC0) "__get__" = some (some (.builtin "member_descriptor.__get__")))
    (stC0 : PySem.W.takesIn K (.ref pC0) = some true)
    (syC0 : PySem.W.typeIn K (.ref pC0) = some (.type "member_descriptor"))
    (siC0 : PySem.W.slotIn K pC0 C = some 0)
    (sxC1 : PySem.W.findIn K (.ref C) "own_parents" = some (some (.ref pC1)))
    (sgC1 : PySem.W.specialIn K (.ref pC1) "__get__" = some (some (.builtin "member_descriptor.__get__")))
    (stC1 : PySem.W.takesIn K (.ref pC1) = some true)
    (syC1 : PySem.W.typeIn K (.ref pC1) = some (.type "member_descriptor"))
    (siC1 : PySem.W.slotIn K pC1 C = some 1)
    (sxC2 : PySem.W.findIn K (.ref C) "own_ways" = some (some (.ref pC2)))
    (sgC2 : PySem.W.specialIn K (.ref pC2) "__get__" = some (some (.builtin "member_descriptor.__get__")))
    (stC2 : PySem.W.takesIn K (.ref pC2) = some true)
    (syC2 : PySem.W.typeIn K (.ref pC2) = some (.type "member_descriptor"))
    (siC2 : PySem.W.slotIn K pC2 C = some 2)
    (z_len : PySem.W.nsIn K mainGlobals "len" = some none)
    (z_abs : PySem.W.nsIn K mainGlobals "abs" = some none)
    (z_int : PySem.W.nsIn K mainGlobals "int" = some none)
    (z_tuple : PySem.W.nsIn K mainGlobals "tuple" = some none)
    (z_list : PySem.W.nsIn K mainGlobals "list" = some none)
    (z_sorted : PySem.W.nsIn K mainGlobals "sorted" = some none)
    (z_all : PySem.W.nsIn K mainGlobals "all" = some none)
    (z_any : PySem.W.nsIn K mainGlobals "any" = some none)
    (z_sum : PySem.W.nsIn K mainGlobals "sum" = some none)
    (z_max : PySem.W.nsIn K mainGlobals "max" = some none)
    (z_min : PySem.W.nsIn K mainGlobals "min" = some none)
    (z_set : PySem.W.nsIn K mainGlobals "set" = some none)
    (z_range : PySem.W.nsIn K mainGlobals "range" = some none)
    (z_isinstance : PySem.W.nsIn K mainGlobals "isinstance" = some none)
    (z_bool : PySem.W.nsIn K mainGlobals "bool" = some none)
    (z_str : PySem.W.nsIn K mainGlobals "str" = some none)
    (z_dict : PySem.W.nsIn K mainGlobals "dict" = some none)
    (z_enumerate : PySem.W.nsIn K mainGlobals "enumerate" = some none)
    (z_zip : PySem.W.nsIn K mainGlobals "zip" = some none)
    (z_iter : PySem.W.nsIn K mainGlobals "iter" = some none)
    (z_repr : PySem.W.nsIn K mainGlobals "repr" = some none)
    : ∃ fd : FuncData, (∀ (s : Shared) (v : Value), BindsTo s fd ⟨[v], []⟩ [("_law_script", v)]) ∧ ∀ base : Heap, K.In base → base.Ns mainGlobals mg → FnOk l.prog w K mg base CX0 9 fa fd ["_law_script"] (spZ K Rlaw) := by
  have e := hfa.symm.trans (PySem.W.mg_of X G a15)
  cases e
  have B : Bi mg := by
    intro x hx
    simp only [biL, List.mem_cons, List.not_mem_nil, or_false] at hx
    rcases hx with rfl | rfl | rfl | rfl | rfl | rfl | rfl | rfl | rfl | rfl | rfl | rfl | rfl | rfl | rfl | rfl | rfl | rfl | rfl | rfl | rfl
    · exact PySem.W.mg_none_of X G z_len
    · exact PySem.W.mg_none_of X G z_abs
    · exact PySem.W.mg_none_of X G z_int
    · exact PySem.W.mg_none_of X G z_tuple
    · exact PySem.W.mg_none_of X G z_list
    · exact PySem.W.mg_none_of X G z_sorted
    · exact PySem.W.mg_none_of X G z_all
    · exact PySem.W.mg_none_of X G z_any
    · exact PySem.W.mg_none_of X G z_sum
    · exact PySem.W.mg_none_of X G z_max
    · exact PySem.W.mg_none_of X G z_min
    · exact PySem.W.mg_none_of X G z_set
    · exact PySem.W.mg_none_of X G z_range
    · exact PySem.W.mg_none_of X G z_isinstance
    · exact PySem.W.mg_none_of X G z_bool
    · exact PySem.W.mg_none_of X G z_str
    · exact PySem.W.mg_none_of X G z_dict
    · exact PySem.W.mg_none_of X G z_enumerate
    · exact PySem.W.mg_none_of X G z_zip
    · exact PySem.W.mg_none_of X G z_iter
    · exact PySem.W.mg_none_of X G z_repr
  have F1 := fun_mk (st := s__law_cells) l1 c1 k1
  have F2 := fun_mk (st := s__law_box) l2 c2 k2
  have F3 := fun_mk (st := s__law_take) l3 c3 k3
  have F4 := fun_mk (st := s__law_of) l4 c4 k4
  have F5 := fun_mk (st := s__law_graph) l5 c5 k5
  have F6 := fun_mk (st := s__law_lists) l6 c6 k6
  have F7 := fun_mk (st := s__law_same) l7 c7 k7
  have F8 := fun_mk (st := s__law_had) l8 c8 k8
  have F9 := fun_mk (st := s__law_common) l9 c9 k9
  have F10 := fun_mk (st := s__law_nearest) l10 c10 k10
  have F11 := fun_mk (st := s_tupled) l11 c11 k11
  have F16 := fun_mk (st := s_Graph_init) l16 c16 k16
  have F17 := fun_mk (st := s_Graph_check) l17 c17 k17
  have F12 := fun_mk (st := s_graph_at) l12 c12 k12
  have F18 := fun_mk (st := s_Graph_had) l18 c18 k18
  have F19 := fun_mk (st := s_Graph_parents) l19 c19 k19
  have F13 := fun_mk (st := s_nearest) l13 c13 k13
  have F14 := fun_mk (st := s__law_right) l14 c14 k14
  have F15 := fun_mk (st := s_law) l15 c15 k15
  refine ⟨PySem.W.fnOf "law" "law" (defArgs s_law) (defBody s_law) (defScope s_law) .none kV15 dc15 pm15 an15 cd15 ct15, fun s v => .of_eq rfl, fun base _ _ => ?_⟩
  have TG : TGraph K C pC0 pC1 pC2 := ⟨⟨pgC, icC, poC, saC⟩, ⟨sxC0, sgC0, stC0, syC0, siC0, by decide⟩, ⟨sxC1, sgC1, stC1, syC1, siC1, by decide⟩, ⟨sxC2, sgC2, stC2, syC2, siC2, by decide⟩⟩
  have b1 := F1.binds (ps := ["_law_script", "_law_most"]) fun _ _ _ _ _ _ us hl => match us, hl with | [_, _], _ => rfl
  have b2 := F2.binds (ps := ["_law_script", "_law_k"]) fun _ _ _ _ _ _ us hl => match us, hl with | [_, _], _ => rfl
  have b3 := F3.binds (ps := ["_law_box_here", "_law_below_so"]) fun _ _ _ _ _ _ us hl => match us, hl with | [_, _], _ => rfl
  have b4 := F4.binds (ps := ["_law_box_here", "_law_some"]) fun _ _ _ _ _ _ us hl => match us, hl with | [_, _], _ => rfl
  have b5 := F5.binds (ps := ["_law_box_here", "_law_many_so"]) fun _ _ _ _ _ _ us hl => match us, hl with | [_, _], _ => rfl
  have b6 := F6.binds (ps := ["_law_matter"]) fun _ _ _ _ _ _ us hl => match us, hl with | [_], _ => rfl
  have b7 := F7.binds (ps := ["_law_got", "_law_due"]) fun _ _ _ _ _ _ us hl => match us, hl with | [_, _], _ => rfl
  have b8 := F8.binds (ps := ["_law_graph_so", "_law_some"]) fun _ _ _ _ _ _ us hl => match us, hl with | [_, _], _ => rfl
  have b9 := F9.binds (ps := ["_law_graph_so", "_law_one_so", "_law_other_so"]) fun _ _ _ _ _ _ us hl => match us, hl with | [_, _, _], _ => rfl
  have b10 := F10.binds (ps := ["_law_graph_so", "_law_one_so", "_law_other_so"]) fun _ _ _ _ _ _ us hl => match us, hl with | [_, _, _], _ => rfl
  have b11 := F11.binds (ps := ["thing"]) fun _ _ _ _ _ _ us hl => match us, hl with | [_], _ => rfl
  have b16 := F16.binds (ps := ["self", "graph"]) fun _ _ _ _ _ _ us hl => match us, hl with | [_, _], _ => rfl
  have b17 := F17.binds (ps := ["self", "commits"]) fun _ _ _ _ _ _ us hl => match us, hl with | [_, _], _ => rfl
  have b18 := F18.binds (ps := ["self", "commits"]) fun _ _ _ _ _ _ us hl => match us, hl with | [_, _], _ => rfl
  have b19 := F19.binds (ps := ["self", "commit"]) fun _ _ _ _ _ _ us hl => match us, hl with | [_, _], _ => rfl
  have b13 := F13.binds (ps := ["graph", "one", "other"]) fun _ _ _ _ _ _ us hl => match us, hl with | [_, _, _], _ => rfl
  have b14 := F14.binds (ps := ["_law_box_here"]) fun _ _ _ _ _ _ us hl => match us, hl with | [_], _ => rfl
  have O__law_cells : FnOk l.prog w K mg base CX0 2 f1 _ ["_law_script", "_law_most"] (spZ K Rcells) := fnZ (k := 1) F1 sc__law_cells (t__law_cells B) (fun ds z ⟨_, _, h, _⟩ => by subst h; rfl) (h__law_cells)
  have T__law_cells : Def (gOf l.prog w K mg base 0) "_law_cells" 2 (spZ K Rcells) := ⟨⟨f1, PySem.W.mg_of X G a1, k1, fnr_of O__law_cells b1⟩⟩
  have O__law_box : FnOk l.prog w K mg base CX0 2 f2 _ ["_law_script", "_law_k"] (spZ K Rbox) := fnZ (k := 1) F2 sc__law_box (t__law_box B) (fun ds z ⟨_, _, h, _⟩ => by subst h; rfl) (h__law_box)
  have T__law_box : Def (gOf l.prog w K mg base 0) "_law_box" 2 (spZ K Rbox) := ⟨⟨f2, PySem.W.mg_of X G a2, k2, fnr_of O__law_box b2⟩⟩
  have O__law_take : FnOk l.prog w K mg base CX0 2 f3 _ ["_law_box_here", "_law_below_so"] (spO K preTake postTake) := fnO (k := 1) F3 sc__law_take (t__law_take B) (fun c0 ds ⟨_, _, _, h, _⟩ => by subst h; rfl) (h__law_take)
  have T__law_take : Def (gOf l.prog w K mg base 0) "_law_take" 2 (spO K preTake postTake) := ⟨⟨f3, PySem.W.mg_of X G a3, k3, fnr_of O__law_take b3⟩⟩
  have O__law_of : FnOk l.prog w K mg base CX0 3 f4 _ ["_law_box_here", "_law_some"] (spO K preOf postOf) := fnO (k := 2) F4 sc__law_of (t__law_of B) (fun c0 ds ⟨_, _, _, _, h, _⟩ => by subst h; rfl) (h__law_of T__law_take.up (Nat.le_of_ble_eq_true rfl))
  have T__law_of : Def (gOf l.prog w K mg base 0) "_law_of" 3 (spO K preOf postOf) := ⟨⟨f4, PySem.W.mg_of X G a4, k4, fnr_of O__law_of b4⟩⟩
  have O__law_graph : FnOk l.prog w K mg base CX0 4 f5 _ ["_law_box_here", "_law_many_so"] (spO K preNet postNet) := fnO (k := 3) F5 sc__law_graph (t__law_graph B) (fun c0 ds ⟨_, _, _, h, _⟩ => by subst h; rfl) (h__law_graph T__law_take.up T__law_of.up (Nat.le_of_ble_eq_true rfl) (Nat.le_of_ble_eq_true rfl))
  have T__law_graph : Def (gOf l.prog w K mg base 0) "_law_graph" 4 (spO K preNet postNet) := ⟨⟨f5, PySem.W.mg_of X G a5, k5, fnr_of O__law_graph b5⟩⟩
  have O__law_had : FnOk l.prog w K mg base CX0 2 f8 _ ["_law_graph_so", "_law_some"] (spZ K Rlaw_had) := fnZ (k := 1) F8 sc__law_had (t__law_had B) (fun ds z ⟨_, _, h, _⟩ => by subst h; rfl) (h__law_had)
  have T__law_had : Def (gOf l.prog w K mg base 0) "_law_had" 2 (spZ K Rlaw_had) := ⟨⟨f8, PySem.W.mg_of X G a8, k8, fnr_of O__law_had b8⟩⟩
  have O__law_common : FnOk l.prog w K mg base CX0 3 f9 _ ["_law_graph_so", "_law_one_so", "_law_other_so"] (spZ K Rlaw_common) := fnZ (k := 2) F9 sc__law_common (t__law_common B) (fun ds z ⟨_, _, _, h, _⟩ => by subst h; rfl) (h__law_common T__law_had.up (Nat.le_of_ble_eq_true rfl))
  have T__law_common : Def (gOf l.prog w K mg base 0) "_law_common" 3 (spZ K Rlaw_common) := ⟨⟨f9, PySem.W.mg_of X G a9, k9, fnr_of O__law_common b9⟩⟩
  have O__law_nearest : FnOk l.prog w K mg base CX0 4 f10 _ ["_law_graph_so", "_law_one_so", "_law_other_so"] (spZ K Rlaw_nearest) := fnZ (k := 3) F10 sc__law_nearest (t__law_nearest B) (fun ds z ⟨_, _, _, h, _⟩ => by subst h; rfl) (h__law_nearest T__law_had.up T__law_common.up (Nat.le_of_ble_eq_true rfl) (Nat.le_of_ble_eq_true rfl))
  have T__law_nearest : Def (gOf l.prog w K mg base 0) "_law_nearest" 4 (spZ K Rlaw_nearest) := ⟨⟨f10, PySem.W.mg_of X G a10, k10, fnr_of O__law_nearest b10⟩⟩
  have T_tupled_1 : Def (gOf l.prog w K mg base 0) "tupled" 3 (spZ K (Rtupled 1)) := ⟨⟨f11, PySem.W.mg_of X G a11, k11, fnr_of (ok_tupled F11 b11 (PySem.W.mg_of X G a11) B 1) b11⟩⟩
  have O_Graph_init : FnOk l.prog w K mg base CX0 4 f16 _ ["self", "graph"] (spI K C RinitG) := fnI (k := 3) F16 sc_Graph_init (t_Graph_init B) (fun ds fs ⟨_, _, h, _⟩ => by subst h; rfl) (h_Graph_init TG T_tupled_1.up (Nat.le_of_ble_eq_true rfl))
  have T_Graph_init : DefI (gOf l.prog w K mg base 0) "Graph" C 4 (spI K C RinitG) := ⟨⟨f16, PySem.W.mg_of X G aC, ⟨mkC, a16, i16, kcC⟩, fnr_of O_Graph_init b16⟩⟩
  have O_Graph_check : FnOk l.prog w K mg base CX0 2 f17 _ ["self", "commits"] (spZ K (Rcheck C)) := fnZ (k := 1) F17 sc_Graph_check (t_Graph_check B) (fun ds z ⟨_, _, _, h, _⟩ => by subst h; rfl) (h_Graph_check TG)
  have T_Graph_check : DefM (gOf l.prog w K mg base 0) C "check" 2 (spZ K (Rcheck C)) := ⟨TG.cl, f17, ⟨a17, i17, k17⟩, fnr_of O_Graph_check b17⟩
  have O_graph_at := fnS (P := l.prog) (w := w) (K := K) (mg := mg) (base := base) (R := (Rgraph_at C)) (k := 5) (ps := ["graph"]) (pv := "groups") F12 sc_graph_at (t_graph_at B) (fun ds z ⟨_, _, _, h, _, _, hz, _⟩ => by subst h; simp; omega) (fun kV doc pm an cdv ct us rest hl => StX.bind_star1 (B := fun us => bindArgs (PySem.W.fnOf "graph_at" "graph_at" (defArgs s_graph_at) (defBody s_graph_at) (defScope s_graph_at) .none kV doc pm an cdv ct) ⟨us, []⟩) (fun a => rfl) (fun a r rs => rfl) us rest hl) (h_graph_at T_Graph_init.up T_Graph_check.up (Nat.le_of_ble_eq_true rfl) (Nat.le_of_ble_eq_true rfl))
  have T_graph_at : Def (gOf l.prog w K mg base 0) "graph_at" 6 (spZ K (Rgraph_at C)) := ⟨⟨f12, PySem.W.mg_of X G a12, k12, O_graph_at⟩⟩
  have O_Graph_had : FnOk l.prog w K mg base CX0 2 f18 _ ["self", "commits"] (spZ K (Rhad C)) := fnZ (k := 1) F18 sc_Graph_had (t_Graph_had B) (fun ds z ⟨_, _, _, h, _⟩ => by subst h; rfl) (h_Graph_had TG)
  have T_Graph_had : DefM (gOf l.prog w K mg base 0) C "had" 2 (spZ K (Rhad C)) := ⟨TG.cl, f18, ⟨a18, i18, k18⟩, fnr_of O_Graph_had b18⟩
  have O_Graph_parents : FnOk l.prog w K mg base CX0 2 f19 _ ["self", "commit"] (spZ K (Rparents C)) := fnZ (k := 1) F19 sc_Graph_parents (t_Graph_parents B) (fun ds z ⟨_, _, h, _⟩ => by subst h; rfl) (h_Graph_parents TG)
  have T_Graph_parents : DefM (gOf l.prog w K mg base 0) C "parents" 2 (spZ K (Rparents C)) := ⟨TG.cl, f19, ⟨a19, i19, k19⟩, fnr_of O_Graph_parents b19⟩
  have O_nearest : FnOk l.prog w K mg base CX0 7 f13 _ ["graph", "one", "other"] (spZ K Rnearest) := fnZ (k := 6) F13 sc_nearest (t_nearest B) (fun ds z ⟨_, _, _, _, h, _⟩ => by subst h; rfl) (h_nearest T_graph_at.up T_Graph_had.up T_Graph_parents.up (Nat.le_of_ble_eq_true rfl) (Nat.le_of_ble_eq_true rfl) (Nat.le_of_ble_eq_true rfl))
  have T_nearest : Def (gOf l.prog w K mg base 0) "nearest" 7 (spZ K Rnearest) := ⟨⟨f13, PySem.W.mg_of X G a13, k13, fnr_of O_nearest b13⟩⟩
  have T__law_lists_3 : Def (gOf l.prog w K mg base 0) "_law_lists" 5 (spZ K (Rlists 3)) := ⟨⟨f6, PySem.W.mg_of X G a6, k6, fnr_of (ok__law_lists F6 b6 (PySem.W.mg_of X G a6) B 3) b6⟩⟩
  have T__law_same_3 : Def (gOf l.prog w K mg base 0) "_law_same" 5 (spZ K (Rsame 3)) := ⟨⟨f7, PySem.W.mg_of X G a7, k7, fnr_of (ok__law_same F7 b7 (PySem.W.mg_of X G a7) B 3) b7⟩⟩
  have K_nearest_17 : DefK (gOf l.prog w K mg base 0) "nearest" 7 ["other", "one", "graph"] [2, 1, 0] (spZ K Rnearest) := ⟨⟨f13, _, _, PySem.W.mg_of X G a13, k13, O_nearest, kb_of (ps := ["graph", "one", "other"]) F13 (by decide) fun _ _ _ _ _ _ ws hl => match ws, hl with | [_, _, _], _ => rfl⟩⟩
  have O__law_right : FnOk l.prog w K mg base CX0 8 f14 _ ["_law_box_here"] (spO K preRight postRight) := fnO (k := 7) F14 sc__law_right (t__law_right B) (fun c0 ds ⟨_, _, h, _⟩ => by subst h; rfl) (h__law_right T__law_take.up T__law_graph.up T__law_lists_3.up T__law_same_3.up T__law_nearest.up T_nearest.up K_nearest_17.up (Nat.le_of_ble_eq_true rfl) (Nat.le_of_ble_eq_true rfl) (Nat.le_of_ble_eq_true rfl) (Nat.le_of_ble_eq_true rfl) (Nat.le_of_ble_eq_true rfl) (Nat.le_of_ble_eq_true rfl) (Nat.le_of_ble_eq_true rfl))
  have T__law_right : Def (gOf l.prog w K mg base 0) "_law_right" 8 (spO K preRight postRight) := ⟨⟨f14, PySem.W.mg_of X G a14, k14, fnr_of O__law_right b14⟩⟩
  exact fnZ (k := 8) F15 sc_law (t_law B) (fun ds z ⟨_, h, _⟩ => by subst h; rfl) (h_law T__law_cells.up T__law_box.up T__law_right.up (Nat.le_of_ble_eq_true rfl) (Nat.le_of_ble_eq_true rfl) (Nat.le_of_ble_eq_true rfl))
theorem walk {l : PySem.W.OpenLaw} {q : Program} {loose : List Str} {XP : (Str → Option Value) → Heap → Prop} {YP : World → Heap → Prop} {d : DefRec} {K : Params → PySem.W.Frag} (hn : l.most = some 63) (hdf : d.params.defaults = [])
    (hY : ∀ (w : World) (h : Heap), YP w h → (K w.params).In h)
    (F : ∀ (w : World) (mg : Str → Option Value) (fa : Addr) (h : Heap), (K w.params).In h → h.Ns mainGlobals mg → mg d.name = some (.ref fa) →
      ∃ fd : FuncData, (∀ (s : Shared) (u : Value), BindsTo s fd ⟨[u], []⟩ [("_law_script", u)]) ∧ ∀ base : Heap, (K w.params).In base → base.Ns mainGlobals mg → FnOk l.prog w (K w.params) mg base CX0 9 fa fd ["_law_script"] (spZ (K w.params) Rlaw)) :
    PySem.W.WalkO q loose XP YP l.row.toRowW d [] (fun f vs => PySem.call f vs) :=
  L2.walk_of (n := 63) (k := 9) (x := "_law_script") (CX := fun _ => CX0) (sp := fun w => spZ (K w.params) Rlaw) hn (by decide) hdf ⟨rfl, by decide, by decide⟩ hY F (fun _ _ a ns hl _ hS => ⟨[.scr ns], .s (.val (.bl true)), ⟨.ref a, [], rfl, ⟨a, rfl, hS⟩, rfl⟩, ⟨ns, rfl, rfl⟩, fun v H' _ h => h⟩) fun _ _ _ _ _ z => z
end Dl
open PySem PySem.W PyProof.Rows
set_option maxRecDepth 100000 in
set_option maxHeartbeats 0 in
theorem PySem.Challenge.cw_latedates_k20_the_nearest_ones_holds : PySem.Challenge.rw_latedates_k20_the_nearest_ones.Holds := by
  w_on; o_law; k_head; (case hw => w_witness2)
  k_fill
  refine Dl.walk (l := PySem.Challenge.rw_latedates_k20_the_nearest_ones) rfl rfl (fun w h Y => PySem.W.kIn_of Y) ?F
  case F =>
    intro w mg fa h KX G hmg
    refine' Dl.all_mk KX G hmg ?a1 ?l1 ?c1 ?k1 ?a2 ?l2 ?c2 ?k2 ?a3 ?l3 ?c3 ?k3 ?a4 ?l4 ?c4 ?k4 ?a5 ?l5 ?c5 ?k5 ?a6 ?l6 ?c6 ?k6 ?a7 ?l7 ?c7 ?k7 ?a8 ?l8 ?c8 ?k8 ?a9 ?l9 ?c9 ?k9 ?a10 ?l10 ?c10 ?k10 ?a11 ?l11 ?c11 ?k11 ?a12 ?l12 ?c12 ?k12 ?a13 ?l13 ?c13 ?k13 ?a14 ?l14 ?c14 ?k14 ?a15 ?l15 ?c15 ?k15 ?aC ?a16 ?i16 ?l16 ?c16 ?k16 ?a17 ?i17 ?l17 ?c17 ?k17 ?a18 ?i18 ?l18 ?c18 ?k18 ?a19 ?i19 ?l19 ?c19 ?k19 ?pgC ?icC ?poC ?saC ?mkC ?kcC ?sxC0 ?sgC0 ?stC0 ?syC0 ?siC0 ?sxC1 ?sgC1 ?stC1 ?syC1 ?siC1 ?sxC2 ?sgC2 ?stC2 ?syC2 ?siC2 ?z_len ?z_abs ?z_int ?z_tuple ?z_list ?z_sorted ?z_all ?z_any ?z_sum ?z_max ?z_min ?z_set ?z_range ?z_isinstance ?z_bool ?z_str ?z_dict ?z_enumerate ?z_zip ?z_iter ?z_repr
    (case a1 => k_is); (case l1 => k_is); (case c1 => k_is); (case k1 => k_is); (case a2 => k_is); (case l2 => k_is); (case c2 => k_is); (case k2 => k_is); (case a3 => k_is)
    (case l3 => k_is); (case c3 => k_is); (case k3 => k_is); (case a4 => k_is); (case l4 => k_is); (case c4 => k_is); (case k4 => k_is); (case a5 => k_is); (case l5 => k_is)
    (case c5 => k_is); (case k5 => k_is); (case a6 => k_is); (case l6 => k_is); (case c6 => k_is); (case k6 => k_is); (case a7 => k_is); (case l7 => k_is); (case c7 => k_is)
    (case k7 => k_is); (case a8 => k_is); (case l8 => k_is); (case c8 => k_is); (case k8 => k_is); (case a9 => k_is); (case l9 => k_is); (case c9 => k_is); (case k9 => k_is)
    (case a10 => k_is); (case l10 => k_is); (case c10 => k_is); (case k10 => k_is); (case a11 => k_is); (case l11 => k_is); (case c11 => k_is); (case k11 => k_is)
    (case a12 => k_is); (case l12 => k_is); (case c12 => k_is); (case k12 => k_is); (case a13 => k_is); (case l13 => k_is); (case c13 => k_is); (case k13 => k_is)
    (case a14 => k_is); (case l14 => k_is); (case c14 => k_is); (case k14 => k_is); (case a15 => k_is); (case l15 => k_is); (case c15 => k_is); (case k15 => k_is)
    (case aC => k_is); (case a16 => k_is); (case i16 => k_is); (case l16 => k_is); (case c16 => k_is); (case k16 => k_is); (case a17 => k_is); (case i17 => k_is)
    (case l17 => k_is); (case c17 => k_is); (case k17 => k_is); (case a18 => k_is); (case i18 => k_is); (case l18 => k_is); (case c18 => k_is); (case k18 => k_is)
    (case a19 => k_is); (case i19 => k_is); (case l19 => k_is); (case c19 => k_is); (case k19 => k_is); (case pgC => k_is); (case icC => k_is); (case poC => k_is)
    (case saC => k_is); (case mkC => k_is); (case kcC => k_is); (case sxC0 => k_is); (case sgC0 => k_is); (case stC0 => k_is); (case syC0 => k_is); (case siC0 => k_is)
    (case sxC1 => k_is); (case sgC1 => k_is); (case stC1 => k_is); (case syC1 => k_is); (case siC1 => k_is); (case sxC2 => k_is); (case sgC2 => k_is); (case stC2 => k_is)
    (case syC2 => k_is); (case siC2 => k_is); (case z_len => k_is); (case z_abs => k_is); (case z_int => k_is); (case z_tuple => k_is); (case z_list => k_is); (case z_sorted => k_is)
    (case z_all => k_is); (case z_any => k_is); (case z_sum => k_is); (case z_max => k_is); (case z_min => k_is); (case z_set => k_is); (case z_range => k_is); (case z_isinstance => k_is)
    (case z_bool => k_is); (case z_str => k_is); (case z_dict => k_is); (case z_enumerate => k_is); (case z_zip => k_is); (case z_iter => k_is); (case z_repr => k_is)

