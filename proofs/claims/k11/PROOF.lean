import PyProof.Rows.All
import Wide.All
import OpenK.AllK
import Wide.FinOn
import HandS.ForMost
import HandS.SetFor
import HandS.Walk
import HandS.Slots
import HandS.IsInst
import HandS.Conv
import HandS.SortInts
import HandS.Flow
import HandS.Star
import HandS.Style
import HandS.TupAny
import HandS.TupLe
import HandS.Deep
import HandS.SlotsOwn
import HandS.Strs
import HandS.Zip
import HandS.DictComp
import PySem.Challenge.RW_latedates_k11_what_commits_have
set_option Elab.async false
set_option linter.all false
set_option maxRecDepth 100000
/-! XS: set(xs) of a list of ints, sorted(set(xs)) -/
namespace Dl
open PySem L2 PySem.Spec PyProof.Rows
section
variable {P : Program} {w : World} {A : Around} {E : Value → Shared → Prop} {s : Shared}
/-- the empty set as it is made -/
abbrev emptySetO (w : World) : Obj := { cls := .type "set", dict := none, data := .set #[] 0 (.fresh 0 0 (!w.params.followText "set-order")) }
set_option maxHeartbeats 3200000 in
theorem call_set_lstI {l : Addr} {its : Array Value} (ns : List Int) {Q : Value → Shared → Prop}
    (hh : A.handled = none) (gl : s.heap.IsList l its) (gi : IntsAre its.toList ns) (gb : ns.length + 1 < scanBound)
    (fin : ∀ (hp : Heap) (tk c : Nat), SetR w hp s.heap.objs.size (fun j => decide (j ∈ ns)) c → c ≤ ns.length →
      (∀ b o, s.heap.get? b = some o → hp.get? b = some o) → Q (.ref s.heap.objs.size) { s with heap := hp, toks := tk }) :
    wpAny (model P w) A (call (.type "set") [.ref l]) Q E s := by
  have gz : its.size = ns.length := by
    have q := IntsAre.length gi
    rw [Array.length_toList] at q
    exact q
  obtain ⟨cq, tq, gmro⟩ := F.called_set.mro
  have gmade := F.called_set.made
  have gsub := F.called_set.sub
  refine wpAny_call (codeAny_of_tree ?_)
  show wpAny _ _ (callAny (.type "set") _) _ _ _
  refine wpAny_pure ⟨Code.quiet_builtin _ (by decide +kernel), codeAny_builtin (id F.entry_type_call) ?_⟩
  rw [Around.under_plain (weight_type_call_type "set" [Value.ref l] []) rfl]
  have g1 := F.called_set.notType
  have g2 := F.called_set.canCreate
  have gct := F.typeCall_set_1 (.ref l)
  repeat (any_goals (first | assumption | wp_step))
  let hp1 : Heap := s.heap.push (emptySetO w)
  refine codeAny_mono (code_set_led1 (.ref l) (E := E) (Q₁ := fun ob s₁ => ob = .ref s.heap.objs.size ∧ s₁ = { s with heap := s.heap.push (emptySetO w) }) ⟨rfl, rfl⟩) fun r s₁ hr => ?_
  cases r with
  | error e => exact hr
  | ok fl =>
    cases fl with
    | ret ob =>
      obtain ⟨rfl, rfl⟩ := hr
      have gS : (s.heap.push (emptySetO w)).get? s.heap.objs.size = some (emptySetO w) := Heap.get?_push_size _ rfl
      have gT : Shared.TypeIs { s with heap := s.heap.push (emptySetO w) } (.ref s.heap.objs.size) "set" := ⟨_, gS, rfl⟩
      have gli := F.called_set.init.lookup
      have gbi := F.called_set.init.bind (.ref s.heap.objs.size)
      repeat (any_goals (first | assumption | wp_step))
      refine codeAny_mono (codeAny_call_builtin (R := wants (fun r s₂ => r = .none ∧ ∃ hp tk c, s₂ = { s with heap := hp, toks := tk } ∧ SetR w hp s.heap.objs.size (fun j => decide (j ∈ ns)) c ∧ c ≤ ns.length ∧
        (∀ b o, s.heap.get? b = some o → hp.get? b = some o)) E) F.called_set.init.plain F.entry_set_init (check_set_init_1 gT ?_)) fun r₂ s₂ hr₂ => ?_
      · obtain ⟨ol, gol, gcl, nl, gdl⟩ := gl
        obtain ⟨ocls, odict, odata, oslots⟩ := ol
        simp only at gcl gdl
        subst gcl; subst gdl
        have gol' : (s.heap.push (emptySetO w)).get? l = some { cls := .type "list", dict := odict, data := .seq its nl, slots := oslots } := Heap.get?_push_of_some _ gol
        have gsls := F.sub_list_set
        have gslf := F.sub_list_frozenset
        have gne : (Value.type "list" == Value.type "dict") = false := by decide
        have gl1 : (s.heap.push (emptySetO w)).IsList l its := ⟨_, gol', rfl, nl, rfl⟩
        unfold Builtin.«set.__init__» noKeywords Builtin.Frozenset.updateFrom
        generalize gPI : pyIter = PI
        wp_walk
        subst gPI
        refine wpAny_pyIter_list gl1 ?_
        refine wpAny_bind (wpAny_runValue ?_)
        have lS : l < s.heap.objs.size := Heap.lt_size gol
        have hh3 : A.in1.in1.in1.handled = none := by simp [hh]
        have zz : (s.heap.push (emptySetO w)).objs.size = s.heap.objs.size + 1 := Heap.size_push ..
        have neI : l ≠ (s.heap.push (emptySetO w)).objs.size := by
          rw [zz]; exact Nat.ne_of_lt (Nat.lt_succ_of_lt lS)
        have Sf : s.heap.objs.size ∉ [(s.heap.push (emptySetO w)).objs.size, l] := by
          rw [zz]; simp only [List.mem_cons, List.mem_singleton, List.not_mem_nil, or_false, not_or]
          exact ⟨Nat.ne_of_lt (Nat.lt_succ_self _), Nat.ne_of_gt lS⟩
        have val : ∀ (i : Nat) (v : Value), its[i]? = some v → ∃ k t, ns[i]? = some k ∧ v = .int k t := fun i v hv => by
          have hi : i < ns.length := by rw [← gz]; exact (Array.getElem?_eq_some_iff.mp hv).1
          obtain ⟨t, e⟩ := PyProof.Rows.IntsAre.int_at gi i v (by rw [Array.getElem?_toList]; exact hv)
          refine ⟨ns[i], t, List.getElem?_eq_getElem hi, ?_⟩
          rw [e, List.getD_eq_getElem?_getD, List.getElem?_eq_getElem hi]
          all_goals rfl
        refine set_update_ints ((Walks.list hh3 _ l neI its).toS) s.heap.objs.size
          Sf ns gz gb val (its.size - 0) 0 _ (by omega) (Nat.zero_le _)
          ⟨⟨_, Heap.get?_push_size _ rfl, rfl, rfl⟩, (gl1.push _)⟩ ?S0 ?R0
        case S0 => exact ⟨0, Nat.le_refl 0, setR_new_at (Heap.get?_push_of_some _ gS)⟩
        case R0 =>
          intro s' c' hm hc' hS'
          obtain ⟨hp, g3, d3, tk3, os3⟩ := s'
          have eg : g3 = s.gens := hm.gens
          have ed : d3 = s.drawn := hm.drawn
          have eo : os3 = s.os := hm.os
          subst eg; subst ed; subst eo
          show wpAny _ _ _ _ _ _
          refine wpAny_pure ?_
          show wpAny _ _ (ret Value.none) _ _ _
          rw [gz] at hc'
          refine wpAny_pure ⟨rfl, hp, tk3, c', rfl, hS', hc', fun b o e => ?_⟩
          have b0 : b < s.heap.objs.size := Heap.lt_size e
          have b1 : b ≠ s.heap.objs.size := Nat.ne_of_lt b0
          have b2 : b ≠ (s.heap.push (emptySetO w)).objs.size := by
            rw [zz]; exact Nat.ne_of_lt (Nat.lt_succ_of_lt b0)
          exact hm.heap b o (by simp only [List.mem_cons, List.mem_singleton, List.not_mem_nil, or_false, not_or]; exact ⟨b1, b2⟩)
            (Heap.get?_push_of_some _ (Heap.get?_push_of_some _ e))
      · cases r₂ with
        | error e => exact hr₂
        | ok fl₂ =>
          cases fl₂ with
          | ret r =>
            obtain ⟨rfl, hp, tk, c', rfl, hS', hc', hk'⟩ := hr₂
            repeat (any_goals (first | assumption | wp_step))
            exact fin _ _ _ hS' hc' hk'
          | _ => exact hr₂.elim
    | _ => exact hr.elim
end
end Dl
/-! X0: data D, frozen heap F, owned cells by index; the frame rule -/
namespace Dl
open PySem L2

inductive D where
  | non | bl (b : Bool) | int (i : Int) | str (x : Str)
  | lst (xs : List D) | tup (xs : List D)
  | dic (ks : List Key) (vs : List D)
  | slo (c : Nat) (vs : List D)
  | obj (c : Nat) (vs : List D)
  | scr (ns : List Int)
  deriving Inhabited

/-! ### the program's classes, by numbers -/
def clsName : Nat → Str
  | 1 => "Graph" | 2 => "Clashes" | 3 => "Crew" | 4 => "Flow" | 5 => "Walk" | 6 => "Meet" | 7 => "Desk" | _ => "?"
def clsSlots : Nat → List Str
  | 1 => ["own_dates", "own_parents", "own_ways"]
  | 2 => ["own_graph", "own_clashing", "own_lacks"]
  | 4 => ["own_graph", "own_wants", "own_nots", "own_all"]
  | 7 => ["own_graph", "own_rule", "own_walk"]
  | _ => []
def clsFlds : Nat → List Str
  | 3 => ["own_graph", "own_authors", "own_many", "own_pairs"]
  | 5 => ["own_graph", "own_slop", "own_since", "own_keys", "own_waiting", "own_seen", "own_paint", "own_taken", "own_told", "own_patience", "own_ended"]
  | 6 => ["own_graph", "own_keys", "own_colours", "own_waiting", "own_found"]
  | _ => []
/-- the i-th field of a class -/
def lkA {α : Type} : List α → Nat → Option α
  | [], _ => none
  | x :: _, 0 => some x
  | _ :: xs, i + 1 => lkA xs i
theorem lkA_eq {α : Type} : ∀ (xs : List α) (i : Nat), lkA xs i = xs[i]?
  | [], _ => rfl
  | _ :: _, 0 => rfl
  | _ :: xs, i + 1 => by rw [List.getElem?_cons_succ]; exact lkA_eq xs i
def sltAt (c i : Nat) : Option Str := lkA (clsSlots c) i
def fldAt (c i : Nat) : Option Str := lkA (clsFlds c) i
def clsAt (K : PySem.W.Frag) (c : Nat) : Addr := match PySem.W.nsIn K mainGlobals (clsName c) with
  | some (some (.ref C)) => C
  | _ => default
/-- a slotted class -/
structure SlOk (K : PySem.W.Frag) (c : Nat) : Prop where
  nf : clsFlds c = []
  cl : SlX.SCls K (clsAt K c)
  sl : ∀ f i, sltAt c i = some f → ∃ p, SlX.Slot1 K (clsAt K c) f p i
/-- a plain class -/
structure ObOk (K : PySem.W.Frag) (c : Nat) : Prop where
  ns : clsSlots c = []
  cl : Cls K (clsAt K c)
  na : ∀ f ∈ clsFlds c, NoAttr K (clsAt K c) f
/-- an instance's own dict and its fields by place -/
structure FsR (c : Nat) (kvs : List (Str × V)) (us : List (Option V)) : Prop where
  get : ∀ (i : Nat) (f : Str) (v : V), fldAt c i = some f → us[i]? = some (some v) → kvs.lookup f = some v
  mem : ∀ p ∈ kvs, p.1 ∈ clsFlds c
  nd : (kvs.map (·.1)).Nodup
/-! ### data in a heap -/
mutual
def DV (K : PySem.W.Frag) (H : Hp) : D → V → Prop
  | .non, v => v = .non
  | .bl b, v => v = .bl b
  | .int i, v => v = .int i
  | .str x, v => v = .str x
  | .lst ds, v => ∃ a vs, v = .ref a ∧ H a = some (.lst vs) ∧ DVs K H ds vs
  | .tup ds, v => ∃ a vs, v = .ref a ∧ SqT K H a vs ∧ DVs K H ds vs
  | .dic ks ds, v => ∃ a kvs, v = .ref a ∧ H a = some (.dK kvs) ∧ kvs.map (·.1) = ks ∧ DVs K H ds (kvs.map (·.2))
  | .slo C ds, v => ∃ a dx vs, v = .ref a ∧ SlX.Slt H a (clsAt K C) dx (vs.map some) ∧ DVs K H ds vs ∧ SlOk K C
  | .obj C ds, v => ∃ a dx kvs vs, v = .ref a ∧ H a = some (.ins (clsAt K C) dx kvs) ∧ DVs K H ds vs ∧ FsR C kvs (vs.map some) ∧ ObOk K C
  | .scr ns, v => ∃ a, v = .ref a ∧ SqL K H a (ns.map V.int)
def DVs (K : PySem.W.Frag) (H : Hp) : List D → List V → Prop
  | [], vs => vs = []
  | d :: ds, vs => ∃ v r, vs = v :: r ∧ DV K H d v ∧ DVs K H ds r
end
theorem same_rd {H H' : Hp} {a : Addr} {u : HO} (e : Same H H') (h : Rd H a u) : Rd H' a u := by
  rcases h with h | ⟨o, h⟩
  · exact .inl (e _ _ h)
  · exact .inr ⟨o, e _ _ h⟩
theorem same_t {K : PySem.W.Frag} {H H' : Hp} {a : Addr} {xs : List V} (e : Same H H') (h : SqT K H a xs) : SqT K H' a xs := by
  rcases h with h | h
  · exact .inl (same_rd e h)
  · exact .inr h
theorem same_slt {H H' : Hp} {a C dx : Addr} {vs : List (Option V)} (e : Same H H') (h : SlX.Slt H a C dx vs) : SlX.Slt H' a C dx vs := by
  rcases h with ⟨h, z⟩ | ⟨h, z⟩
  · exact .inl ⟨e _ _ h, z⟩
  · exact .inr ⟨e _ _ h, e _ _ z⟩
mutual
theorem DV.mono {K : PySem.W.Frag} {H H' : Hp} (e : Same H H') : ∀ {d : D} {v : V}, DV K H d v → DV K H' d v
  | .non, _, h => h
  | .bl _, _, h => h
  | .int _, _, h => h
  | .str _, _, h => h
  | .lst _, _, ⟨a, vs, h1, h2, h3⟩ => ⟨a, vs, h1, e _ _ h2, DVs.mono e h3⟩
  | .tup _, _, ⟨a, vs, h1, h2, h3⟩ => ⟨a, vs, h1, same_t e h2, DVs.mono e h3⟩
  | .dic _ _, _, ⟨a, kvs, h1, h2, h3, h4⟩ => ⟨a, kvs, h1, e _ _ h2, h3, DVs.mono e h4⟩
  | .slo _ _, _, ⟨a, dx, vs, h1, h2, h3, h4⟩ => ⟨a, dx, vs, h1, same_slt e h2, DVs.mono e h3, h4⟩
  | .obj _ _, _, ⟨a, dx, kvs, vs, h1, h2, h3, h4⟩ => ⟨a, dx, kvs, vs, h1, e _ _ h2, DVs.mono e h3, h4⟩
  | .scr _, _, ⟨a, h1, h2⟩ => ⟨a, h1, e.seq h2⟩
theorem DVs.mono {K : PySem.W.Frag} {H H' : Hp} (e : Same H H') : ∀ {ds : List D} {vs : List V}, DVs K H ds vs → DVs K H' ds vs
  | [], _, h => h
  | _ :: _, _, ⟨v, r, h1, h2, h3⟩ => ⟨v, r, h1, DV.mono e h2, DVs.mono e h3⟩
end
section
variable {K : PySem.W.Frag} {H : Hp}
theorem dvs_paired : ∀ {ds : List D} {vs : List V}, DVs K H ds vs ↔ Paired (fun d v => DV K H d v) ds vs
  | [], vs => ⟨fun h => by have h : vs = [] := h; subst h; exact .nil, fun h => by cases h; exact (rfl : ([] : List V) = [])⟩
  | d :: ds, vs => ⟨fun ⟨v, r, h1, h2, h3⟩ => by subst h1; exact .cons h2 (dvs_paired.mp h3), fun h => by
      cases h with
      | cons h2 h3 => exact ⟨_, _, rfl, h2, dvs_paired.mpr h3⟩⟩
theorem DVs.length {ds : List D} {vs : List V} (h : DVs K H ds vs) : ds.length = vs.length := Paired.length (dvs_paired.mp h)
theorem paired_get {α β : Type} {R : α → β → Prop} : ∀ {l₁ : List α} {l₂ : List β} {i : Nat} {x : α}, Paired R l₁ l₂ → l₁[i]? = some x → ∃ y, l₂[i]? = some y ∧ R x y
  | _, _, _, _, .nil, e => by simp at e
  | _, _, 0, _, .cons r _, e => by simp at e; subst e; exact ⟨_, rfl, r⟩
  | _, _, i + 1, x, .cons _ t, e => by
    obtain ⟨u, h1, h2⟩ := paired_get (i := i) (x := x) t (by simpa using e)
    exact ⟨u, by simpa using h1, h2⟩
theorem paired_get' {α β : Type} {R : α → β → Prop} : ∀ {l₁ : List α} {l₂ : List β} {i : Nat} {y : β}, Paired R l₁ l₂ → l₂[i]? = some y → ∃ x, l₁[i]? = some x ∧ R x y
  | _, _, _, _, .nil, e => by simp at e
  | _, _, 0, _, .cons r _, e => by simp at e; subst e; exact ⟨_, rfl, r⟩
  | _, _, i + 1, x, .cons _ t, e => by
    obtain ⟨u, h1, h2⟩ := paired_get' (i := i) (y := x) t (by simpa using e)
    exact ⟨u, by simpa using h1, h2⟩
theorem paired_append {α β : Type} {R : α → β → Prop} : ∀ {l₁ r₁ : List α} {l₂ r₂ : List β}, Paired R l₁ l₂ → Paired R r₁ r₂ → Paired R (l₁ ++ r₁) (l₂ ++ r₂)
  | _, _, _, _, .nil, s => s
  | _, _, _, _, .cons r t, s => .cons r (paired_append t s)
theorem paired_set {α β : Type} {R : α → β → Prop} {x : α} {y : β} (r : R x y) : ∀ {l₁ : List α} {l₂ : List β} (i : Nat), Paired R l₁ l₂ → Paired R (l₁.set i x) (l₂.set i y)
  | _, _, _, .nil => .nil
  | _, _, 0, .cons _ t => .cons r t
  | _, _, i + 1, .cons q t => .cons q (paired_set r i t)
theorem DVs.get {ds : List D} {vs : List V} {i : Nat} {d : D} (h : DVs K H ds vs) (e : ds[i]? = some d) : ∃ v, vs[i]? = some v ∧ DV K H d v := paired_get (dvs_paired.mp h) e
theorem dvs_ints : ∀ {ns : List Int} {vs : List V}, DVs K H (ns.map D.int) vs ↔ vs = ns.map V.int
  | [], vs => ⟨fun h => h, fun h => h⟩
  | n :: ns, vs => ⟨fun ⟨v, r, h1, h2, h3⟩ => by have h2 : v = .int n := h2; rw [h1, h2, dvs_ints.mp h3]; rfl, fun h => ⟨.int n, ns.map V.int, h, rfl, dvs_ints.mpr rfl⟩⟩
theorem dvs_bls : ∀ {ns : List Bool} {vs : List V}, DVs K H (ns.map D.bl) vs ↔ vs = ns.map V.bl
  | [], vs => ⟨fun h => h, fun h => h⟩
  | n :: ns, vs => ⟨fun ⟨v, r, h1, h2, h3⟩ => by have h2 : v = .bl n := h2; rw [h1, h2, dvs_bls.mp h3]; rfl, fun h => ⟨.bl n, ns.map V.bl, h, rfl, dvs_bls.mpr rfl⟩⟩
end

/-! ### slots, cells -/
/-- a slot: unknown; a value in the frozen heap; the k-th owned cell -/
inductive Sl where
  | un | val (d : D) | own (k : Nat)
  deriving Inhabited
/-- an owned object: a list, a dict of values; a list, a dict with owned things in it; an instance, whose own dict is the cell j; such a dict -/
inductive C where
  | lst (xs : List D)
  | dic (kvs : List (Key × D))
  | mls (xs : List Sl)
  | mdc (kvs : List (Key × Sl))
  | ins (Cl : Nat) (j : Nat) (vs : List Sl)
  | dxo (k : Nat)
  | sob0 (Cl : Nat) (j : Nat)
  | sob (Cl : Nat) (j : Nat) (vs : List Sl)
  | dxx
  deriving Inhabited

section
variable (K : PySem.W.Frag) (F : Hp) (As : List Addr)
def SlR : Sl → V → Prop
  | .un, _ => True
  | .val d, v => DV K F d v
  | .own k, v => ∃ a, As[k]? = some a ∧ v = .ref a
abbrev SlRs : List Sl → List V → Prop := Paired (SlR K F As)
abbrev KSl {α : Type} : List (α × Sl) → List (α × V) → Prop := Paired fun (p : α × Sl) (q : α × V) => p.1 = q.1 ∧ SlR K F As p.2 q.2
/-- the frame's slots -/
structure SR (ρ : List Sl) (σ : L2.St) : Prop where
  len : ρ.length = σ.length
  get : ∀ (i : Nat) (s : Sl), ρ[i]? = some s → s ≠ .un → ∃ v, σ[i]? = some (some v) ∧ SlR K F As s v
def CR (ad : Addr) : C → HO → Prop
  | .lst xs, o => ∃ vs, o = .lst vs ∧ DVs K F xs vs
  | .dic xs, o => ∃ kvs, o = .dK kvs ∧ Paired (fun (p : Key × D) (q : Key × V) => p.1 = q.1 ∧ DV K F p.2 q.2) xs kvs
  | .mls xs, o => ∃ vs, o = .lst vs ∧ SlRs K F As xs vs
  | .mdc xs, o => ∃ kvs, o = .dK kvs ∧ KSl K F As xs kvs
  | .ins Cl j vs, o => ∃ dx kvs us, As[j]? = some dx ∧ o = .ins (clsAt K Cl) dx kvs ∧ SR K F As vs us ∧ FsR Cl kvs us ∧ ObOk K Cl
  | .dxo k, o => ∃ a, As[k]? = some a ∧ o = .own a
  | .sob0 Cl j, o => ∃ dx, As[j]? = some dx ∧ o = .ins (clsAt K Cl) dx [] ∧ SlOk K Cl
  | .sob Cl j vs, o => ∃ dx us, As[j]? = some dx ∧ o = SlX.SlO ad (clsAt K Cl) dx us ∧ SR K F As vs us ∧ SlOk K Cl
  | .dxx, o => o = .xd []
/-- the heap H is the frozen heap F and the cells M, which stand at the addresses As -/
structure HM (M : List C) (H : Hp) : Prop where
  nd : As.Nodup
  len : As.length = M.length
  cell : ∀ (i : Nat) (a : Addr) (c : C), As[i]? = some a → M[i]? = some c → ∃ o, H a = some o ∧ CR K F As a c o
  off : ∀ a, a ∈ As → F a = none
  out : ∀ a, a ∉ As → H a = F a
end
theorem pfx_get {As Bs : List Addr} (h : As <+: Bs) {k : Nat} {a : Addr} (e : As[k]? = some a) : Bs[k]? = some a := by
  obtain ⟨t, rfl⟩ := h
  rw [List.getElem?_append_left (List.getElem?_eq_some_iff.mp e).1]
  exact e
section
variable {K : PySem.W.Frag} {F F' : Hp} {As Bs : List Addr} {M : List C} {H : Hp} {ρ : List Sl} {σ : L2.St}
theorem SR.val (h : SR K F As ρ σ) (i : Nat) (d : D) (q : ρ[i]? = some (.val d)) : ∃ v, σ[i]? = some (some v) ∧ DV K F d v := h.get i _ q (fun z => by cases z)
theorem SR.own (h : SR K F As ρ σ) (i : Nat) (k : Nat) (q : ρ[i]? = some (.own k)) : ∃ a, As[k]? = some a ∧ σ[i]? = some (some (.ref a)) := by
  obtain ⟨v, h1, a, h2, rfl⟩ := h.get i _ q (fun z => by cases z)
  exact ⟨a, h2, h1⟩
theorem SlR.mono (e : Same F F') (p : As <+: Bs) : ∀ {s : Sl} {v : V}, SlR K F As s v → SlR K F' Bs s v
  | .un, _, _ => trivial
  | .val _, _, h => DV.mono e h
  | .own _, _, ⟨a, h1, h2⟩ => ⟨a, pfx_get p h1, h2⟩
theorem SlRs.mono (e : Same F F') (p : As <+: Bs) {s : List Sl} {v : List V} (h : SlRs K F As s v) : SlRs K F' Bs s v := Paired.mapP h fun _ _ z => z.mono e p
theorem SR.mono (e : Same F F') (p : As <+: Bs) (h : SR K F As ρ σ) : SR K F' Bs ρ σ :=
  ⟨h.len, fun i s q z => let ⟨v, h1, h2⟩ := h.get i s q z; ⟨v, h1, h2.mono e p⟩⟩
theorem CR.mono {ad : Addr} (e : Same F F') (p : As <+: Bs) : ∀ {c : C} {o : HO}, CR K F As ad c o → CR K F' Bs ad c o
  | .lst _, _, ⟨vs, h1, h2⟩ => ⟨vs, h1, h2.mono e⟩
  | .dic _, _, ⟨kvs, h1, h2⟩ => ⟨kvs, h1, Paired.mapP h2 fun _ _ z => ⟨z.1, z.2.mono e⟩⟩
  | .mls _, _, ⟨vs, h1, h2⟩ => ⟨vs, h1, h2.mono e p⟩
  | .mdc _, _, ⟨kvs, h1, h2⟩ => ⟨kvs, h1, Paired.mapP h2 fun _ _ z => ⟨z.1, z.2.mono e p⟩⟩
  | .ins _ _ _, _, ⟨dx, kvs, us, h1, h2, h3, h4⟩ => ⟨dx, kvs, us, pfx_get p h1, h2, h3.mono e p, h4⟩
  | .dxo _, _, ⟨a, h1, h2⟩ => ⟨a, pfx_get p h1, h2⟩
  | .sob0 _ _, _, ⟨dx, h1, h2, h3⟩ => ⟨dx, pfx_get p h1, h2, h3⟩
  | .sob _ _ _, _, ⟨dx, us, h1, h2, h3, h4⟩ => ⟨dx, us, pfx_get p h1, h2, h3.mono e p, h4⟩
  | .dxx, _, h => h
theorem SR.set {s : Sl} {v : V} {i : Nat} (h : SR K F As ρ σ) (r : SlR K F As s v) : SR K F As (ρ.set i s) (σ.set i (some v)) := by
  refine ⟨by simp [h.len], fun j d q z => ?_⟩
  by_cases e : i = j
  · subst e
    have hi : i < ρ.length := by
      have := (List.getElem?_eq_some_iff.mp q).1
      simpa using this
    rw [List.getElem?_set_self hi] at q
    cases q
    exact ⟨v, List.getElem?_set_self (by rw [← h.len]; exact hi), r⟩
  · rw [List.getElem?_set_ne e] at q ⊢
    exact h.get j d q z
/-- slots may be forgotten -/
def Weak (ρ ρ' : List Sl) : Prop := ρ'.length = ρ.length ∧ ∀ i : Nat, ρ'[i]? = ρ[i]? ∨ ρ'[i]? = some .un
theorem SR.weak {ρ' : List Sl} (h : SR K F As ρ σ) (w : Weak ρ ρ') : SR K F As ρ' σ := by
  refine ⟨w.1.trans h.len, fun i d q z => ?_⟩
  rcases w.2 i with e | e
  · exact h.get i d (e.symm.trans q) z
  · rw [e] at q; cases q; exact absurd rfl z
theorem HM.same (h : HM K F As M H) : Same F H := fun a o e => by
  have : a ∉ As := fun z => by rw [h.off a z] at e; cases e
  rw [h.out a this]; exact e
theorem HM.fresh (h : HM K F As M H) {p : Addr} (e : H p = none) : p ∉ As ∧ F p = none := by
  have h1 : p ∉ As := fun z => by
    obtain ⟨i, hi, q⟩ := List.mem_iff_getElem.mp z
    have q' : As[i]? = some p := by rw [List.getElem?_eq_getElem hi, q]
    have hm : i < M.length := by rw [← h.len]; exact hi
    obtain ⟨o, h2, _⟩ := h.cell i p M[i] q' (List.getElem?_eq_getElem hm)
    rw [e] at h2; cases h2
  exact ⟨h1, by rw [← h.out p h1]; exact e⟩
theorem same_new {F : Hp} {p : Addr} {o : HO} (h : F p = none) : Same F (upd F p o) := fun b u e => by
  rw [upd_ne (ne_of_none e h)]; exact e
/-- a new frozen object -/
theorem HM.laid (h : HM K F As M H) {p : Addr} {o : HO} (e : H p = none) : HM K (upd F p o) As M (upd H p o) := by
  obtain ⟨h1, h2⟩ := h.fresh e
  have s := same_new (o := o) h2
  refine ⟨h.nd, h.len, fun i a c ea ec => ?_, fun a ha => ?_, fun a ha => ?_⟩
  · obtain ⟨u, q1, q2⟩ := h.cell i a c ea ec
    exact ⟨u, by rw [upd_ne (ne_of_none q1 e)]; exact q1, q2.mono s (List.prefix_refl _)⟩
  · rw [upd_ne (fun z => by subst z; exact h1 ha)]; exact h.off a ha
  · unfold upd
    split
    · rfl
    · exact h.out a ha
/-- a new cell -/
theorem HM.made (h : HM K F As M H) {p : Addr} {o : HO} {c : C} (e : H p = none) (r : CR K F (As ++ [p]) p c o) : HM K F (As ++ [p]) (M ++ [c]) (upd H p o) := by
  obtain ⟨h1, h2⟩ := h.fresh e
  refine ⟨?_, by simp [h.len], fun i a c' ea ec => ?_, fun a ha => ?_, fun a ha => ?_⟩
  · rw [List.nodup_append]
    exact ⟨h.nd, by simp, fun a ha b hb z => by
      have : b = p := by simpa using hb
      subst this; subst z; exact h1 ha⟩
  · by_cases hi : i < As.length
    · rw [List.getElem?_append_left hi] at ea
      rw [List.getElem?_append_left (by rw [← h.len]; exact hi)] at ec
      obtain ⟨u, q1, q2⟩ := h.cell i a c' ea ec
      exact ⟨u, by rw [upd_ne (ne_of_none q1 e)]; exact q1, q2.mono (Same.refl _) (List.prefix_append _ _)⟩
    · have hi2 : i = As.length := by
        have := (List.getElem?_eq_some_iff.mp ea).1
        simp at this; omega
      subst hi2
      rw [List.getElem?_append_right (Nat.le_refl _)] at ea
      rw [h.len, List.getElem?_append_right (Nat.le_refl _)] at ec
      simp at ea ec
      subst ea; subst ec
      exact ⟨o, upd_same, r⟩
  · rcases List.mem_append.mp ha with ha | ha
    · exact h.off a ha
    · have : a = p := by simpa using ha
      subst this; exact h2
  · have a1 : a ∉ As := fun z => ha (List.mem_append_left _ z)
    have a2 : a ≠ p := fun z => ha (by simp [z])
    rw [upd_ne a2]; exact h.out a a1
/-- a cell changes -/
theorem HM.set (h : HM K F As M H) {k : Nat} {a : Addr} {o : HO} {c : C} (ea : As[k]? = some a) (r : CR K F As a c o) : HM K F As (M.set k c) (upd H a o) := by
  refine ⟨h.nd, by simp [h.len], fun i b c' eb ec => ?_, h.off, fun b hb => ?_⟩
  · by_cases e : k = i
    · subst e
      rw [ea] at eb; cases eb
      have hk : k < M.length := by rw [← h.len]; exact (List.getElem?_eq_some_iff.mp ea).1
      rw [List.getElem?_set_self hk] at ec; cases ec
      exact ⟨o, upd_same, r⟩
    · rw [List.getElem?_set_ne e] at ec
      obtain ⟨u, q1, q2⟩ := h.cell i b c' eb ec
      have : b ≠ a := fun z => by
        subst z
        obtain ⟨h1, e1⟩ := List.getElem?_eq_some_iff.mp ea
        obtain ⟨h2, e2⟩ := List.getElem?_eq_some_iff.mp eb
        exact e ((List.getElem_inj h.nd).mp (e1.trans e2.symm))
      exact ⟨u, by rw [upd_ne this]; exact q1, q2⟩
  · have : b ≠ a := fun z => by
      subst z
      exact hb (List.mem_iff_getElem?.mpr ⟨k, ea⟩)
    rw [upd_ne this]; exact h.out b hb
/-- F grows, the cells and H as they were behind the growth -/
theorem HM.cellAt (h : HM K F As M H) {k : Nat} {a : Addr} {c : C} (ea : As[k]? = some a) (ec : M[k]? = some c) : ∃ o, H a = some o ∧ CR K F As a c o := h.cell k a c ea ec
theorem HM.addr (h : HM K F As M H) {k : Nat} {c : C} (ec : M[k]? = some c) : ∃ a, As[k]? = some a := by
  have hk : k < As.length := by rw [h.len]; exact (List.getElem?_eq_some_iff.mp ec).1
  exact ⟨As[k], List.getElem?_eq_getElem hk⟩
end

/-- what a cell refers to -/
def Sl.refs : Sl → List Nat
  | .own k => [k]
  | _ => []
def C.refs : C → List Nat
  | .lst _ => []
  | .dic _ => []
  | .mls xs => xs.flatMap Sl.refs
  | .mdc kvs => kvs.flatMap fun p => p.2.refs
  | .ins _ j vs => j :: vs.flatMap Sl.refs
  | .dxo k => [k]
  | .sob0 _ j => [j]
  | .sob _ j vs => j :: vs.flatMap Sl.refs
  | .dxx => []
section
variable {K : PySem.W.Frag} {F F' : Hp} {As Bs : List Addr} {M : List C} {H : Hp}
theorem SlR.move {s : Sl} {v : V} (h : ∀ k a, k ∈ s.refs → As[k]? = some a → Bs[k]? = some a) (r : SlR K F As s v) : SlR K F Bs s v := by
  cases s with
  | un => trivial
  | val d => exact r
  | own k => obtain ⟨a, h1, h2⟩ := r; exact ⟨a, h k a (by simp [Sl.refs]) h1, h2⟩
theorem paired_mem {α β : Type} {R R' : α → β → Prop} : ∀ {l : List α} {r : List β}, Paired R l r → (∀ x ∈ l, ∀ y, R x y → R' x y) → Paired R' l r
  | _, _, .nil, _ => .nil
  | _, _, .cons h t, f => .cons (f _ List.mem_cons_self _ h) (paired_mem t fun x hx => f x (List.mem_cons_of_mem _ hx))
theorem CR.move {ad : Addr} {c : C} {o : HO} (h : ∀ k a, k ∈ c.refs → As[k]? = some a → Bs[k]? = some a) (r : CR K F As ad c o) : CR K F Bs ad c o := by
  cases c with
  | lst _ => exact r
  | dic _ => exact r
  | mls xs =>
    obtain ⟨vs, h1, h2⟩ := r
    exact ⟨vs, h1, paired_mem h2 fun x hx y z => z.move fun k a hk => h k a (List.mem_flatMap.mpr ⟨x, hx, hk⟩)⟩
  | mdc xs =>
    obtain ⟨vs, h1, h2⟩ := r
    exact ⟨vs, h1, paired_mem h2 fun x hx y z => ⟨z.1, z.2.move fun k a hk => h k a (List.mem_flatMap.mpr ⟨x, hx, hk⟩)⟩⟩
  | ins Cl j vs =>
    obtain ⟨dx, kvs, us, h0, h1, h2, h3⟩ := r
    exact ⟨dx, kvs, us, h _ _ List.mem_cons_self h0, h1, ⟨h2.len, fun i s e z => by
      obtain ⟨v, g1, g2⟩ := h2.get i s e z
      exact ⟨v, g1, g2.move fun k a hk => h k a (List.mem_cons_of_mem _ (List.mem_flatMap.mpr ⟨s, List.mem_of_getElem? e, hk⟩))⟩⟩, h3⟩
  | dxo k =>
    obtain ⟨a, h0, h1⟩ := r
    exact ⟨a, h _ _ (by simp [C.refs]) h0, h1⟩
  | sob0 Cl j =>
    obtain ⟨a, h0, h1⟩ := r
    exact ⟨a, h _ _ (by simp [C.refs]) h0, h1⟩
  | sob Cl j vs =>
    obtain ⟨dx, us, h0, h1, h2, h3⟩ := r
    exact ⟨dx, us, h _ _ List.mem_cons_self h0, h1, ⟨h2.len, fun i s e z => by
      obtain ⟨v, g1, g2⟩ := h2.get i s e z
      exact ⟨v, g1, g2.move fun k a hk => h k a (List.mem_cons_of_mem _ (List.mem_flatMap.mpr ⟨s, List.mem_of_getElem? e, hk⟩))⟩⟩, h3⟩
  | dxx => exact r
theorem CR.cut {ad : Addr} {c : C} {o : HO} (h : ∀ k ∈ c.refs, k < As.length) (r : CR K F (As ++ Bs) ad c o) : CR K F As ad c o := r.move fun k a hk e => by
  rw [List.getElem?_append_left (h k hk)] at e; exact e
theorem SlR.cut {s : Sl} {v : V} (h : ∀ k ∈ s.refs, k < As.length) (r : SlR K F (As ++ Bs) s v) : SlR K F As s v := r.move fun k a hk e => by
  rw [List.getElem?_append_left (h k hk)] at e; exact e
theorem SlR.ref_lt {s : Sl} {v : V} (r : SlR K F As s v) : ∀ k ∈ s.refs, k < As.length := by
  cases s with
  | un => intro k hk; cases hk
  | val d => intro k hk; cases hk
  | own j =>
    obtain ⟨a, h1, h2⟩ := r
    intro k hk
    have : k = j := by simpa [Sl.refs] using hk
    subst this
    exact (List.getElem?_eq_some_iff.mp h1).1
end

/-! ### the frame rule: objects set aside -/
def dels (H : Hp) (bs : List Addr) : Hp := fun a => if a ∈ bs then none else H a
def puts (H' H : Hp) (bs : List Addr) : Hp := fun a => if a ∈ bs then H a else H' a
theorem dels_some {H : Hp} {bs : List Addr} {b : Addr} {o : HO} (h : dels H bs b = some o) : b ∉ bs ∧ H b = some o := by
  unfold dels at h
  split at h
  · cases h
  · rename_i n; exact ⟨n, h⟩
theorem dels_ne {H : Hp} {bs : List Addr} {b : Addr} (h : b ∉ bs) : dels H bs b = H b := by unfold dels; rw [if_neg h]
theorem dels_in {H : Hp} {bs : List Addr} {b : Addr} (h : b ∈ bs) : dels H bs b = none := by unfold dels; rw [if_pos h]
theorem dels_none {H : Hp} {bs : List Addr} {b : Addr} (h : H b = none) : dels H bs b = none := by unfold dels; split <;> first | rfl | exact h
theorem puts_in {H' H : Hp} {bs : List Addr} {b : Addr} (h : b ∈ bs) : puts H' H bs b = H b := by unfold puts; rw [if_pos h]
theorem puts_ne {H' H : Hp} {bs : List Addr} {b : Addr} (h : b ∉ bs) : puts H' H bs b = H' b := by unfold puts; rw [if_neg h]
def del (H : Hp) (a : Addr) : Hp := fun b => if b = a then none else H b
theorem del_same {H : Hp} {a : Addr} : del H a a = none := by unfold del; rw [if_pos rfl]
theorem del_ne {H : Hp} {a b : Addr} (h : b ≠ a) : del H a b = H b := by unfold del; rw [if_neg h]
theorem del_some {H : Hp} {a b : Addr} {o : HO} (h : del H a b = some o) : b ≠ a ∧ H b = some o := by
  unfold del at h
  split at h
  · cases h
  · rename_i n; exact ⟨n, h⟩
inductive FrL : HO → Prop
  | lst (xs : List V) : FrL (.lst xs)
  | dK (kvs : List (Key × V)) : FrL (.dK kvs)
theorem FrL.obj {P : Program} {w : World} {H H' : Hp} {h h' : Heap} {a : Addr} {o : HO} (f : FrL o) (x : ObjOk P w H h a o) (k : ∀ u, h.get? a = some u → h'.get? a = some u) : ObjOk P w H' h' a o := by
  cases f with
  | lst xs => obtain ⟨z, its, n, r, e⟩ := x; exact ⟨z, its, n, r, k _ e⟩
  | dK kvs => obtain ⟨z, y, vs, r, ob, es, ep, e, c⟩ := x; exact ⟨z, y, vs, r, ob, es, ep, k _ e, c⟩
theorem FrL.get {P : Program} {w : World} {H : Hp} {h : Heap} {a : Addr} {o : HO} (f : FrL o) (x : ObjOk P w H h a o) : ∃ u, h.get? a = some u ∧ ∀ v, u.data ≠ .cell v := by
  cases f with
  | lst xs => obtain ⟨z, its, n, r, e⟩ := x; exact ⟨_, e, fun v q => nomatch q⟩
  | dK kvs =>
    obtain ⟨z, y, vs, r, ob, es, ep, e, c⟩ := x
    refine ⟨ob, e, fun v q => ?_⟩
    obtain ⟨_, d, _⟩ := c
    rw [d] at q; cases q
theorem FrL.not {o : HO} (h : FrL o) : (∀ xs, o ≠ .tup xs) ∧ (∀ u v, o ≠ .frz u v) ∧ (∀ ps, o ≠ .tbl ps) ∧ (∀ x, o ≠ .own x) := by
  cases h <;> exact ⟨fun _ z => (by cases z), fun _ _ z => (by cases z), fun _ z => (by cases z), fun _ z => (by cases z)⟩
section
variable {X : Cx} {pins : List (Addr × Obj)} {σ : L2.St} {H : Hp} {s : Shared} {a : Addr} {o : HO}
theorem Inv.hide (I : L2.Inv X pins σ H s) (ha : H a = some o) (fr : FrL o) : ∃ u, s.heap.get? a = some u ∧ L2.Inv X ((a, u) :: pins) σ (del H a) s ∧ a ∉ X.pn.map (·.1) ∧ (∀ ob, X.s_0.heap.get? a = some ob → X.H_0 a = none → a ∉ X.ex → False) ∧ (∀ xs, X.H_0 a ≠ some (.tup xs)) ∧ (∀ u v, X.H_0 a ≠ some (.frz u v)) ∧ (∀ ps, X.H_0 a ≠ some (.tbl ps)) ∧ a ≠ X.env.locals ∧ (∀ x c, X.env.cells.lookup x = some c → c ≠ a) ∧ (∀ p ∈ X.pn ++ pins, p.1 ≠ a) := by
  obtain ⟨u, hu, hc⟩ := fr.get (I.hok a o ha)
  obtain ⟨n1, n2, n3, n4⟩ := fr.not
  have nl : a ≠ X.env.locals := fun z => by rw [z, I.free] at ha; cases ha
  have nfs : a ∉ X.fs := fun z => by
    obtain ⟨_, ob, ho, _⟩ := I.ok.funs.mem z
    have := I.base.free a ob ho (I.ok.frf a z) fun q => I.ok.exfs a q z
    rw [ha] at this; cases this
  have ncl : ∀ x c, X.env.cells.lookup x = some c → c ≠ a := fun x c e z => by
    have := I.freeC x c e
    rw [z, ha] at this; cases this
  have npin : ∀ p ∈ X.pn ++ pins, p.1 ≠ a := fun p hp z => by
    have := (I.pin p hp).2.1
    rw [z, ha] at this; cases this
  refine ⟨u, hu, ⟨I.ok, I.os, I.bare, ⟨I.base.keep, I.base.slot, fun b ob e n hx => ?_, I.base.there, fun b xs e => ?_, fun b ob xs e => ?_, fun b ps e => ?_⟩, I.loc, I.cell, ?_, fun x c e => ?_, fun p hp => ?_, fun b ob e => ?_, I.len⟩, ?_, ?_, ?_, ?_, ?_, nl, ncl, npin⟩
  · unfold del; split
    · rfl
    · exact I.base.free b ob e n hx
  · have q := I.base.tups b xs e
    rw [del_ne (fun z => by rw [z, ha] at q; exact n1 xs (Option.some.inj q))]; exact q
  · have q := I.base.frzs b ob xs e
    rw [del_ne (fun z => by rw [z, ha] at q; exact n2 _ _ (Option.some.inj q))]; exact q
  · obtain ⟨more, q⟩ := I.base.tbls b ps e
    exact ⟨more, by rw [del_ne (fun z => by rw [z, ha] at q; exact n3 _ (Option.some.inj q))]; exact q⟩
  · unfold del; split
    · rfl
    · exact I.free
  · unfold del; split
    · rfl
    · exact I.freeC x c e
  · rcases List.mem_append.mp hp with hp | hp
    · obtain ⟨h1, h2, h3, h4, h5⟩ := I.pin p (List.mem_append_left _ hp)
      exact ⟨h1, by unfold del; split <;> first | rfl | exact h2, h3, h4, h5⟩
    · rcases List.mem_cons.mp hp with rfl | hp
      · exact ⟨hu, del_same, nl, nfs, hc⟩
      · obtain ⟨h1, h2, h3, h4, h5⟩ := I.pin p (List.mem_append_right _ hp)
        exact ⟨h1, by unfold del; split <;> first | rfl | exact h2, h3, h4, h5⟩
  · obtain ⟨nb, e'⟩ := del_some e
    refine (I.hok b ob e').stay (fun c v _ q => q) (fun c q => ?_) fun c xs q => ?_
    · rw [del_ne (fun z => by rw [z, ha] at q; exact n4 _ (Option.some.inj q))]; exact q
    · rw [del_ne (fun z => by rw [z, ha] at q; exact n1 _ (Option.some.inj q))]; exact q
  · intro z
    obtain ⟨p, hp, e⟩ := List.mem_map.mp z
    exact npin p (List.mem_append_left _ hp) e
  · intro ob e n hx
    have := I.base.free a ob e n hx
    rw [ha] at this; cases this
  · intro xs e
    have := I.base.tups a xs e
    rw [ha] at this; exact n1 _ (Option.some.inj this)
  · intro u' v' e
    have := I.base.frzs a _ _ e
    rw [ha] at this; exact n2 _ _ (Option.some.inj this)
  · intro ps e
    obtain ⟨more, this⟩ := I.base.tbls a _ e
    rw [ha] at this; exact n3 _ (Option.some.inj this)
theorem Inv.show {u : Obj} {s' : Shared} {σ' : L2.St} {H' : Hp} (I : L2.Inv X pins σ H s) (ha : H a = some o) (fr : FrL o) (hu : s.heap.get? a = some u) (I' : L2.Inv X ((a, u) :: pins) σ' H' s') : H' a = none ∧ L2.Inv X pins σ' (upd H' a o) s' := by
  obtain ⟨u', hu', _, g0, g1, g2, g3, g4, nl, ncl, npin⟩ := Inv.hide I ha fr
  have ok0 := I.hok a o ha
  obtain ⟨pu, pn, _, _, _⟩ := I'.pin (a, u) (List.mem_append_right _ List.mem_cons_self)
  have pu : s'.heap.get? a = some u := pu
  have pn : H' a = none := pn
  refine ⟨pn, ⟨I'.ok, I'.os, I'.bare, ⟨I'.base.keep, I'.base.slot, fun b ob e n hx => ?_, I'.base.there, fun b xs e => ?_, fun b ob xs e => ?_, fun b ps e => ?_⟩, I'.loc, I'.cell, ?_, fun x c e => ?_, fun p hp => ?_, fun b ob e => ?_, I'.len⟩⟩
  · rw [upd_ne (fun z => by subst z; exact g1 ob e n hx)]; exact I'.base.free b ob e n hx
  · rw [upd_ne (fun z => by subst z; exact g2 xs e)]; exact I'.base.tups b xs e
  · rw [upd_ne (fun z => by subst z; exact g3 _ _ e)]; exact I'.base.frzs b ob xs e
  · obtain ⟨more, q⟩ := I'.base.tbls b ps e
    exact ⟨more, by rw [upd_ne (fun z => by subst z; exact g4 _ e)]; exact q⟩
  · rw [upd_ne (Ne.symm nl)]; exact I'.free
  · rw [upd_ne (ncl x c e)]; exact I'.freeC x c e
  · obtain ⟨h1, h2, h3, h4, h5⟩ := I'.pin p (by
      rcases List.mem_append.mp hp with z | z
      · exact List.mem_append_left _ z
      · exact List.mem_append_right _ (List.mem_cons_of_mem _ z))
    exact ⟨h1, by rw [upd_ne (npin p hp)]; exact h2, h3, h4, h5⟩
  · by_cases hb : b = a
    · subst hb
      rw [upd_same] at e; cases e
      refine fr.obj ok0 fun v hv => ?_
      rw [hu] at hv; cases hv; exact pu
    · rw [upd_ne hb] at e
      refine (I'.hok b ob e).stay (fun c v _ q => q) (fun c q => ?_) fun c xs q => ?_
      · rw [upd_ne (ne_of_none q pn)]; exact q
      · rw [upd_ne (ne_of_none q pn)]; exact q
end

/-- what may be set aside at a call: lists, dicts, instances with their dicts -/
inductive FrO (H : Hp) (bs : List Addr) (b : Addr) : HO → Prop
  | lst (xs : List V) : FrO H bs b (.lst xs)
  | dK (kvs : List (Key × V)) : FrO H bs b (.dK kvs)
  | ins {C dx : Addr} {fs : List (Str × V)} (h : H dx = some (.own b) → dx ∈ bs) : FrO H bs b (.ins C dx fs)
  | own {x : Addr} (h : x ∈ bs) : FrO H bs b (.own x)
  | ext (φ : Heap → Prop) : FrO H bs b (.ext φ)
  | xd (fs : List (Str × V)) : FrO H bs b (.xd fs)
theorem FrO.obj {P : Program} {w : World} {H H' : Hp} {h h' : Heap} {a : Addr} {o : HO} {bs : List Addr} (f : FrO H bs a o) (x : ObjOk P w H h a o) (k : ∀ u, h.get? a = some u → h'.get? a = some u) (kd : ∀ b ∈ bs, ∀ u, h.get? b = some u → h'.get? b = some u) (hh : ∀ b ∈ bs, H' b = H b) : ObjOk P w H' h' a o := by
  cases f with
  | lst xs => obtain ⟨z, its, n, r, e⟩ := x; exact ⟨z, its, n, r, k _ e⟩
  | dK kvs => obtain ⟨z, y, vs, r, ob, es, ep, e, c⟩ := x; exact ⟨z, y, vs, r, ob, es, ep, k _ e, c⟩
  | ins hd =>
    obtain ⟨d, z, ne, e, mA, ⟨od, es, ep, e2, c⟩, r⟩ := x
    exact ⟨(hh _ (hd d)).trans d, z, ne, k _ e, mA, ⟨od, es, ep, kd _ (hd d) _ e2, c⟩, r⟩
  | own hd => obtain ⟨o, e⟩ := x; exact ⟨o, k _ e⟩
  | ext φ => obtain ⟨h1, ⟨o, h2⟩, h3⟩ := x; exact ⟨h3 _ _ h1 k, ⟨o, k _ h2⟩, h3⟩
  | xd fs => obtain ⟨mA, z, r⟩ := x; exact ⟨mA, z.at k, r⟩
theorem FrO.get {P : Program} {w : World} {H0 H : Hp} {h : Heap} {a : Addr} {o : HO} {bs : List Addr} (f : FrO H0 bs a o) (x : ObjOk P w H h a o) : ∃ u, h.get? a = some u := by
  cases f with
  | lst xs => obtain ⟨z, its, n, r, e⟩ := x; exact ⟨_, e⟩
  | dK kvs => obtain ⟨z, y, vs, r, ob, es, ep, e, c⟩ := x; exact ⟨ob, e⟩
  | ins hd => obtain ⟨d, z, ne, e, _⟩ := x; exact ⟨_, e⟩
  | own hd => exact x
  | ext φ => obtain ⟨h1, ⟨o, h2⟩, h3⟩ := x; exact ⟨o, h2⟩
  | xd fs => obtain ⟨mA, ⟨o, es, ep, e, _⟩, r⟩ := x; exact ⟨o, e⟩
abbrev FrSet (H : Hp) (bs : List Addr) : Prop := ∀ b ∈ bs, ∃ o, H b = some o ∧ FrO H bs b o
def frSp (sp : Sp) : Sp := fun vs H G E => ∃ bs : List Addr, FrSet H bs ∧ sp vs (dels H bs) (fun v H' => (∀ b ∈ bs, H' b = none) → G v (puts H' H bs)) E
section
variable {P : Program} {w : World} {K : PySem.W.Frag} {mg : Str → Option Value} {base : Heap} {k : Nat} {f : Addr} {fd : FuncData} {ps : List Str} {sp : Sp}
/-- a call with some objects set aside -/
theorem code_frame {A : Around} {outer : List Env} {s : Shared} {H : Hp} {cd : Code} {Q : VK} {E : XK} {bs : List Addr} (e0 : Env0 P w K mg base A outer s H) (hbs : FrSet H bs)
    (h : Env0 P w K mg base A outer s (dels H bs) → codeAny (model P w) A cd (L2.CR CX0 outer P w (dels H bs) s (fun v H' => (∀ b ∈ bs, H' b = none) → Q v (puts H' H bs)) E) s) : codeAny (model P w) A cd (L2.CR CX0 outer P w H s Q E) s := by
  have nt : ∀ b xs, H b = some (.tup xs) → b ∉ bs := fun b xs e z => by
    obtain ⟨o, ho, fr⟩ := hbs b z
    rw [e] at ho; cases ho; cases fr
  have nf : ∀ b u v, H b = some (.frz u v) → b ∉ bs := fun b u v e z => by
    obtain ⟨o, ho, fr⟩ := hbs b z
    rw [e] at ho; cases ho; cases fr
  have nb : ∀ b ps, H b = some (.tbl ps) → b ∉ bs := fun b ps e z => by
    obtain ⟨o, ho, fr⟩ := hbs b z
    rw [e] at ho; cases ho; cases fr
  have no : ∀ b x, H b = some (.own x) → x ∉ bs → b ∉ bs := fun b x e n z => by
    obtain ⟨o, ho, fr⟩ := hbs b z
    rw [e] at ho; cases ho
    cases fr with
    | own h => exact n h
  have e1 : Env0 P w K mg base A outer s (dels H bs) := ⟨e0.frames, e0.mod, fun b o e => ⟨(e0.bs b o e).1, dels_none (e0.bs b o e).2⟩, e0.bsz, e0.funs, fun b hb => dels_none (e0.frf b hb), fun b o e => by
    obtain ⟨n, e'⟩ := dels_some e
    refine (e0.hok b o e').stay (fun c v _ q => q) (fun c q => ?_) fun c xs q => ?_
    · rw [dels_ne (no c _ q n)]; exact q
    · rw [dels_ne (nt c _ q)]; exact q, e0.bare⟩
  refine codeAny_mono (h e1) fun r s' hq => ?_
  cases r with
  | error e => exact hq
  | ok fl =>
    cases fl with
    | ret u =>
      obtain ⟨v, H', os, bare, un, hok, rv, q⟩ := hq
      have hin : ∀ b ∈ bs, H' b = none ∧ ∀ o, s.heap.get? b = some o → s'.heap.get? b = some o := fun b hb => by
        obtain ⟨o, ho, fr⟩ := hbs b hb
        obtain ⟨ob, hob⟩ := fr.get (e0.hok b o ho)
        have nfr : b ∉ frs outer := fun z => by rw [e0.frf b z] at ho; cases ho
        have dn : dels H bs b = none := by unfold dels; rw [if_pos hb]
        exact ⟨un.free b ob hob dn (by simp), fun o' ho' => un.keep b o' ho' dn nfr (by simp)⟩
      refine ⟨v, puts H' H bs, os, bare, ⟨fun b o e n h1 h2 => un.keep b o e (dels_none n) h1 h2, fun b o e n h1 h2 => un.slot b o e (dels_none n) h1 h2, fun b o e n h2 => ?_, un.there, fun b xs e => ?_, fun b o u e => ?_, fun b ps e => ?_⟩, fun b o e => ?_, rv, q fun b hb => (hin b hb).1⟩
      · have nbs : b ∉ bs := fun z => by
          obtain ⟨o', ho', _⟩ := hbs b z
          rw [n] at ho'; cases ho'
        rw [puts_ne nbs]; exact un.free b o e (dels_none n) h2
      · rw [puts_ne (nt b xs e)]; exact un.tups b xs (by rw [dels_ne (nt b xs e)]; exact e)
      · rw [puts_ne (nf b o u e)]; exact un.frzs b o u (by rw [dels_ne (nf b o u e)]; exact e)
      · obtain ⟨more, z⟩ := un.tbls b ps (by rw [dels_ne (nb b ps e)]; exact e)
        exact ⟨more, by rw [puts_ne (nb b ps e)]; exact z⟩
      · by_cases hb : b ∈ bs
        · rw [puts_in hb] at e
          obtain ⟨o', ho', fr⟩ := hbs b hb
          rw [e] at ho'; cases ho'
          exact fr.obj (e0.hok b o e) (hin b hb).2 (fun c hc => (hin c hc).2) fun c hc => puts_in hc
        · rw [puts_ne hb] at e
          have pn : ∀ c u, H' c = some u → c ∉ bs := fun c u z h => by rw [(hin c h).1] at z; cases z
          refine (hok b o e).stay (fun c v _ q => q) (fun c q => ?_) fun c xs q => ?_
          · rw [puts_ne (pn c _ q)]; exact q
          · rw [puts_ne (pn c _ q)]; exact q
    | next => exact False.elim hq
    | brk => exact False.elim hq
    | cont => exact False.elim hq
theorem FnR.frame (F : FnR P w K mg base CX0 k f sp) : FnR P w K mg base CX0 k f (frSp sp) := fun A outer s H us vs Q E hr e0 hv ⟨bs, hbs, h⟩ => code_frame e0 hbs fun e1 => F A outer s (dels H bs) us vs _ E hr e1 hv h
theorem fnr_of (F : FnOk P w K mg base CX0 k f fd ps sp) (hb : Binds K fd ps []) : FnR P w K mg base CX0 k f sp := by
  have := FnOk.raw F hb (.nil : Vals [] [])
  exact this.imp fun vs H Q E h => by rw [List.append_nil]; exact h
end
section
variable {K : PySem.W.Frag} {F F' : Hp} {As : List Addr} {M : List C} {H : Hp}
theorem HM.frs (h : HM K F As M H) : FrSet H As := fun b hb => by
  obtain ⟨i, ei⟩ := List.mem_iff_getElem?.mp hb
  have hi : i < M.length := by rw [← h.len]; exact (List.getElem?_eq_some_iff.mp ei).1
  obtain ⟨o, h1, h2⟩ := h.cell i b M[i] ei (List.getElem?_eq_getElem hi)
  refine ⟨o, h1, ?_⟩
  generalize M[i] = c at h2
  cases c with
  | lst xs => obtain ⟨vs, rfl, _⟩ := h2; exact .lst vs
  | dic xs => obtain ⟨vs, rfl, _⟩ := h2; exact .dK vs
  | mls xs => obtain ⟨vs, rfl, _⟩ := h2; exact .lst vs
  | mdc xs => obtain ⟨vs, rfl, _⟩ := h2; exact .dK vs
  | ins Cl j fs => obtain ⟨dx, kvs, us, h3, rfl, _⟩ := h2; exact .ins fun _ => List.mem_iff_getElem?.mpr ⟨j, h3⟩
  | dxo k => obtain ⟨a, h3, rfl⟩ := h2; exact .own (List.mem_iff_getElem?.mpr ⟨k, h3⟩)
  | sob0 Cl j => obtain ⟨dx, h3, rfl, _⟩ := h2; exact .ins fun _ => List.mem_iff_getElem?.mpr ⟨j, h3⟩
  | sob Cl j vs => obtain ⟨dx, us, h3, rfl, _⟩ := h2; exact .ext _
  | dxx => cases h2; exact .xd []
theorem HM.bare (h : HM K F As M H) : dels H As = F := by
  funext a
  unfold dels
  split
  · rename_i ha; exact (h.off a ha).symm
  · rename_i ha; exact h.out a ha
theorem HM.back (h : HM K F As M H) (s : Same F F') (n : ∀ a ∈ As, F' a = none) : HM K F' As M (puts F' H As) :=
  ⟨h.nd, h.len, fun i a cc ea ec => by
    obtain ⟨o, h1, h2⟩ := h.cell i a cc ea ec
    exact ⟨o, by rw [puts_in (List.mem_iff_getElem?.mpr ⟨i, ea⟩)]; exact h1, h2.mono s (List.prefix_refl _)⟩, n, fun a ha => by rw [puts_ne ha]⟩
/-- cells behind the first n are dropped -/
theorem HM.drop (h : HM K F As M H) (n : Nat) (hn : n ≤ M.length) (hr : ∀ c ∈ M.take n, ∀ k ∈ c.refs, k < n) : ∃ F', Same F F' ∧ HM K F' (As.take n) (M.take n) H := by
  have hl := h.len
  have nd := h.nd
  have split : As = As.take n ++ As.drop n := (List.take_append_drop n As).symm
  have tl : (As.take n).length = n := by rw [List.length_take]; omega
  have tm : ∀ a, a ∈ As.take n → a ∈ As := fun a ha => List.mem_of_mem_take ha
  refine ⟨dels H (As.take n), fun a o e => ?_, ⟨?_, ?_, fun i a c ea ec => ?_, fun a ha => dels_in ha, fun a ha => (dels_ne ha).symm⟩⟩
  · have na : a ∉ As := fun z => by rw [h.off a z] at e; cases e
    rw [dels_ne fun z => na (tm a z), h.out a na]; exact e
  · rw [split] at nd; exact (List.nodup_append.mp nd).1
  · rw [List.length_take, List.length_take, hl]
  · have hi : i < n := by
      have := (List.getElem?_eq_some_iff.mp ea).1
      omega
    have ea' : As[i]? = some a := by rw [List.getElem?_take, if_pos hi] at ea; exact ea
    have ec' : M[i]? = some c := by rw [List.getElem?_take, if_pos hi] at ec; exact ec
    obtain ⟨o, h1, h2⟩ := h.cell i a c ea' ec'
    refine ⟨o, h1, CR.cut (Bs := As.drop n) ?_ ?_⟩
    · intro k hk; rw [tl]; exact hr c (List.mem_of_getElem? ec) k hk
    · rw [← split]
      refine h2.mono (fun a o e => ?_) (List.prefix_refl _)
      have na : a ∉ As := fun z => by rw [h.off a z] at e; cases e
      rw [dels_ne fun z => na (tm a z), h.out a na]; exact e
end
end Dl
/-! X1: semantic readings, contexts, judgements, the first rules -/
namespace Dl
open PySem L2

/-! ### the weakest reading of a piece of syntax -/
section
variable (X : Cx)
def WE (e : Expr) : TE := fun σ H G => ∃ t : TE, PE X e t ∧ t σ H G
def WT (e : Expr) : TT := fun σ H G => ∃ t : TT, PT X e t ∧ t σ H G
def WW (e : Expr) : TT := fun σ H G => ∃ t : TT, PW X e t ∧ t σ H G
def WTs (es : List Expr) : TT := fun σ H G => ∃ t : TT, PTs X es t ∧ t σ H G
def WA (es : List Expr) : TA := fun σ H G => ∃ t : TA, PA X es t ∧ t σ H G
def WK (es : List Keyword) : TA := fun σ H G => ∃ t : TA, PK X es t ∧ t σ H G
def WS (ss : List Stmt) : TS := fun D σ H => ∃ t : TS, PSs X ss t ∧ t D σ H
def WS1 (s : Stmt) : TS := fun D σ H => ∃ t : TS, PS X s t ∧ t D σ H
def WI (tg it : Expr) : TI := fun σ H R => ∃ t : TI, PI X tg it t ∧ t σ H R
def WG (tg : Expr) : TG := fun v σ H R => ∃ t : TG, PG X tg t ∧ t v σ H R
end
section
variable {X : Cx}
theorem pe_w {e : Expr} : PE X e (WE X e) := ⟨fun pins s σ H Q I ⟨_, h, q⟩ => h.run pins s σ H Q I q⟩
theorem pt_w {e : Expr} : PT X e (WT X e) := ⟨fun pins s σ H Q I ⟨_, h, q⟩ => h.run pins s σ H Q I q⟩
theorem pw_w {e : Expr} : PW X e (WW X e) := ⟨fun wh pins s σ H Q I ⟨_, h, q⟩ => h.run wh pins s σ H Q I q⟩
theorem pa_w {e : List Expr} : PA X e (WA X e) := ⟨fun p pins s σ H Q I ⟨_, h, q⟩ => h.run p pins s σ H Q I q⟩
theorem pk_w {e : List Keyword} : PK X e (WK X e) := ⟨fun p pins s σ H Q I ⟨_, h, q⟩ => h.run p pins s σ H Q I q⟩
theorem pss_w {e : List Stmt} : PSs X e (WS X e) := ⟨fun pins s σ H Q I ⟨_, h, q⟩ => h.run pins s σ H Q I q⟩
theorem ps_w {e : Stmt} : PS X e (WS1 X e) := ⟨fun pins s σ H Q I ⟨_, h, q⟩ => h.run pins s σ H Q I q⟩
theorem pi_w {tg e : Expr} : PI X tg e (WI X tg e) := ⟨fun pins s σ H Q I ⟨_, h, q⟩ => h.run pins s σ H Q I q⟩
theorem pts_w {e : List Expr} : PTs X e (WTs X e) := ⟨fun pins s σ H Q I ⟨_, h, q⟩ => h.run pins s σ H Q I q⟩
theorem WE.mono {e : Expr} {σ : L2.St} {H : Hp} {G G' : VK} (h : WE X e σ H G) (k : ∀ v H', G v H' → G' v H') : WE X e σ H G' := by
  refine ⟨fun σ' H' Q => σ' = σ ∧ H' = H ∧ ∀ v H', G v H' → Q v H', ⟨fun pins s σ' H' Q I ⟨e1, e2, q⟩ => ?_⟩, rfl, rfl, k⟩
  subst e1; subst e2
  exact thn (pe_w.run pins s σ' H' G I h) fun u s' ⟨v, H2, I2, r, g⟩ => ⟨v, H2, I2, r, q v H2 g⟩
theorem WT.mono {e : Expr} {σ : L2.St} {H : Hp} {G G' : Bool → Hp → Prop} (h : WT X e σ H G) (k : ∀ v H', G v H' → G' v H') : WT X e σ H G' := by
  refine ⟨fun σ' H' Q => σ' = σ ∧ H' = H ∧ ∀ v H', G v H' → Q v H', ⟨fun pins s σ' H' Q I ⟨e1, e2, q⟩ => ?_⟩, rfl, rfl, k⟩
  subst e1; subst e2
  exact thn (pt_w.run pins s σ' H' G I h) fun u s' ⟨H2, I2, g⟩ => ⟨H2, I2, q u H2 g⟩
/-- the frame rule -/
theorem WE.frame {e : Expr} {σ : L2.St} {H : Hp} {G : VK} {a : Addr} {o : HO} (ha : H a = some o) (fr : FrL o) (h : WE X e σ (del H a) fun v H' => H' a = none → G v (upd H' a o)) : WE X e σ H G := by
  refine ⟨fun σ' H' Q => σ' = σ ∧ H' = H ∧ ∀ v H', G v H' → Q v H', ⟨fun pins s σ' H' Q I ⟨e1, e2, q⟩ => ?_⟩, rfl, rfl, fun _ _ z => z⟩
  subst e1; subst e2
  obtain ⟨u, hu, I1, _⟩ := Inv.hide I ha fr
  refine thn (pe_w.run _ s σ' _ _ I1 h) fun u' s' ⟨v, H2, I2, r, g⟩ => ?_
  obtain ⟨n, I3⟩ := Inv.show I ha fr hu I2
  exact ⟨v, _, I3, r, q _ _ (g n)⟩
theorem WT.frame {e : Expr} {σ : L2.St} {H : Hp} {G : Bool → Hp → Prop} {a : Addr} {o : HO} (ha : H a = some o) (fr : FrL o) (h : WT X e σ (del H a) fun v H' => H' a = none → G v (upd H' a o)) : WT X e σ H G := by
  refine ⟨fun σ' H' Q => σ' = σ ∧ H' = H ∧ ∀ v H', G v H' → Q v H', ⟨fun pins s σ' H' Q I ⟨e1, e2, q⟩ => ?_⟩, rfl, rfl, fun _ _ z => z⟩
  subst e1; subst e2
  obtain ⟨u, hu, I1, _⟩ := Inv.hide I ha fr
  refine thn (pt_w.run _ s σ' _ _ I1 h) fun u' s' ⟨H2, I2, g⟩ => ?_
  obtain ⟨n, I3⟩ := Inv.show I ha fr hu I2
  exact ⟨_, I3, q _ _ (g n)⟩
theorem WTs.frame {e : List Expr} {σ : L2.St} {H : Hp} {G : Bool → Hp → Prop} {a : Addr} {o : HO} (ha : H a = some o) (fr : FrL o) (h : WTs X e σ (del H a) fun v H' => H' a = none → G v (upd H' a o)) : WTs X e σ H G := by
  refine ⟨fun σ' H' Q => σ' = σ ∧ H' = H ∧ ∀ v H', G v H' → Q v H', ⟨fun pins s σ' H' Q I ⟨e1, e2, q⟩ => ?_⟩, rfl, rfl, fun _ _ z => z⟩
  subst e1; subst e2
  obtain ⟨u, hu, I1, _⟩ := Inv.hide I ha fr
  refine thn (pts_w.run _ s σ' _ _ I1 h) fun u' s' ⟨H2, I2, g⟩ => ?_
  obtain ⟨n, I3⟩ := Inv.show I ha fr hu I2
  exact ⟨_, I3, q _ _ (g n)⟩
end

/-! ### contexts -/
structure Ctx where
  P : Program
  w : World
  K : PySem.W.Frag
  mg : Str → Option Value
  base : Heap
  N : List Str
  sc : Scope
  fn : Str → Bool
  k : Nat
inductive Ctx.Is : Ctx → Cx → Prop
  | mk (X : Cx) (k : Nat) (nd : X.N.Nodup) (calm : X.calm = true) (room : Room k X.A) (po : PassesOwn (model X.prog X.w) X.A X.env X.xe) : Ctx.Is ⟨X.prog, X.w, X.K, X.mg, X.base, X.N, X.env.scope, X.fn, k⟩ X
abbrev Glo (c : Ctx) (x : Str) : Prop := c.sc.names.lookup x = some .globalImplicit

/-! ### results -/
inductive Z where
  | s (r : Sl) | n (c : C)
  deriving Inhabited
def Zr : Z → List C → Sl → List C → Prop
  | .s r, M1, r', M' => r' = r ∧ M' = M1
  | .n c, M1, r', M' => r' = .own M1.length ∧ M' = M1 ++ [c] ∧ ∀ c ∈ M1, ∀ k ∈ c.refs, k < M1.length
def C.frz : C → Option D
  | .lst ds => some (.lst ds)
  | .dic kvs => some (.dic (kvs.map (·.1)) (kvs.map (·.2)))
  | _ => none
/-- a result as a slot: what is new is frozen -/
def Z.fz (z : Z) (M : List C) (Q : Sl → List C → Prop) : Prop :=
  match z with
  | .s r => Q r M
  | .n c => match c.frz with
    | some d => Q (.val d) M
    | none => False

/-! ### judgements -/
section
variable (c : Ctx) (ρ : List Sl) (M : List C)
def EE (e : Expr) (Q : Sl → List C → Prop) : Prop := ∀ X, c.Is X → ∀ F As σ H, SR c.K F As ρ σ → HM c.K F As M H → ∀ G : VK, (∀ v F' As' H' r M', Same F F' → As <+: As' → SlR c.K F' As' r v → HM c.K F' As' M' H' → Q r M' → G v H') → WE X e σ H G
def EZ (e : Expr) (Q : Z → List C → Prop) : Prop := EE c ρ M e fun r M' => ∃ z M1, Zr z M1 r M' ∧ M.length ≤ M1.length ∧ Q z M1
def GT (e : Expr) (Q : Bool → List C → Prop) : Prop := ∀ X, c.Is X → ∀ F As σ H, SR c.K F As ρ σ → HM c.K F As M H → ∀ G : Bool → Hp → Prop, (∀ t F' As' H' M', Same F F' → As <+: As' → HM c.K F' As' M' H' → Q t M' → G t H') → WT X e σ H G
def GW (e : Expr) (Q : Bool → List C → Prop) : Prop := ∀ X, c.Is X → ∀ F As σ H, SR c.K F As ρ σ → HM c.K F As M H → ∀ G : Bool → Hp → Prop, (∀ t F' As' H' M', Same F F' → As <+: As' → HM c.K F' As' M' H' → Q t M' → G t H') → WW X e σ H G
def GTs (es : List Expr) (Q : Bool → List C → Prop) : Prop := ∀ X, c.Is X → ∀ F As σ H, SR c.K F As ρ σ → HM c.K F As M H → ∀ G : Bool → Hp → Prop, (∀ t F' As' H' M', Same F F' → As <+: As' → HM c.K F' As' M' H' → Q t M' → G t H') → WTs X es σ H G
def EA (es : List Expr) (Q : List Sl → List C → Prop) : Prop := ∀ X, c.Is X → ∀ F As σ H, SR c.K F As ρ σ → HM c.K F As M H → ∀ G : List V → Hp → Prop, (∀ vs F' As' H' rs M', Same F F' → As <+: As' → SlRs c.K F' As' rs vs → HM c.K F' As' M' H' → Q rs M' → G vs H') → WA X es σ H G
def EK (es : List Keyword) (Q : List Sl → List C → Prop) : Prop := ∀ X, c.Is X → ∀ F As σ H, SR c.K F As ρ σ → HM c.K F As M H → ∀ G : List V → Hp → Prop, (∀ vs F' As' H' rs M', Same F F' → As <+: As' → SlRs c.K F' As' rs vs → HM c.K F' As' M' H' → Q rs M' → G vs H') → WK X es σ H G
end
/-- what is read as a sequence: a list (true) or a tuple -/
def lkM : List C → Nat → Option C
  | [], _ => none
  | c :: _, 0 => some c
  | _ :: M, k + 1 => lkM M k
theorem lkM_eq : ∀ (M : List C) (k : Nat), lkM M k = M[k]?
  | [], _ => rfl
  | _ :: _, 0 => rfl
  | _ :: M, k + 1 => by rw [List.getElem?_cons_succ]; exact lkM_eq M k
def sq (M : List C) : Sl → Option (Bool × List D)
  | .val (.lst ds) => some (true, ds)
  | .val (.tup ds) => some (false, ds)
  | .own k => match lkM M k with
    | some (.lst ds) => some (true, ds)
    | _ => none
  | _ => none
inductive SqS (M : List C) : Sl → Bool → List D → Prop
  | lst {ds : List D} : SqS M (.val (.lst ds)) true ds
  | tup {ds : List D} : SqS M (.val (.tup ds)) false ds
  | own {k : Nat} {ds : List D} (h : M[k]? = some (.lst ds)) : SqS M (.own k) true ds
theorem sq_s {M : List C} {s : Sl} {b : Bool} {ds : List D} (h : sq M s = some (b, ds)) : SqS M s b ds := by
  cases s with
  | un => cases h
  | own k =>
    have h : (match lkM M k with | some (.lst ds) => some (true, ds) | _ => none) = some (b, ds) := h
    rw [lkM_eq] at h
    cases e : M[k]? with
    | none => rw [e] at h; cases h
    | some c =>
      rw [e] at h
      cases c with
      | lst xs => cases h; exact .own e
      | dic _ => cases h
      | mls _ => cases h
      | mdc _ => cases h
      | ins _ _ _ => cases h
      | dxo _ => cases h
      | sob0 _ _ => cases h
      | sob _ _ _ => cases h
      | dxx => cases h
  | val d =>
    cases d with
    | lst xs => cases h; exact .lst
    | tup xs => cases h; exact .tup
    | non => cases h
    | bl _ => cases h
    | int _ => cases h
    | str _ => cases h
    | dic _ _ => cases h
    | slo _ _ => cases h
    | obj _ _ => cases h
    | scr _ => cases h
theorem SqS.get {K : PySem.W.Frag} {F : Hp} {As : List Addr} {M : List C} {H : Hp} {s : Sl} {b : Bool} {ds : List D} {v : V} (q : SqS M s b ds) (hm : HM K F As M H) (r : SlR K F As s v) :
    ∃ a vs, v = .ref a ∧ DVs K F ds vs ∧ (if b then H a = some (.lst vs) else SqT K H a vs) := by
  cases q with
  | lst => obtain ⟨a, vs, rfl, h1, h2⟩ := r; exact ⟨a, vs, rfl, h2, hm.same _ _ h1⟩
  | tup => obtain ⟨a, vs, rfl, h1, h2⟩ := r; exact ⟨a, vs, rfl, h2, same_t hm.same h1⟩
  | own h =>
    obtain ⟨a, h1, rfl⟩ := r
    obtain ⟨o, h2, vs, rfl, h3⟩ := hm.cell _ a _ h1 h
    exact ⟨a, vs, rfl, h3, h2⟩
theorem SqS.sq {K : PySem.W.Frag} {F : Hp} {As : List Addr} {M : List C} {H : Hp} {s : Sl} {b : Bool} {ds : List D} {v : V} (q : SqS M s b ds) (hm : HM K F As M H) (r : SlR K F As s v) :
    ∃ a vs, v = .ref a ∧ DVs K F ds vs ∧ (SqL K H a vs ∨ SqT K H a vs) := by
  obtain ⟨a, vs, h1, h2, h3⟩ := q.get hm r
  cases b with
  | true => exact ⟨a, vs, h1, h2, .inl (.inl (.inl h3))⟩
  | false => exact ⟨a, vs, h1, h2, .inr h3⟩
/-- the ends of a block -/
structure DE where
  nx : List Sl → List C → Prop
  rt : Z → List C → Prop := fun _ _ => False
  bk : List Sl → List C → Prop := fun _ _ => False
  ct : List Sl → List C → Prop := fun _ _ => False
structure EndsR (K : PySem.W.Frag) (m : Nat) (D : DE) (E : Ends) (F : Hp) (As : List Addr) : Prop where
  nx : ∀ F' As' ρ' M' σ' H', Same F F' → As <+: As' → SR K F' As' ρ' σ' → HM K F' As' M' H' → D.nx ρ' M' → E.nx σ' H'
  rt : ∀ F' As' z r v M' M1 H', Same F F' → As <+: As' → SlR K F' As' r v → HM K F' As' M' H' → Zr z M1 r M' → m ≤ M1.length → D.rt z M1 → E.rt v H'
  bk : ∀ F' As' ρ' M' σ' H', Same F F' → As <+: As' → SR K F' As' ρ' σ' → HM K F' As' M' H' → D.bk ρ' M' → E.bk σ' H'
  ct : ∀ F' As' ρ' M' σ' H', Same F F' → As <+: As' → SR K F' As' ρ' σ' → HM K F' As' M' H' → D.ct ρ' M' → E.ct σ' H'
def ES (c : Ctx) (ρ : List Sl) (M : List C) (ss : List Stmt) (D : DE) : Prop := ∀ X, c.Is X → ∀ F As B σ H (E : Ends), SR c.K F As ρ σ → HM c.K F As M H → B <+: As → EndsR c.K B.length D E F B → WS X ss E σ H
theorem EndsR.mono {K : PySem.W.Frag} {m n : Nat} {D : DE} {E : Ends} {F F1 : Hp} {As Bs : List Addr} (h : EndsR K m D E F As) (s : Same F F1) (p : As <+: Bs) (hmn : m ≤ n) : EndsR K n D E F1 Bs :=
  ⟨fun F' As' ρ' M' σ' H' a b => h.nx F' As' ρ' M' σ' H' (s.trans a) (p.trans b), fun F' As' z r v M' M1 H' a b c d e f => h.rt F' As' z r v M' M1 H' (s.trans a) (p.trans b) c d e (Nat.le_trans hmn f),
   fun F' As' ρ' M' σ' H' a b => h.bk F' As' ρ' M' σ' H' (s.trans a) (p.trans b), fun F' As' ρ' M' σ' H' a b => h.ct F' As' ρ' M' σ' H' (s.trans a) (p.trans b)⟩
theorem EndsR.f {K : PySem.W.Frag} {m : Nat} {D : DE} {E : Ends} {F F1 : Hp} {As : List Addr} (h : EndsR K m D E F As) (s : Same F F1) : EndsR K m D E F1 As := h.mono s (List.prefix_refl _) (Nat.le_refl _)

/-! ### between the judgements -/
section
variable {K : PySem.W.Frag} {F F' : Hp} {As As' : List Addr} {M M' : List C} {H H' : Hp}
theorem HM.le (h : HM K F As M H) (h' : HM K F' As' M' H') (p : As <+: As') : M.length ≤ M'.length := by rw [← h.len, ← h'.len]; exact p.length_le
/-- the last cell is frozen -/
theorem HM.freeze {a : Addr} {c : C} {d : D} (h : HM K F (As ++ [a]) (M ++ [c]) H) (hf : c.frz = some d) (hr : ∀ c ∈ M, ∀ k ∈ c.refs, k < M.length) :
    ∃ F', Same F F' ∧ HM K F' As M H ∧ DV K F' d (.ref a) := by
  have hl : As.length = M.length := by have := h.len; simpa using this
  obtain ⟨F', s, hm⟩ := h.drop M.length (by simp) (by rw [List.take_left']; exact hr; rfl)
  rw [List.take_left' (l₁ := M) rfl, List.take_left' (l₁ := As) hl] at hm
  have ha : (As ++ [a])[As.length]? = some a := by simp
  obtain ⟨o, ho, hc⟩ := h.cell As.length a c ha (by rw [hl]; simp)
  have na : a ∉ As := by
    have := h.nd
    rw [List.nodup_append] at this
    exact fun z => this.2.2 a z a (by simp) rfl
  have ho' : F' a = some o := by rw [← hm.out a na]; exact ho
  refine ⟨F', s, hm, ?_⟩
  cases c with
  | lst ds =>
    cases hf
    obtain ⟨vs, rfl, hv⟩ := hc
    exact ⟨a, vs, rfl, ho', hv.mono s⟩
  | dic kvs =>
    cases hf
    obtain ⟨ws, rfl, hv⟩ := hc
    refine ⟨a, ws, rfl, ho', ?_, ?_⟩
    · clear ho ho' ha h hm
      induction hv with
      | nil => rfl
      | cons q _ ih => rw [List.map_cons, List.map_cons, ih, q.1]
    · refine dvs_paired.mpr ?_
      clear ho ho' ha h hm
      induction hv with
      | nil => exact .nil
      | cons q _ ih => exact .cons (q.2.mono s) ih
  | mls _ => cases hf
  | mdc _ => cases hf
  | ins _ _ _ => cases hf
  | dxo _ => cases hf
  | sob0 _ _ => cases hf
  | sob _ _ _ => cases hf
  | dxx => cases hf
theorem HM.refs (h : HM K F As M H) : ∀ c ∈ M, ∀ k ∈ c.refs, k < M.length := by
  intro c hc k hk
  obtain ⟨i, ei⟩ := List.mem_iff_getElem?.mp hc
  obtain ⟨a, ea⟩ := h.addr ei
  obtain ⟨o, _, hr⟩ := h.cell i a c ea ei
  rw [← h.len]
  have slt : ∀ {s : Sl} {v : V}, SlR K F As s v → ∀ k ∈ s.refs, k < As.length := fun r => r.ref_lt
  have get : ∀ {α β : Type} {R : α → β → Prop} {l : List α} {r : List β} {x : α}, Paired R l r → x ∈ l → ∃ y, R x y := by
    intro α β R l r x p hx
    induction p with
    | nil => cases hx
    | cons h1 h2 ih =>
      rcases List.mem_cons.mp hx with rfl | hx
      · exact ⟨_, h1⟩
      · exact ih hx
  cases c with
  | lst _ => cases hk
  | dic _ => cases hk
  | mls xs =>
    obtain ⟨vs, _, h2⟩ := hr
    obtain ⟨x, hx, hk⟩ := List.mem_flatMap.mp hk
    obtain ⟨y, hy⟩ := get h2 hx
    exact slt hy k hk
  | mdc xs =>
    obtain ⟨vs, _, h2⟩ := hr
    obtain ⟨x, hx, hk⟩ := List.mem_flatMap.mp hk
    obtain ⟨y, hy⟩ := get h2 hx
    exact slt hy.2 k hk
  | ins Cl j vs =>
    obtain ⟨dx, kvs, us, h0, _, h2, _⟩ := hr
    rcases List.mem_cons.mp hk with rfl | hk
    · exact (List.getElem?_eq_some_iff.mp h0).1
    · obtain ⟨x, hx, hk⟩ := List.mem_flatMap.mp hk
      obtain ⟨i, ei⟩ := List.mem_iff_getElem?.mp hx
      by_cases hu : x = .un
      · subst hu; cases hk
      · obtain ⟨v, _, g⟩ := h2.get i x ei hu
        exact slt g k hk
  | dxo j =>
    obtain ⟨a, h0, _⟩ := hr
    have : k = j := by simpa [C.refs] using hk
    subst this
    exact (List.getElem?_eq_some_iff.mp h0).1
  | sob0 Cl j =>
    obtain ⟨a, h0, _⟩ := hr
    have : k = j := by simpa [C.refs] using hk
    subst this
    exact (List.getElem?_eq_some_iff.mp h0).1
  | sob Cl j vs =>
    obtain ⟨dx, us, h0, _, h2, _⟩ := hr
    rcases List.mem_cons.mp hk with rfl | hk
    · exact (List.getElem?_eq_some_iff.mp h0).1
    · obtain ⟨x, hx, hk⟩ := List.mem_flatMap.mp hk
      obtain ⟨i, ei⟩ := List.mem_iff_getElem?.mp hx
      by_cases hu : x = .un
      · subst hu; cases hk
      · obtain ⟨v, _, g⟩ := h2.get i x ei hu
        exact slt g k hk
  | dxx => cases hk
end
end Dl
/-! X2: short syntax, what it asks -/
namespace Dl
open PySem L2

/-! ### what stands around a def -/
structure Gx where
  P : Program
  w : World
  K : PySem.W.Frag
  mg : Str → Option Value
  base : Heap
  k : Nat
abbrev Ctx.g (c : Ctx) : Gx := ⟨c.P, c.w, c.K, c.mg, c.base, c.k⟩
structure Def (g : Gx) (x : Str) (k : Nat) (sp : Sp) : Prop where
  ok : ∃ f : Addr, g.mg x = some (.ref f) ∧ PySem.W.keepIn g.K (.ref f) = true ∧ FnR g.P g.w g.K g.mg g.base CX0 k f sp
def HasD (g : Gx) (x : Str) : Prop := ∃ f : Addr, g.mg x = some (.ref f) ∧ PySem.W.keepIn g.K (.ref f) = true
theorem Def.has {g : Gx} {x : Str} {k : Nat} {sp : Sp} (h : Def g x k sp) : HasD g x := let ⟨f, a, b, _⟩ := h.ok; ⟨f, a, b⟩
/-- what follows a call, in a heap -/
def Aft (K : PySem.W.Frag) (F : Hp) (As : List Addr) (Q : Sl → List C → Prop) (G : VK) : Prop := ∀ v F' As' H' r M', Same F F' → As <+: As' → SlR K F' As' r v → HM K F' As' M' H' → Q r M' → G v H'
def zq (n : Nat) (Q : Z → List C → Prop) (r : Sl) (M' : List C) : Prop := ∃ z M1, Zr z M1 r M' ∧ n ≤ M1.length ∧ Q z M1
/-- a promise asked of slots and cells -/
def SpS (g : Gx) (sp : Sp) (rs : List Sl) (M : List C) (Q : Sl → List C → Prop) : Prop := ∀ F As H vs, HM g.K F As M H → SlRs g.K F As rs vs → ∀ G, Aft g.K F As Q G → frSp sp vs H G E0
def CallZ (g : Gx) (x : Str) (rs : List Sl) (M : List C) (Q : Z → List C → Prop) : Prop := ∃ k sp, Def g x k sp ∧ k ≤ g.k ∧ SpS g sp rs M (zq M.length Q)
def lk0 : List Sl → Nat → Sl
  | [], _ => .val .non
  | s :: _, 0 => s
  | _ :: ρ, i + 1 => lk0 ρ i
/-- keywords alone: the order of the parameters by idx -/
def permV (n : Nat) (idx : List Nat) (vs zs : List V) : List V := if vs.length = 0 ∧ zs.length = n then idx.map fun i => zs.getD i .non else []
def permU (n : Nat) (idx : List Nat) (us ws : List Value) : List Value := if us.length = 0 ∧ ws.length = n then idx.map fun i => ws.getD i .none else []
structure DefK (g : Gx) (x : Str) (k : Nat) (ks : List Str) (idx : List Nat) (sp : Sp) : Prop where
  ok : ∃ (f : Addr) (fd : FuncData) (ps : List Str), g.mg x = some (.ref f) ∧ PySem.W.keepIn g.K (.ref f) = true ∧ FnOk g.P g.w g.K g.mg g.base CX0 k f fd ps sp ∧ KBinds g.K fd ps ks (permU ks.length idx) (permV ks.length idx)
theorem DefK.has {g : Gx} {x : Str} {k : Nat} {ks : List Str} {idx : List Nat} {sp : Sp} (h : DefK g x k ks idx sp) : HasD g x := let ⟨f, _, _, a, b, _⟩ := h.ok; ⟨f, a, b⟩
def CallK (g : Gx) (x : Str) (ks : List Str) (rs : List Sl) (M : List C) (Q : Z → List C → Prop) : Prop := ∃ k idx sp, DefK g x k ks idx sp ∧ k ≤ g.k ∧ rs.length = ks.length ∧ SpS g sp (idx.map fun i => lk0 rs i) M (zq M.length Q)
/-! ### data -/
def intD : D → Int
  | .int i => i
  | _ => 0
def isI : D → Bool
  | .int _ => true
  | _ => false
def blD : D → Bool
  | .bl b => b
  | _ => false
def isB : D → Bool
  | .bl _ => true
  | _ => false
def atomD : D → Bool
  | .non => true
  | .bl _ => true
  | .int _ => true
  | .str _ => true
  | _ => false
def eqA : D → D → Bool
  | .non, .non => true
  | .bl a, .bl b => a == b
  | .bl a, .int b => (if a then 1 else 0) == b
  | .int a, .bl b => a == (if b then 1 else 0)
  | .int a, .int b => a == b
  | .str a, .str b => a == b
  | _, _ => false
def inD (x : D) (ds : List D) : Bool := ds.any fun y => eqA y x
def D.isNon : D → Bool
  | .non => true
  | _ => false
def Sl.isNon : Sl → Bool
  | .val d => d.isNon
  | _ => false
mutual
/-- no list, dict, object in it -/
def flatD : D → Bool
  | .non => true
  | .bl _ => true
  | .int _ => true
  | .str _ => true
  | .tup ds => flatDs ds
  | _ => false
def flatDs : List D → Bool
  | [] => true
  | d :: ds => flatD d && flatDs ds
end
def keyD : D → Option Key
  | .int i => some (.inl i)
  | .str x => some (.inr x)
  | _ => none
def kD : Key → D
  | .inl i => .int i
  | .inr x => .str x
def putD {α : Type} (kvs : List (Key × α)) (k : Key) (d : α) : List (Key × α) := if kvs.any (fun p => decide (p.1 = k)) then kvs.map (fun p => if p.1 = k then (p.1, d) else p) else kvs ++ [(k, d)]
def getK {α : Type} (kvs : List (Key × α)) (k : Key) : Option α := (kvs.find? fun p => decide (p.1 = k)).map (·.2)
/-- a dict that is read -/
def dq (M : List C) : Sl → Option (List (Key × D))
  | .val (.dic ks vs) => some (ks.zip vs)
  | .own k => match lkM M k with
    | some (.dic kvs) => some kvs
    | _ => none
  | _ => none
/-- a slot as data -/
def vw (M : List C) : Sl → Option D
  | .val d => some d
  | .own k => match lkM M k with
    | some c => c.frz
    | none => none
  | .un => none
def lk : List Sl → Nat → Sl
  | [], _ => .un
  | s :: _, 0 => s
  | _ :: ρ, i + 1 => lk ρ i
def pt : List Sl → Nat → Sl → List Sl
  | [], _, _ => []
  | _ :: ρ, 0, s => s :: ρ
  | x :: ρ, i + 1, s => x :: pt ρ i s
def ptM : List C → Nat → C → List C
  | [], _, _ => []
  | _ :: ρ, 0, s => s :: ρ
  | x :: ρ, i + 1, s => x :: ptM ρ i s
def clr : List Sl → List Nat → List Sl
  | ρ, [] => ρ
  | ρ, i :: is => clr (pt ρ i .un) is
theorem lk_eq : ∀ (ρ : List Sl) (i : Nat), lk ρ i ≠ .un → ρ[i]? = some (lk ρ i)
  | [], _, h => absurd rfl h
  | _ :: _, 0, _ => rfl
  | _ :: ρ, i + 1, h => by rw [List.getElem?_cons_succ]; exact lk_eq ρ i h
theorem pt_eq : ∀ (ρ : List Sl) (i : Nat) (s : Sl), pt ρ i s = ρ.set i s
  | [], _, _ => rfl
  | _ :: _, 0, _ => rfl
  | x :: ρ, i + 1, s => by show x :: pt ρ i s = _; rw [pt_eq ρ i s]; rfl
theorem ptM_eq : ∀ (ρ : List C) (i : Nat) (s : C), ptM ρ i s = ρ.set i s
  | [], _, _ => rfl
  | _ :: _, 0, _ => rfl
  | x :: ρ, i + 1, s => by show x :: ptM ρ i s = _; rw [ptM_eq ρ i s]; rfl

/-! ### operators by values -/
def binR (o : Operator) (r1 r2 : Sl) (M : List C) (Q : Z → Prop) : Prop :=
  match o with
  | .Add => match r1, r2 with
    | .val (.int i), .val (.int j) => Q (.s (.val (.int (i + j))))
    | _, _ => match sq M r1, sq M r2 with
      | some (true, xs), some (true, ys) => xs.length + ys.length ≤ 100000 ∧ Q (.n (.lst (xs ++ ys)))
      | some (false, xs), some (false, ys) => xs.length + ys.length ≤ 100000 ∧ Q (.s (.val (.tup (xs ++ ys))))
      | _, _ => False
  | .Sub => match r1, r2 with
    | .val (.int i), .val (.int j) => Q (.s (.val (.int (i - j))))
    | _, _ => False
  | .Mult => match r1, r2 with
    | .val (.int i), .val (.int j) => CMul i j ∧ Q (.s (.val (.int (i * j))))
    | _, .val (.int j) => match sq M r1 with
      | some (true, xs) => (0 ≤ j ∧ j ≤ 1000 ∧ xs.length ≤ 1000) ∧ Q (.n (.lst (List.replicate j.toNat xs).flatten))
      | _ => False
    | _, _ => False
  | .FloorDiv => match r1, r2 with
    | .val (.int i), .val (.int j) => CDiv i j ∧ Q (.s (.val (.int (i / j))))
    | _, _ => False
  | .Mod => match r1, r2 with
    | .val (.int i), .val (.int j) => 0 < j ∧ Q (.s (.val (.int (i % j))))
    | _, _ => False
  | .Pow => match r1, r2 with
    | .val (.int i), .val (.int j) => CPow i j ∧ Q (.s (.val (.int (i ^ j.toNat))))
    | _, _ => False
  | _ => False

mutual
def toPy : D → PyData
  | .non => .none
  | .bl b => .bool b
  | .int i => .int i
  | .str x => .str x
  | .lst xs => .list (toPys xs)
  | .tup xs => .tuple (toPys xs)
  | .dic _ _ => .none
  | .slo _ _ => .none
  | .obj _ _ => .none
  | .scr _ => .none
def toPys : List D → List PyData
  | [] => []
  | x :: xs => toPy x :: toPys xs
end
mutual
def plain : Nat → D → Bool
  | _, .non => true
  | _, .bl _ => true
  | _, .int _ => true
  | _, .str x => PyData.strOk x
  | 0, .lst _ => false
  | 0, .tup _ => false
  | n + 1, .lst xs => decide (xs.length ≤ 1000) && plains n xs
  | n + 1, .tup xs => decide (xs.length ≤ 1000) && plains n xs
  | _, .dic _ _ => false
  | _, .slo _ _ => false
  | _, .obj _ _ => false
  | _, .scr _ => false
def plains : Nat → List D → Bool
  | _, [] => true
  | n, x :: xs => plain n x && plains n xs
end
def eqD (d d' : D) : Bool := PyData.eqv (toPy d) (toPy d')
def eqR (r1 r2 : Sl) (M : List C) (Q : Bool → Prop) : Prop :=
  match r1, r2 with
  | .val (.int i), .val (.int j) => Q (decide (i = j))
  | .val (.bl i), .val (.bl j) => Q (i == j)
  | .val (.str i), .val (.str j) => Q (decide (i = j))
  | _, _ => match vw M r1, vw M r2 with
    | some d, some d' => (plain 60 d = true ∧ plain 60 d' = true) ∧ Q (eqD d d')
    | _, _ => False
def inR (r1 r2 : Sl) (M : List C) (Q : Bool → Prop) : Prop :=
  match r1 with
  | .val d => match sq M r2 with
    | some (_, ds) => (atomD d = true ∧ ds.all atomD = true) ∧ Q (inD d ds)
    | none => match dq M r2, keyD d with
      | some kvs, some k => Q (getK kvs k).isSome
      | _, _ => False
  | _ => False
def cmpR (o : CmpOp) (r1 r2 : Sl) (M : List C) (Q : Bool → Prop) : Prop :=
  match o with
  | .Lt => match r1, r2 with
    | .val (.int i), .val (.int j) => Q (decide (i < j))
    | _, _ => False
  | .LtE => match r1, r2 with
    | .val (.int i), .val (.int j) => Q (decide (i ≤ j))
    | _, _ => False
  | .Gt => match r1, r2 with
    | .val (.int i), .val (.int j) => Q (decide (j < i))
    | _, _ => False
  | .GtE => match r1, r2 with
    | .val (.int i), .val (.int j) => Q (decide (j ≤ i))
    | _, _ => False
  | .Eq => eqR r1 r2 M Q
  | .NotEq => eqR r1 r2 M fun b => Q (!b)
  | .Is => match r1, r2 with
    | .un, _ => False
    | _, .val .non => Q r1.isNon
    | _, _ => False
  | .IsNot => match r1, r2 with
    | .un, _ => False
    | _, .val .non => Q (!r1.isNon)
    | _, _ => False
  | .In => inR r1 r2 M Q
  | .NotIn => inR r1 r2 M fun b => Q (!b)

/-! ### built-ins by values -/
/-- lo, lo + 1, .., n of them -/
def rng (lo : Int) (n : Nat) : List Int := (List.range n).map fun (i : Nat) => lo + (i : Int)
def rngD (hi : Int) (n : Nat) : List Int := (List.range n).map fun (i : Nat) => hi + (i : Int) * (-1)
def insI (x : Int) : List Int → List Int
  | [] => [x]
  | y :: ys => if x ≤ y then x :: y :: ys else y :: insI x ys
def isort : List Int → List Int
  | [] => []
  | x :: xs => insI x (isort xs)
def insU (x : Int) : List Int → List Int
  | [] => [x]
  | y :: ys => if x < y then x :: y :: ys else if x = y then y :: ys else y :: insU x ys
def sset : List Int → List Int
  | [] => []
  | x :: xs => insU x (sset xs)
def maxL : List Int → Int
  | [] => 0
  | [x] => x
  | x :: y :: r => max x (maxL (y :: r))
def minL : List Int → Int
  | [] => 0
  | [x] => x
  | x :: y :: r => min x (minL (y :: r))
inductive Fb where
  | len | abs | int | tuple | list | sorted | all | any | sum | max | min | sset | lrange
  deriving DecidableEq
def biR (b : Fb) (rs : List Sl) (M : List C) (Q : Z → Prop) : Prop :=
  match b with
  | .len => match rs with
    | [r] => match sq M r with
      | some (_, ds) => Q (.s (.val (.int ds.length)))
      | none => match dq M r with
        | some kvs => Q (.s (.val (.int kvs.length)))
        | none => False
    | _ => False
  | .abs => match rs with
    | [.val (.int i)] => Q (.s (.val (.int (if i < 0 then -i else i))))
    | _ => False
  | .int => match rs with
    | [.val (.int i)] => Q (.s (.val (.int i)))
    | [.val (.bl t)] => Q (.s (.val (.int (if t then 1 else 0))))
    | _ => False
  | .tuple => match rs with
    | [r] => match sq M r with
      | some (_, ds) => Q (.s (.val (.tup ds)))
      | none => False
    | _ => False
  | .list => match rs with
    | [r] => match sq M r with
      | some (_, ds) => Q (.n (.lst ds))
      | none => match dq M r with
        | some kvs => kvs.length ≤ 1000 ∧ Q (.n (.lst (kvs.map fun p => kD p.1)))
        | none => False
    | _ => False
  | .sorted => match rs with
    | [r] => match sq M r with
      | some (true, ds) => ds.all isI = true ∧ Q (.n (.lst ((isort (ds.map intD)).map D.int)))
      | some (false, ds) => False
      | none => match dq M r with
        | some kvs => ((kvs.map fun p => kD p.1).all isI = true ∧ kvs.length < 64) ∧ Q (.n (.lst ((isort (kvs.map fun p => intD (kD p.1))).map D.int)))
        | none => False
    | _ => False
  | .all => match rs with
    | [r] => match sq M r with
      | some (true, ds) => ds.all isB = true ∧ Q (.s (.val (.bl (ds.all blD))))
      | _ => False
    | _ => False
  | .any => match rs with
    | [r] => match sq M r with
      | some (true, ds) => ds.all isB = true ∧ Q (.s (.val (.bl (ds.any blD))))
      | _ => False
    | _ => False
  | .sum => match rs with
    | [r] => match sq M r with
      | some (true, ds) => ds.all isI = true ∧ Q (.s (.val (.int (ds.map intD).sum)))
      | _ => False
    | _ => False
  | .max => match rs with
    | [.val (.int i), .val (.int j)] => Q (.s (.val (.int (Max.max i j))))
    | [r] => match sq M r with
      | some (true, ds) => (ds.all isI = true ∧ 0 < ds.length) ∧ Q (.s (.val (.int (maxL (ds.map intD)))))
      | _ => False
    | _ => False
  | .min => match rs with
    | [.val (.int i), .val (.int j)] => Q (.s (.val (.int (Min.min i j))))
    | [r] => match sq M r with
      | some (true, ds) => (ds.all isI = true ∧ 0 < ds.length) ∧ Q (.s (.val (.int (minL (ds.map intD)))))
      | _ => False
    | _ => False
  | .sset => match rs with
    | [r] => match sq M r with
      | some (_, ds) => (ds.all isI = true ∧ ds.length < 64) ∧ Q (.n (.lst ((sset (ds.map intD)).map D.int)))
      | none => False
    | _ => False
  | .lrange => match rs with
    | [.val (.int i)] => (-100000 ≤ i ∧ i ≤ 100000) ∧ Q (.n (.lst ((rng 0 i.toNat).map D.int)))
    | [.val (.int i), .val (.int j)] => (-100000 ≤ i ∧ i ≤ 100000 ∧ -100000 ≤ j ∧ j ≤ 100000) ∧ Q (.n (.lst ((rng i (j - i).toNat).map D.int)))
    | _ => False
/-- x[i] -/
def ixR (r1 r2 : Sl) (M : List C) (Q : Sl → Prop) : Prop :=
  match r2 with
  | .val d => match sq M r1 with
    | some (_, ds) => match d with
      | .int i => match atI ds i with
        | some x => Q (.val x)
        | none => False
      | _ => False
    | none => match keyD d with
      | none => False
      | some k => match r1 with
        | .own j => match lkM M j with
          | some (.dic kvs) => match getK kvs k with
            | some x => Q (.val x)
            | none => False
          | some (.mdc kvs) => match getK kvs k with
            | some x => Q x
            | none => False
          | some (.mls xs) => match d with
            | .int i => match atI xs i with
              | some x => Q x
              | none => False
            | _ => False
          | _ => False
        | .val (.dic ks vs) => match getK (ks.zip vs) k with
          | some x => Q (.val x)
          | none => False
        | _ => False
  | _ => False
def cutL {α : Type} (xs : List α) (lo hi : Option Int) : List α := (xs.drop (HT.sIx xs.length 0 lo)).take (HT.sIx xs.length xs.length hi - HT.sIx xs.length 0 lo)
/-- isinstance -/
def kindD : D → String
  | .non => "NoneType"
  | .bl _ => "bool"
  | .int _ => "int"
  | .str _ => "str"
  | .lst _ => "list"
  | .tup _ => "tuple"
  | .dic _ _ => "dict"
  | _ => "?"
def isA (k t : String) : Bool := (k == t) || (k == "bool" && t == "int")

/-! ### the short syntax -/
mutual
inductive E where
  | v (i : Nat)
  | k (d : D)
  | g (x : Str) (d : D)
  | bin (o : Operator) (a b : E)
  | neg (a : E)
  | cmp (o : CmpOp) (a b : E)
  | cmp2 (o o' : CmpOp) (a b c : E)
  | not (a : E)
  | and (a b : E)
  | or (a b : E)
  | ife (t : Te) (a b : E)
  | tup (as : Es)
  | lst (as : Es)
  | dct (ps : Es)
  | orl (a b : E)
  | lstM (as : Es)
  | bad
  | ix (a i : E)
  | cut (a : E) (lo hi : Eo)
  | rev (a : E)
  | fld (a : E) (c i : Nat)
  | bi (b : Fb) (as : Es)
  | isi (a : E) (ts : List String)
  | lenO (n : Nat) (a : E)
  | call (n : Nat) (x : Str) (as : Es)
  | callk (n : Nat) (x : Str) (ks : List Str) (idx : List Nat) (as : Es)
  | meth (n : Nat) (a : E) (c : Nat) (m : Str) (as : Es)
  | make (n : Nat) (x : Str) (as : Es)
  | mt (a : E) (m : Mth) (as : Es)
  | lc (gs : Gs) (own : List Nat)
  | dc (gs : Gs) (own : List Nat)
  | own (a : E)
  | lend (a : E)
  | scope (a : E)
inductive Es where
  | nil | cons (e : E) (es : Es) | star (e : E) (es : Es)
inductive Eo where
  | none | some (e : E)
inductive It where
  | e (a : E) | r1 (a : E) | r2 (a b : E) | rd (a b : E) | en (a : E) | zp (a b : E) | items (a : E) | vals (a : E)
inductive Gs where
  | last (tg : Tg) (it : It) (ifs : Tl) (elt : E)
  | dlast (tg : Tg) (it : It) (ifs : Tl) (ke ve : E)
  | cons (tg : Tg) (it : It) (ifs : Tl) (gs : Gs)
inductive Te where
  | e (a : E) | not (t : Te) | and (t u : Te) | or (t u : Te) | cmp (o : CmpOp) (a b : E)
inductive Tl where
  | nil | one (t : Te)
inductive Tg where
  | n (i : Nat) | t (is : List Nat)
inductive Mth where
  | append | extend | pop | remove | get1 | get2 | update
end
def Gs.ix1 : Gs → List Nat
  | .last (.n i) _ _ _ => [i]
  | .last (.t is) _ _ _ => is
  | .dlast (.n i) _ _ _ _ => [i]
  | .dlast (.t is) _ _ _ _ => is
  | .cons (.n i) _ _ _ => [i]
  | .cons (.t is) _ _ _ => is
def pairsR : List Sl → Option (List (Key × Sl))
  | [] => some []
  | .val d :: s :: rs => match keyD d, pairsR rs with
    | some k, some kvs => some ((k, s) :: kvs)
    | _, _ => none
  | _ => none
def valsK : List (Key × Sl) → Option (List (Key × D))
  | [] => some []
  | (k, .val d) :: r => match valsK r with
    | some kvs => some ((k, d) :: kvs)
    | none => none
  | _ => none
def mergeD {α : Type} (acc : List (Key × α)) (kvs : List (Key × α)) : List (Key × α) := kvs.foldl (fun a p => putD a p.1 p.2) acc
/-- a dict display -/
def kvC (kvs : List (Key × Sl)) : C :=
  match valsK kvs with
  | some l => .dic (mergeD [] l)
  | none => .mdc (mergeD [] kvs)
def bindT (tg : Tg) (d : D) (ρ : List Sl) (Q : List Sl → Prop) : Prop :=
  match tg with
  | .n i => Q (pt ρ i (.val d))
  | .t [i, j] => match d with
    | .tup [x, y] => Q (pt (pt ρ i (.val x)) j (.val y))
    | _ => False
  | .t _ => False
/-- methods of lists and dicts; Q of the result and the cells -/
def mtR (m : Mth) (r : Sl) (rs : List Sl) (M : List C) (Q : Z → List C → Prop) : Prop :=
  match m with
  | .append => match r, rs with
    | .own k, [.val d] => match lkM M k with
      | some (.lst ds) => ds.length < 100000 ∧ Q (.s (.val .non)) (ptM M k (.lst (ds ++ [d])))
      | _ => False
    | _, _ => False
  | .extend => match r, rs with
    | .own k, [s] => match lkM M k, sq M s with
      | some (.lst ds), some (true, xs) => ds.length + xs.length < 100000 ∧ Q (.s (.val .non)) (ptM M k (.lst (ds ++ xs)))
      | _, _ => False
    | _, _ => False
  | .pop => match r, rs with
    | .own k, [] => match lkM M k with
      | some (.lst ds) => ∃ xs d, ds = xs ++ [d] ∧ Q (.s (.val d)) (ptM M k (.lst xs))
      | _ => False
    | _, _ => False
  | .remove => match r, rs with
    | .own k, [.val (.int i)] => match lkM M k with
      | some (.lst ds) => (ds.all isI = true ∧ i ∈ ds.map intD) ∧ Q (.s (.val .non)) (ptM M k (.lst (((ds.map intD).erase i).map D.int)))
      | _ => False
    | _, _ => False
  | .get1 => match r, rs with
    | r, [.val d] => match dq M r, keyD d with
      | some kvs, some kk => match getK kvs kk with
        | some x => Q (.s (.val x)) M
        | none => Q (.s (.val .non)) M
      | _, _ => False
    | _, _ => False
  | .get2 => match r, rs with
    | r, [.val d, s] => match dq M r, keyD d with
      | some kvs, some kk => match getK kvs kk with
        | some x => Q (.s (.val x)) M
        | none => s ≠ .un ∧ Q (.s s) M
      | _, _ => False
    | _, _ => False
  | _ => False
def Mth.isL : Mth → Bool
  | .append => true
  | .extend => true
  | .pop => true
  | .remove => true
  | _ => false
/-- of which kind the receiver is -/
def mtOk (m : Mth) (r : Sl) (M : List C) : Bool :=
  match r with
  | .own k => match lkM M k with
    | some (.lst _) => m.isL
    | some (.mls _) => m.isL
    | some (.dic _) => !m.isL
    | some (.mdc _) => !m.isL
    | _ => false
  | .val (.dic _ _) => !m.isL
  | _ => false
/-- a comprehension over the items ds -/
def lcW (f : D → List C → (List D → List C → Prop) → Prop) (ok : List C → Prop) : List D → List D → List C → (List D → List C → Prop) → Prop
  | [], acc, M, Q => Q acc M
  | d :: ds, acc, M, Q => f d M fun out M' => ok M' ∧ lcW f ok ds (acc ++ out) M' Q
def dcW (f : D → List C → (List (Key × D) → List C → Prop) → Prop) (ok : List C → Prop) : List D → List (Key × D) → List C → (List (Key × D) → List C → Prop) → Prop
  | [], acc, M, Q => Q acc M
  | d :: ds, acc, M, Q => f d M fun out M' => ok M' ∧ dcW f ok ds (out.foldl (fun a p => putD a p.1 p.2) acc) M' Q
def slOk : Sl → Bool
  | .un => false
  | _ => true
def vws (M : List C) : List Sl → Option (List D)
  | [] => some []
  | s :: r => match vw M s, vws M r with
    | some d, some ds => some (d :: ds)
    | _, _ => none
/-- a cell as data, lists of lists too -/
def frz2 (M : List C) : C → Option D
  | .mls xs => match vws M xs with
    | some ds => some (.lst ds)
    | none => none
  | c => c.frz
def lendS (M : List C) : Sl → Sl
  | .own k => match lkM M k with
    | some c => match frz2 M c with
      | some d => .val d
      | none => .un
    | none => .un
  | s => s
def lendR (z : Z) (M : List C) (Q : Z → List C → Prop) : Prop :=
  match z with
  | .s (.val d) => flatD d = true ∧ Q (.s (.val d)) M
  | .n (.lst ds) => flatDs ds = true ∧ Q (.n (.lst ds)) M
  | _ => False
/-! ### attributes, methods, making, by facts of the text -/
/-- x.f -/
def fldR (M : List C) (c i : Nat) (r : Sl) : Option Sl :=
  match r with
  | .val (.slo c' ds) => match Nat.beq c' c with
    | true => match lkA ds i with
      | some d => some (.val d)
      | none => none
    | false => none
  | .val (.obj c' ds) => match Nat.beq c' c with
    | true => match lkA ds i with
      | some d => some (.val d)
      | none => none
    | false => none
  | .own k => match lkM M k with
    | some (.sob c' j vs) => match Nat.beq c' c, lkM M j with
      | true, some .dxx => lkA vs i
      | _, _ => none
    | some (.ins c' j vs) => match Nat.beq c' c with
      | true => lkA vs i
      | false => none
    | _ => none
  | _ => none
def fNm (c i : Nat) (f : Str) : Prop := sltAt c i = some f ∨ fldAt c i = some f
def putSl (i : Nat) (r : Sl) (vs : List Sl) : List Sl := (vs ++ List.replicate (i + 1 - vs.length) Sl.un).set i r
/-- x.f = r -/
def setfM (M : List C) (c i : Nat) (r : Sl) (t : Sl) : Option (List C) :=
  match t with
  | .own k => match lkM M k with
    | some (.sob0 c' j) => match Nat.beq c' c, Nat.beq k j with
      | true, false => some (ptM (ptM M j .dxx) k (.sob c' j (putSl i r [])))
      | _, _ => none
    | some (.sob c' j vs) => match Nat.beq c' c, Nat.beq k j, lkM M j with
      | true, false, some .dxx => some (ptM (ptM M j .dxx) k (.sob c' j (putSl i r vs)))
      | _, _, _ => none
    | some (.ins c' j vs) => match Nat.beq c' c with
      | true => some (ptM M k (.ins c' j (putSl i r vs)))
      | false => none
    | _ => none
  | _ => none
/-- a method of a class -/
structure DefM (g : Gx) (c : Nat) (m : Str) (k : Nat) (sp : Sp) : Prop where
  nf : m ∉ clsFlds c
  ok : ∃ f : Addr, Meth g.K (clsAt g.K c) m f ∧ FnR g.P g.w g.K g.mg g.base CX0 k f sp
/-- the class of a receiver -/
def recvC (M : List C) (r : Sl) : Option Nat :=
  match r with
  | .val (.slo c _) => some c
  | .val (.obj c _) => some c
  | .own k => match lkM M k with
    | some (.sob c j _) => match lkM M j with
      | some .dxx => some c
      | _ => none
    | some (.ins c _ _) => some c
    | _ => none
  | _ => none
def HasM (g : Gx) (c : Nat) (m : Str) : Prop := m ∉ clsFlds c ∧ ∃ f : Addr, Meth g.K (clsAt g.K c) m f
theorem DefM.has {g : Gx} {c : Nat} {m : Str} {k : Nat} {sp : Sp} (h : DefM g c m k sp) : HasM g c m := let ⟨f, a, _⟩ := h.ok; ⟨h.nf, f, a⟩
def MethZ (g : Gx) (c : Nat) (m : Str) (rs : List Sl) (M : List C) (Q : Z → List C → Prop) : Prop := ∃ k sp, DefM g c m k sp ∧ k ≤ g.k ∧ SpS g sp rs M (zq M.length Q)
/-- len by an own __len__ -/
structure DefL (g : Gx) (c : Nat) (k : Nat) (sp : Sp) : Prop where
  ok : ∃ f : Addr, PySem.W.findIn g.K (.ref (clsAt g.K c)) "__len__" = some (some (.ref f)) ∧ PySem.W.isFn g.K (.ref f) = true ∧ FnR g.P g.w g.K g.mg g.base CX0 k f sp
def LenZ (g : Gx) (r : Sl) (M : List C) (Q : Z → List C → Prop) : Prop := ∃ c ds k sp, r = .val (.slo c ds) ∧ DefL g c k sp ∧ k + 1 ≤ g.k ∧ SpS g sp [r] M fun r' M' => ∃ i : Int, r' = .val (.int i) ∧ 0 ≤ i ∧ i < 2 ^ 63 ∧ M' = M ∧ Q (.s (.val (.int i))) M
def HasC (g : Gx) (x : Str) : Prop := ∃ C f, g.mg x = some (.ref C) ∧ Mk g.K C f
/-- a class and its __init__ -/
structure DefI (g : Gx) (x : Str) (C : Addr) (k : Nat) (sp : Sp) : Prop where
  ok : ∃ f : Addr, g.mg x = some (.ref C) ∧ Mk g.K C f ∧ FnR g.P g.w g.K g.mg g.base CX0 k f sp
theorem DefI.has {g : Gx} {x : Str} {C : Addr} {k : Nat} {sp : Sp} (h : DefI g x C k sp) : HasC g x := let ⟨f, a, b, _⟩ := h.ok; ⟨C, f, a, b⟩
def MakeZ (g : Gx) (x : Str) (rs : List Sl) (M : List C) (Q : Z → List C → Prop) : Prop := ∃ C k sp, DefI g x C k sp ∧ k + 1 ≤ g.k ∧ ∀ F As H vs, HM g.K F As M H → SlRs g.K F As rs vs → ∀ G, Aft g.K F As (zq M.length Q) G → ∀ a dx, H a = none → H dx = none → dx ≠ a → frSp sp (.ref a :: vs) (upd (upd H dx (.own a)) a (.ins C dx [])) (fun v H' => v = .non ∧ G (.ref a) H') E0
def GlobS (g : Gx) (x : Str) (d : D) : Prop := ∃ u, g.mg x = some u ∧ ∀ F, ∃ v, RelV v u ∧ DV g.K F d v
mutual
def wpR (g : Gx) : E → List Sl → List C → (Z → List C → Prop) → Prop
  | .v i, ρ, M, Q => match lk ρ i with
    | .val d => Q (.s (.val d)) M
    | .own k => Q (.s (.own k)) M
    | .un => False
  | .k d, _, M, Q => Q (.s (.val d)) M
  | .g x d, _, M, Q => GlobS g x d ∧ Q (.s (.val d)) M
  | .bin o a b, ρ, M, Q => wpR g a ρ M fun z M1 => z.fz M1 fun r1 M1 => wpR g b ρ M1 fun z M2 => z.fz M2 fun r2 M2 => binR o r1 r2 M2 fun z => Q z M2
  | .neg a, ρ, M, Q => wpR g a ρ M fun z M1 => z.fz M1 fun r M1 => match r with
    | .val (.int i) => Q (.s (.val (.int (-i)))) M1
    | _ => False
  | .cmp o a b, ρ, M, Q => wpR g a ρ M fun z M1 => z.fz M1 fun r1 M1 => wpR g b ρ M1 fun z M2 => z.fz M2 fun r2 M2 => cmpR o r1 r2 M2 fun t => Q (.s (.val (.bl t))) M2
  | .cmp2 o o' a b c, ρ, M, Q => wpR g a ρ M fun z M1 => z.fz M1 fun r1 M1 => wpR g b ρ M1 fun z M2 => z.fz M2 fun r2 M2 => cmpR o r1 r2 M2 fun t =>
      (t = true → wpR g c ρ M2 fun z M3 => z.fz M3 fun r3 M3 => cmpR o' r2 r3 M3 fun t => Q (.s (.val (.bl t))) M3) ∧ (t = false → Q (.s (.val (.bl false))) M2)
  | .not a, ρ, M, Q => wpR g a ρ M fun z M1 => z.fz M1 fun r M1 => match r with
    | .val (.bl t) => Q (.s (.val (.bl (!t)))) M1
    | _ => False
  | .and a b, ρ, M, Q => wpR g a ρ M fun z M1 => z.fz M1 fun r M1 => match r with
    | .val (.bl t) => (t = true → wpR g b ρ M1 Q) ∧ (t = false → Q (.s (.val (.bl false))) M1)
    | _ => False
  | .or a b, ρ, M, Q => wpR g a ρ M fun z M1 => z.fz M1 fun r M1 => match r with
    | .val (.bl t) => (t = false → wpR g b ρ M1 Q) ∧ (t = true → Q (.s (.val (.bl true))) M1)
    | _ => False
  | .ife t a b, ρ, M, Q => wpT g t ρ M fun t M1 => (t = true → wpR g a ρ M1 Q) ∧ (t = false → wpR g b ρ M1 Q)
  | .tup as, ρ, M, Q => wpA g as ρ M fun rs M1 => ∃ ds : List D, rs = ds.map .val ∧ ds.length ≤ 100000 ∧ Q (.s (.val (.tup ds))) M1
  | .lst as, ρ, M, Q => wpA g as ρ M fun rs M1 => ∃ ds : List D, rs = ds.map .val ∧ ds.length ≤ 100000 ∧ Q (.n (.lst ds)) M1
  | .dct ps, ρ, M, Q => wpA g ps ρ M fun rs M1 => ∃ kvs, pairsR rs = some kvs ∧ kvs.length ≤ 15 ∧ Q (.n (kvC kvs)) M1
  | .lstM as, ρ, M, Q => wpA g as ρ M fun rs M1 => (rs.length ≤ 100000 ∧ rs.all slOk = true) ∧ Q (.n (.mls rs)) M1
  | .orl a b, ρ, M, Q => wpR g a ρ M fun z M1 => match z with
    | .n (.lst (d :: ds)) => Q (.n (.lst (d :: ds))) M1
    | .n (.lst []) => wpR g b ρ M1 Q
    | _ => False
  | .bad, _, _, _ => False
  | .ix a i, ρ, M, Q => wpR g a ρ M fun z M1 => z.fz M1 fun r1 M1 => wpR g i ρ M1 fun z M2 => z.fz M2 fun r2 M2 => ixR r1 r2 M2 fun r => Q (.s r) M2
  | .cut a lo hi, ρ, M, Q => wpR g a ρ M fun z M1 => z.fz M1 fun r M1 => wpO g lo ρ M1 fun lo M2 => wpO g hi ρ M2 fun hi M3 => match sq M3 r with
    | some (true, ds) => Q (.n (.lst (cutL ds lo hi))) M3
    | some (false, ds) => Q (.s (.val (.tup (cutL ds lo hi)))) M3
    | none => match r with
      | .val (.scr ns) => Q (.n (.lst ((cutL ns lo hi).map D.int))) M3
      | _ => False
  | .rev a, ρ, M, Q => wpR g a ρ M fun z M1 => z.fz M1 fun r M1 => match sq M1 r with
    | some (true, ds) => Q (.n (.lst ds.reverse)) M1
    | _ => False
  | .fld a c i, ρ, M, Q => wpR g a ρ M fun z M1 => z.fz M1 fun r M1 => match fldR M1 c i r with
    | some .un => False
    | some r => Q (.s r) M1
    | none => False
  | .bi b as, ρ, M, Q => wpA g as ρ M fun rs M1 => biR b rs M1 fun z => Q z M1
  | .isi a ts, ρ, M, Q => wpR g a ρ M fun z M1 => z.fz M1 fun r M1 => match vw M1 r with
    | some d => kindD d ≠ "?" ∧ Q (.s (.val (.bl (ts.any fun t => isA (kindD d) t)))) M1
    | none => False
  | .lenO _ a, ρ, M, Q => wpR g a ρ M fun z M1 => z.fz M1 fun r M1 => LenZ g r M1 Q
  | .call _ x as, ρ, M, Q => HasD g x ∧ wpA g as ρ M fun rs M1 => CallZ g x rs M1 Q
  | .callk _ x ks _ as, ρ, M, Q => HasD g x ∧ wpA g as ρ M fun rs M1 => CallK g x ks rs M1 Q
  | .meth _ a c m as, ρ, M, Q => wpR g a ρ M fun z M1 => z.fz M1 fun r M1 => recvC M1 r = some c ∧ HasM g c m ∧ wpA g as ρ M1 fun rs M2 => MethZ g c m (r :: rs) M2 Q
  | .make _ x as, ρ, M, Q => HasC g x ∧ wpA g as ρ M fun rs M1 => MakeZ g x rs M1 Q
  | .mt a m as, ρ, M, Q => wpR g a ρ M fun z M1 => z.fz M1 fun r M1 => mtOk m r M1 = true ∧ wpA g as ρ M1 fun rs M2 => mtR m r rs M2 Q
  | .lc gs own, ρ, M, Q => wpG g gs (clr ρ own) M fun out M1 => Q (.n (.lst out)) M1
  | .dc gs own, ρ, M, Q => wpD g gs (clr ρ own) M fun out M1 => Q (.n (.dic out)) M1
  | .own a, ρ, M, Q => wpR g a ρ M fun z M1 => match z with
    | .n c => Q (.s (.own M1.length)) (M1 ++ [c])
    | .s _ => False
  | .lend a, ρ, M, Q => wpR g a (ρ.map (lendS M)) [] fun z _ => lendR z M Q
  | .scope a, ρ, M, Q => wpR g a ρ M fun z M1 => z.fz M1 fun r M1 => match r with
    | .val d => (M.length ≤ M1.length ∧ ∀ c ∈ M1.take M.length, ∀ k ∈ c.refs, k < M.length) ∧ Q (.s (.val d)) (M1.take M.length)
    | _ => False
def wpT (g : Gx) : Te → List Sl → List C → (Bool → List C → Prop) → Prop
  | .not a, ρ, M, Q => wpT g a ρ M fun t M1 => Q (!t) M1
  | .and a b, ρ, M, Q => wpT g a ρ M fun t M1 => (t = true → wpT g b ρ M1 Q) ∧ (t = false → Q false M1)
  | .or a b, ρ, M, Q => wpT g a ρ M fun t M1 => (t = false → wpT g b ρ M1 Q) ∧ (t = true → Q true M1)
  | .cmp o a b, ρ, M, Q => wpR g a ρ M fun z M1 => z.fz M1 fun r1 M1 => wpR g b ρ M1 fun z M2 => z.fz M2 fun r2 M2 => cmpR o r1 r2 M2 fun t => Q t M2
  | .e a, ρ, M, Q => wpR g a ρ M fun z M1 => z.fz M1 fun r M1 => match r with
    | .val (.bl t) => Q t M1
    | _ => False
def wpA (g : Gx) : Es → List Sl → List C → (List Sl → List C → Prop) → Prop
  | .nil, _, M, Q => Q [] M
  | .cons e es, ρ, M, Q => wpR g e ρ M fun z M1 => z.fz M1 fun r M1 => wpA g es ρ M1 fun rs M2 => Q (r :: rs) M2
  | .star e es, ρ, M, Q => wpR g e ρ M fun z M1 => z.fz M1 fun r M1 => match sq M1 r with
    | some (_, ds) => wpA g es ρ M1 fun rs M2 => Q (ds.map .val ++ rs) M2
    | none => False
def wpO (g : Gx) : Eo → List Sl → List C → (Option Int → List C → Prop) → Prop
  | .none, _, M, Q => Q none M
  | .some e, ρ, M, Q => wpR g e ρ M fun z M1 => z.fz M1 fun r M1 => match r with
    | .val (.int i) => Q (some i) M1
    | _ => False
/-- what is walked: the items, and the cells that must stay meanwhile -/
def wpI (g : Gx) : It → List Sl → List C → (List D → List Nat → List C → Prop) → Prop
  | .e a, ρ, M, Q => wpR g a ρ M fun z M1 => z.fz M1 fun r M1 => match sq M1 r with
    | some (_, ds) => Q ds r.refs M1
    | none => False
  | .r1 a, ρ, M, Q => wpR g a ρ M fun z M1 => z.fz M1 fun r M1 => match r with
    | .val (.int i) => (-100000 ≤ i ∧ i ≤ 100000) ∧ Q ((rng 0 i.toNat).map D.int) [] M1
    | _ => False
  | .r2 a b, ρ, M, Q => wpR g a ρ M fun z M1 => z.fz M1 fun r1 M1 => wpR g b ρ M1 fun z M2 => z.fz M2 fun r2 M2 => match r1, r2 with
    | .val (.int i), .val (.int j) => (-100000 ≤ i ∧ i ≤ 100000 ∧ -100000 ≤ j ∧ j ≤ 100000) ∧ Q ((rng i (j - i).toNat).map D.int) [] M2
    | _, _ => False
  | .rd a b, ρ, M, Q => wpR g a ρ M fun z M1 => z.fz M1 fun r1 M1 => wpR g b ρ M1 fun z M2 => z.fz M2 fun r2 M2 => match r1, r2 with
    | .val (.int i), .val (.int j) => (-100000 ≤ i ∧ i ≤ 100000 ∧ -100000 ≤ j ∧ j ≤ 100000) ∧ Q ((rngD i (i - j).toNat).map D.int) [] M2
    | _, _ => False
  | .en a, ρ, M, Q => wpR g a ρ M fun z M1 => z.fz M1 fun r M1 => match sq M1 r with
    | some (true, ds) => Q ((List.range ds.length).map fun (i : Nat) => .tup [.int i, ds.getD i .non]) r.refs M1
    | _ => False
  | .zp a b, ρ, M, Q => wpR g a ρ M fun z M1 => z.fz M1 fun r1 M1 => wpR g b ρ M1 fun z M2 => z.fz M2 fun r2 M2 => match sq M2 r1, sq M2 r2 with
    | some (true, xs), some (true, ys) => Q ((List.range (min xs.length ys.length)).map fun (i : Nat) => .tup [xs.getD i .non, ys.getD i .non]) (r1.refs ++ r2.refs) M2
    | some (false, xs), some (false, ys) => Q ((List.range (min xs.length ys.length)).map fun (i : Nat) => .tup [xs.getD i .non, ys.getD i .non]) [] M2
    | _, _ => False
  | .items a, ρ, M, Q => False
  | .vals a, ρ, M, Q => False
def wpG (g : Gx) : Gs → List Sl → List C → (List D → List C → Prop) → Prop
  | .last tg it ifs elt, ρ, M, Q => wpI g it ρ M fun ds ks M1 => ds.length ≤ 100000 ∧
      lcW (fun d M' k => bindT tg d ρ fun ρ2 => wpTs g ifs ρ2 M' fun t M2 => (t = true → wpR g elt ρ2 M2 fun z M3 => z.fz M3 fun r M3 => match r with
        | .val y => k [y] M3
        | _ => False) ∧ (t = false → k [] M2)) (fun M' => M'.length = M1.length ∧ ∀ k ∈ ks, lkM M' k = lkM M1 k) ds [] M1 Q
  | .dlast _ _ _ _ _, _, _, _ => False
  | .cons tg it ifs gs, ρ, M, Q => wpI g it ρ M fun ds ks M1 => ds.length ≤ 1000 ∧
      lcW (fun d M' k => bindT tg d ρ fun ρ2 => wpTs g ifs ρ2 M' fun t M2 => (t = true → wpG g gs (clr ρ2 gs.ix1) M2 fun out M3 => out.length ≤ 1000 ∧ k out M3) ∧ (t = false → k [] M2)) (fun M' => M'.length = M1.length ∧ ∀ k ∈ ks, lkM M' k = lkM M1 k) ds [] M1 Q
def wpD (g : Gx) : Gs → List Sl → List C → (List (Key × D) → List C → Prop) → Prop
  | .dlast tg it ifs ke ve, ρ, M, Q => wpI g it ρ M fun ds ks M1 => ds.length ≤ 100000 ∧
      dcW (fun d M' k => bindT tg d ρ fun ρ2 => wpTs g ifs ρ2 M' fun t M2 => (t = true → wpR g ke ρ2 M2 fun z M3 => z.fz M3 fun r1 M3 => wpR g ve ρ2 M3 fun z M4 => z.fz M4 fun r2 M4 => match r1, r2 with
        | .val x, .val y => match keyD x with
          | some kk => k [(kk, y)] M4
          | none => False
        | _, _ => False) ∧ (t = false → k [] M2)) (fun M' => M'.length = M1.length ∧ ∀ k ∈ ks, lkM M' k = lkM M1 k) ds [] M1 Q
  | _, _, _, _ => False
def wpTs (g : Gx) : Tl → List Sl → List C → (Bool → List C → Prop) → Prop
  | .nil, _, M, Q => Q true M
  | .one e, ρ, M, Q => wpT g e ρ M Q
end
end Dl
/-! X3: statements -/
namespace Dl
open PySem L2
mutual
inductive S where
  | asg (i : Nat) (e : E)
  | par (is : List Nat) (as : Es)
  | tgt (tg : Tg) (e : E)
  | setix (o i e : E)
  | setfld (o : E) (c i : Nat) (e : E)
  | aug (i : Nat) (o : Operator) (e : E)
  | ite (t : Te) (a b : Ss)
  | for (tg : Tg) (it : It) (b : Ss) (dead : List Nat)
  | while (t : Te) (b : Ss) (dead : List Nat)
  | ret (e : E)
  | ex (e : E)
  | pass
  | bad
inductive Ss where
  | nil | cons (s : S) (ss : Ss)
end
/-- slots that refer to dropped cells are forgotten -/
def Sl.trim (n : Nat) : Sl → Sl
  | .own k => if k < n then .own k else .un
  | s => s
def closedC (n : Nat) (c : C) : Prop := ∀ k ∈ c.refs, k < n
/-- back to the first n cells -/
def trimW (n : Nat) (dead : List Nat) (Q : List Sl → List C → Prop) (ρ : List Sl) (M : List C) : Prop := n ≤ M.length ∧ (∀ c ∈ M.take n, closedC n c) ∧ Q ((clr ρ dead).map (Sl.trim n)) (M.take n)
def forW (body : D → List Sl → List C → DE → Prop) (tr : (List Sl → List C → Prop) → List Sl → List C → Prop) (ok : List C → Prop) : List D → List Sl → List C → DE → Prop
  | [], ρ, M, Q => Q.nx ρ M
  | d :: ds, ρ, M, Q => body d ρ M { nx := tr fun ρ' M' => ok M' ∧ forW body tr ok ds ρ' M' Q, ct := tr fun ρ' M' => ok M' ∧ forW body tr ok ds ρ' M' Q, bk := Q.nx, rt := Q.rt }
def whileW (test : List Sl → List C → (Bool → List C → Prop) → Prop) (body : List Sl → List C → DE → Prop) (tr : (List Sl → List C → Prop) → List Sl → List C → Prop) (Q : DE) : Nat → List Sl → List C → Prop
  | 0, _, _ => False
  | n + 1, ρ, M => test ρ M fun t M1 => (t = true → body ρ M1 { nx := tr fun ρ' M' => whileW test body tr Q n ρ' M', ct := tr fun ρ' M' => whileW test body tr Q n ρ' M', bk := Q.nx, rt := Q.rt }) ∧ (t = false → Q.nx ρ M1)
def setR (r1 r2 : Sl) (d : Sl) (M : List C) (Q : List C → Prop) : Prop :=
  match r1 with
  | .own k => match r2 with
    | .val x => match lkM M k with
      | some (.lst ds) => match x, d with
        | .int i, .val y => match ixN ds.length i with
          | some n => Q (ptM M k (.lst (ds.set n y)))
          | none => False
        | _, _ => False
      | some (.dic kvs) => match keyD x, d with
        | some kk, .val y => kvs.length < 100000 ∧ Q (ptM M k (.dic (putD kvs kk y)))
        | _, _ => False
      | some (.mdc kvs) => match keyD x with
        | some kk => (kvs.length < 100000 ∧ d ≠ .un) ∧ Q (ptM M k (.mdc (putD kvs kk d)))
        | none => False
      | _ => False
    | _ => False
  | _ => False
def pts : List Sl → List Nat → List Sl → List Sl
  | ρ, i :: is, r :: rs => pts (pt ρ i r) is rs
  | ρ, _, _ => ρ
mutual
def wpS (g : Gx) : S → List Sl → List C → DE → Prop
  | .asg i e, ρ, M, Q => wpR g e ρ M fun z M1 => z.fz M1 fun r M1 => Q.nx (pt ρ i r) M1
  | .par is as, ρ, M, Q => wpA g as ρ M fun rs M1 => rs.length = is.length ∧ Q.nx (pts ρ is rs) M1
  | .tgt tg e, ρ, M, Q => wpR g e ρ M fun z M1 => z.fz M1 fun r M1 => match r with
    | .val d => bindT tg d ρ fun ρ' => Q.nx ρ' M1
    | _ => False
  | .setix o i e, ρ, M, Q => wpR g e ρ M fun z M1 => z.fz M1 fun r M1 => wpR g o ρ M1 fun z M2 => z.fz M2 fun r1 M2 => wpR g i ρ M2 fun z M3 => z.fz M3 fun r2 M3 => setR r1 r2 r M3 fun M4 => Q.nx ρ M4
  | .setfld o c i e, ρ, M, Q => wpR g e ρ M fun z M1 => z.fz M1 fun r M1 => wpR g o ρ M1 fun z M2 => z.fz M2 fun r1 M2 => slOk r = true ∧ match setfM M2 c i r r1 with
    | some M3 => Q.nx ρ M3
    | none => False
  | .aug i o e, ρ, M, Q => match lk ρ i with
    | .val (.int x) => wpR g e ρ M fun z M1 => z.fz M1 fun r M1 => binR o (.val (.int x)) r M1 fun z => z.fz M1 fun r M1 => Q.nx (pt ρ i r) M1
    | _ => False
  | .ite t a b, ρ, M, Q => wpT g t ρ M fun t M1 => (t = true → wpSs g a ρ M1 Q) ∧ (t = false → wpSs g b ρ M1 Q)
  | .for tg it b dead, ρ, M, Q => wpI g it ρ M fun ds ks M1 => forW (fun d ρ M Q => bindT tg d ρ fun ρ' => wpSs g b ρ' M Q) (trimW M1.length dead) (fun M' => ∀ k ∈ ks, lkM M' k = lkM M1 k) ds ((clr ρ dead).map (Sl.trim M1.length)) M1 Q
  | .while t b dead, ρ, M, Q => ∃ n, whileW (wpT g t) (wpSs g b) (trimW M.length dead) Q n ((clr ρ dead).map (Sl.trim M.length)) M
  | .ret e, ρ, M, Q => wpR g e ρ M Q.rt
  | .ex e, ρ, M, Q => wpR g e ρ M fun z M1 => z.fz M1 fun _ M1 => Q.nx ρ M1
  | .pass, ρ, M, Q => Q.nx ρ M
  | .bad, _, _, _ => False
def wpSs (g : Gx) : Ss → List Sl → List C → DE → Prop
  | .nil, ρ, M, Q => Q.nx ρ M
  | .cons s ss, ρ, M, Q => wpS g s ρ M { Q with nx := fun ρ' M' => wpSs g ss ρ' M' Q }
end
end Dl
/-! X4: the short syntax is sound: expressions -/
namespace Dl
open PySem L2
section
variable {K : PySem.W.Frag} {F F1 : Hp} {As As1 : List Addr} {M : List C} {H : Hp} {G : VK} {n m : Nat} {Q : Z → List C → Prop} {Q0 : Sl → List C → Prop} {v : V}
theorem Aft.mono (k : Aft K F As Q0 G) (s : Same F F1) (p : As <+: As1) : Aft K F1 As1 Q0 G := fun v F' As' H' r M' s' p' => k v F' As' H' r M' (s.trans s') (p.trans p')
theorem zq.mono {r : Sl} {M' : List C} (h : zq n Q r M') (hn : m ≤ n) : zq m Q r M' := let ⟨z, M1, a, b, c⟩ := h; ⟨z, M1, a, Nat.le_trans hn b, c⟩
theorem Aft.less (k : Aft K F As (zq m Q) G) (hn : m ≤ n) : Aft K F As (zq n Q) G := fun v F' As' H' r M' s p a b c => k v F' As' H' r M' s p a b (c.mono hn)
theorem fin_s {r : Sl} (k : Aft K F As (zq n Q) G) (hm : HM K F As M H) (hn : n ≤ M.length) (dv : SlR K F As r v) (q : Q (.s r) M) : G v H :=
  k v F As H r M (Same.refl _) (List.prefix_refl _) dv hm ⟨.s r, M, ⟨rfl, rfl⟩, hn, q⟩
theorem fin_val {d : D} (k : Aft K F As (zq n Q) G) (hm : HM K F As M H) (hn : n ≤ M.length) (dv : DV K F d v) (q : Q (.s (.val d)) M) : G v H := fin_s (r := .val d) k hm hn dv q
theorem fin_new {p : Addr} {c : C} {o : HO} (k : Aft K F As (zq n Q) G) (hm : HM K F As M H) (hn : n ≤ M.length) (hp : H p = none) (hc : CR K F As p c o) (q : Q (.n c) M) : G (.ref p) (upd H p o) :=
  k _ F (As ++ [p]) _ (.own M.length) _ (Same.refl _) (List.prefix_append _ _) ⟨p, by rw [← hm.len]; simp, rfl⟩ (hm.made (c := c) hp (hc.mono (Same.refl _) (List.prefix_append _ _))) ⟨.n c, M, ⟨rfl, rfl, hm.refs⟩, hn, q⟩
theorem fin_lst {p : Addr} {ds : List D} {vs : List V} (k : Aft K F As (zq n Q) G) (hm : HM K F As M H) (hn : n ≤ M.length) (hp : H p = none) (hv : DVs K F ds vs) (q : Q (.n (.lst ds)) M) : G (.ref p) (upd H p (.lst vs)) :=
  fin_new (c := .lst ds) k hm hn hp ⟨vs, rfl, hv⟩ q
theorem fin_tup {p : Addr} {ds : List D} {vs : List V} (k : Aft K F As (zq n Q) G) (hm : HM K F As M H) (hn : n ≤ M.length) (hp : H p = none) (hv : DVs K F ds vs) (q : Q (.s (.val (.tup ds))) M) : G (.ref p) (upd H p (.tup vs)) := by
  obtain ⟨_, fp⟩ := hm.fresh hp
  exact k _ _ As _ (.val (.tup ds)) M (same_new fp) (List.prefix_refl _) ⟨p, vs, rfl, .inl (.inl upd_same), hv.mono (same_new fp)⟩ (hm.laid hp) ⟨.s _, M, ⟨rfl, rfl⟩, hn, q⟩
end
section
variable {c : Ctx} {ρ : List Sl} {M : List C} {e : Expr}
/-- what is new is frozen -/
theorem EZ.ee {Q : Sl → List C → Prop} (h : EZ c ρ M e fun z M1 => z.fz M1 Q) : EE c ρ M e Q := fun X hX F As σ H sr hm G k =>
  h X hX F As σ H sr hm G fun v F' As' H' r M' s p r1 hm' ⟨z, M1, hz, hl, q⟩ => by
    cases z with
    | s r0 =>
      obtain ⟨e1, e2⟩ := hz
      subst e1; subst e2
      exact k v F' As' H' _ _ s p r1 hm' q
    | n c0 =>
      obtain ⟨e1, e2, e3⟩ := hz
      subst e1; subst e2
      obtain ⟨a, ha, rfl⟩ := r1
      have q : (match c0.frz with | some d => Q (.val d) M1 | none => False) := q
      cases ef : c0.frz with
      | none => rw [ef] at q; exact q.elim
      | some d =>
        rw [ef] at q
        have l1 := hm'.len
        obtain ⟨B, b, rfl⟩ : ∃ B b, As' = B ++ [b] := by
          have hne : As' ≠ [] := fun z => by subst z; simp at l1
          exact ⟨As'.dropLast, As'.getLast hne, (List.dropLast_concat_getLast hne).symm⟩
        have lB : B.length = M1.length := by simpa using l1
        have : a = b := by
          rw [← lB] at ha
          simpa using ha.symm
        subst this
        obtain ⟨F2, s2, hm2, dv⟩ := hm'.freeze ef e3
        refine k _ F2 B H' (.val d) M1 (s.trans s2) ?_ dv hm2 q
        refine List.prefix_of_prefix_length_le p (List.prefix_append _ _) ?_
        rw [lB, hm.len]; exact hl
def Tr (c : Ctx) (e : Expr) (x : E) : Prop := ∀ ρ M Q, wpR c.g x ρ M Q → EZ c ρ M e Q
def TrT (c : Ctx) (e : Expr) (t : Te) : Prop := ∀ ρ M Q, wpT c.g t ρ M Q → GT c ρ M e Q
def TrTs (c : Ctx) (es : List Expr) (t : Tl) : Prop := ∀ ρ M Q, wpTs c.g t ρ M Q → GTs c ρ M es Q
def TrA (c : Ctx) (es : List Expr) (as : Es) : Prop := ∀ ρ M Q, wpA c.g as ρ M Q → EA c ρ M es Q
theorem Tr.ee {x : E} (h : Tr c e x) {Q : Sl → List C → Prop} (q : wpR c.g x ρ M fun z M1 => z.fz M1 Q) : EE c ρ M e Q := (h ρ M _ q).ee
end
section
variable {c : Ctx} {a b e : Expr} {x y : E} {pos : Pos}
/-! ### atoms -/
theorem tr_v (i : Nat) {nm : Str} (hN : c.N[i]? = some nm) (hv : Vis c.sc nm) (hd : (nm == ("__debug__" : Str)) = false) (hcd : (nm == ("__classdict__" : Str)) = false) : Tr c (.Name nm pos) (.v i) := fun ρ M Q h X hX F As σ H sr hm G k => by
  cases hX with
  | mk X k0 nd calm room po =>
    have hl : lk ρ i ≠ .un ∧ Q (.s (lk ρ i)) M := by
      have h : (match lk ρ i with | .val d => Q (.s (.val d)) M | .own k => Q (.s (.own k)) M | .un => False) := h
      cases e : lk ρ i with
      | un => rw [e] at h; exact h.elim
      | val d => rw [e] at h; exact ⟨fun z => (nomatch z), h⟩
      | own d => rw [e] at h; exact ⟨fun z => (nomatch z), h⟩
    obtain ⟨v, h1, h2⟩ := sr.get i _ (lk_eq ρ i hl.1) hl.1
    exact ⟨_, pe_var hN hv hd hcd, v, h1, fin_s k hm (Nat.le_refl _) h2 hl.2⟩
theorem tr_int {i : Int} {j} : Tr c (.Constant (.int i) j pos) (.k (.int i)) := fun ρ M Q h X hX F As σ H sr hm G k => ⟨_, pe_int, fin_val (d := .int i) k hm (Nat.le_refl _) rfl h⟩
theorem tr_bl {i : Bool} {j} : Tr c (.Constant (.bool i) j pos) (.k (.bl i)) := fun ρ M Q h X hX F As σ H sr hm G k => ⟨_, pe_bl, fin_val (d := .bl i) k hm (Nat.le_refl _) rfl h⟩
theorem tr_non {j} : Tr c (.Constant .none j pos) (.k .non) := fun ρ M Q h X hX F As σ H sr hm G k => ⟨_, pe_non, fin_val (d := .non) k hm (Nat.le_refl _) rfl h⟩
theorem tr_str {i : Str} {j} : Tr c (.Constant (.str i) j pos) (.k (.str i)) := fun ρ M Q h X hX F As σ H sr hm G k => ⟨_, pe_str, fin_val (d := .str i) k hm (Nat.le_refl _) rfl h⟩
theorem tr_g {nm : Str} {d : D} (hg : Glo c nm) (hdb : (nm == ("__debug__" : Str)) = false) : Tr c (.Name nm pos) (.g nm d) := fun ρ M Q ⟨⟨u, h1, h2⟩, q⟩ X hX F As σ H sr hm G k => by
  cases hX with
  | mk X k0 nd calm room po =>
    obtain ⟨v, rv, dv⟩ := h2 F
    exact ⟨_, pe_glob hg h1 rv (hd := hdb), fin_val k hm (Nat.le_refl _) dv q⟩

/-! ### operators -/
theorem opR_any {X : Cx} {f : Value → Value → Sem Value} : OpR X f fun x y H' G' => ∃ r, OpR X f r ∧ r x y H' G' := fun pins s σ' H' x y v u Q' I rx ry ⟨r, hr, q⟩ => hr pins s σ' H' x y v u Q' I rx ry q
/-- an operator, by values -/
def OpZ (c : Ctx) (f : Value → Value → Sem Value) (r1 r2 : Sl) (M : List C) (Q : Z → Prop) : Prop := ∀ X, c.Is X → ∀ F As H x y, SlR c.K F As r1 x → SlR c.K F As r2 y → HM c.K F As M H → ∀ (n : Nat) G, n ≤ M.length → Aft c.K F As (zq n fun z M' => M' = M ∧ Q z) G → ∃ r, OpR X f r ∧ r x y H G
theorem tr_op {op : Operator} (ha : Tr c a x) (hb : Tr c b y) (ho : ∀ r1 r2 M Q, binR op r1 r2 M Q → OpZ c (binaryOp op) r1 r2 M Q) : Tr c (.BinOp a op b pos) (.bin op x y) := fun ρ M Q h X hX F As σ H sr hm G k =>
  ⟨_, pe_op opR_any pe_w pe_w, ha.ee h X hX F As σ H sr hm _ fun x F1 As1 H1 r1 M1 s1 p1 q1 hm1 h1 => hb.ee h1 X hX F1 As1 σ H1 (sr.mono s1 p1) hm1 _ fun y F2 As2 H2 r2 M2 s2 p2 q2 hm2 h2 =>
    ho r1 r2 M2 _ h2 X hX F2 As2 H2 x y (q1.mono s2 p2) q2 hm2 M.length G (Nat.le_trans (hm.le hm1 p1) (hm1.le hm2 p2)) fun v F' As' H' r M' s' p' r' hm' ⟨z, M3, z1, z2, z3, z4⟩ => k v F' As' H' r M' ((s1.trans s2).trans s') ((p1.trans p2).trans p') r' hm' ⟨z, M3, z1, z2, by subst z3; exact z4⟩⟩
end
end Dl
/-! X5: operators and comparisons by values -/
namespace Dl
open PySem L2
mutual
theorem plain_mono : ∀ {n m : Nat} {d : D}, n ≤ m → plain n d = true → plain m d = true
  | _, _, .non, _, _ => by simp [plain]
  | _, _, .bl _, _, _ => by simp [plain]
  | _, _, .int _, _, _ => by simp [plain]
  | _, _, .str _, _, h => by simpa [plain] using h
  | 0, _, .lst _, _, h => by simp [plain] at h
  | 0, _, .tup _, _, h => by simp [plain] at h
  | n + 1, 0, .lst _, l, _ => by omega
  | n + 1, 0, .tup _, l, _ => by omega
  | n + 1, m + 1, .lst xs, l, h => by simp [plain] at h ⊢; exact ⟨h.1, plains_mono (by omega) h.2⟩
  | n + 1, m + 1, .tup xs, l, h => by simp [plain] at h ⊢; exact ⟨h.1, plains_mono (by omega) h.2⟩
  | _, _, .dic _ _, _, h => by simp [plain] at h
  | _, _, .slo _ _, _, h => by simp [plain] at h
  | _, _, .obj _ _, _, h => by simp [plain] at h
  | _, _, .scr _, _, h => by simp [plain] at h
theorem plains_mono : ∀ {n m : Nat} {ds : List D}, n ≤ m → plains n ds = true → plains m ds = true
  | _, _, [], _, _ => by simp [plains]
  | _, _, d :: ds, l, h => by
    simp [plains] at h ⊢
    exact ⟨plain_mono l h.1, plains_mono l h.2⟩
end
theorem plain_items {n : Nat} {xs : List D} (h : (decide (xs.length ≤ 1000) && plains n xs) = true) : plains n xs = true := (Bool.and_eq_true_iff.mp h).2
mutual
theorem dp_of {K : PySem.W.Frag} {F H : Hp} (e : Same F H) : ∀ {n : Nat} {d : D} {v : V}, plain n d = true → DV K F d v → Dp K H v (toPy d)
  | _, .non, _, _, h => by cases (show _ = V.non from h); exact .non
  | _, .bl b, _, _, h => by cases (show _ = V.bl b from h); exact .bl b
  | _, .int i, _, _, h => by cases (show _ = V.int i from h); exact .int i
  | _, .str x, _, _, h => by cases (show _ = V.str x from h); exact .str x
  | 0, .lst _, _, p, _ => by simp [plain] at p
  | 0, .tup _, _, p, _ => by simp [plain] at p
  | n + 1, .lst xs, _, p, ⟨a, vs, e1, h1, h2⟩ => by subst e1; exact .lst (.inl (.inl (e _ _ h1))) (dps_of e (plain_items p) h2)
  | n + 1, .tup xs, _, p, ⟨a, vs, e1, h1, h2⟩ => by subst e1; exact .tup (same_t e h1) (dps_of e (plain_items p) h2)
  | _, .dic _ _, _, p, _ => by simp [plain] at p
  | _, .slo _ _, _, p, _ => by simp [plain] at p
  | _, .obj _ _, _, p, _ => by simp [plain] at p
  | _, .scr _, _, p, _ => by simp [plain] at p
theorem dps_of {K : PySem.W.Frag} {F H : Hp} (e : Same F H) : ∀ {n : Nat} {ds : List D} {vs : List V}, plains n ds = true → DVs K F ds vs → DpAll K H vs (toPys ds)
  | _, [], vs, _, h => by cases (show vs = [] from h); exact .nil
  | n, d :: ds, _, p, ⟨v, r, e1, h1, h2⟩ => by
    subst e1
    simp [plains] at p
    exact .cons (dp_of e p.1 h1) (dps_of e p.2 h2)
end
mutual
theorem lay_of : ∀ {n : Nat} {d : D}, plain n d = true → (toPy d).canLay0 = true ∧ (toPy d).depth ≤ n
  | _, .non, _ => by simp [toPy, PyData.canLay0, PyData.depth]
  | _, .bl b, _ => by simp [toPy, PyData.canLay0, PyData.depth]
  | _, .int i, _ => by simp [toPy, PyData.canLay0, PyData.depth]
  | _, .str x, p => by simp [plain] at p; simp [toPy, PyData.canLay0, PyData.depth, p]
  | 0, .lst _, p => by simp [plain] at p
  | 0, .tup _, p => by simp [plain] at p
  | n + 1, .lst xs, p => by
    have := lays_of (n := n) (ds := xs) (plain_items p)
    simp [toPy, PyData.canLay0, PyData.depth, this]
  | n + 1, .tup xs, p => by
    have := lays_of (n := n) (ds := xs) (plain_items p)
    simp [toPy, PyData.canLay0, PyData.depth, this]
  | _, .dic _ _, p => by simp [plain] at p
  | _, .slo _ _, p => by simp [plain] at p
  | _, .obj _ _, p => by simp [plain] at p
  | _, .scr _, p => by simp [plain] at p
theorem lays_of : ∀ {n : Nat} {ds : List D}, plains n ds = true → PyData.canLayAll0 (toPys ds) = true ∧ PyData.depthAll (toPys ds) ≤ n
  | _, [], _ => by simp [toPys, PyData.canLayAll0, PyData.depthAll]
  | n, d :: ds, p => by
    simp [plains] at p
    have h1 := lay_of p.1
    have h2 := lays_of p.2
    simp [toPys, PyData.canLayAll0, PyData.depthAll, h1, h2]
    omega
end
theorem shaped_of {n : Nat} {d : D} (h : plain n d = true) (hn : n ≤ 64) : SeqAt.shaped (toPy d) = true := by
  have := lay_of h
  unfold SeqAt.shaped
  rw [this.1]
  simp
  omega
theorem eqv_same {n : Nat} {d : D} (h : plain n d = true) : PyData.eqv (toPy d) (toPy d) = true := SeqAt.eqv_refl _ (lay_of h).1

theorem plains_ints (n : Nat) : ∀ ns : List Int, plains n (ns.map D.int) = true
  | [] => by simp [plains]
  | m :: ms => by
    rw [List.map_cons]
    unfold plains
    rw [plains_ints n ms]
    simp [plain]
theorem plains_map {α : Type} {n : Nat} {f : α → D} : ∀ {xs : List α}, (∀ x ∈ xs, plain n (f x) = true) → plains n (xs.map f) = true
  | [], _ => by simp [plains]
  | x :: xs, h => by
    rw [List.map_cons]
    unfold plains
    rw [h x List.mem_cons_self, plains_map fun y hy => h y (List.mem_cons_of_mem _ hy)]
    rfl
section
variable {c : Ctx} {r1 r2 : Sl} {M : List C} {Q : Z → Prop} {B : Bool → Prop}
theorem bin_add (h : binR .Add r1 r2 M Q) : OpZ c (binaryOp .Add) r1 r2 M Q := fun X hX F As H x y hx hy hm n G hn k => by
  dsimp only [binR] at h
  split at h
  · exact ⟨_, op_add, _, _, hx, hy, fin_val (d := .int _) k hm hn rfl ⟨rfl, h⟩⟩
  · split at h
    · rename_i xs ys e1 e2
      obtain ⟨hz, q⟩ := h
      obtain ⟨p, vs, rfl, h1, h2⟩ := (sq_s e1).get hm hx
      obtain ⟨u, ws, rfl, h3, h4⟩ := (sq_s e2).get hm hy
      refine ⟨_, op_cat, p, u, vs, ws, rfl, rfl, h2, h4, ?_, fun r hr => fin_lst (ds := xs ++ ys) k hm hn hr (dvs_paired.mpr (paired_append (dvs_paired.mp h1) (dvs_paired.mp h3))) ⟨rfl, q⟩⟩
      rw [← h1.length, ← h3.length]
      exact Nat.le_trans hz (by decide)
    · rename_i xs ys e1 e2
      obtain ⟨hz, q⟩ := h
      obtain ⟨p, vs, rfl, h1, h2⟩ := (sq_s e1).get hm hx
      obtain ⟨u, ws, rfl, h3, h4⟩ := (sq_s e2).get hm hy
      have h13 : DVs c.K F (xs ++ ys) (vs ++ ws) := dvs_paired.mpr (paired_append (dvs_paired.mp h1) (dvs_paired.mp h3))
      have valT : ∀ {r : Sl} {ds : List D} {v : V}, sq M r = some (false, ds) → SlR c.K F As r v → DV c.K F (.tup ds) v := fun {r ds v} e hr => by
        have := sq_s e
        cases this with
        | tup => exact hr
      cases hX with | mk X k0 nd calm room po =>
      refine ⟨_, op_catA, p, u, vs, ws, rfl, rfl, h2, h4, ?_, fun ev => ?_, fun nv ew => ?_, fun nv nw r hr => fin_tup (ds := xs ++ ys) k hm hn hr h13 ⟨rfl, q⟩⟩
      · rw [← h1.length, ← h3.length]
        exact Nat.le_trans hz (by decide)
      · have exs : xs = [] := List.eq_nil_of_length_eq_zero (by rw [h1.length, ev]; rfl)
        refine fin_val (d := .tup (xs ++ ys)) k hm hn ?_ ⟨rfl, q⟩
        rw [exs]; exact valT e2 hy
      · have eys : ys = [] := List.eq_nil_of_length_eq_zero (by rw [h3.length, ew]; rfl)
        refine fin_val (d := .tup (xs ++ ys)) k hm hn ?_ ⟨rfl, q⟩
        rw [eys, List.append_nil]; exact valT e1 hx
    · exact h.elim
theorem bin_sub (h : binR .Sub r1 r2 M Q) : OpZ c (binaryOp .Sub) r1 r2 M Q := fun X hX F As H x y hx hy hm n G hn k => by
  dsimp only [binR] at h
  split at h
  · exact ⟨_, op_sub, _, _, hx, hy, fin_val (d := .int _) k hm hn rfl ⟨rfl, h⟩⟩
  · exact h.elim
theorem dvs_flat {K : PySem.W.Frag} {F : Hp} {xs : List D} {vs : List V} (h : DVs K F xs vs) : ∀ n : Nat, DVs K F (List.replicate n xs).flatten (List.replicate n vs).flatten
  | 0 => rfl
  | n + 1 => by
    rw [List.replicate_succ, List.replicate_succ, List.flatten_cons, List.flatten_cons]
    exact dvs_paired.mpr (paired_append (dvs_paired.mp h) (dvs_paired.mp (dvs_flat h n)))
theorem bin_mul (h : binR .Mult r1 r2 M Q) : OpZ c (binaryOp .Mult) r1 r2 M Q := fun X hX F As H x y hx hy hm n G hn k => by
  dsimp only [binR] at h
  split at h
  · exact ⟨_, op_mul, _, _, hx, hy, h.1, fin_val (d := .int _) k hm hn rfl ⟨rfl, h.2⟩⟩
  · split at h
    · rename_i j _ _ xs e1
      obtain ⟨⟨h0, h1, hz⟩, q⟩ := h
      obtain ⟨p, vs, rfl, h1', h2⟩ := (sq_s e1).get hm hx
      refine ⟨_, op_rep, p, j, vs, rfl, hy, h2, by omega, by omega, ?_, fun r hr => fin_lst (ds := (List.replicate j.toNat xs).flatten) k hm hn hr (dvs_flat h1' _) ⟨rfl, q⟩⟩
      have : vs.length ≤ 1000 := by rw [← h1'.length]; exact hz
      have h3 : j.toNat ≤ 1000 := by omega
      exact Nat.le_trans (Nat.mul_le_mul this h3) (by decide)
    · exact h.elim
  · exact h.elim
theorem bin_fdiv (h : binR .FloorDiv r1 r2 M Q) : OpZ c (binaryOp .FloorDiv) r1 r2 M Q := fun X hX F As H x y hx hy hm n G hn k => by
  dsimp only [binR] at h
  split at h
  · exact ⟨_, op_fdiv, _, _, hx, hy, h.1, fin_val (d := .int _) k hm hn rfl ⟨rfl, h.2⟩⟩
  · exact h.elim
theorem bin_mod (h : binR .Mod r1 r2 M Q) : OpZ c (binaryOp .Mod) r1 r2 M Q := fun X hX F As H x y hx hy hm n G hn k => by
  dsimp only [binR] at h
  split at h
  · exact ⟨_, op_mod, _, _, hx, hy, h.1, fin_val (d := .int _) k hm hn rfl ⟨rfl, h.2⟩⟩
  · exact h.elim
theorem bin_pow (h : binR .Pow r1 r2 M Q) : OpZ c (binaryOp .Pow) r1 r2 M Q := fun X hX F As H x y hx hy hm n G hn k => by
  dsimp only [binR] at h
  split at h
  · exact ⟨_, op_pow, _, _, hx, hy, h.1, fin_val (d := .int _) k hm hn rfl ⟨rfl, h.2⟩⟩
  · exact h.elim
theorem bin_all (o : Operator) (h : binR o r1 r2 M Q) : OpZ c (binaryOp o) r1 r2 M Q := by
  cases o with
  | Add => exact bin_add h
  | Sub => exact bin_sub h
  | Mult => exact bin_mul h
  | FloorDiv => exact bin_fdiv h
  | Mod => exact bin_mod h
  | Pow => exact bin_pow h
  | MatMult => exact h.elim
  | Div => exact h.elim
  | LShift => exact h.elim
  | RShift => exact h.elim
  | BitOr => exact h.elim
  | BitXor => exact h.elim
  | BitAnd => exact h.elim
theorem tr_bin {a b : Expr} {x y : E} {op : Operator} {pos : Pos} (ha : Tr c a x) (hb : Tr c b y) : Tr c (.BinOp a op b pos) (.bin op x y) := tr_op ha hb fun _ _ _ _ h => bin_all op h

/-! ### comparisons -/
abbrev bz (B : Bool → Prop) : Z → Prop := fun z => ∃ t, z = .s (.val (.bl t)) ∧ B t
theorem fin_bl {F : Hp} {As : List Addr} {H : Hp} {n : Nat} {G : VK} {t : Bool} {v : V} (k : Aft c.K F As (zq n fun z M' => M' = M ∧ bz B z) G) (hm : HM c.K F As M H) (hn : n ≤ M.length) (hv : v = .bl t) (q : B t) : G v H := by
  subst hv
  exact fin_val (d := .bl t) k hm hn rfl ⟨rfl, t, rfl, q⟩
theorem vw_dv {K : PySem.W.Frag} {F : Hp} {As : List Addr} {H : Hp} {s : Sl} {d : D} {v : V} (q : vw M s = some d) (hm : HM K F As M H) (r : SlR K F As s v) : DV K H d v := by
  cases s with
  | un => cases q
  | val d' => cases q; exact DV.mono hm.same r
  | own k =>
    obtain ⟨a, h1, rfl⟩ := r
    replace q : (match lkM M k with | some c => c.frz | none => none) = some d := q
    rw [lkM_eq] at q
    cases e : M[k]? with
    | none => rw [e] at q; cases q
    | some c0 =>
      rw [e] at q
      obtain ⟨o, ho, hc⟩ := hm.cell k a c0 h1 e
      cases c0 with
      | lst ds => cases q; obtain ⟨vs, rfl, hv⟩ := hc; exact ⟨a, vs, rfl, ho, hv.mono hm.same⟩
      | dic kvs =>
        cases q
        obtain ⟨ws, rfl, hv⟩ := hc
        refine ⟨a, ws, rfl, ho, ?_, ?_⟩
        · clear ho e
          induction hv with
          | nil => rfl
          | cons z _ ih => rw [List.map_cons, List.map_cons, ih, z.1]
        · refine dvs_paired.mpr ?_
          clear ho e
          induction hv with
          | nil => exact .nil
          | cons z _ ih => exact .cons (z.2.mono hm.same) ih
      | mls _ => cases q
      | mdc _ => cases q
      | ins _ _ _ => cases q
      | dxo _ => cases q
      | sob0 _ _ => cases q
      | sob _ _ _ => cases q
      | dxx => cases q

theorem dv_non {K : PySem.W.Frag} {F : Hp} {As : List Addr} {r : Sl} {v : V} (hr : r ≠ .un) (h : SlR K F As r v) : decide (v = .non) = r.isNon := by
  cases r with
  | un => exact absurd rfl hr
  | own k => obtain ⟨a, _, rfl⟩ := h; rfl
  | val d =>
    cases d with
    | non => have h : v = .non := h; subst h; rfl
    | bl b => have h : v = .bl b := h; subst h; rfl
    | int b => have h : v = .int b := h; subst h; rfl
    | str b => have h : v = .str b := h; subst h; rfl
    | lst ds => obtain ⟨a, vs, rfl, _⟩ := h; rfl
    | tup ds => obtain ⟨a, vs, rfl, _⟩ := h; rfl
    | dic ks ds => obtain ⟨a, vs, rfl, _⟩ := h; rfl
    | slo C ds => obtain ⟨a, dx, vs, rfl, _⟩ := h; rfl
    | obj C ds => obtain ⟨a, dx, kvs, vs, rfl, _⟩ := h; rfl
    | scr ns => obtain ⟨a, rfl, _⟩ := h; rfl
theorem dv_atom {K : PySem.W.Frag} {F : Hp} {d : D} {v : V} (ha : atomD d = true) (h : DV K F d v) : flatV v = true := by
  cases d with
  | non => have h : v = .non := h; subst h; rfl
  | bl b => have h : v = .bl b := h; subst h; rfl
  | int b => have h : v = .int b := h; subst h; rfl
  | str b => have h : v = .str b := h; subst h; rfl
  | lst ds => cases ha
  | tup ds => cases ha
  | dic ks ds => cases ha
  | slo C ds => cases ha
  | obj C ds => cases ha
  | scr ns => cases ha
theorem dv_eqA {K : PySem.W.Frag} {F : Hp} {d e : D} {v u : V} (ha : atomD d = true) (hb : atomD e = true) (h : DV K F d v) (h' : DV K F e u) : eqV v u = eqA d e := by
  cases d with
  | non =>
    have h : v = .non := h; subst h
    cases e with
    | non => have h' : u = .non := h'; subst h'; rfl
    | bl b => have h' : u = .bl b := h'; subst h'; rfl
    | int b => have h' : u = .int b := h'; subst h'; rfl
    | str b => have h' : u = .str b := h'; subst h'; rfl
    | _ => cases hb
  | bl b =>
    have h : v = .bl b := h; subst h
    cases e with
    | non => have h' : u = .non := h'; subst h'; rfl
    | bl b => have h' : u = .bl b := h'; subst h'; rfl
    | int b => have h' : u = .int b := h'; subst h'; rfl
    | str b => have h' : u = .str b := h'; subst h'; rfl
    | _ => cases hb
  | int b =>
    have h : v = .int b := h; subst h
    cases e with
    | non => have h' : u = .non := h'; subst h'; rfl
    | bl b => have h' : u = .bl b := h'; subst h'; rfl
    | int b => have h' : u = .int b := h'; subst h'; rfl
    | str b => have h' : u = .str b := h'; subst h'; rfl
    | _ => cases hb
  | str b =>
    have h : v = .str b := h; subst h
    cases e with
    | non => have h' : u = .non := h'; subst h'; rfl
    | bl b => have h' : u = .bl b := h'; subst h'; rfl
    | int b => have h' : u = .int b := h'; subst h'; rfl
    | str b => have h' : u = .str b := h'; subst h'; rfl
    | _ => cases hb
  | _ => cases ha
theorem dvs_flatV {K : PySem.W.Frag} {F : Hp} : ∀ {ds : List D} {vs : List V}, ds.all atomD = true → DVs K F ds vs → vs.all flatV = true
  | [], vs, _, h => by have h : vs = [] := h; subst h; rfl
  | d :: ds, _, ha, ⟨v, r, h1, h2, h3⟩ => by
    subst h1
    rw [List.all_cons, Bool.and_eq_true] at ha
    rw [List.all_cons, dv_atom ha.1 h2, dvs_flatV ha.2 h3]; rfl
theorem dvs_inV {K : PySem.W.Frag} {F : Hp} {d : D} {v : V} (hd : atomD d = true) (hv : DV K F d v) : ∀ {ds : List D} {vs : List V}, ds.all atomD = true → DVs K F ds vs → inV v vs = inD d ds
  | [], vs, _, h => by have h : vs = [] := h; subst h; rfl
  | e :: ds, _, ha, ⟨u, r, h1, h2, h3⟩ => by
    subst h1
    rw [List.all_cons, Bool.and_eq_true] at ha
    show (eqV u v || inV v r) = (eqA e d || inD d ds)
    rw [dv_eqA ha.1 hd h2 hv, dvs_inV hd hv ha.2 h3]
theorem lt_room {X : Cx} {k : Nat} (room : Room k X.A) : X.A.units + 1 < cLine := by
  have := room.units
  omega
/-! dicts -/
abbrev KD (K : PySem.W.Frag) (F : Hp) : List (Key × D) → List (Key × V) → Prop := Paired fun p q => p.1 = q.1 ∧ DV K F p.2 q.2
theorem kd_zip {K : PySem.W.Frag} {F : Hp} : ∀ {kvs : List (Key × V)} {ds : List D}, DVs K F ds (kvs.map (·.2)) → KD K F ((kvs.map (·.1)).zip ds) kvs
  | [], ds, h => by cases ds with
    | nil => exact .nil
    | cons d ds => obtain ⟨v, r, h1, _⟩ := h; cases h1
  | (k, v) :: kvs, ds, h => by cases ds with
    | nil => have h : v :: kvs.map (·.2) = [] := h; cases h
    | cons d ds =>
      obtain ⟨v', r, h1, h2, h3⟩ := h
      cases h1
      exact .cons ⟨rfl, h2⟩ (kd_zip h3)
theorem dq_kd {K : PySem.W.Frag} {F : Hp} {As : List Addr} {H : Hp} {s : Sl} {kvs : List (Key × D)} {v : V} (q : dq M s = some kvs) (hm : HM K F As M H) (r : SlR K F As s v) : ∃ a ws, v = .ref a ∧ H a = some (.dK ws) ∧ KD K F kvs ws := by
  cases s with
  | un => cases q
  | own k =>
    obtain ⟨a, h1, rfl⟩ := r
    have q : (match lkM M k with | some (.dic kvs) => some kvs | _ => none) = some kvs := q
    rw [lkM_eq] at q
    cases e : M[k]? with
    | none => rw [e] at q; cases q
    | some c0 =>
      rw [e] at q
      obtain ⟨o, ho, hc⟩ := hm.cell k a c0 h1 e
      cases c0 with
      | dic _ => cases q; obtain ⟨ws, rfl, hv⟩ := hc; exact ⟨a, ws, rfl, ho, hv⟩
      | lst _ => cases q
      | mls _ => cases q
      | mdc _ => cases q
      | ins _ _ _ => cases q
      | dxo _ => cases q
      | sob0 _ _ => cases q
      | sob _ _ _ => cases q
      | dxx => cases q
  | val d =>
    cases d with
    | dic ks ds =>
      cases q
      obtain ⟨a, ws, rfl, h1, h2, h3⟩ := r
      subst h2
      exact ⟨a, ws, rfl, hm.same _ _ h1, kd_zip h3⟩
    | _ => cases q
theorem kd_get {K : PySem.W.Frag} {F : Hp} {k : Key} : ∀ {xs : List (Key × D)} {ys : List (Key × V)}, KD K F xs ys → (getK xs k = none ∧ valV ys k = none) ∨ ∃ d v, getK xs k = some d ∧ valV ys k = some v ∧ DV K F d v
  | [], _, .nil => .inl ⟨rfl, rfl⟩
  | p :: xs, q :: _, .cons h r => by
    unfold getK valV
    by_cases e : p.1 = k
    · right
      refine ⟨p.2, q.2, ?_, ?_, h.2⟩
      · rw [List.find?_cons, decide_eq_true e]; rfl
      · rw [List.find?_cons, ← h.1, decide_eq_true e]; rfl
    · have := kd_get (k := k) r
      rw [List.find?_cons, List.find?_cons, ← h.1, decide_eq_false e]
      exact this
theorem keyV {K : PySem.W.Frag} {F : Hp} {d : D} {k : Key} {v : V} (hk : keyD d = some k) (h : DV K F d v) : v = kV k := by
  cases d with
  | int i => cases hk; exact h
  | str i => cases hk; exact h
  | _ => cases hk
def rDIn (neg : Bool) : R2 := fun x y H Q => ∃ a o, y = .ref a ∧ DGet H a x o ∧ Q (.bl (if neg then !o.isSome else o.isSome)) H
theorem op_dIn {X : Cx} (hu : X.A.units + 1 < cLine) : OpR X (compareOp .In) (rDIn false) := by
  intro pins s σ H x y v u Q I rx ry h
  obtain ⟨a, o, ex, g, q⟩ := h
  subst ex
  obtain rfl : u = Value.ref a := ry
  exact d_in hu I g rx fun s3 I3 => ⟨.bl o.isSome, H, I3, rfl, q⟩
theorem op_dNotIn {X : Cx} (hu : X.A.units + 1 < cLine) : OpR X (compareOp .NotIn) (rDIn true) := by
  intro pins s σ H x y v u Q I rx ry h
  obtain ⟨a, o, ex, g, q⟩ := h
  subst ex
  obtain rfl : u = Value.ref a := ry
  exact d_notIn hu I g rx fun s3 I3 => ⟨.bl (!o.isSome), H, I3, rfl, q⟩
end
end Dl
/-! X6: comparisons, tests, and, or, if -/
namespace Dl
open PySem L2
section
variable {c : Ctx} {r1 r2 : Sl} {M : List C} {B : Bool → Prop}
theorem eq_s (h : eqR r1 r2 M B) : OpZ c (compareOp .Eq) r1 r2 M (bz B) := fun X hX F As H x y hx hy hm n G hn k => by
  unfold eqR at h
  split at h
  · rename_i i j
    have hx : x = .int i := hx
    have hy : y = .int j := hy
    subst hx; subst hy
    exact ⟨_, op_eq, rfl, fin_bl k hm hn (by congr 1; simp) h⟩
  · rename_i i j
    have hx : x = .bl i := hx
    have hy : y = .bl j := hy
    subst hx; subst hy
    exact ⟨_, op_eq, rfl, fin_bl k hm hn (by congr 1; cases i <;> cases j <;> rfl) h⟩
  · rename_i i j
    have hx : x = .str i := hx
    have hy : y = .str j := hy
    subst hx; subst hy
    exact ⟨_, op_eq, rfl, fin_bl k hm hn (by congr 1; simp) h⟩
  · split at h
    · rename_i d d' e1 e2
      obtain ⟨⟨h1, h2⟩, q⟩ := h
      cases hX with | mk X k0 nd calm room po =>
      exact ⟨_, op_eqD room.units, _, _, dp_of (Same.refl _) h1 (vw_dv e1 hm hx), dp_of (Same.refl _) h2 (vw_dv e2 hm hy), shaped_of h1 (by decide), shaped_of h2 (by decide), fin_bl k hm hn rfl q⟩
    · exact h.elim
theorem ne_s (h : eqR r1 r2 M fun b => B (!b)) : OpZ c (compareOp .NotEq) r1 r2 M (bz B) := fun X hX F As H x y hx hy hm n G hn k => by
  unfold eqR at h
  split at h
  · rename_i i j
    have hx : x = .int i := hx
    have hy : y = .int j := hy
    subst hx; subst hy
    exact ⟨_, op_ne, rfl, fin_bl k hm hn (by congr 1; simp) h⟩
  · rename_i i j
    have hx : x = .bl i := hx
    have hy : y = .bl j := hy
    subst hx; subst hy
    exact ⟨_, op_ne, rfl, fin_bl k hm hn (by congr 1; cases i <;> cases j <;> rfl) h⟩
  · rename_i i j
    have hx : x = .str i := hx
    have hy : y = .str j := hy
    subst hx; subst hy
    exact ⟨_, op_ne, rfl, fin_bl k hm hn (by congr 1; simp) h⟩
  · split at h
    · rename_i d d' e1 e2
      obtain ⟨⟨h1, h2⟩, q⟩ := h
      cases hX with | mk X k0 nd calm room po =>
      exact ⟨_, op_neD room.units, _, _, dp_of (Same.refl _) h1 (vw_dv e1 hm hx), dp_of (Same.refl _) h2 (vw_dv e2 hm hy), shaped_of h1 (by decide), shaped_of h2 (by decide), fin_bl k hm hn rfl q⟩
    · exact h.elim
theorem in_s (h : inR r1 r2 M B) : OpZ c (compareOp .In) r1 r2 M (bz B) := fun X hX F As H x y hx hy hm n G hn k => by
  unfold inR at h
  split at h
  · rename_i d
    split at h
    · rename_i b ds e
      obtain ⟨⟨h1, h2⟩, q⟩ := h
      obtain ⟨p, vs, rfl, h3, h4⟩ := (sq_s e).sq hm hy
      cases hX with | mk X k0 nd calm room po =>
      exact ⟨_, op_in_seq, p, vs, rfl, h4, dv_atom h1 hx, dvs_flatV h2 h3, fin_bl k hm hn (by rw [if_neg Bool.false_ne_true, dvs_inV h1 hx h2 h3]) q⟩
    · split at h
      · rename_i kvs kk e1 e2
        obtain ⟨a, ws, rfl, h1, h2⟩ := dq_kd e1 hm hy
        have ek := keyV e2 hx
        subst ek
        cases hX with | mk X k0 nd calm room po =>
        refine ⟨_, op_dIn (lt_room room), a, _, rfl, DGet.k h1, fin_bl k hm hn rfl ?_⟩
        rcases kd_get (k := kk) h2 with ⟨e3, e4⟩ | ⟨d', v', e3, e4, _⟩
        · rw [e4]; rw [e3] at h; exact h
        · rw [e4]; rw [e3] at h; exact h
      · exact h.elim
  · exact h.elim
theorem notIn_s (h : inR r1 r2 M fun b => B (!b)) : OpZ c (compareOp .NotIn) r1 r2 M (bz B) := fun X hX F As H x y hx hy hm n G hn k => by
  unfold inR at h
  split at h
  · rename_i d
    split at h
    · rename_i b ds e
      obtain ⟨⟨h1, h2⟩, q⟩ := h
      obtain ⟨p, vs, rfl, h3, h4⟩ := (sq_s e).sq hm hy
      cases hX with | mk X k0 nd calm room po =>
      exact ⟨_, op_notIn_seq, p, vs, rfl, h4, dv_atom h1 hx, dvs_flatV h2 h3, fin_bl k hm hn (by rw [if_pos rfl, dvs_inV h1 hx h2 h3]) q⟩
    · split at h
      · rename_i kvs kk e1 e2
        obtain ⟨a, ws, rfl, h1, h2⟩ := dq_kd e1 hm hy
        have ek := keyV e2 hx
        subst ek
        cases hX with | mk X k0 nd calm room po =>
        refine ⟨_, op_dNotIn (lt_room room), a, _, rfl, DGet.k h1, fin_bl k hm hn rfl ?_⟩
        rcases kd_get (k := kk) h2 with ⟨e3, e4⟩ | ⟨d', v', e3, e4, _⟩
        · rw [e4]; rw [e3] at h; exact h
        · rw [e4]; rw [e3] at h; exact h
      · exact h.elim
  · exact h.elim
theorem cmp_all (o : CmpOp) (h : cmpR o r1 r2 M B) : OpZ c (compareOp o) r1 r2 M (bz B) := by
  cases o with
  | Eq => exact eq_s h
  | NotEq => exact ne_s h
  | In => exact in_s h
  | NotIn => exact notIn_s h
  | Lt =>
    intro X hX F As H x y hx hy hm n G hn k
    dsimp only [cmpR] at h
    split at h
    · exact ⟨_, op_lt, _, _, hx, hy, fin_bl k hm hn rfl h⟩
    · exact h.elim
  | LtE =>
    intro X hX F As H x y hx hy hm n G hn k
    dsimp only [cmpR] at h
    split at h
    · exact ⟨_, op_le, _, _, hx, hy, fin_bl k hm hn rfl h⟩
    · exact h.elim
  | Gt =>
    intro X hX F As H x y hx hy hm n G hn k
    dsimp only [cmpR] at h
    split at h
    · exact ⟨_, op_gt, _, _, hx, hy, fin_bl k hm hn rfl h⟩
    · exact h.elim
  | GtE =>
    intro X hX F As H x y hx hy hm n G hn k
    dsimp only [cmpR] at h
    split at h
    · exact ⟨_, op_ge, _, _, hx, hy, fin_bl k hm hn rfl h⟩
    · exact h.elim
  | Is =>
    intro X hX F As H x y hx hy hm n G hn k
    dsimp only [cmpR] at h
    split at h
    · exact h.elim
    · rename_i hr
      exact ⟨_, op_isN, hy, fin_bl k hm hn (by rw [dv_non hr hx]) h⟩
    · exact h.elim
  | IsNot =>
    intro X hX F As H x y hx hy hm n G hn k
    dsimp only [cmpR] at h
    split at h
    · exact h.elim
    · rename_i hr
      exact ⟨_, op_notN, hy, fin_bl k hm hn (by rw [dv_non hr hx]) h⟩
    · exact h.elim
end

section
variable {c : Ctx} {a b e : Expr} {x y : E} {t u : Te} {pos : Pos}
theorem Aft.bz {K : PySem.W.Frag} {F F1 : Hp} {As As1 : List Addr} {M : List C} {G : VK} {n : Nat} {Q : Z → List C → Prop} (k : Aft K F As (zq n Q) G) (s : Same F F1) (p : As <+: As1) : Aft K F1 As1 (zq n fun z M' => M' = M ∧ bz (fun t => Q (.s (.val (.bl t))) M) z) G :=
  fun v F' As' H' r M' s' p' r' hm' ⟨z, M3, z1, z2, z3, t, z4, z5⟩ => k v F' As' H' r M' (s.trans s') (p.trans p') r' hm' ⟨z, M3, z1, z2, by subst z3; subst z4; exact z5⟩
theorem tr_cmp {op : CmpOp} (ha : Tr c a x) (hb : Tr c b y) (hk : behindInMarks op b = false) : Tr c (.Compare a [op] [b] pos) (.cmp op x y) := fun ρ M Q h X hX F As σ H sr hm G k =>
  ⟨_, pe_cmpR opR_any pe_w pe_w hk, ha.ee h X hX F As σ H sr hm _ fun x F1 As1 H1 r1 M1 s1 p1 q1 hm1 h1 => hb.ee h1 X hX F1 As1 σ H1 (sr.mono s1 p1) hm1 _ fun y F2 As2 H2 r2 M2 s2 p2 q2 hm2 h2 =>
    cmp_all op h2 X hX F2 As2 H2 x y (q1.mono s2 p2) q2 hm2 M.length G (Nat.le_trans (hm.le hm1 p1) (hm1.le hm2 p2)) (Aft.bz k (s1.trans s2) (p1.trans p2))⟩
/-- what follows a test -/
abbrev AftT (K : PySem.W.Frag) (F : Hp) (As : List Addr) (Q : Bool → List C → Prop) (G : Bool → Hp → Prop) : Prop := ∀ t F' As' H' M', Same F F' → As <+: As' → HM K F' As' M' H' → Q t M' → G t H'
theorem AftT.z {K : PySem.W.Frag} {F F1 : Hp} {As As1 : List Addr} {M : List C} {G : Bool → Hp → Prop} {n : Nat} {Q : Bool → List C → Prop} (k : AftT K F As Q G) (s : Same F F1) (p : As <+: As1) : Aft K F1 As1 (zq n fun z M' => M' = M ∧ bz (fun t => Q t M) z) fun v H => ∃ t, v = .bl t ∧ G t H :=
  fun v F' As' H' r M' s' p' r' hm' ⟨z, M3, z1, z2, z3, t, z4, z5⟩ => by
    subst z3; subst z4
    obtain ⟨e1, e2⟩ := z1
    subst e1; subst e2
    exact ⟨t, r', k t F' As' H' _ (s.trans s') (p.trans p') hm' z5⟩
theorem trT_cmp {op : CmpOp} (ha : Tr c a x) (hb : Tr c b y) (hk : behindInMarks op b = false) : TrT c (.Compare a [op] [b] pos) (.cmp op x y) := fun ρ M Q h X hX F As σ H sr hm G k =>
  ⟨_, pt_cmpR opR_any pe_w pe_w hk, ha.ee h X hX F As σ H sr hm _ fun x F1 As1 H1 r1 M1 s1 p1 q1 hm1 h1 => hb.ee h1 X hX F1 As1 σ H1 (sr.mono s1 p1) hm1 _ fun y F2 As2 H2 r2 M2 s2 p2 q2 hm2 h2 =>
    cmp_all op h2 X hX F2 As2 H2 x y (q1.mono s2 p2) q2 hm2 M.length _ (Nat.le_trans (hm.le hm1 p1) (hm1.le hm2 p2)) (AftT.z k (s1.trans s2) (p1.trans p2))⟩
/-- a op b op' c -/
theorem tr_cmp2 {op op' : CmpOp} {e3 : Expr} {z : E} (ha : Tr c a x) (hb : Tr c b y) (hc : Tr c e3 z) (hl : lastMarks [op, op'] [b, e3] = false) : Tr c (.Compare a [op, op'] [b, e3] pos) (.cmp2 op op' x y z) := fun ρ M Q h X hX F As σ H sr hm G k =>
  ⟨_, pe_chain opR_any opR_any pe_w pe_w pe_w (hm := hl), ha.ee h X hX F As σ H sr hm _ fun x F1 As1 H1 r1 M1 s1 p1 q1 hm1 h1 => hb.ee h1 X hX F1 As1 σ H1 (sr.mono s1 p1) hm1 _ fun y F2 As2 H2 r2 M2 s2 p2 q2 hm2 h2 => by
    refine cmp_all op h2 X hX F2 As2 H2 x y (q1.mono s2 p2) q2 hm2 M.length _ (Nat.le_trans (hm.le hm1 p1) (hm1.le hm2 p2)) fun v F3 As3 H3 r M' s3 p3 r3 hm3 ⟨zz, M3, z1, z2, z3, t, z4, z5⟩ => ?_
    subst z3; subst z4
    obtain ⟨e1, e2⟩ := z1
    subst e1; subst e2
    refine ⟨t, r3, ?_⟩
    cases t with
    | false => exact fin_val (d := .bl false) (Aft.mono k ((s1.trans s2).trans s3) ((p1.trans p2).trans p3)) hm3 z2 rfl (z5.2 rfl)
    | true =>
      refine hc.ee (z5.1 rfl) X hX F3 As3 σ H3 (sr.mono ((s1.trans s2).trans s3) ((p1.trans p2).trans p3)) hm3 _ fun w F4 As4 H4 r4 M4 s4 p4 q4 hm4 h4 => ?_
      exact cmp_all op' h4 X hX F4 As4 H4 y w (q2.mono (s3.trans s4) (p3.trans p4)) q4 hm4 M.length G (Nat.le_trans z2 (hm3.le hm4 p4)) (Aft.bz k (((s1.trans s2).trans s3).trans s4) (((p1.trans p2).trans p3).trans p4))⟩
theorem trT_e (ha : Tr c a x) (he : ∀ (env : Env) whole, isTrue a env whole = (do let v ← whole; standAt a.pos; holding [v] (truthy v))) : TrT c a (.e x) := fun ρ M Q h X hX F As σ H sr hm G k =>
  ⟨_, pt_val pe_w (he X.env), ha.ee h X hX F As σ H sr hm _ fun v F1 As1 H1 r1 M1 s1 p1 q1 hm1 h1 => by
    split at h1
    · rename_i t
      exact ⟨t, q1, k t F1 As1 H1 M1 s1 p1 hm1 h1⟩
    · exact h1.elim⟩
theorem trT_not (ha : TrT c a t) : TrT c (.UnaryOp .Not a pos) (.not t) := fun ρ M Q h X hX F As σ H sr hm G k =>
  ⟨_, pt_not pt_w, ha ρ M _ h X hX F As σ H sr hm _ fun t F1 As1 H1 M1 s1 p1 hm1 h1 => k (!t) F1 As1 H1 M1 s1 p1 hm1 h1⟩
def TrW (c : Ctx) (e : Expr) (t : Te) : Prop := ∀ ρ M Q, wpT c.g t ρ M Q → GW c ρ M e Q
theorem trW_and1 (ha : TrT c a t) : TrW c (.BoolOp .And [a] pos) t := fun ρ M Q h X hX F As σ H sr hm G k => ⟨_, pw_and1 pt_w, ha ρ M Q h X hX F As σ H sr hm _ k⟩
theorem trW_or1 (ha : TrT c a t) : TrW c (.BoolOp .Or [a] pos) t := fun ρ M Q h X hX F As σ H sr hm G k => ⟨_, pw_or1 pt_w, ha ρ M Q h X hX F As σ H sr hm _ k⟩
theorem trW_and {rest : List Expr} (ha : TrT c a t) (hb : TrW c (.BoolOp .And (b :: rest) pos) u) : TrW c (.BoolOp .And (a :: b :: rest) pos) (.and t u) := fun ρ M Q h X hX F As σ H sr hm G k =>
  ⟨_, pw_and pt_w pw_w, ha ρ M _ h X hX F As σ H sr hm _ fun t F1 As1 H1 M1 s1 p1 hm1 h1 => by
    cases t with
    | true => exact hb ρ M1 Q (h1.1 rfl) X hX F1 As1 σ H1 (sr.mono s1 p1) hm1 _ fun t F2 As2 H2 M2 s2 p2 hm2 h2 => k t F2 As2 H2 M2 (s1.trans s2) (p1.trans p2) hm2 h2
    | false => exact k false F1 As1 H1 M1 s1 p1 hm1 (h1.2 rfl)⟩
theorem trW_or {rest : List Expr} (ha : TrT c a t) (hb : TrW c (.BoolOp .Or (b :: rest) pos) u) : TrW c (.BoolOp .Or (a :: b :: rest) pos) (.or t u) := fun ρ M Q h X hX F As σ H sr hm G k =>
  ⟨_, pw_or pt_w pw_w, ha ρ M _ h X hX F As σ H sr hm _ fun t F1 As1 H1 M1 s1 p1 hm1 h1 => by
    cases t with
    | false => exact hb ρ M1 Q (h1.1 rfl) X hX F1 As1 σ H1 (sr.mono s1 p1) hm1 _ fun t F2 As2 H2 M2 s2 p2 hm2 h2 => k t F2 As2 H2 M2 (s1.trans s2) (p1.trans p2) hm2 h2
    | true => exact k true F1 As1 H1 M1 s1 p1 hm1 (h1.2 rfl)⟩
theorem TrW.tt (h : TrW c e t) : TrT c e t := fun ρ M Q q X hX F As σ H sr hm G k => ⟨_, PW.pt pw_w, h ρ M Q q X hX F As σ H sr hm G k⟩
/-! values -/
theorem tr_neg (ha : Tr c a x) : Tr c (.UnaryOp .USub a pos) (.neg x) := fun ρ M Q h X hX F As σ H sr hm G k =>
  ⟨_, pe_un un_neg pe_w, ha.ee h X hX F As σ H sr hm _ fun v F1 As1 H1 r1 M1 s1 p1 q1 hm1 h1 => by
    split at h1
    · rename_i i
      exact ⟨i, q1, fin_val (d := .int (-i)) (Aft.mono k s1 p1) hm1 (hm.le hm1 p1) rfl h1⟩
    · exact h1.elim⟩
theorem tr_not (ha : Tr c a x) : Tr c (.UnaryOp .Not a pos) (.not x) := fun ρ M Q h X hX F As σ H sr hm G k =>
  ⟨_, pe_not pe_w, ha.ee h X hX F As σ H sr hm _ fun v F1 As1 H1 r1 M1 s1 p1 q1 hm1 h1 => by
    split at h1
    · rename_i t
      exact ⟨t, q1, fin_val (d := .bl (!t)) (Aft.mono k s1 p1) hm1 (hm.le hm1 p1) rfl h1⟩
    · exact h1.elim⟩
theorem EZ.up {ρ : List Sl} {M M1 : List C} {Q : Z → List C → Prop} {X : Cx} {F F1 : Hp} {As As1 : List Addr} {σ : L2.St} {H1 : Hp} {G : VK} (h : EZ c ρ M1 e Q) (hX : c.Is X) (sr : SR c.K F As ρ σ) (s1 : Same F F1) (p1 : As <+: As1) (hm1 : HM c.K F1 As1 M1 H1) (hl : M.length ≤ M1.length) (k : Aft c.K F As (zq M.length Q) G) : WE X e σ H1 G :=
  h X hX F1 As1 σ H1 (sr.mono s1 p1) hm1 G fun v F2 As2 H2 r M2 s2 p2 r2 hm2 q => k v F2 As2 H2 r M2 (s1.trans s2) (p1.trans p2) r2 hm2 (zq.mono q hl)
theorem tr_one {op} (ha : Tr c a x) : Tr c (.BoolOp op [a] pos) x := fun ρ M Q h X hX F As σ H sr hm G k => ⟨_, pe_one pe_w, ha ρ M Q h X hX F As σ H sr hm G k⟩
theorem tr_and {rest : List Expr} (ha : Tr c a x) (hb : Tr c (.BoolOp .And (b :: rest) pos) y) : Tr c (.BoolOp .And (a :: b :: rest) pos) (.and x y) := fun ρ M Q h X hX F As σ H sr hm G k =>
  ⟨_, pe_and pe_w pe_w, ha.ee h X hX F As σ H sr hm _ fun v F1 As1 H1 r1 M1 s1 p1 q1 hm1 h1 => by
    split at h1
    · rename_i t
      refine ⟨t, q1, ?_⟩
      cases t with
      | true => exact (hb ρ M1 Q (h1.1 rfl)).up hX sr s1 p1 hm1 (hm.le hm1 p1) k
      | false => exact fin_val (d := .bl false) (Aft.mono k s1 p1) hm1 (hm.le hm1 p1) rfl (h1.2 rfl)
    · exact h1.elim⟩
theorem tr_or {rest : List Expr} (ha : Tr c a x) (hb : Tr c (.BoolOp .Or (b :: rest) pos) y) : Tr c (.BoolOp .Or (a :: b :: rest) pos) (.or x y) := fun ρ M Q h X hX F As σ H sr hm G k =>
  ⟨_, pe_or pe_w pe_w, ha.ee h X hX F As σ H sr hm _ fun v F1 As1 H1 r1 M1 s1 p1 q1 hm1 h1 => by
    split at h1
    · rename_i t
      refine ⟨t, q1, ?_⟩
      cases t with
      | false => exact (hb ρ M1 Q (h1.1 rfl)).up hX sr s1 p1 hm1 (hm.le hm1 p1) k
      | true => exact fin_val (d := .bl true) (Aft.mono k s1 p1) hm1 (hm.le hm1 p1) rfl (h1.2 rfl)
    · exact h1.elim⟩
theorem tr_ife {e3 : Expr} (hc : TrT c e3 t) (ha : Tr c a x) (hb : Tr c b y) : Tr c (.IfExp e3 a b pos) (.ife t x y) := fun ρ M Q h X hX F As σ H sr hm G k =>
  ⟨_, pe_ifExp pt_w pe_w pe_w, hc ρ M _ h X hX F As σ H sr hm _ fun t F1 As1 H1 M1 s1 p1 hm1 h1 => by
    cases t with
    | true => exact (ha ρ M1 Q (h1.1 rfl)).up hX sr s1 p1 hm1 (hm.le hm1 p1) k
    | false => exact (hb ρ M1 Q (h1.2 rfl)).up hX sr s1 p1 hm1 (hm.le hm1 p1) k⟩
/-! arguments, displays -/
theorem trA_nil : TrA c [] .nil := fun ρ M Q h X hX F As σ H sr hm G k => ⟨_, pa_nil, k [] F As H [] M (Same.refl _) (List.prefix_refl _) .nil hm h⟩
theorem trA_cons {es : List Expr} {as : Es} (ha : Tr c e x) (hs : TrA c es as) (hst : ∀ env, starEach (e :: es) env = (false, eval e env) :: starEach es env) : TrA c (e :: es) (.cons x as) := fun ρ M Q h X hX F As σ H sr hm G k =>
  ⟨_, pa_cons pe_w pa_w (hst _), ha.ee h X hX F As σ H sr hm _ fun v F1 As1 H1 r M1 s1 p1 r1 hm1 h1 => hs ρ M1 _ h1 X hX F1 As1 σ H1 (sr.mono s1 p1) hm1 _ fun vs F2 As2 H2 rs M2 s2 p2 r2 hm2 h2 =>
    k (v :: vs) F2 As2 H2 (r :: rs) M2 (s1.trans s2) (p1.trans p2) (.cons (r1.mono s2 p2) r2) hm2 h2⟩
theorem slrs_vals {K : PySem.W.Frag} {F : Hp} {As : List Addr} : ∀ {ds : List D} {vs : List V}, SlRs K F As (ds.map .val) vs → DVs K F ds vs
  | [], _, .nil => rfl
  | d :: ds, _, .cons r t => ⟨_, _, rfl, r, slrs_vals t⟩
theorem vals_slrs {K : PySem.W.Frag} {F : Hp} {As : List Addr} : ∀ {ds : List D} {vs : List V}, DVs K F ds vs → SlRs K F As (ds.map .val) vs
  | [], vs, h => by have h : vs = [] := h; subst h; exact .nil
  | d :: ds, _, ⟨v, r, h1, h2, h3⟩ => by subst h1; exact .cons h2 (vals_slrs h3)
theorem trA_star {es : List Expr} {as : Es} {spos : Pos} (ha : Tr c e x) (hs : TrA c es as) : TrA c (.Starred e spos :: es) (.star x as) := fun ρ M Q h X hX F As σ H sr hm G k => by
  cases hX with | mk X k0 nd calm room po =>
  refine ⟨_, StX.pa_star pe_w pa_w, ha.ee h X (.mk X k0 nd calm room po) F As σ H sr hm _ fun v F1 As1 H1 r M1 s1 p1 r1 hm1 h1 => ?_⟩
  split at h1
  · rename_i b ds e1
    obtain ⟨p, vs, rfl, h3, h4⟩ := (sq_s e1).sq hm1 r1
    refine ⟨p, vs, rfl, h4.symm, hs ρ M1 _ h1 X (.mk X k0 nd calm room po) F1 As1 σ H1 (sr.mono s1 p1) hm1 _ fun us F2 As2 H2 rs M2 s2 p2 r2 hm2 h2 => ?_⟩
    exact k (vs ++ us) F2 As2 H2 (ds.map .val ++ rs) M2 (s1.trans s2) (p1.trans p2) (paired_append (vals_slrs (h3.mono s2)) r2) hm2 h2
  · exact h1.elim
theorem tr_tup {es : List Expr} {as : Es} {x1} (hs : TrA c es as) : Tr c (.Tuple es x1 pos) (.tup as) := fun ρ M Q h X hX F As σ H sr hm G k =>
  ⟨_, pe_tup pa_w, hs ρ M _ h X hX F As σ H sr hm _ fun vs F1 As1 H1 rs M1 s1 p1 r1 hm1 ⟨ds, e1, hz, q⟩ => by
    subst e1
    have hv := slrs_vals r1
    exact ⟨by rw [← hv.length]; exact Nat.le_trans hz (by decide), fun p hp => fin_tup (Aft.mono k s1 p1) hm1 (hm.le hm1 p1) hp hv q⟩⟩
theorem tr_lst {es : List Expr} {as : Es} (hs : TrA c es as) : Tr c (.List es pos) (.lst as) := fun ρ M Q h X hX F As σ H sr hm G k =>
  ⟨_, pe_lst pa_w, hs ρ M _ h X hX F As σ H sr hm _ fun vs F1 As1 H1 rs M1 s1 p1 r1 hm1 ⟨ds, e1, hz, q⟩ => by
    subst e1
    have hv := slrs_vals r1
    exact ⟨by rw [← hv.length]; exact Nat.le_trans hz (by decide), fun p hp => fin_lst (Aft.mono k s1 p1) hm1 (hm.le hm1 p1) hp hv q⟩⟩
end
end Dl
/-! X7: subscripts, slices, fields, built-ins, isinstance -/
namespace Dl
open PySem L2
section
variable {c : Ctx} {a b e : Expr} {x y : E} {pos p1 p2 p3 p4 : Pos}
/-! ### x[i] -/
theorem ixR_any {X : Cx} : IxR X fun x y H' G' => ∃ r, IxR X r ∧ r x y H' G' := fun value slice pins s σ H x y v u Q I rx ry ⟨r, hr, q⟩ hs => hr value slice pins s σ H x y v u Q I rx ry q hs
theorem ix_dict {X : Cx} (hu : X.A.units + 1 < cLine) : IxR X fun x y H Q => ∃ a v, x = .ref a ∧ DGet H a y (some v) ∧ Q v H := by
  intro value slice pins s σ H x y o i Q I rx ry ⟨a, v, ex, g, q⟩ hs
  subst ex
  obtain rfl : o = Value.ref a := rx
  have hT : s.TypeIs (.ref a) "dict" := dict_typeIs I g
  have h₂ : wpAny (model X.prog X.w) X.A (getItem (.ref a) i) (EP X pins σ Q) X.xe s := d_getItem hu I g ry fun w' s3 I3 rw' => ⟨v, H, I3, rw', q⟩
  unfold PyProof.Rows.subscriptTail
  refine wpAny_bind ?_
  rw [getitemInPython_of_ne hT.not_modules]
  refine wpAny_bind (wpAny_specialOf hT PySem.F.slot_dict_getitem.lookup ?_)
  have fin : wpAny (model X.prog X.w) X.A (subscripted slice false (.ref a) i) (fun r s₃ => wpAny (model X.prog X.w) X.A (letTemporaryGo value (.ref a) r >>= fun _ => pure r) (EP X pins σ Q) X.xe s₃) X.xe s := by
    rw [hs]
    exact wpAny_operating (wpAny_mono h₂ (fun r s₃ h₃ => wpAny_bind (wpAny_letTemporaryGo (wpAny_pure h₃))) fun _ _ x => x)
  first
    | exact wpAny_pure (wpAny_bind fin)
    | exact wpAny_bind (wpAny_pure (wpAny_bind fin))
    | exact wpAny_bind fin
theorem dvs_at {K : PySem.W.Frag} {F : Hp} {xs : List D} {ys : List V} {i : Int} {d : D} (h : DVs K F xs ys) (e : atI xs i = some d) : ∃ v, atI ys i = some v ∧ DV K F d v := by
  unfold atI at e ⊢
  rw [← h.length]
  cases z : ixN xs.length i with
  | none => rw [z] at e; cases e
  | some n =>
    rw [z] at e
    obtain ⟨v, h1, h2⟩ := h.get (i := n) e
    exact ⟨v, h1, h2⟩
theorem prd_at {α β : Type} {R : α → β → Prop} {xs : List α} {ys : List β} {i : Int} {d : α} (h : Paired R xs ys) (e : atI xs i = some d) : ∃ v, atI ys i = some v ∧ R d v := by
  unfold atI at e ⊢
  rw [← Paired.length h]
  cases z : ixN xs.length i with
  | none => rw [z] at e; cases e
  | some n =>
    rw [z] at e
    obtain ⟨v, h1, h2⟩ := paired_get h e
    exact ⟨v, h1, h2⟩
theorem ks_get {K : PySem.W.Frag} {F : Hp} {As : List Addr} {k : Key} {r : Sl} : ∀ {xs : List (Key × Sl)} {ys : List (Key × V)}, KSl K F As xs ys → getK xs k = some r → ∃ v, valV ys k = some v ∧ SlR K F As r v
  | [], _, .nil, h => by cases h
  | p :: xs, q :: _, .cons h t, e => by
    unfold getK at e
    unfold valV
    by_cases z : p.1 = k
    · rw [List.find?_cons, decide_eq_true z] at e
      rw [List.find?_cons, ← h.1, decide_eq_true z]
      cases e
      exact ⟨_, rfl, h.2⟩
    · rw [List.find?_cons, decide_eq_false z] at e
      rw [List.find?_cons, ← h.1, decide_eq_false z]
      exact ks_get t e
theorem ix_all {r1 r2 : Sl} {M : List C} {Q : Sl → Prop} (h : ixR r1 r2 M Q) : ∀ X, c.Is X → ∀ F As H x y, SlR c.K F As r1 x → SlR c.K F As r2 y → HM c.K F As M H → ∀ G : VK, (∀ r v, SlR c.K F As r v → Q r → G v H) → ∃ r, IxR X r ∧ r x y H G := fun X hX F As H x y hx hy hm G k => by
  cases hX with | mk X k0 nd calm room po =>
  unfold ixR at h
  split at h
  · rename_i d
    split at h
    · rename_i bb ds e1
      split at h
      · rename_i i
        split at h
        · rename_i z e2
          obtain ⟨p, vs, rfl, h1, h2⟩ := (sq_s e1).get hm hx
          obtain ⟨v, h3, h4⟩ := dvs_at h1 e2
          cases bb with
          | true => exact ⟨_, ix_list, p, vs, i, v, rfl, hy, .inl (.inl h2), h3, k (.val z) v h4 h⟩
          | false => exact ⟨_, ix_tup, p, vs, i, v, rfl, hy, h2, h3, k (.val z) v h4 h⟩
        · exact h.elim
      · exact h.elim
    · split at h
      · exact h.elim
      · rename_i kk ek
        have ey := keyV ek hy
        subst ey
        split at h
        · rename_i j _
          obtain ⟨al, h1, rfl⟩ := hx
          split at h
          · rename_i kvs e1
            rw [lkM_eq] at e1
            obtain ⟨o, ho, ws, rfl, hw⟩ := hm.cell j al _ h1 e1
            split at h
            · rename_i z e2
              rcases kd_get (k := kk) hw with ⟨e3, _⟩ | ⟨d', v', e3, e4, hv⟩
              · rw [e3] at e2; cases e2
              · rw [e3] at e2; cases e2
                exact ⟨_, ix_dict (lt_room room), al, v', rfl, by rw [← e4]; exact DGet.k ho, k (.val z) v' hv h⟩
            · exact h.elim
          · rename_i kvs e1
            rw [lkM_eq] at e1
            obtain ⟨o, ho, ws, rfl, hw⟩ := hm.cell j al _ h1 e1
            split at h
            · rename_i z e2
              obtain ⟨v', e4, hv⟩ := ks_get hw e2
              exact ⟨_, ix_dict (lt_room room), al, v', rfl, by rw [← e4]; exact DGet.k ho, k z v' hv h⟩
            · exact h.elim
          · rename_i xs e1
            rw [lkM_eq] at e1
            obtain ⟨o, ho, ws, rfl, hw⟩ := hm.cell j al _ h1 e1
            split at h
            · rename_i i
              split at h
              · rename_i z e2
                obtain ⟨v', e4, hv⟩ := prd_at hw e2
                exact ⟨_, ix_list, al, ws, i, v', rfl, by cases ek; rfl, .inl (.inl ho), e4, k z v' hv h⟩
              · exact h.elim
            · exact h.elim
          · exact h.elim
        · rename_i ks vs _
          obtain ⟨al, ws, rfl, h1, h2, h3⟩ := hx
          subst h2
          split at h
          · rename_i z e2
            rcases kd_get (k := kk) (kd_zip h3) with ⟨e3, _⟩ | ⟨d', v', e3, e4, hv⟩
            · rw [e3] at e2; cases e2
            · rw [e3] at e2; cases e2
              exact ⟨_, ix_dict (lt_room room), al, v', rfl, by rw [← e4]; exact DGet.k (hm.same _ _ h1), k (.val z) v' hv h⟩
          · exact h.elim
        · exact h.elim
  · exact h.elim
theorem tr_ix (ha : Tr c a x) (hb : Tr c b y) (hs : PlainIx b) : Tr c (.Subscript a b pos) (.ix x y) := fun ρ M Q h X hX F As σ H sr hm G k =>
  ⟨_, pe_ix ixR_any pe_w pe_w hs, ha.ee h X hX F As σ H sr hm _ fun x F1 As1 H1 r1 M1 s1 p1 q1 hm1 h1 => hb.ee h1 X hX F1 As1 σ H1 (sr.mono s1 p1) hm1 _ fun y F2 As2 H2 r2 M2 s2 p2 q2 hm2 h2 =>
    ix_all h2 X hX F2 As2 H2 x y (q1.mono s2 p2) q2 hm2 G fun r v hv q => fin_s (Aft.mono k (s1.trans s2) (p1.trans p2)) hm2 (Nat.le_trans (hm.le hm1 p1) (hm1.le hm2 p2)) hv q⟩
/-! ### slices -/
theorem paired_drop {α β : Type} {R : α → β → Prop} : ∀ {l₁ : List α} {l₂ : List β} (n : Nat), Paired R l₁ l₂ → Paired R (l₁.drop n) (l₂.drop n)
  | _, _, 0, r => r
  | _, _, _ + 1, .nil => .nil
  | _, _, n + 1, .cons _ t => paired_drop n t
theorem paired_take {α β : Type} {R : α → β → Prop} : ∀ {l₁ : List α} {l₂ : List β} (n : Nat), Paired R l₁ l₂ → Paired R (l₁.take n) (l₂.take n)
  | _, _, 0, _ => .nil
  | _, _, _ + 1, .nil => .nil
  | _, _, n + 1, .cons r t => .cons r (paired_take n t)
theorem dvs_cut {K : PySem.W.Frag} {F : Hp} {ds : List D} {vs : List V} (h : DVs K F ds vs) (lo hi : Option Int) : DVs K F (cutL ds lo hi) (cutV vs lo hi) := by
  unfold cutL cutV
  rw [h.length]
  exact dvs_paired.mpr (paired_take _ (paired_drop _ (dvs_paired.mp h)))
theorem cutL_map {α β : Type} (f : α → β) (xs : List α) (lo hi : Option Int) : cutL (xs.map f) lo hi = (cutL xs lo hi).map f := by
  unfold cutL
  rw [List.length_map, List.map_take, List.map_drop]
def WO (X : Cx) (e : Option Expr) : TO := fun σ H G => ∃ t : TO, PO X e t ∧ t σ H G
theorem po_w {X : Cx} {e : Option Expr} : PO X e (WO X e) := ⟨fun pins s σ H Q I ⟨_, h, q⟩ => h.run pins s σ H Q I q⟩
def TrO (c : Ctx) (e : Option Expr) (x : Eo) : Prop := ∀ ρ M (Q : Option Int → List C → Prop), wpO c.g x ρ M Q → ∀ X, c.Is X → ∀ F As σ H, SR c.K F As ρ σ → HM c.K F As M H → ∀ G : Option Int → Hp → Prop, (∀ i F' As' H' M', Same F F' → As <+: As' → HM c.K F' As' M' H' → Q i M' → G i H') → WO X e σ H G
theorem trO_none : TrO c none .none := fun ρ M Q h X hX F As σ H sr hm G k => ⟨_, po_none, k none F As H M (Same.refl _) (List.prefix_refl _) hm h⟩
theorem trO_some (ha : Tr c a x) : TrO c (some a) (.some x) := fun ρ M Q h X hX F As σ H sr hm G k =>
  ⟨_, po_some pe_w, ha.ee h X hX F As σ H sr hm _ fun v F1 As1 H1 r M1 s1 p1 r1 hm1 h1 => by
    split at h1
    · rename_i i
      exact ⟨i, r1, k (some i) F1 As1 H1 M1 s1 p1 hm1 h1⟩
    · exact h1.elim⟩
theorem slR_any {X : Cx} : L2.SlR X fun x lo hi H' G' => ∃ r, L2.SlR X r ∧ r x lo hi H' G' := fun pins s σ H x v vl vu lo hi sl Q I rx hs pl pu ⟨r, hr, q⟩ => hr pins s σ H x v vl vu lo hi sl Q I rx hs pl pu q
theorem tr_cut {lo hi : Option Expr} {xl xh : Eo} (ha : Tr c e x) (hl : TrO c lo xl) (hh : TrO c hi xh) : Tr c (.Subscript e (.Slice lo hi none p2) pos) (.cut x xl xh) := fun ρ M Q h X hX F As σ H sr hm G k =>
  ⟨_, pe_slice slR_any pe_w po_w po_w, ha.ee h X hX F As σ H sr hm _ fun v F1 As1 H1 r M1 s1 p1 r1 hm1 h1 => hl ρ M1 _ h1 X hX F1 As1 σ H1 (sr.mono s1 p1) hm1 _ fun i F2 As2 H2 M2 s2 p2 hm2 h2 => hh ρ M2 _ h2 X hX F2 As2 σ H2 (sr.mono (s1.trans s2) (p1.trans p2)) hm2 _ fun j F3 As3 H3 M3 s3 p3 hm3 h3 => by
    have k3 := Aft.mono k ((s1.trans s2).trans s3) ((p1.trans p2).trans p3)
    have hn : M.length ≤ M3.length := Nat.le_trans (Nat.le_trans (hm.le hm1 p1) (hm1.le hm2 p2)) (hm2.le hm3 p3)
    have r3 := r1.mono (s2.trans s3) (p2.trans p3)
    cases hX with | mk X k0 nd calm room po =>
    split at h3
    · rename_i ds e1
      obtain ⟨a, vs, rfl, g1, g2⟩ := (sq_s e1).get hm3 r3
      exact ⟨_, sl_list, a, vs, rfl, .inl (.inl g2), fun p hp => fin_lst k3 hm3 hn hp (dvs_cut g1 i j) h3⟩
    · rename_i ds e1
      obtain ⟨a, vs, rfl, g1, g2⟩ := (sq_s e1).get hm3 r3
      refine ⟨_, sl_tupA, a, vs, rfl, g2, fun hw => ?_, fun _ p hp => fin_tup k3 hm3 hn hp (dvs_cut g1 i j) h3⟩
      have ec : cutL ds i j = ds := by
        unfold cutL
        rw [g1.length, hw.1, hw.2, List.drop_zero, ← g1.length, Nat.sub_zero, List.take_length]
      rw [ec] at h3
      refine fin_val k3 hm3 hn ?_ h3
      have := sq_s e1
      cases this with
      | tup => exact r3
    · split at h3
      · rename_i ns _
        obtain ⟨a, rfl, g2⟩ := r3
        refine ⟨_, sl_list, a, _, rfl, hm3.same.seq g2, fun p hp => fin_lst k3 hm3 hn hp ?_ h3⟩
        refine dvs_ints.mpr ?_
        show cutL (ns.map V.int) i j = _
        rw [cutL_map]
      · exact h3.elim⟩
end
end Dl
/-! X8: built-ins, isinstance -/
namespace Dl
open PySem L2
theorem insI_perm (x : Int) : ∀ l : List Int, (insI x l).Perm (x :: l)
  | [] => .refl _
  | y :: ys => by
    unfold insI; split
    · exact .refl _
    · exact ((insI_perm x ys).cons y).trans (.swap x y ys)
theorem isort_perm : ∀ l : List Int, (isort l).Perm l
  | [] => .refl _
  | x :: xs => (insI_perm x _).trans ((isort_perm xs).cons x)
theorem insI_sorted (x : Int) : ∀ l : List Int, l.Pairwise (· ≤ ·) → (insI x l).Pairwise (· ≤ ·)
  | [], _ => by simp [insI]
  | y :: ys, h => by
    unfold insI
    have h' := List.pairwise_cons.mp h
    split
    · rename_i hxy
      exact List.pairwise_cons.mpr ⟨fun z hz => by
        rcases List.mem_cons.mp hz with rfl | hz
        · exact hxy
        · exact Int.le_trans hxy (h'.1 z hz), h⟩
    · rename_i hxy
      refine List.pairwise_cons.mpr ⟨fun z hz => ?_, insI_sorted x ys h'.2⟩
      have := (insI_perm x ys).mem_iff.mp hz
      rcases List.mem_cons.mp this with rfl | hz
      · omega
      · exact h'.1 z hz
theorem isort_sorted : ∀ l : List Int, (isort l).Pairwise (· ≤ ·)
  | [] => .nil
  | x :: xs => insI_sorted x _ (isort_sorted xs)
theorem sorted_unique : ∀ {l r : List Int}, l.Pairwise (· ≤ ·) → r.Pairwise (· ≤ ·) → l.Perm r → l = r
  | [], r, _, _, p => (List.nil_perm.mp p).symm
  | x :: l, [], _, _, p => (List.perm_nil.mp p)
  | x :: l, y :: r, hl, hr, p => by
    have hl' := List.pairwise_cons.mp hl
    have hr' := List.pairwise_cons.mp hr
    have hxy : x = y := by
      have h1 : x ∈ y :: r := p.mem_iff.mp List.mem_cons_self
      have h2 : y ∈ x :: l := p.mem_iff.mpr List.mem_cons_self
      rcases List.mem_cons.mp h1 with h1 | h1
      · exact h1
      · rcases List.mem_cons.mp h2 with h2 | h2
        · exact h2.symm
        · have := hr'.1 x h1
          have := hl'.1 y h2
          omega
    subst hxy
    rw [sorted_unique hl'.2 hr'.2 (List.Perm.cons_inv p)]
theorem isort_unique {l r : List Int} (h : r.Pairwise (· ≤ ·)) (p : r.Perm l) : r = isort l := sorted_unique h (isort_sorted l) (p.trans (isort_perm l).symm)
theorem mem_insU {x z : Int} : ∀ {l : List Int}, z ∈ insU x l ↔ z = x ∨ z ∈ l
  | [] => by simp [insU]
  | y :: ys => by
    unfold insU
    split
    · simp
    · split
      · rename_i h; subst h; simp
      · rw [List.mem_cons, mem_insU, List.mem_cons]
        constructor
        · rintro (h | h | h) <;> simp [h]
        · rintro (h | h | h) <;> simp [h]
theorem insU_sorted (x : Int) : ∀ l : List Int, l.Pairwise (· < ·) → (insU x l).Pairwise (· < ·)
  | [], _ => by simp [insU]
  | y :: ys, h => by
    unfold insU
    have h' := List.pairwise_cons.mp h
    split
    · rename_i hxy
      exact List.pairwise_cons.mpr ⟨fun z hz => by
        rcases List.mem_cons.mp hz with rfl | hz
        · exact hxy
        · exact Int.lt_trans hxy (h'.1 z hz), h⟩
    · split
      · exact h
      · refine List.pairwise_cons.mpr ⟨fun z hz => ?_, insU_sorted x ys h'.2⟩
        rcases mem_insU.mp hz with rfl | hz
        · omega
        · exact h'.1 z hz
theorem sset_sorted : ∀ l : List Int, (sset l).Pairwise (· < ·)
  | [] => .nil
  | x :: xs => insU_sorted x _ (sset_sorted xs)
theorem mem_sset {z : Int} : ∀ {l : List Int}, z ∈ sset l ↔ z ∈ l
  | [] => Iff.rfl
  | x :: xs => by unfold sset; rw [mem_insU, mem_sset, List.mem_cons]
theorem asc_unique : ∀ {l r : List Int}, l.Pairwise (· < ·) → r.Pairwise (· < ·) → (∀ z, z ∈ l ↔ z ∈ r) → l = r
  | [], [], _, _, _ => rfl
  | [], y :: r, _, _, h => absurd ((h y).mpr List.mem_cons_self) (by simp)
  | x :: l, [], _, _, h => absurd ((h x).mp List.mem_cons_self) (by simp)
  | x :: l, y :: r, hl, hr, h => by
    have hl' := List.pairwise_cons.mp hl
    have hr' := List.pairwise_cons.mp hr
    have hxy : x = y := by
      rcases List.mem_cons.mp ((h x).mp List.mem_cons_self) with h1 | h1
      · exact h1
      · rcases List.mem_cons.mp ((h y).mpr List.mem_cons_self) with h2 | h2
        · exact h2.symm
        · have := hr'.1 x h1
          have := hl'.1 y h2
          omega
    subst hxy
    rw [asc_unique hl'.2 hr'.2 fun z => ⟨fun hz => by
      rcases List.mem_cons.mp ((h z).mp (List.mem_cons_of_mem _ hz)) with e | e
      · have := hl'.1 z hz; omega
      · exact e, fun hz => by
      rcases List.mem_cons.mp ((h z).mpr (List.mem_cons_of_mem _ hz)) with e | e
      · have := hr'.1 z hz; omega
      · exact e⟩]
theorem sset_unique {l r : List Int} (h : r.Pairwise (· < ·)) (m : ∀ z, z ∈ r ↔ z ∈ l) : r = sset l := asc_unique h (sset_sorted l) fun z => (m z).trans mem_sset.symm
theorem sset_id {l : List Int} (h : l.Pairwise (· < ·)) : sset l = l := (sset_unique h fun _ => Iff.rfl).symm
theorem insU_len (x : Int) : ∀ l : List Int, (insU x l).length ≤ l.length + 1
  | [] => by simp [insU]
  | y :: ys => by
    unfold insU
    split
    · simp
    · split
      · simp
      · have := insU_len x ys; simp; omega
theorem sset_len : ∀ l : List Int, (sset l).length ≤ l.length
  | [] => Nat.le_refl _
  | x :: xs => by have := insU_len x (sset xs); have := sset_len xs; simp [sset]; omega

/-! ### set(xs), a list or a tuple of ints -/
section
variable {X : Cx}
def rSetI (K : PySem.W.Frag) (w : World) : List V → Hp → VK → Prop := fun xs H Q => ∃ (l : Addr) (ns : List Int), xs = [V.ref l] ∧ (SqL K H l (ns.map V.int) ∨ SqT K H l (ns.map V.int)) ∧ ns.length ≤ 1000 ∧
  ∀ (p : Addr) (S : Int → Bool) (n : Nat), H p = none → (∀ k, S k = decide (k ∈ ns)) → n ≤ ns.length → Q (.ref p) (upd H p (SetO w p S n))
theorem cr_setI (hc : X.calm = true) : CallR X (.type "set") (rSetI X.K X.w) := by
  intro pins s σ H xs us Q I r h
  obtain ⟨l, ns, rfl, hq, hz, q⟩ := h
  have hd := I.ok.hd hc
  have er : us = [Value.ref l] := by
    cases r with
    | cons r rr => cases rr; cases r; rfl
  subst er
  have tail : ∀ (h' : Heap) (tk n : Nat), SetR X.w h' s.heap.objs.size (fun j => decide (j ∈ ns)) n → n ≤ ns.length → (∀ b o, s.heap.get? b = some o → h'.get? b = some o) → EP X pins σ Q (.ref s.heap.objs.size) { s with heap := h', toks := tk } := fun h' tk n R hn k => by
    refine ⟨.ref _, upd H s.heap.objs.size (SetO X.w s.heap.objs.size (fun j => decide (j ∈ ns)) n), I.laid (t' := tk) k (Nat.le_refl _) (setO_new R), rfl, ?_⟩
    exact q _ _ _ (I.hok.fresh (Nat.le_refl _)) (fun _ => rfl) hn
  rcases hq with hq | hq
  · obtain ⟨its, rv, pl, _⟩ := I.list hq
    exact call_set_lstI ns hd pl.isList (ints_of_vals rv) (by unfold scanBound; omega) tail
  · obtain ⟨its, rv, pt, _⟩ := I.tuple hq
    exact call_set_tupI ns hd (show s.heap.IsTuple l its.toArray from pt) (ints_of_vals rv) (by unfold scanBound; omega) tail
end

theorem maxL_spec : ∀ {l : List Int}, l ≠ [] → maxL l ∈ l ∧ ∀ y ∈ l, y ≤ maxL l
  | [], h => absurd rfl h
  | [x], _ => by simp [maxL]
  | x :: y :: r, _ => by
    have ih := maxL_spec (l := y :: r) (by simp)
    unfold maxL
    refine ⟨?_, fun z hz => ?_⟩
    · by_cases h : x ≤ maxL (y :: r)
      · rw [Int.max_eq_right h]; exact List.mem_cons_of_mem _ ih.1
      · rw [Int.max_eq_left (by omega)]; exact List.mem_cons_self
    · rcases List.mem_cons.mp hz with rfl | hz
      · omega
      · have := ih.2 z hz; omega
theorem maxL_unique {l : List Int} {m : Int} (h : m ∈ l) (g : ∀ y ∈ l, y ≤ m) : m = maxL l := by
  have ne : l ≠ [] := fun z => by subst z; cases h
  have := maxL_spec ne
  have := g _ this.1
  have := (maxL_spec ne).2 m h
  omega

theorem minL_spec : ∀ {l : List Int}, l ≠ [] → minL l ∈ l ∧ ∀ y ∈ l, minL l ≤ y
  | [], h => absurd rfl h
  | [x], _ => by simp [minL]
  | x :: y :: r, _ => by
    have ih := minL_spec (l := y :: r) (by simp)
    unfold minL
    refine ⟨?_, fun z hz => ?_⟩
    · by_cases h : x ≤ minL (y :: r)
      · rw [Int.min_eq_left h]; exact List.mem_cons_self
      · rw [Int.min_eq_right (by omega)]; exact List.mem_cons_of_mem _ ih.1
    · rcases List.mem_cons.mp hz with rfl | hz
      · omega
      · have := ih.2 z hz; omega
theorem minL_unique {l : List Int} {m : Int} (h : m ∈ l) (g : ∀ y ∈ l, m ≤ y) : m = minL l := by
  have ne : l ≠ [] := fun z => by subst z; cases h
  have := minL_spec ne
  have := g _ this.1
  have := (minL_spec ne).2 m h
  omega
theorem dvs_isI {K : PySem.W.Frag} {F : Hp} : ∀ {ds : List D} {vs : List V}, ds.all isI = true → DVs K F ds vs → vs = (ds.map intD).map V.int
  | [], vs, _, h => h
  | d :: ds, _, ha, ⟨v, r, h1, h2, h3⟩ => by
    rw [List.all_cons, Bool.and_eq_true] at ha
    subst h1
    rw [dvs_isI ha.2 h3]
    cases d with
    | int i => have h2 : v = .int i := h2; subst h2; rfl
    | _ => cases ha.1
theorem dvs_isB {K : PySem.W.Frag} {F : Hp} : ∀ {ds : List D} {vs : List V}, ds.all isB = true → DVs K F ds vs → vs = (ds.map blD).map V.bl
  | [], vs, _, h => h
  | d :: ds, _, ha, ⟨v, r, h1, h2, h3⟩ => by
    rw [List.all_cons, Bool.and_eq_true] at ha
    subst h1
    rw [dvs_isB ha.2 h3]
    cases d with
    | bl i => have h2 : v = .bl i := h2; subst h2; rfl
    | _ => cases ha.1
theorem slrs1 {K : PySem.W.Frag} {F : Hp} {As : List Addr} {r : Sl} {vs : List V} (h : SlRs K F As [r] vs) : ∃ v, vs = [v] ∧ SlR K F As r v := by
  cases h with
  | cons h1 h2 => cases h2; exact ⟨_, rfl, h1⟩
theorem slrs2 {K : PySem.W.Frag} {F : Hp} {As : List Addr} {r r' : Sl} {vs : List V} (h : SlRs K F As [r, r'] vs) : ∃ v w, vs = [v, w] ∧ SlR K F As r v ∧ SlR K F As r' w := by
  cases h with
  | cons h1 h2 =>
    obtain ⟨w, rfl, h3⟩ := slrs1 h2
    exact ⟨_, w, rfl, h1, h3⟩
theorem callR_any {X : Cx} {f : Value} : CallR X f fun vs H' G' => ∃ r, CallR X f r ∧ r vs H' G' := fun pins s σ H vs us Q I rv ⟨r, hr, q⟩ => hr pins s σ H vs us Q I rv q
def BiZ (c : Ctx) (f : Value) (rs : List Sl) (M : List C) (Q : Z → Prop) : Prop := ∀ X, c.Is X → ∀ F As H vs, SlRs c.K F As rs vs → HM c.K F As M H → ∀ (n : Nat) G, n ≤ M.length → Aft c.K F As (zq n fun z M' => M' = M ∧ Q z) G → ∃ r, CallR X f r ∧ r vs H G
section
variable {c : Ctx} {rs : List Sl} {M : List C} {Q : Z → Prop}
theorem bi_len (h : biR .len rs M Q) : BiZ c (.builtin "len") rs M Q := fun X hX F As H vs hr hm n G hn k => by
  dsimp only [biR] at h
  split at h
  · obtain ⟨v, rfl, hv⟩ := slrs1 hr
    cases hX with | mk X k0 nd calm room po =>
    split at h
    · rename_i b ds e
      obtain ⟨p, ws, rfl, h1, h2⟩ := (sq_s e).sq hm hv
      exact ⟨_, call_len_seq, p, ws, rfl, h2, fin_val (d := .int ds.length) k hm hn (by show V.int _ = V.int _; rw [h1.length]) ⟨rfl, h⟩⟩
    · split at h
      · rename_i kvs e
        obtain ⟨a, ws, rfl, h1, h2⟩ := dq_kd e hm hv
        exact ⟨_, call_lenD, a, ws, rfl, h1, fin_val (d := .int kvs.length) k hm hn (by show V.int _ = V.int _; rw [Paired.length h2]) ⟨rfl, h⟩⟩
      · exact h.elim
  · exact h.elim
theorem bi_abs (h : biR .abs rs M Q) : BiZ c (.builtin "abs") rs M Q := fun X hX F As H vs hr hm n G hn k => by
  dsimp only [biR] at h
  split at h
  · rename_i i
    obtain ⟨v, rfl, hv⟩ := slrs1 hr
    have hv : v = .int i := hv
    subst hv
    exact ⟨_, call_abs, i, rfl, fin_val (d := .int _) k hm hn rfl ⟨rfl, h⟩⟩
  · exact h.elim
theorem bi_int (h : biR .int rs M Q) : BiZ c (.type "int") rs M Q := fun X hX F As H vs hr hm n G hn k => by
  dsimp only [biR] at h
  split at h
  · rename_i i
    obtain ⟨v, rfl, hv⟩ := slrs1 hr
    have hv : v = .int i := hv
    subst hv
    exact ⟨_, call_int1, .inl ⟨i, rfl, fin_val (d := .int i) k hm hn rfl ⟨rfl, h⟩⟩⟩
  · rename_i i
    obtain ⟨v, rfl, hv⟩ := slrs1 hr
    have hv : v = .bl i := hv
    subst hv
    exact ⟨_, call_int1, .inr ⟨i, rfl, fin_val (d := .int _) k hm hn rfl ⟨rfl, h⟩⟩⟩
  · exact h.elim
theorem bi_tuple (h : biR .tuple rs M Q) : BiZ c (.type "tuple") rs M Q := fun X hX F As H vs hr hm n G hn k => by
  dsimp only [biR] at h
  split at h
  · obtain ⟨v, rfl, hv⟩ := slrs1 hr
    cases hX with | mk X k0 nd calm room po =>
    split at h
    · rename_i b ds e
      have q := sq_s e
      obtain ⟨p, ws, rfl, h1, h2⟩ := q.get hm hv
      cases b with
      | true => exact ⟨_, call_tuple_of, p, ws, rfl, .inl ⟨.inl (.inl h2), fun l hl => fin_tup k hm hn hl h1 ⟨rfl, h⟩⟩⟩
      | false =>
        refine ⟨_, call_tuple_of, p, ws, rfl, .inr ⟨h2, fin_val (d := .tup ds) k hm hn ?_ ⟨rfl, h⟩⟩⟩
        cases q with
        | tup => exact hv
    · exact h.elim
  · exact h.elim
theorem kd_keysD {K : PySem.W.Frag} {F : Hp} : ∀ {xs : List (Key × D)} {ys : List (Key × V)}, KD K F xs ys → DVs K F (xs.map fun p => kD p.1) (ys.map fun p => kV p.1)
  | [], _, .nil => rfl
  | p :: xs, q :: _, .cons h r => ⟨_, _, rfl, by show DV K F (kD p.1) (kV q.1); rw [h.1]; cases q.1 <;> exact rfl, kd_keysD r⟩
theorem bi_list (h : biR .list rs M Q) : BiZ c (.type "list") rs M Q := fun X hX F As H vs hr hm n G hn k => by
  dsimp only [biR] at h
  split at h
  · obtain ⟨v, rfl, hv⟩ := slrs1 hr
    cases hX with | mk X k0 nd calm room po =>
    split at h
    · rename_i b ds e
      obtain ⟨p, ws, rfl, h1, h2⟩ := (sq_s e).sq hm hv
      exact ⟨_, call_list_of, p, ws, rfl, h2, fun l hl => fin_lst k hm hn hl h1 ⟨rfl, h⟩⟩
    · split at h
      · rename_i kvs e
        obtain ⟨a, ws, rfl, h1, h2⟩ := dq_kd e hm hv
        exact ⟨_, call_list_dK calm, a, ws, rfl, h1, fun l hl => fin_lst k hm hn hl (kd_keysD h2) ⟨rfl, h.2⟩⟩
      · exact h.elim
  · exact h.elim
theorem keys_ints {K : PySem.W.Frag} {F : Hp} : ∀ {xs : List (Key × D)} {ys : List (Key × V)}, KD K F xs ys → (xs.map fun p => kD p.1).all isI = true → ys.map (·.1) = (xs.map fun p => intD (kD p.1)).map Sum.inl
  | [], _, .nil, _ => rfl
  | p :: xs, q :: _, .cons h r, ha => by
    rw [List.map_cons, List.all_cons, Bool.and_eq_true] at ha
    rw [List.map_cons, List.map_cons, List.map_cons, keys_ints r ha.2, ← h.1]
    cases e : p.1 with
    | inl i => rfl
    | inr s => rw [e] at ha; cases ha.1
theorem bi_sorted (h : biR .sorted rs M Q) : BiZ c (.builtin "sorted") rs M Q := fun X hX F As H vs hr hm n G hn k => by
  dsimp only [biR] at h
  split at h
  · obtain ⟨v, rfl, hv⟩ := slrs1 hr
    cases hX with | mk X k0 nd calm room po =>
    split at h
    · rename_i ds e
      obtain ⟨p, ws, rfl, h1, h2⟩ := (sq_s e).get hm hv
      have := dvs_isI h.1 h1
      subst this
      exact ⟨_, cr_sortedI, p, _, rfl, .inl (.inl h2), fun ns' l hp hs hl => fin_lst k hm hn hl (dvs_ints.mpr (by rw [isort_unique hs hp])) ⟨rfl, h.2⟩⟩
    · exact h.elim
    · split at h
      · rename_i kvs e
        obtain ⟨a, ws, rfl, h1, h2⟩ := dq_kd e hm hv
        refine ⟨_, call_sortedDI calm, a, ws, _, rfl, .inl h1, keys_ints h2 h.1.1, by rw [List.length_map]; exact h.1.2, fun ys p hp hs hf => fin_lst k hm hn hf (dvs_ints.mpr (by rw [isort_unique hs hp])) ⟨rfl, h.2⟩⟩
      · exact h.elim
  · exact h.elim
theorem bi_all' (h : biR .all rs M Q) : BiZ c (.builtin "all") rs M Q := fun X hX F As H vs hr hm n G hn k => by
  dsimp only [biR] at h
  split at h
  · obtain ⟨v, rfl, hv⟩ := slrs1 hr
    cases hX with | mk X k0 nd calm room po =>
    split at h
    · rename_i ds e
      obtain ⟨p, ws, rfl, h1, h2⟩ := (sq_s e).get hm hv
      have := dvs_isB h.1 h1
      subst this
      exact ⟨_, cr_all calm, p, _, rfl, .inl (.inl h2), fin_val (d := .bl _) k hm hn (by show V.bl _ = V.bl _; rw [List.all_map]; rfl) ⟨rfl, h.2⟩⟩
    · exact h.elim
  · exact h.elim
theorem bi_any (h : biR .any rs M Q) : BiZ c (.builtin "any") rs M Q := fun X hX F As H vs hr hm n G hn k => by
  dsimp only [biR] at h
  split at h
  · obtain ⟨v, rfl, hv⟩ := slrs1 hr
    cases hX with | mk X k0 nd calm room po =>
    split at h
    · rename_i ds e
      obtain ⟨p, ws, rfl, h1, h2⟩ := (sq_s e).get hm hv
      have := dvs_isB h.1 h1
      subst this
      exact ⟨_, cr_any calm, p, _, rfl, .inl (.inl h2), fin_val (d := .bl _) k hm hn (by show V.bl _ = V.bl _; rw [List.any_map]; rfl) ⟨rfl, h.2⟩⟩
    · exact h.elim
  · exact h.elim
theorem bi_sum (h : biR .sum rs M Q) : BiZ c (.builtin "sum") rs M Q := fun X hX F As H vs hr hm n G hn k => by
  dsimp only [biR] at h
  split at h
  · obtain ⟨v, rfl, hv⟩ := slrs1 hr
    cases hX with | mk X k0 nd calm room po =>
    split at h
    · rename_i ds e
      obtain ⟨p, ws, rfl, h1, h2⟩ := (sq_s e).get hm hv
      have := dvs_isI h.1 h1
      subst this
      exact ⟨_, cr_sum calm, p, _, rfl, .inl (.inl h2), fin_val (d := .int _) k hm hn rfl ⟨rfl, h.2⟩⟩
    · exact h.elim
  · exact h.elim
theorem bi_max (h : biR .max rs M Q) : BiZ c (.builtin "max") rs M Q := fun X hX F As H vs hr hm n G hn k => by
  dsimp only [biR] at h
  cases hX with | mk X k0 nd calm room po =>
  split at h
  · rename_i i j
    obtain ⟨v, w, rfl, r1, r2⟩ := slrs2 hr
    have r1 : v = .int i := r1
    have r2 : w = .int j := r2
    subst r1; subst r2
    exact ⟨_, call_max2 calm, i, j, rfl, fin_val (d := .int _) k hm hn (by show V.int _ = V.int _; congr 1; split <;> omega) ⟨rfl, h⟩⟩
  · obtain ⟨v, rfl, hv⟩ := slrs1 hr
    split at h
    · rename_i ds e
      obtain ⟨p, ws, rfl, h1, h2⟩ := (sq_s e).get hm hv
      have := dvs_isI h.1.1 h1
      subst this
      exact ⟨_, cr_max calm, p, _, rfl, .inl (.inl h2), by rw [List.length_map]; exact h.1.2, fun m hm1 hm2 => fin_val (d := .int _) k hm hn (by show V.int _ = V.int _; rw [maxL_unique hm1 hm2]) ⟨rfl, h.2⟩⟩
    · exact h.elim
  · exact h.elim
theorem bi_min (h : biR .min rs M Q) : BiZ c (.builtin "min") rs M Q := fun X hX F As H vs hr hm n G hn k => by
  dsimp only [biR] at h
  cases hX with | mk X k0 nd calm room po =>
  split at h
  · rename_i i j
    obtain ⟨v, w, rfl, r1, r2⟩ := slrs2 hr
    have r1 : v = .int i := r1
    have r2 : w = .int j := r2
    subst r1; subst r2
    exact ⟨_, call_min2 calm, i, j, rfl, fin_val (d := .int _) k hm hn (by show V.int _ = V.int _; congr 1; split <;> omega) ⟨rfl, h⟩⟩
  · obtain ⟨v, rfl, hv⟩ := slrs1 hr
    split at h
    · rename_i ds e
      obtain ⟨p, ws, rfl, h1, h2⟩ := (sq_s e).get hm hv
      have := dvs_isI h.1.1 h1
      subst this
      exact ⟨_, cr_min calm, p, _, rfl, .inl (.inl h2), by rw [List.length_map]; exact h.1.2, fun m hm1 hm2 => fin_val (d := .int _) k hm hn (by show V.int _ = V.int _; rw [minL_unique hm1 hm2]) ⟨rfl, h.2⟩⟩
    · exact h.elim
  · exact h.elim
def Fb.nm : Fb → Str
  | .len => "len" | .abs => "abs" | .int => "int" | .tuple => "tuple" | .list => "list" | .sorted => "sorted" | .all => "all" | .any => "any" | .sum => "sum" | .max => "max" | .min => "min" | .sset => "sorted" | .lrange => "list"
def Fb.isB : Fb → Option String
  | .len => some "len" | .abs => some "abs" | .sorted => some "sorted" | .all => some "all" | .any => some "any" | .sum => some "sum" | .max => some "max" | .min => some "min" | _ => none
def Fb.isT : Fb → Option String
  | .int => some "int" | .tuple => some "tuple" | .list => some "list" | _ => none
def biL : List Str := ["len", "abs", "int", "tuple", "list", "sorted", "all", "any", "sum", "max", "min", "set", "range", "isinstance", "bool", "str", "dict", "enumerate", "zip", "iter", "repr"]
/-- the built-ins are as they were -/
def Bi (mg : Str → Option Value) : Prop := ∀ x ∈ biL, mg x = none
theorem tr_bi {b : Fb} {e : Expr} {es : List Expr} {as : Es} {p1 pos : Pos} (B : Bi c.mg) (hb : b ≠ .sset ∧ b ≠ .lrange) (hs : TrA c (e :: es) as) (hg : Glo c b.nm) (he : ∀ env, starEach (e :: es) env = (false, eval e env) :: starEach es env) (hpl : ∀ env, (backTo pos (starEach es env)).any (·.1) = false) :
    Tr c (.Call (.Name b.nm p1) (e :: es) [] pos) (.bi b as) := fun ρ M Q h X hX F As σ H sr hm G k => by
  have fin : ∀ {f : Value} (hf : ∀ rs M1 Q, biR b rs M1 Q → BiZ c f rs M1 Q), WA X (e :: es) σ H (fun vs H1 => ∃ r, CallR X f r ∧ r vs H1 G) := fun {f} hf =>
    hs ρ M _ h X hX F As σ H sr hm _ fun vs F1 As1 H1 rs M1 s1 p1 r1 hm1 h1 => hf rs M1 _ h1 X hX F1 As1 H1 vs r1 hm1 M.length G (hm.le hm1 p1) fun v F' As' H' r M' s' p' r' hm' ⟨z, M3, z1, z2, z3, z4⟩ => k v F' As' H' r M' (s1.trans s') (p1.trans p') r' hm' ⟨z, M3, z1, z2, by subst z3; exact z4⟩
  cases hX with | mk X k0 nd calm room po =>
  cases b with
  | len => exact ⟨_, pe_callB callR_any hg (B _ (by decide)) PySem.boot_len pa_w (by decide) (by decide) (he _) (hpl _), fin fun _ _ _ => bi_len⟩
  | abs => exact ⟨_, pe_callB callR_any hg (B _ (by decide)) (by decide +kernel) pa_w (by decide) (by decide) (he _) (hpl _), fin fun _ _ _ => bi_abs⟩
  | int => exact ⟨_, pe_callTy callR_any hg (B _ (by decide)) (by decide +kernel) pa_w (by decide) (by decide) (he _) (hpl _), fin fun _ _ _ => bi_int⟩
  | tuple => exact ⟨_, pe_callTy callR_any hg (B _ (by decide)) (by decide +kernel) pa_w (by decide) (by decide) (he _) (hpl _), fin fun _ _ _ => bi_tuple⟩
  | list => exact ⟨_, pe_callTy callR_any hg (B _ (by decide)) (by decide +kernel) pa_w (by decide) (by decide) (he _) (hpl _), fin fun _ _ _ => bi_list⟩
  | sorted => exact ⟨_, pe_callB callR_any hg (B _ (by decide)) (by decide +kernel) pa_w (by decide) (by decide) (he _) (hpl _), fin fun _ _ _ => bi_sorted⟩
  | all => exact ⟨_, pe_callB callR_any hg (B _ (by decide)) (by decide +kernel) pa_w (by decide) (by decide) (he _) (hpl _), fin fun _ _ _ => bi_all'⟩
  | any => exact ⟨_, pe_callB callR_any hg (B _ (by decide)) (by decide +kernel) pa_w (by decide) (by decide) (he _) (hpl _), fin fun _ _ _ => bi_any⟩
  | sum => exact ⟨_, pe_callB callR_any hg (B _ (by decide)) (by decide +kernel) pa_w (by decide) (by decide) (he _) (hpl _), fin fun _ _ _ => bi_sum⟩
  | max => exact ⟨_, pe_callB callR_any hg (B _ (by decide)) (by decide +kernel) pa_w (by decide) (by decide) (he _) (hpl _), fin fun _ _ _ => bi_max⟩
  | min => exact ⟨_, pe_callB callR_any hg (B _ (by decide)) (by decide +kernel) pa_w (by decide) (by decide) (he _) (hpl _), fin fun _ _ _ => bi_min⟩
  | sset => exact absurd rfl hb.1
  | lrange => exact absurd rfl hb.2
end
end Dl
/-! X9: sorted(set()), list(range()), isinstance, fields, calls -/
namespace Dl
open PySem L2
def isPy : D → Bool
  | .slo _ _ => false
  | .obj _ _ => false
  | .scr _ => false
  | _ => true
theorem tyx_of {K : PySem.W.Frag} {H : Hp} {d : D} {v : V} (h : DV K H d v) (hp : isPy d = true) : TyX K H v (.type (kindD d)) := by
  cases d with
  | non => cases (show v = V.non from h); exact .base .non
  | bl b => cases (show v = V.bl b from h); exact .base (.bl b)
  | int b => cases (show v = V.int b from h); exact .base (.int b)
  | str b => cases (show v = V.str b from h); exact .base (.str b)
  | lst ds => obtain ⟨a, vs, rfl, h1, _⟩ := h; exact .base (.lst h1)
  | tup ds =>
    obtain ⟨a, vs, rfl, h1, _⟩ := h
    rcases h1 with (h1 | ⟨o, h1⟩) | h1
    · exact .base (.tup h1)
    · exact .fTuple h1
    · obtain ⟨ob, its, n, h2, h3, h4⟩ := h1
      exact .kTuple h2 h3
  | dic ks ds => obtain ⟨a, vs, rfl, h1, _⟩ := h; exact .base (.dK h1)
  | slo C ds => cases hp
  | obj _ _ => cases hp
  | scr ns => cases hp

def tyL : List String := ["int", "bool", "str", "list", "tuple", "dict"]
theorem kit_all (d : D) (h : isPy d = true) : ∀ t ∈ tyL, kitB (kindD d) t = some (isA (kindD d) t) := by
  have key : ∀ k ∈ ["NoneType", "bool", "int", "str", "list", "tuple", "dict"], ∀ t ∈ tyL, kitB k t = some (isA k t) := by decide +kernel
  intro t ht
  refine key _ ?_ t ht
  cases d <;> first | (cases h; done) | simp [kindD]
theorem kindD_py {d : D} (h : kindD d ≠ "?") : isPy d = true := by
  cases d <;> first | rfl | exact absurd rfl h
theorem boot_ty : ∀ t ∈ tyL, bootBuiltins (Str.ofString t) = some (.type t) ∧ Str.ofString t ≠ "__name__" ∧ (Str.ofString t == ("__debug__" : Str)) = false ∧ Str.ofString t ∈ biL := by decide +kernel
section
variable {c : Ctx} {a b e : Expr} {x y : E} {pos p1 p2 p3 p4 : Pos}
theorem tr_isi1 {t : String} (B : Bi c.mg) (ha : Tr c e x) (ht : t ∈ tyL) (hg : Glo c "isinstance") (hgT : Glo c (Str.ofString t)) (he : ∀ env, starEach [e, .Name (Str.ofString t) p2] env = (false, eval e env) :: starEach [.Name (Str.ofString t) p2] env) :
    Tr c (.Call (.Name "isinstance" p1) [e, .Name (Str.ofString t) p2] [] pos) (.isi x [t]) := fun ρ M Q h X hX F As σ H sr hm G k => by
  obtain ⟨b1, b2, b3, b4⟩ := boot_ty t ht
  have hX' := hX
  cases hX with | mk X k0 nd calm room po =>
  refine ⟨_, pe_callB call_isi hg (B _ (by decide)) (by decide +kernel) (pa_cons pe_w (pa_cons (pe_bltn (v := .ty t) hgT (B _ b4) b1 rfl b2 b3) pa_nil) (he _)) (by decide) (by decide) (he _), ?_⟩
  refine ha.ee h X hX' F As σ H sr hm _ fun v F1 As1 H1 r M1 s1 p1 r1 hm1 h1 => ?_
  split at h1
  · rename_i d ed
    have hp := kindD_py h1.1
    exact ⟨v, .ty t, .type (kindD d), .type t, isA (kindD d) t, rfl, .ty t, tyx_of (vw_dv ed hm1 r1) hp, kit_ty (kit_all d hp t ht), fin_val (d := .bl _) (Aft.mono k s1 p1) hm1 (hm.le hm1 p1) (by show V.bl _ = V.bl _; rw [List.any_cons, List.any_nil, Bool.or_false]) h1.2⟩
  · exact h1.elim
theorem tr_isi2 {t u : String} {x1} (B : Bi c.mg) (ha : Tr c e x) (ht : t ∈ tyL) (hu : u ∈ tyL) (hg : Glo c "isinstance") (hgT : Glo c (Str.ofString t)) (hgU : Glo c (Str.ofString u)) (he : ∀ env, starEach [e, .Tuple [.Name (Str.ofString t) p2, .Name (Str.ofString u) p3] x1 p4] env = (false, eval e env) :: starEach [.Tuple [.Name (Str.ofString t) p2, .Name (Str.ofString u) p3] x1 p4] env) :
    Tr c (.Call (.Name "isinstance" p1) [e, .Tuple [.Name (Str.ofString t) p2, .Name (Str.ofString u) p3] x1 p4] [] pos) (.isi x [t, u]) := fun ρ M Q h X hX F As σ H sr hm G k => by
  obtain ⟨b1, b2, b3, b4⟩ := boot_ty t ht
  obtain ⟨d1, d2, d3, d4⟩ := boot_ty u hu
  have hX' := hX
  cases hX with | mk X k0 nd calm room po =>
  refine ⟨_, pe_callB call_isiT hg (B _ (by decide)) (by decide +kernel) (pa_cons pe_w (pa_cons (pe_tup (pa_cons (pe_bltn (v := .ty t) hgT (B _ b4) b1 rfl b2 b3) (pa_cons (pe_bltn (v := .ty u) hgU (B _ d4) d1 rfl d2 d3) pa_nil))) pa_nil) (he _)) (by decide) (by decide) (he _), ?_⟩
  refine ha.ee h X hX' F As σ H sr hm _ fun v F1 As1 H1 r M1 s1 p1 r1 hm1 h1 => ?_
  split at h1
  · rename_i d ed
    have hp := kindD_py h1.1
    refine ⟨by show 2 ≤ sizeLine; decide, fun p hp' => ?_⟩
    obtain ⟨_, fp⟩ := hm1.fresh hp'
    have hm2 := hm1.laid (o := .tup [.ty t, .ty u]) hp'
    refine ⟨v, p, [.ty t, .ty u], .type (kindD d), [.type t, .type u], isA (kindD d) t || isA (kindD d) u, rfl, upd_same, .cons (.ty t) (.cons (.ty u) .nil), tyx_of (vw_dv ed hm2 (r1.mono (same_new fp) (List.prefix_refl _))) hp, ?_, fin_val (d := .bl _) (Aft.mono k (s1.trans (same_new fp)) p1) hm2 (hm.le hm1 p1) (by show V.bl _ = V.bl _; rw [List.any_cons, List.any_cons, List.any_nil, Bool.or_false]) h1.2⟩
    refine kitAny_cons (kit_ty (kit_all d hp t ht)) (fun h => ?_) (fun h => by rw [h]; rfl)
    rw [h]
    exact kitAny_cons (kit_ty (kit_all d hp u hu)) (fun h => by rw [h]; exact kitAny_nil) (fun h => by rw [h]; rfl)
  · exact h1.elim
/-! ### sorted(set(e)), list(range(..)) -/
theorem tr_sset (B : Bi c.mg) (ha : Tr c a x) (hg1 : Glo c "sorted") (hg2 : Glo c "set") (he : ∀ env, starEach [a] env = (false, eval a env) :: starEach [] env) :
    Tr c (.Call (.Name "sorted" p1) [.Call (.Name "set" p2) [a] [] p3] [] pos) (.bi .sset (.cons x .nil)) := fun ρ M Q h X hX F As σ H sr hm G k => by
  have hX' := hX
  cases hX with | mk X k0 nd calm room po =>
  refine ⟨_, pe_callB (cr_sortedSet calm) hg1 (B _ (by decide)) (by decide +kernel) (pa_cons (pe_callTy (cr_setI calm) hg2 (B _ (by decide)) PyProof.Rows.boot_set (pa_cons pe_w pa_nil (he _)) (by decide) (by decide) (he _)) pa_nil), ?_⟩
  refine ha.ee h X hX' F As σ H sr hm _ fun v F1 As1 H1 r M1 s1 p1 r1 hm1 h1 => ?_
  dsimp only [wpA, biR] at h1
  split at h1
  · rename_i bb ds e
    obtain ⟨⟨hI, hz⟩, q⟩ := h1
    obtain ⟨l, ws, rfl, g1, g2⟩ := (sq_s e).sq hm1 r1
    have := dvs_isI hI g1
    subst this
    refine ⟨l, _, rfl, g2, by rw [List.length_map]; omega, fun p S n hp hS hn => ⟨p, S, n, rfl, upd_same, by rw [List.length_map] at hn; omega, fun ms r hs hmem _ hr => ?_⟩⟩
    obtain ⟨_, fp⟩ := hm1.fresh hp
    have hm2 := hm1.laid (o := SetO X.w p S n) hp
    refine fin_lst (Aft.mono k (s1.trans (same_new fp)) p1) hm2 (hm.le hm1 p1) hr (dvs_ints.mpr ?_) q
    rw [sset_unique hs fun z => ?_]
    rw [hmem z, hS z, decide_eq_true_iff]
  · exact h1.elim
theorem rgV_rng (i j : Int) : rgV i j = (rng i (j - i).toNat).map V.int := by
  unfold rgV rng
  rw [List.map_map]; rfl
/-! ### fields -/
theorem slt_of {K : PySem.W.Frag} {F : Hp} {As : List Addr} {M : List C} {H : Hp} {n j Cl : Nat} {a : Addr} {vs : List Sl} (hm : HM K F As M H) (ha : As[n]? = some a) (h : lkM M n = some (.sob Cl j vs)) (hj : lkM M j = some .dxx) : ∃ dx us, As[j]? = some dx ∧ H a = some (SlX.SlO a (clsAt K Cl) dx us) ∧ SlX.Slt H a (clsAt K Cl) dx us ∧ SR K F As vs us ∧ SlOk K Cl := by
  rw [lkM_eq] at h hj
  obtain ⟨o, ho, dx, us, g1, rfl, g2⟩ := hm.cell n a _ ha h
  obtain ⟨o', ho', rfl⟩ := hm.cell j dx _ g1 hj
  exact ⟨dx, us, g1, ho, .inr ⟨ho, ho'⟩, g2⟩
theorem pe_attU {X : Cx} {e : Expr} {f : Str} {ta : TE} {pos : Pos} (he : PE X e ta) (hb : attributeBase e f X.env (eval e X.env) = eval e X.env) : PE X (.Attribute e f pos) (fun σ H Q => ta σ H fun x H1 => (∃ a C dx fs v, x = .ref a ∧ H1 a = some (.ins C dx fs) ∧ Cls X.K C ∧ NoAttr X.K C f ∧ fs.lookup f = some v ∧ Q v H1) ∨ (∃ a C dx p vs i v, x = .ref a ∧ SlX.Slt H1 a C dx vs ∧ SlX.SCls X.K C ∧ SlX.Slot1 X.K C f p i ∧ vs[i]? = some (some v) ∧ Q v H1)) := by
  refine ⟨fun pins s σ H Q I h => ?_⟩
  refine attr_of hb (thn (he.run pins s σ H _ I h) fun u s1 ⟨x, H1, I1, rx, hh⟩ => ?_)
  rcases hh with ⟨a, C, dx, fs, v, ex, ea, c, n, l, q⟩ | ⟨a, C, dx, p, vs, i, v, ex, hs, c, t, l, q⟩
  · subst ex
    obtain rfl : u = Value.ref a := rx
    exact getattr_ok I1 ea c n l fun u' s2 I2 ru => ⟨v, H1, I2, ru, q⟩
  · subst ex
    obtain rfl : u = Value.ref a := rx
    exact SlX.getslot_ok I1 hs c t l fun u' s2 I2 ru => ⟨v, H1, I2, ru, q⟩
/-- fields that are read -/
inductive FldS (M : List C) (c i : Nat) : Sl → Sl → Prop
  | slo {ds : List D} {d : D} (h : ds[i]? = some d) : FldS M c i (.val (.slo c ds)) (.val d)
  | obj {ds : List D} {d : D} (h : ds[i]? = some d) : FldS M c i (.val (.obj c ds)) (.val d)
  | sob {k j : Nat} {vs : List Sl} {r : Sl} (h1 : lkM M k = some (.sob c j vs)) (h2 : lkM M j = some .dxx) (h : vs[i]? = some r) : FldS M c i (.own k) r
  | ins {k j : Nat} {vs : List Sl} {r : Sl} (h1 : lkM M k = some (.ins c j vs)) (h : vs[i]? = some r) : FldS M c i (.own k) r
theorem fldR_s {M : List C} {c i : Nat} {r r' : Sl} (h : fldR M c i r = some r') : FldS M c i r r' := by
  unfold fldR at h
  split at h
  · split at h
    · rename_i e
      have e := Nat.eq_of_beq_eq_true e
      subst e
      split at h
      · rename_i e2; cases h; rw [lkA_eq] at e2; exact .slo e2
      · cases h
    · cases h
  · split at h
    · rename_i e
      have e := Nat.eq_of_beq_eq_true e
      subst e
      split at h
      · rename_i e2; cases h; rw [lkA_eq] at e2; exact .obj e2
      · cases h
    · cases h
  · split at h
    · rename_i e1
      split at h
      · rename_i e e2
        have e := Nat.eq_of_beq_eq_true e
        subst e
        rw [lkA_eq] at h
        exact .sob e1 e2 h
      · cases h
    · rename_i e1
      split at h
      · rename_i e
        have e := Nat.eq_of_beq_eq_true e
        subst e
        rw [lkA_eq] at h
        exact .ins e1 h
      · cases h
    · cases h
  · cases h
theorem sltAt_no {c i : Nat} {f : Str} (h : fldAt c i = some f) : f ∈ clsFlds c := by
  unfold fldAt at h
  rw [lkA_eq] at h
  exact List.mem_of_getElem? h
theorem no_sl {K : PySem.W.Frag} {c i : Nat} {f : Str} (h : fldAt c i = some f) (g : SlOk K c) : False := by
  unfold fldAt at h
  rw [g.nf] at h; cases h
theorem no_ob {K : PySem.W.Frag} {c i : Nat} {f : Str} (h : sltAt c i = some f) (g : ObOk K c) : False := by
  unfold sltAt at h
  rw [g.ns] at h; cases h
theorem tr_fld {f : Str} {c0 i0 : Nat} (ha : Tr c e x) (hb : ∀ env, attributeBase e f env (eval e env) = eval e env) (hf : fNm c0 i0 f) : Tr c (.Attribute e f pos) (.fld x c0 i0) := fun ρ M Q h X hX F As σ H sr hm G k => by
  have hX' := hX
  cases hX with | mk X k0 nd calm room po =>
  refine ⟨_, pe_attU pe_w (hb _), ha.ee h X hX' F As σ H sr hm _ fun v F1 As1 H1 r M1 s1 p1 r1 hm1 h1 => ?_⟩
  have h1 : match fldR M1 c0 i0 r with
    | some .un => False
    | some r => Q (.s r) M1
    | none => False := h1
  cases er : fldR M1 c0 i0 r with
  | none => rw [er] at h1; exact h1.elim
  | some r' =>
    rw [er] at h1
    have hu : r' ≠ .un := fun z => by subst z; exact h1
    have q : Q (.s r') M1 := by
      cases r' with
      | un => exact absurd rfl hu
      | val d => exact h1
      | own j => exact h1
    have hs := fldR_s er
    clear h1 er
    cases hs with
    | @slo ds d hd =>
      obtain ⟨a, dx, vs, rfl, g1, g2, g5⟩ := r1
      obtain ⟨w, g3, g4⟩ := g2.get hd
      rcases hf with hf | hf
      · obtain ⟨p, t⟩ := g5.sl f i0 hf
        exact .inr ⟨a, _, dx, p, vs.map some, i0, w, rfl, same_slt hm1.same g1, g5.cl, t, by rw [List.getElem?_map, g3]; rfl, fin_val (Aft.mono k s1 p1) hm1 (hm.le hm1 p1) g4 q⟩
      · exact (no_sl hf g5).elim
    | @obj ds d hd =>
      obtain ⟨a, dx, kvs, vs, rfl, g1, g2, g5, g6⟩ := r1
      obtain ⟨w, g3, g4⟩ := g2.get hd
      rcases hf with hf | hf
      · exact (no_ob hf g6).elim
      · exact .inl ⟨a, _, dx, kvs, w, rfl, hm1.same _ _ g1, g6.cl, g6.na f (sltAt_no hf), g5.get i0 f w hf (by rw [List.getElem?_map, g3]; rfl), fin_val (Aft.mono k s1 p1) hm1 (hm.le hm1 p1) g4 q⟩
    | @sob n j vs rr h hj hd =>
      obtain ⟨a, ha, rfl⟩ := r1
      obtain ⟨dx, us, g0, g1, g2, g3, g6⟩ := slt_of hm1 ha h hj
      obtain ⟨w, g4, g5⟩ := g3.get i0 _ hd hu
      rcases hf with hf | hf
      · obtain ⟨p, t⟩ := g6.sl f i0 hf
        exact .inr ⟨a, _, dx, p, us, i0, w, rfl, g2, g6.cl, t, g4, fin_s (Aft.mono k s1 p1) hm1 (hm.le hm1 p1) g5 q⟩
      · exact (no_sl hf g6).elim
    | @ins n j vs rr h hd =>
      obtain ⟨a, ha, rfl⟩ := r1
      rw [lkM_eq] at h
      obtain ⟨o, ho, dx, kvs, us, _, rfl, g2, g5, g6⟩ := hm1.cell n a _ ha h
      obtain ⟨w, g3, g4⟩ := g2.get i0 _ hd hu
      rcases hf with hf | hf
      · exact (no_ob hf g6).elim
      · exact .inl ⟨a, _, dx, kvs, w, rfl, ho, g6.cl, g6.na f (sltAt_no hf), g5.get i0 f w hf g3, fin_s (Aft.mono k s1 p1) hm1 (hm.le hm1 p1) g4 q⟩
/-! ### calls -/
theorem pe_callR {X : Cx} {CX : CXT} {k : Nat} {f : Addr} {sp : Sp} {E : XK} {x : Str} {p pos : Pos} {e : Expr} {es : List Expr} {t : TA} (Fn : FnR X.prog X.w X.K X.mg X.base CX k f sp) (hr : Room k X.A) (hk : PySem.W.keepIn X.K (.ref f) = true) (hg : Gl X x) (hm : X.mg x = some (.ref f)) (hx : Passes CX X E)
    (ha : PA X (e :: es) t) (hdb : (x == ("__debug__" : Str)) = false) (he : starEach (e :: es) X.env = (false, eval e X.env) :: starEach es X.env) (hpl : (backTo pos (starEach es X.env)).any (·.1) = false) : PE X (.Call (.Name x p) (e :: es) [] pos) (fun σ H Q => t σ H fun vs H1 => sp vs H1 Q E) :=
  ⟨fun pins s σ H Q I h => wpAny_Call_Name_kw (ld_glob I hg hm (PySem.W.callWith_K (h₀ := X.base) I.ok.mod.kin hk (thn (ha.run pos pins s σ H _ I h) fun us s1 ⟨vs, H1, I1, r, q⟩ => ⟨I1.kIn, wpAny_call (run_fnR Fn hr hx I1 r q)⟩) he hpl) hdb)⟩
/-- any promise of the def at f, to the level k0 -/
def spU (P : Program) (w : World) (K : PySem.W.Frag) (mg : Str → Option Value) (base : Heap) (k0 : Nat) (f : Addr) : Sp := fun vs H Q E => ∃ k sp, k ≤ k0 ∧ FnR P w K mg base CX0 k f sp ∧ frSp sp vs H Q E
theorem fn_U {P : Program} {w : World} {K : PySem.W.Frag} {mg : Str → Option Value} {base : Heap} {k0 : Nat} {f : Addr} : FnR P w K mg base CX0 k0 f (spU P w K mg base k0 f) := fun A outer s H us vs Q E hr e0 hv ⟨k, sp, hk, F, h⟩ => FnR.frame F A outer s H us vs Q E (hr.mono hk) e0 hv h
theorem Aft.up {K : PySem.W.Frag} {F F1 : Hp} {As As1 : List Addr} {G : VK} {n m : Nat} {Q : Z → List C → Prop} (k : Aft K F As (zq n Q) G) (s : Same F F1) (p : As <+: As1) (hn : n ≤ m) : Aft K F1 As1 (zq m Q) G := Aft.less (Aft.mono k s p) hn
theorem tr_call {nm : Str} {n0 : Nat} {es : List Expr} {as : Es} (hs : TrA c (e :: es) as) (hg : Glo c nm) (hdb : (nm == ("__debug__" : Str)) = false) (he : ∀ env, starEach (e :: es) env = (false, eval e env) :: starEach es env) (hpl : ∀ env, (backTo pos (starEach es env)).any (·.1) = false) :
    Tr c (.Call (.Name nm p1) (e :: es) [] pos) (.call n0 nm as) := fun ρ M Q ⟨⟨f, hf, hkp⟩, h⟩ X hX F As σ H sr hm G k => by
  have hX' := hX
  cases hX with | mk X k0 nd calm room po =>
  refine ⟨_, pe_callR fn_U room hkp hg hf pass0 pa_w hdb (he _) (hpl _), hs ρ M _ h X hX' F As σ H sr hm _ fun vs F1 As1 H1 rs M1 s1 p1 r1 hm1 ⟨kk, sp, df, hk, q⟩ => ?_⟩
  obtain ⟨f', hf', _, hF⟩ := df.ok
  have : f' = f := by rw [hf] at hf'; cases hf'; rfl
  subst this
  exact ⟨kk, sp, hk, hF, q F1 As1 H1 vs hm1 r1 G (Aft.up k s1 p1 (hm.le hm1 p1))⟩
/-! by keywords -/
def TrK (c : Ctx) (es : List Keyword) (as : Es) : Prop := ∀ ρ M Q, wpA c.g as ρ M Q → EK c ρ M es Q
theorem trK_nil : TrK c [] .nil := fun ρ M Q h X hX F As σ H sr hm G k => ⟨_, pk_nil, k [] F As H [] M (Same.refl _) (List.prefix_refl _) .nil hm h⟩
theorem trK_cons {es : List Keyword} {as : Es} {nm : Option Str} {kpos : Pos} (ha : Tr c e x) (hs : TrK c es as) : TrK c (⟨nm, e, kpos⟩ :: es) (.cons x as) := fun ρ M Q h X hX F As σ H sr hm G k =>
  ⟨_, pk_cons pe_w pk_w, ha.ee h X hX F As σ H sr hm _ fun v F1 As1 H1 r M1 s1 p1 r1 hm1 h1 => hs ρ M1 _ h1 X hX F1 As1 σ H1 (sr.mono s1 p1) hm1 _ fun vs F2 As2 H2 rs M2 s2 p2 r2 hm2 h2 =>
    k (v :: vs) F2 As2 H2 (r :: rs) M2 (s1.trans s2) (p1.trans p2) (.cons (r1.mono s2 p2) r2) hm2 h2⟩
theorem pe_callKU {X : Cx} {k0 : Nat} {f : Addr} {x : Str} {p pos : Pos} {kws : List Keyword} {tk : TA} {ks : List Str} (hr : Room k0 X.A) (hg : Gl X x) (hm : X.mg x = some (.ref f)) (hk : PySem.W.keepIn X.K (.ref f) = true) (hkw : PK X kws tk)
    (hall : (backToKw pos (keywordEach kws X.env)).all (·.1.isSome) = true) (hks : (backToKw pos (keywordEach kws X.env)).filterMap (·.1) = ks) (hdb : (x == ("__debug__" : Str)) = false)
    (hpl : ((backTo pos (starEach [] X.env)).any (·.1) || (backToKw pos (keywordEach kws X.env)).any (·.1.isNone)) = false) : PE X (.Call (.Name x p) [] kws pos) (fun σ H Q => tk σ H fun zs H2 => ∃ k sp fd ps gg gV, k ≤ k0 ∧ FnOk X.prog X.w X.K X.mg X.base CX0 k f fd ps sp ∧ KBinds X.K fd ps ks gg gV ∧ sp (gV [] zs) H2 Q E0) := by
  refine ⟨fun pins s σ H Q I h => wpAny_Call_Name_kw (ld_glob I hg hm ?_ hdb)⟩
  refine PySem.W.callWith_KW0 (h₀ := X.base) I.ok.mod.kin hk hall (thn (hkw.run pos pins s σ H _ I h) fun ws s2 ⟨zs, H2, I2, rz, k, sp, fd, ps, gg, gV, hk0, Fn, hb, q2⟩ => ⟨I2.kIn, ?_⟩) hpl
  rw [hks]
  exact run_fnk (us := []) (vs := []) Fn (hr.mono hk0) hb pass0 I2 .nil rz q2
theorem FnOk.frame {P : Program} {w : World} {K : PySem.W.Frag} {mg : Str → Option Value} {base : Heap} {k : Nat} {f : Addr} {fd : FuncData} {ps : List Str} {sp : Sp} (F : FnOk P w K mg base CX0 k f fd ps sp) : FnOk P w K mg base CX0 k f fd ps (frSp sp) :=
  ⟨fun vs H Q E ⟨bs, _, h⟩ => F.len _ _ _ _ h, fun A outer s H args us vs Q E hr e0 hb hv ⟨bs, hbs, h⟩ => code_frame e0 hbs fun e1 => F.run A outer s (dels H bs) args us vs _ E hr e1 hb hv h⟩
theorem lk0_get {K : PySem.W.Frag} {F : Hp} {As : List Addr} : ∀ {rs : List Sl} {vs : List V} (i : Nat), SlRs K F As rs vs → SlR K F As (lk0 rs i) (vs.getD i .non)
  | _, _, i, .nil => by rw [List.getD_nil]; exact rfl
  | _, _, 0, .cons r _ => r
  | _, _, i + 1, .cons _ t => by rw [List.getD_cons_succ]; exact lk0_get i t
theorem tr_callk {nm : Str} {n0 : Nat} {idx : List Nat} {kws : List Keyword} {ks : List Str} {as : Es} (hs : TrK c kws as) (hg : Glo c nm) (hdb : (nm == ("__debug__" : Str)) = false)
    (hall : ∀ env, (backToKw pos (keywordEach kws env)).all (·.1.isSome) = true) (hks : ∀ env, (backToKw pos (keywordEach kws env)).filterMap (·.1) = ks) (hpl : ∀ env, ((backTo pos (starEach [] env)).any (·.1) || (backToKw pos (keywordEach kws env)).any (·.1.isNone)) = false) :
    Tr c (.Call (.Name nm p1) [] kws pos) (.callk n0 nm ks idx as) := fun ρ M Q ⟨⟨f, hf, hkp⟩, h⟩ X hX F As σ H sr hm G k => by
  have hX' := hX
  cases hX with | mk X k0 nd calm room po =>
  refine ⟨_, pe_callKU room hg hf hkp pk_w (hall _) (hks _) hdb (hpl _), hs ρ M _ h X hX' F As σ H sr hm _ fun vs F1 As1 H1 rs M1 s1 p1 r1 hm1 ⟨kk, idx, sp, df, hk, hl, q⟩ => ?_⟩
  obtain ⟨f', fd, ps, hf', _, hF, hB⟩ := df.ok
  have : f' = f := by rw [hf] at hf'; cases hf'; rfl
  subst this
  refine ⟨kk, frSp sp, fd, ps, _, _, hk, FnOk.frame hF, hB, ?_⟩
  have hz : vs.length = ks.length := by rw [← Paired.length r1]; exact hl
  refine q F1 As1 H1 _ hm1 ?_ G (Aft.up k s1 p1 (hm.le hm1 p1))
  unfold permV
  rw [if_pos ⟨rfl, hz⟩]
  clear q df hB hks
  induction idx with
  | nil => exact .nil
  | cons i r ih => exact .cons (lk0_get i r1) ih
/-! methods -/
/-- a receiver whose class has the method -/
def Rcv (K : PySem.W.Frag) (H : Hp) (a Cl : Addr) (m : Str) : Prop := (∃ dx vs, SlX.Slt H a Cl dx vs ∧ SlX.SCls K Cl) ∨ ∃ dx fs, H a = some (.ins Cl dx fs) ∧ Cls K Cl ∧ fs.lookup m = none
theorem pe_methU {X : Cx} {k0 : Nat} {o e : Expr} {es : List Expr} {m : Str} {ta : TE} {t : TA} {pos apos : Pos} {pl : Sem Bool} (he : PE X o ta) (hr : Room k0 X.A) (ha : PA X (e :: es) t)
    (hst : starEach (e :: es) X.env = (false, eval e X.env) :: starEach es X.env) (hpl : (backTo pos (starEach es X.env)).any (·.1) = false)
    (ht : eval (.Call (.Attribute o m apos) (e :: es) [] pos) X.env = (do
      let ov ← eval o X.env
      standAt apos.atName
      let (f, first) ← holding [ov] (getMethod ov m pl)
      callWith pos f first (backTo pos (starEach (e :: es) X.env)) (backToKw pos (keywordEach [] X.env)))) :
    PE X (.Call (.Attribute o m apos) (e :: es) [] pos) (fun σ H Q => ta σ H fun x H1 => ∃ Cl a f, x = .ref a ∧ Rcv X.K H1 a Cl m ∧ Meth X.K Cl m f ∧ t σ H1 fun ws H2 => ∃ k sp, k ≤ k0 ∧ FnR X.prog X.w X.K X.mg X.base CX0 k f sp ∧ frSp sp (x :: ws) H2 Q E0) := by
  refine ⟨fun pins s σ H Q I h => ?_⟩
  refine PySem.W.methodCall_KW (pl := pl) (thn (he.run pins s σ H _ I h) fun u s1 ⟨x, H1, I1, rx, Cl, a, f, ex, hc, hm, q⟩ => ?_) ht
  subst ex
  obtain rfl : u = Value.ref a := rx
  suffices hs : _ by
    rcases hc with ⟨dx, vs, hsl, c⟩ | ⟨dx, fs, ea, c, l⟩
    · exact SlX.getmethsl_ok I1 hsl c hm hs
    · exact getmeth_ok I1 ea c hm l hs
  refine PySem.W.callWith_K (first := [.ref a]) (h₀ := X.base) I.ok.mod.kin hm.kp (thn (ha.run pos pins s1 σ H1 _ I1 q) fun us s2 ⟨ws, H2, I2, r, k, sp, hk, F, q2⟩ => ⟨I2.kIn, ?_⟩) hst hpl
  exact wpAny_call (run_fnR (us := .ref a :: us) (vs := .ref a :: ws) (FnR.frame F) (hr.mono hk) pass0 I2 (.cons rfl r) q2)
theorem pe_methU0 {X : Cx} {k0 : Nat} {o : Expr} {m : Str} {ta : TE} {pos apos : Pos} {pl : Sem Bool} (he : PE X o ta) (hr : Room k0 X.A)
    (ht : eval (.Call (.Attribute o m apos) [] [] pos) X.env = (do
      let ov ← eval o X.env
      standAt apos.atName
      let (f, first) ← holding [ov] (getMethod ov m pl)
      callWith pos f first (backTo pos (starEach [] X.env)) (backToKw pos (keywordEach [] X.env)))) :
    PE X (.Call (.Attribute o m apos) [] [] pos) (fun σ H Q => ta σ H fun x H1 => ∃ Cl a f, x = .ref a ∧ Rcv X.K H1 a Cl m ∧ Meth X.K Cl m f ∧ ∃ k sp, k ≤ k0 ∧ FnR X.prog X.w X.K X.mg X.base CX0 k f sp ∧ frSp sp [x] H1 Q E0) := by
  refine ⟨fun pins s σ H Q I h => ?_⟩
  refine PySem.W.methodCall_KW (pl := pl) (thn (he.run pins s σ H _ I h) fun u s1 ⟨x, H1, I1, rx, Cl, a, f, ex, hc, hm, k, sp, hk, F, q⟩ => ?_) ht
  subst ex
  obtain rfl : u = Value.ref a := rx
  suffices hs : _ by
    rcases hc with ⟨dx, vs, hsl, c⟩ | ⟨dx, fs, ea, c, l⟩
    · exact SlX.getmethsl_ok I1 hsl c hm hs
    · exact getmeth_ok I1 ea c hm l hs
  exact PySem.W.callWith_K0 (first := [.ref a]) I1.kIn hm.kp (wpAny_call (run_fnR (us := [.ref a]) (vs := [.ref a]) (FnR.frame F) (hr.mono hk) pass0 I1 (.cons rfl .nil) q))
theorem meth_f {K : PySem.W.Frag} {C : Addr} {m : Str} {f f' : Addr} (h : Meth K C m f) (h' : Meth K C m f') : f' = f := by
  have a := h.at_
  have b := h'.at_
  rw [a] at b; cases b; rfl
end
end Dl
/-! X10: methods, making, methods of lists, own, lend -/
namespace Dl
open PySem L2
section
variable {c : Ctx} {a b e o : Expr} {x y : E} {pos apos p1 p2 p3 p4 : Pos}
theorem lookup_none {α : Type} {m : Str} : ∀ {kvs : List (Str × α)}, (∀ p ∈ kvs, p.1 ≠ m) → kvs.lookup m = none
  | [], _ => rfl
  | (g, v) :: kvs, h => by
    rw [List.lookup_cons]
    have : (m == g) = false := by
      cases e : m == g with
      | false => rfl
      | true => exact absurd (eq_of_beq e).symm (h (g, v) List.mem_cons_self)
    rw [this]
    exact lookup_none fun p hp => h p (List.mem_cons_of_mem _ hp)
theorem recv {m : Str} {g : Gx} {F : Hp} {As : List Addr} {M : List C} {H : Hp} {r : Sl} {v : V} {c0 : Nat} (hm : HM g.K F As M H) (h : recvC M r = some c0) (hM : HasM g c0 m) (r1 : SlR g.K F As r v) : ∃ a f, v = .ref a ∧ Rcv g.K H a (clsAt g.K c0) m ∧ Meth g.K (clsAt g.K c0) m f := by
  obtain ⟨nf, f, hf⟩ := hM
  have nl : ∀ {kvs : List (Str × V)} {us : List (Option V)}, FsR c0 kvs us → kvs.lookup m = none := fun g => lookup_none fun p hp e => nf (e ▸ g.mem p hp)
  unfold recvC at h
  split at h
  · cases h
    obtain ⟨a, dx, vs, rfl, g1, g2, g3⟩ := r1
    exact ⟨a, f, rfl, .inl ⟨dx, vs.map some, same_slt hm.same g1, g3.cl⟩, hf⟩
  · cases h
    obtain ⟨a, dx, kvs, vs, rfl, g1, g2, g3, g4⟩ := r1
    exact ⟨a, f, rfl, .inr ⟨dx, kvs, hm.same _ _ g1, g4.cl, nl g3⟩, hf⟩
  · split at h
    · rename_i e1
      split at h
      · rename_i e2
        cases h
        obtain ⟨a, ha, rfl⟩ := r1
        obtain ⟨dx, us, g0, _, g2, g3, g4⟩ := slt_of hm ha e1 e2
        exact ⟨a, f, rfl, .inl ⟨dx, us, g2, g4.cl⟩, hf⟩
      · cases h
    · rename_i e1
      cases h
      obtain ⟨a, ha, rfl⟩ := r1
      rw [lkM_eq] at e1
      obtain ⟨o, ho, dx, kvs, us, _, rfl, g2, g3, g4⟩ := hm.cell _ a _ ha e1
      exact ⟨a, f, rfl, .inr ⟨dx, kvs, ho, g4.cl, nl g3⟩, hf⟩
    · cases h
  · cases h
theorem tr_meth {m : Str} {n0 c0 : Nat} {es : List Expr} {as : Es} {pl : Env → Sem Bool} (ho : Tr c o x) (hs : TrA c (e :: es) as) (hst : ∀ env, starEach (e :: es) env = (false, eval e env) :: starEach es env) (hpl : ∀ env, (backTo pos (starEach es env)).any (·.1) = false)
    (ht : ∀ env, eval (.Call (.Attribute o m apos) (e :: es) [] pos) env = (do
      let ov ← eval o env
      standAt apos.atName
      let (f, first) ← holding [ov] (getMethod ov m (pl env))
      callWith pos f first (backTo pos (starEach (e :: es) env)) (backToKw pos (keywordEach [] env)))) : Tr c (.Call (.Attribute o m apos) (e :: es) [] pos) (.meth n0 x c0 m as) := fun ρ M Q h X hX F As σ H sr hm G k => by
  have hX' := hX
  cases hX with | mk X k0 nd calm room po =>
  refine ⟨_, pe_methU pe_w room pa_w (hst _) (hpl _) (ht _), ho.ee h X hX' F As σ H sr hm _ fun v F1 As1 H1 r M1 s1 p1 r1 hm1 ⟨hc, hM, h1⟩ => ?_⟩
  obtain ⟨a, f, rfl, g1, g3⟩ := recv hm1 hc hM r1
  refine ⟨_, a, f, rfl, g1, g3, hs ρ M1 _ h1 X hX' F1 As1 σ H1 (sr.mono s1 p1) hm1 _ fun ws F2 As2 H2 rs M2 s2 p2 r2 hm2 ⟨kk, sp, df, hk, q⟩ => ?_⟩
  obtain ⟨f', g5, g4⟩ := df.ok
  have := meth_f g3 g5
  subst this
  exact ⟨kk, sp, hk, g4, q F2 As2 H2 (.ref a :: ws) hm2 (.cons (r1.mono s2 p2) r2) G (Aft.up k (s1.trans s2) (p1.trans p2) (Nat.le_trans (hm.le hm1 p1) (hm1.le hm2 p2)))⟩
theorem tr_meth0 {m : Str} {n0 c0 : Nat} {pl : Env → Sem Bool} (ho : Tr c o x)
    (ht : ∀ env, eval (.Call (.Attribute o m apos) [] [] pos) env = (do
      let ov ← eval o env
      standAt apos.atName
      let (f, first) ← holding [ov] (getMethod ov m (pl env))
      callWith pos f first (backTo pos (starEach [] env)) (backToKw pos (keywordEach [] env)))) : Tr c (.Call (.Attribute o m apos) [] [] pos) (.meth n0 x c0 m .nil) := fun ρ M Q h X hX F As σ H sr hm G k => by
  have hX' := hX
  cases hX with | mk X k0 nd calm room po =>
  refine ⟨_, pe_methU0 pe_w room (ht _), ho.ee h X hX' F As σ H sr hm _ fun v F1 As1 H1 r M1 s1 p1 r1 hm1 ⟨hc, hM, h1⟩ => ?_⟩
  obtain ⟨a, f, rfl, g1, g3⟩ := recv hm1 hc hM r1
  have h1 : MethZ _ c0 m [r] M1 Q := h1
  obtain ⟨kk, sp, df, hk, q⟩ := h1
  obtain ⟨f', g5, g4⟩ := df.ok
  have := meth_f g3 g5
  subst this
  exact ⟨_, a, f', rfl, g1, g3, kk, sp, hk, g4, q F1 As1 H1 [.ref a] hm1 (.cons r1 .nil) G (Aft.up k s1 p1 (hm.le hm1 p1))⟩
/-! ### C(e, ..) -/
def spUI (P : Program) (w : World) (K : PySem.W.Frag) (mg : Str → Option Value) (base : Heap) (k0 : Nat) (f : Addr) : Sp := fun vs H Q E => ∃ k sp, k ≤ k0 ∧ FnR P w K mg base CX0 k f sp ∧ frSp sp vs H Q E
theorem tr_make {nm : Str} {n0 : Nat} {es : List Expr} {as : Es} (hs : TrA c (e :: es) as) (hg : Glo c nm) (hdb : (nm == ("__debug__" : Str)) = false) (he : ∀ env, starEach (e :: es) env = (false, eval e env) :: starEach es env) (hpl : ∀ env, (backTo pos (starEach es env)).any (·.1) = false) (hk0 : 0 < c.k) :
    Tr c (.Call (.Name nm p1) (e :: es) [] pos) (.make n0 nm as) := fun ρ M Q ⟨⟨Cl, f, hC, hM⟩, h⟩ X hX F As σ H sr hm G k => by
  have hX' := hX
  cases hX with | mk X k0 nd calm room po =>
  have hk0 : 0 < k0 := hk0
  have room' : Room (k0 - 1 + 1) X.A := by rw [Nat.sub_add_cancel hk0]; exact room
  refine ⟨_, StX.pe_makeR hM (fn_U (k0 := k0 - 1)) room' hg hC pass0 pa_w hdb (he _) (hpl _), hs ρ M _ h X hX' F As σ H sr hm _ fun vs F1 As1 H1 rs M1 s1 p1 r1 hm1 ⟨C', kk, sp, df, hk, q⟩ x dx hx hdx ne => ?_⟩
  obtain ⟨f', hC', hM', hF⟩ := df.ok
  have : C' = Cl := by rw [hC] at hC'; cases hC'; rfl
  subst this
  have : f' = f := by
    have a := hM.init
    have b := hM'.init
    rw [a] at b; cases b; rfl
  subst this
  have hk : kk + 1 ≤ k0 := hk
  exact ⟨kk, sp, by omega, hF, q F1 As1 H1 vs hm1 r1 G (Aft.up k s1 p1 (hm.le hm1 p1)) x dx hx hdx ne⟩
/-! ### own, lend, scope -/
theorem tr_scope (ha : Tr c e x) : Tr c e (.scope x) := fun ρ M Q h X hX F As σ H sr hm G k =>
  ha.ee h X hX F As σ H sr hm G fun v F1 As1 H1 r M1 s1 p1 r1 hm1 h1 => by
    cases r with
    | un => exact h1.elim
    | own _ => exact h1.elim
    | val d =>
      obtain ⟨⟨hl, hc⟩, q⟩ := h1
      obtain ⟨F2, s2, hm2⟩ := hm1.drop M.length hl hc
      have hA : As1.take M.length = As := by obtain ⟨t, rfl⟩ := p1; rw [← hm.len]; simp
      rw [hA] at hm2
      exact k v F2 As H1 (.val d) _ (s1.trans s2) (List.prefix_refl _) (DV.mono s2 r1) hm2 ⟨.s (.val d), M1.take M.length, ⟨rfl, rfl⟩, by rw [List.length_take]; omega, q⟩
theorem tr_own (ha : Tr c e x) : Tr c e (.own x) := fun ρ M Q h X hX F As σ H sr hm G k =>
  ha ρ M _ h X hX F As σ H sr hm G fun v F1 As1 H1 r M1 s1 p1 r1 hm1 ⟨z, M2, z1, z2, q⟩ => by
    split at q
    · rename_i c0
      obtain ⟨e1, e2, e3⟩ := z1
      subst e1; subst e2
      exact k v F1 As1 H1 _ _ s1 p1 r1 hm1 ⟨.s _, _, ⟨rfl, rfl⟩, by simp; omega, q⟩
    · exact q.elim
theorem vws_dv {K : PySem.W.Frag} {F : Hp} {As : List Addr} {M : List C} {H : Hp} (hm : HM K F As M H) : ∀ {xs : List Sl} {vs : List V} {ds : List D}, vws M xs = some ds → SlRs K F As xs vs → DVs K H ds vs
  | [], _, ds, e, h => by cases h; cases e; rfl
  | x :: xs, _, ds, e, h => by
    cases h with
    | @cons _ v _ vs h1 h2 =>
      have e : (match vw M x, vws M xs with | some d, some ds => some (d :: ds) | _, _ => none) = some ds := e
      split at e
      · rename_i d ds' e1 e2
        cases e
        exact ⟨v, vs, rfl, vw_dv e1 hm h1, vws_dv hm e2 h2⟩
      · cases e
theorem lend_s {K : PySem.W.Frag} {F : Hp} {As : List Addr} {M : List C} {H : Hp} {s : Sl} {v : V} (hm : HM K F As M H) (r : SlR K F As s v) : SlR K H [] (lendS M s) v := by
  cases s with
  | un => exact trivial
  | val d => exact DV.mono hm.same r
  | own k =>
    show SlR K H [] (match lkM M k with | some c => (match frz2 M c with | some d => .val d | none => .un) | none => .un) v
    cases e : lkM M k with
    | none => exact trivial
    | some c0 =>
      show SlR K H [] (match frz2 M c0 with | some d => .val d | none => .un) v
      cases e2 : frz2 M c0 with
      | none => exact trivial
      | some d =>
        have plainC : c0.frz = some d → DV K H d v := fun e3 => by
          have : vw M (.own k) = some d := by
            show (match lkM M k with | some c => c.frz | none => none) = some d
            rw [e]; exact e3
          exact vw_dv this hm r
        cases c0 with
        | mls xs =>
          have e2 : (match vws M xs with | some ds => some (D.lst ds) | none => none) = some d := e2
          split at e2
          · rename_i ds e3
            cases e2
            obtain ⟨a, ha, rfl⟩ := r
            rw [lkM_eq] at e
            obtain ⟨o, ho, vs, rfl, hv⟩ := hm.cell k a _ ha e
            exact ⟨a, vs, rfl, ho, vws_dv hm e3 hv⟩
          · cases e2
        | lst _ => exact plainC e2
        | dic _ => exact plainC e2
        | mdc _ => cases e2
        | ins _ _ _ => cases e2
        | dxo _ => cases e2
        | sob0 _ _ => cases e2
        | sob _ _ _ => cases e2
        | dxx => cases e2
theorem SR.lend {K : PySem.W.Frag} {F : Hp} {As : List Addr} {M : List C} {H : Hp} {ρ : List Sl} {σ : L2.St} (sr : SR K F As ρ σ) (hm : HM K F As M H) : SR K H [] (ρ.map (lendS M)) σ := by
  refine ⟨by simpa using sr.len, fun i s q z => ?_⟩
  rw [List.getElem?_map] at q
  cases e : ρ[i]? with
  | none => rw [e] at q; cases q
  | some s0 =>
    rw [e] at q
    cases q
    by_cases h0 : s0 = .un
    · subst h0; exact absurd rfl z
    · obtain ⟨v, h1, h2⟩ := sr.get i s0 e h0
      exact ⟨v, h1, lend_s hm h2⟩
mutual
theorem dv_flatH {K : PySem.W.Frag} {H : Hp} {As : List Addr} (hA : ∀ a ∈ As, ∀ xs, ¬ Rd H a (.tup xs)) : ∀ {d : D} {v : V}, flatD d = true → DV K H d v → DV K (dels H As) d v
  | .non, _, _, h => h
  | .bl _, _, _, h => h
  | .int _, _, _, h => h
  | .str _, _, _, h => h
  | .tup ds, _, hf, ⟨a, vs, h1, h2, h3⟩ => by
    refine ⟨a, vs, h1, ?_, dvs_flatH hA hf h3⟩
    rcases h2 with (h2 | ⟨o, h2⟩) | h2
    · have na : a ∉ As := fun z => hA a z vs (.inl h2)
      exact .inl (.inl (by rw [dels_ne na]; exact h2))
    · have na : a ∉ As := fun z => hA a z vs (.inr ⟨o, h2⟩)
      exact .inl (.inr ⟨o, by rw [dels_ne na]; exact h2⟩)
    · exact .inr h2
  | .lst _, _, hf, _ => by cases hf
  | .dic _ _, _, hf, _ => by cases hf
  | .slo _ _, _, hf, _ => by cases hf
  | .obj _ _, _, hf, _ => by cases hf
  | .scr _, _, hf, _ => by cases hf
theorem dvs_flatH {K : PySem.W.Frag} {H : Hp} {As : List Addr} (hA : ∀ a ∈ As, ∀ xs, ¬ Rd H a (.tup xs)) : ∀ {ds : List D} {vs : List V}, flatDs ds = true → DVs K H ds vs → DVs K (dels H As) ds vs
  | [], _, _, h => h
  | d :: ds, _, hf, ⟨v, r, h1, h2, h3⟩ => by
    have hf : (flatD d && flatDs ds) = true := hf
    rw [Bool.and_eq_true] at hf
    exact ⟨v, r, h1, dv_flatH hA hf.1 h2, dvs_flatH hA hf.2 h3⟩
end

theorem HM.notup {K : PySem.W.Frag} {F : Hp} {As : List Addr} {M : List C} {H : Hp} (hm : HM K F As M H) {a : Addr} (ha : a ∈ As) : ∃ o, H a = some o ∧ (∀ xs, o ≠ .tup xs) ∧ ∀ u v, o ≠ .frz u v := by
  obtain ⟨o, h1, h2⟩ := hm.frs a ha
  refine ⟨o, h1, ?_, ?_⟩ <;> (cases h2 <;> (intros; intro z; cases z))
theorem tr_lend (ha : Tr c e x) : Tr c e (.lend x) := fun ρ M Q h X hX F As σ H sr hm G k => by
  have hm0 : HM c.K H [] [] H := ⟨.nil, rfl, fun i a c e => by simp at e, fun a h => (nomatch h), fun _ _ => rfl⟩
  refine ha (ρ.map (lendS M)) [] _ h X hX H [] σ H (sr.lend hm) hm0 G fun v F1 As1 H1 r M1 s1 p1 r1 hm1 ⟨z, M2, z1, z2, q⟩ => ?_
  -- the cells are as they were
  have sH : Same H H1 := s1.trans hm1.same
  have back : HM c.K (dels H1 As) As M H1 := ⟨hm.nd, hm.len, fun i a cc ea ec => by
      obtain ⟨o, g1, g2⟩ := hm.cell i a cc ea ec
      refine ⟨o, sH a o g1, g2.mono (fun b ob e => ?_) (List.prefix_refl _)⟩
      have nb : b ∉ As := fun z => by rw [hm.off b z] at e; cases e
      rw [dels_ne nb]
      exact sH b ob (by rw [hm.out b nb]; exact e), fun a ha => dels_in ha, fun a ha => (dels_ne ha).symm⟩
  have sF : Same F (dels H1 As) := fun b ob e => by
    have nb : b ∉ As := fun z => by rw [hm.off b z] at e; cases e
    rw [dels_ne nb]
    exact sH b ob (by rw [hm.out b nb]; exact e)
  have nt : ∀ a ∈ As, ∀ xs, ¬ Rd H1 a (.tup xs) := fun a ha xs hr => by
    obtain ⟨o, g1, g2, g3⟩ := hm.notup ha
    have g1' := sH a o g1
    rcases hr with hr | ⟨ob, hr⟩
    · rw [g1'] at hr; cases hr; exact g2 _ rfl
    · rw [g1'] at hr; cases hr; exact g3 _ _ rfl
  unfold lendR at q
  split at q
  · rename_i d
    obtain ⟨e1, e2⟩ := z1
    subst e1; subst e2
    refine k v (dels H1 As) As H1 (.val d) M sF (List.prefix_refl _) ?_ back ⟨.s (.val d), M, ⟨rfl, rfl⟩, Nat.le_refl _, q.2⟩
    exact dv_flatH nt q.1 (DV.mono hm1.same r1)
  · rename_i ds
    obtain ⟨e1, e2, e3⟩ := z1
    subst e1; subst e2
    obtain ⟨a, g1, rfl⟩ := r1
    obtain ⟨o, ho, vs, rfl, hv⟩ := hm1.cell M2.length a (.lst ds) g1 (by simp)
    -- the new list is none of the cells
    have na : a ∉ As := fun z => by
      obtain ⟨o', g2, _⟩ := hm.notup z
      have : H a = some o' := g2
      have hoff := hm1.off a (List.mem_iff_getElem?.mpr ⟨_, g1⟩)
      rw [s1 a o' this] at hoff
      cases hoff
    have hv' : DVs c.K (dels H1 (As ++ [a])) ds vs := by
      have h1 : DVs c.K H1 ds vs := hv.mono hm1.same
      refine dvs_flatH (fun b hb xs hr => ?_) q.1 h1
      rcases List.mem_append.mp hb with hb | hb
      · exact nt b hb xs hr
      · have : b = a := by simpa using hb
        subst this
        rcases hr with hr | ⟨ob, hr⟩ <;> (rw [ho] at hr; cases hr)
    have sF2 : Same F (dels H1 (As ++ [a])) := fun b ob e => by
      have nb : b ∉ As := fun z => by rw [hm.off b z] at e; cases e
      have nba : b ≠ a := fun z => by
        subst z
        have hoff := hm1.off b (List.mem_iff_getElem?.mpr ⟨_, g1⟩)
        rw [s1 b ob (by rw [hm.out b nb]; exact e)] at hoff
        cases hoff
      rw [dels_ne (by simp [nb, nba])]
      exact sH b ob (by rw [hm.out b nb]; exact e)
    refine k _ (dels H1 (As ++ [a])) (As ++ [a]) H1 (.own M.length) (M ++ [.lst ds]) sF2 (List.prefix_append _ _) ⟨a, by rw [← hm.len]; simp, rfl⟩ ?_ ⟨.n (.lst ds), M, ⟨rfl, rfl, hm.refs⟩, Nat.le_refl _, q.2⟩
    refine ⟨?_, by simp [hm.len], fun i b cc eb ec => ?_, fun b hb => dels_in hb, fun b hb => (dels_ne hb).symm⟩
    · rw [List.nodup_append]
      exact ⟨hm.nd, by simp, fun b hb b' hb' z => by
        have : b' = a := by simpa using hb'
        subst this; subst z; exact na hb⟩
    · by_cases hi : i < As.length
      · rw [List.getElem?_append_left hi] at eb
        rw [List.getElem?_append_left (by rw [← hm.len]; exact hi)] at ec
        obtain ⟨o', g2, g3⟩ := hm.cell i b cc eb ec
        exact ⟨o', sH b o' g2, g3.mono sF2 (List.prefix_append _ _)⟩
      · have hi2 : i = As.length := by
          have := (List.getElem?_eq_some_iff.mp eb).1
          simp at this; omega
        subst hi2
        rw [List.getElem?_append_right (Nat.le_refl _)] at eb
        rw [hm.len, List.getElem?_append_right (Nat.le_refl _)] at ec
        simp at eb ec
        subst eb; subst ec
        exact ⟨_, ho, vs, rfl, hv'⟩
  · exact q.elim
/-! ### methods of lists -/
theorem mtR_any {X : Cx} {id : String} : MtR X id fun x xs H' G' => ∃ r, MtR X id r ∧ r x xs H' G' := fun pins s σ H x xs v us Q I rx rs ⟨r, hr, q⟩ => hr pins s σ H x xs v us Q I rx rs q

theorem mt_list {m : Mth} {r : Sl} {M : List C} {K : PySem.W.Frag} {F : Hp} {As : List Addr} {H : Hp} {v : V} (hm : HM K F As M H) (hr : SlR K F As r v) (hl : m.isL = true) (h : mtOk m r M = true) : tyV K "list" v H := by
  unfold mtOk at h
  split at h
  · rename_i k
    obtain ⟨a, ha, rfl⟩ := hr
    split at h
    · rename_i ds e
      rw [lkM_eq] at e
      obtain ⟨o, ho, vs, rfl, _⟩ := hm.cell k a _ ha e
      exact .inl ⟨rfl, vs, .inl (.inl ho)⟩
    · rename_i ds e
      rw [lkM_eq] at e
      obtain ⟨o, ho, vs, rfl, _⟩ := hm.cell k a _ ha e
      exact .inl ⟨rfl, vs, .inl (.inl ho)⟩
    · rw [hl] at h; cases h
    · rw [hl] at h; cases h
    · cases h
  · rw [hl] at h; cases h
  · cases h
/-- behind a change of a cell -/
theorem fin_set {K : PySem.W.Frag} {F : Hp} {As : List Addr} {M : List C} {H : Hp} {G : VK} {n j : Nat} {Q : Z → List C → Prop} {l : Addr} {o : HO} {cc : C} {d : D} {v : V} (k : Aft K F As (zq n Q) G) (hm : HM K F As M H) (hn : n ≤ M.length) (hl : As[j]? = some l) (hc : CR K F As l cc o) (hv : DV K F d v) (q : Q (.s (.val d)) (ptM M j cc)) : G v (upd H l o) := by
  rw [ptM_eq] at q
  exact k _ F As _ (.val d) _ (Same.refl _) (List.prefix_refl _) hv (hm.set hl hc) ⟨.s _, _, ⟨rfl, rfl⟩, by simpa using hn, q⟩

theorem inv_append {r s : Sl} {M : List C} {Q : Z → List C → Prop} (h : mtR .append r [s] M Q) : ∃ k d ds, r = .own k ∧ s = .val d ∧ M[k]? = some (.lst ds) ∧ ds.length < 100000 ∧ Q (.s (.val .non)) (ptM M k (.lst (ds ++ [d]))) := by
  cases r with
  | un => exact False.elim h
  | val _ => exact False.elim h
  | own k => cases s with
    | un => exact False.elim h
    | own _ => exact False.elim h
    | val d =>
      have h : (match lkM M k with | some (.lst ds) => ds.length < 100000 ∧ Q (.s (.val .non)) (ptM M k (.lst (ds ++ [d]))) | _ => False) := h
      rw [lkM_eq] at h
      cases e : M[k]? with
      | none => rw [e] at h; exact False.elim h
      | some cc =>
        rw [e] at h
        cases cc with
        | lst ds => exact ⟨k, d, ds, rfl, rfl, e, h⟩
        | _ => exact False.elim h
theorem inv_extend {r s : Sl} {M : List C} {Q : Z → List C → Prop} (h : mtR .extend r [s] M Q) : ∃ k ds xs, r = .own k ∧ M[k]? = some (.lst ds) ∧ sq M s = some (true, xs) ∧ ds.length + xs.length < 100000 ∧ Q (.s (.val .non)) (ptM M k (.lst (ds ++ xs))) := by
  cases r with
  | un => exact False.elim h
  | val _ => exact False.elim h
  | own k =>
    have h : (match lkM M k, sq M s with | some (.lst ds), some (true, xs) => ds.length + xs.length < 100000 ∧ Q (.s (.val .non)) (ptM M k (.lst (ds ++ xs))) | _, _ => False) := h
    rw [lkM_eq] at h
    cases e : M[k]? with
    | none => rw [e] at h; exact False.elim h
    | some cc =>
      rw [e] at h
      cases cc with
      | lst ds =>
        cases e2 : sq M s with
        | none => rw [e2] at h; exact False.elim h
        | some p =>
          obtain ⟨b, xs⟩ := p
          rw [e2] at h
          cases b with
          | true => exact ⟨k, ds, xs, rfl, e, rfl, h⟩
          | false => exact False.elim h
      | _ => exact False.elim h
theorem inv_pop {r : Sl} {M : List C} {Q : Z → List C → Prop} (h : mtR .pop r [] M Q) : ∃ k xs d, r = .own k ∧ M[k]? = some (.lst (xs ++ [d])) ∧ Q (.s (.val d)) (ptM M k (.lst xs)) := by
  cases r with
  | un => exact False.elim h
  | val _ => exact False.elim h
  | own k =>
    have h : (match lkM M k with | some (.lst ds) => ∃ xs d, ds = xs ++ [d] ∧ Q (.s (.val d)) (ptM M k (.lst xs)) | _ => False) := h
    rw [lkM_eq] at h
    cases e : M[k]? with
    | none => rw [e] at h; exact False.elim h
    | some cc =>
      rw [e] at h
      cases cc with
      | lst ds => obtain ⟨xs, d, rfl, q⟩ := h; exact ⟨k, xs, d, rfl, e, q⟩
      | _ => exact False.elim h
theorem tr_append (ho : Tr c o x) (ha : Tr c e y) (hbase : ∀ env, attributeBase o "append" env (eval o env) = eval o env) (hline : (apos.endLine == pos.line) = true) (hs : ∀ env, starEach [e] env = (false, eval e env) :: starEach [] env)
    (hfew : ∀ env, ((backTo pos (starEach [e] env)).all (fun x => !x.1) && (backToKw pos (keywordEach [] env)).all (fun x => x.1.isSome) && decide (([e] : List Expr).length + ([] : List Keyword).length + (if ([] : List Keyword).isEmpty then 0 else 1) < 30)) = true) :
    Tr c (.Call (.Attribute o "append" apos) [e] [] pos) (.mt x .append (.cons y .nil)) := fun ρ M Q h X hX F As σ H sr hm G k => by
  have hX' := hX
  cases hX with | mk X k0 nd calm room po =>
  refine ⟨_, pe_bm PySem.F.plainAttrs_list PySem.F.slot_list_append PySem.F.type_list_append mt_append pe_w (pa_cons pe_w pa_nil (hs _)) (hbase _) (hfew _) hline (hs _), ?_⟩
  refine ho.ee h X hX' F As σ H sr hm _ fun v F1 As1 H1 r1 M1 s1 p1 q1 hm1 ⟨hk, h1⟩ => ⟨mt_list hm1 q1 rfl hk, ?_⟩
  refine ha.ee h1 X hX' F1 As1 σ H1 (sr.mono s1 p1) hm1 _ fun u F2 As2 H2 r2 M2 s2 p2 q2 hm2 h2 => ?_
  obtain ⟨j, d, ds, rfl, rfl, e, hz, q⟩ := inv_append h2
  obtain ⟨l, hl, rfl⟩ := q1.mono s2 p2
  obtain ⟨ob, hob, vs, rfl, hv⟩ := hm2.cell j l _ hl e
  refine ⟨l, vs, u, rfl, rfl, hob, ?_, ?_⟩
  · rw [← hv.length]; exact Nat.lt_of_lt_of_le hz (by decide)
  · exact fin_set (cc := .lst (ds ++ [d])) (d := .non) (Aft.mono k (s1.trans s2) (p1.trans p2)) hm2 (Nat.le_trans (hm.le hm1 p1) (hm1.le hm2 p2)) hl ⟨_, rfl, dvs_paired.mpr (paired_append (dvs_paired.mp hv) (.cons q2 .nil))⟩ rfl q
theorem tr_extend (ho : Tr c o x) (ha : Tr c e y) (hbase : ∀ env, attributeBase o "extend" env (eval o env) = eval o env) (hline : (apos.endLine == pos.line) = true) (hs : ∀ env, starEach [e] env = (false, eval e env) :: starEach [] env)
    (hfew : ∀ env, ((backTo pos (starEach [e] env)).all (fun x => !x.1) && (backToKw pos (keywordEach [] env)).all (fun x => x.1.isSome) && decide (([e] : List Expr).length + ([] : List Keyword).length + (if ([] : List Keyword).isEmpty then 0 else 1) < 30)) = true) :
    Tr c (.Call (.Attribute o "extend" apos) [e] [] pos) (.mt x .extend (.cons y .nil)) := fun ρ M Q h X hX F As σ H sr hm G k => by
  have hX' := hX
  cases hX with | mk X k0 nd calm room po =>
  refine ⟨_, pe_bm PySem.F.plainAttrs_list PySem.F.slot_list_extend PySem.F.type_list_extend mt_extend pe_w (pa_cons pe_w pa_nil (hs _)) (hbase _) (hfew _) hline (hs _), ?_⟩
  refine ho.ee h X hX' F As σ H sr hm _ fun v F1 As1 H1 r1 M1 s1 p1 q1 hm1 ⟨hk, h1⟩ => ⟨mt_list hm1 q1 rfl hk, ?_⟩
  refine ha.ee h1 X hX' F1 As1 σ H1 (sr.mono s1 p1) hm1 _ fun u F2 As2 H2 r2 M2 s2 p2 q2 hm2 h2 => ?_
  obtain ⟨j, ds, xs, rfl, e, e2, hz, q⟩ := inv_extend h2
  obtain ⟨l, hl, rfl⟩ := q1.mono s2 p2
  obtain ⟨ob, hob, vs, rfl, hv⟩ := hm2.cell j l _ hl e
  obtain ⟨b, ws, rfl, hw, hb⟩ := (sq_s e2).get hm2 q2
  refine ⟨l, b, vs, ws, rfl, rfl, hob, hb, ?_, ?_⟩
  · rw [← hv.length, ← hw.length]; exact Nat.le_trans (Nat.le_of_lt hz) (by decide)
  · exact fin_set (cc := .lst (ds ++ xs)) (d := .non) (Aft.mono k (s1.trans s2) (p1.trans p2)) hm2 (Nat.le_trans (hm.le hm1 p1) (hm1.le hm2 p2)) hl ⟨_, rfl, dvs_paired.mpr (paired_append (dvs_paired.mp hv) (dvs_paired.mp hw))⟩ rfl q
theorem paired_dropLast {α β : Type} {R : α → β → Prop} : ∀ {xs : List α} {d : α} {vs : List β}, Paired R (xs ++ [d]) vs → ∃ ws v, vs = ws ++ [v] ∧ Paired R xs ws ∧ R d v
  | [], d, _, .cons r t => by cases t; exact ⟨[], _, rfl, .nil, r⟩
  | x :: xs, d, _, .cons r t => by
    obtain ⟨ws, v, e, h1, h2⟩ := paired_dropLast (xs := xs) t
    exact ⟨_ :: ws, v, by rw [e]; rfl, .cons r h1, h2⟩
theorem tr_pop (ho : Tr c o x) (hbase : ∀ env, attributeBase o "pop" env (eval o env) = eval o env) (hline : (apos.endLine == pos.line) = true) :
    Tr c (.Call (.Attribute o "pop" apos) [] [] pos) (.mt x .pop .nil) := fun ρ M Q h X hX F As σ H sr hm G k => by
  have hX' := hX
  cases hX with | mk X k0 nd calm room po =>
  refine ⟨_, pe_bm0 PySem.F.plainAttrs_list PySem.F.slot_list_pop PySem.F.type_list_pop mt_pop pe_w (hbase _) hline, ?_⟩
  refine ho.ee h X hX' F As σ H sr hm _ fun v F1 As1 H1 r1 M1 s1 p1 q1 hm1 ⟨hk, h1⟩ => ⟨mt_list hm1 q1 rfl hk, ?_⟩
  obtain ⟨j, xs, d, rfl, e, q⟩ := inv_pop h1
  obtain ⟨l, hl, rfl⟩ := q1
  obtain ⟨ob, hob, vs, rfl, hv⟩ := hm1.cell j l _ hl e
  obtain ⟨ws, u, rfl, g1, g2⟩ := paired_dropLast (dvs_paired.mp hv)
  refine ⟨l, ws ++ [u], u, rfl, rfl, hob, by simp, ?_⟩
  rw [List.dropLast_concat]
  exact fin_set (cc := .lst xs) (d := d) (Aft.mono k s1 p1) hm1 (hm.le hm1 p1) hl ⟨_, rfl, dvs_paired.mpr g1⟩ g2 q
/-! ### list(range(..)), x[::-1] -/
theorem tr_lrange1 (B : Bi c.mg) (ha : Tr c a x) (hg1 : Glo c "list") (hg2 : Glo c "range") (hs : ∀ env, starEach [a] env = [(false, eval a env)]) :
    Tr c (.Call (.Name "list" p1) [.Call (.Name "range" p2) [a] [] p3] [] pos) (.bi .lrange (.cons x .nil)) := fun ρ M Q h X hX F As σ H sr hm G k => by
  have hX' := hX
  cases hX with | mk X k0 nd calm room po =>
  refine ⟨_, pe_listRg calm hg1 (B _ (by decide)) (prg_1 hg2 (B _ (by decide)) pe_w (hs _)), ?_⟩
  refine ha.ee h X hX' F As σ H sr hm _ fun v F1 As1 H1 r1 M1 s1 p1 q1 hm1 h1 => ?_
  dsimp only [wpA, biR] at h1
  split at h1
  · rename_i i e
    cases e
    obtain ⟨hb, q⟩ := h1
    refine ⟨i, q1, ⟨by omega, by omega, by omega, by omega, by omega⟩, fun p hp => fin_lst (Aft.mono k s1 p1) hm1 (hm.le hm1 p1) hp (dvs_ints.mpr ?_) q⟩
    rw [rgV_rng]; simp
  · rename_i e; cases e
  · exact h1.elim
theorem tr_lrange2 (B : Bi c.mg) (ha : Tr c a x) (hb : Tr c b y) (hg1 : Glo c "list") (hg2 : Glo c "range") (hs : ∀ env, starEach [a, b] env = (false, eval a env) :: starEach [b] env) (hs2 : ∀ env, starEach [b] env = (false, eval b env) :: starEach [] env) (hn : ∀ env, starEach [] env = []) :
    Tr c (.Call (.Name "list" p1) [.Call (.Name "range" p2) [a, b] [] p3] [] pos) (.bi .lrange (.cons x (.cons y .nil))) := fun ρ M Q h X hX F As σ H sr hm G k => by
  have hX' := hX
  cases hX with | mk X k0 nd calm room po =>
  refine ⟨_, pe_listRg calm hg1 (B _ (by decide)) (prg_2 hg2 (B _ (by decide)) pe_w pe_w (hs _) (hs2 _) (by rw [hs2, hn]; rfl)), ?_⟩
  refine ha.ee h X hX' F As σ H sr hm _ fun v F1 As1 H1 r1 M1 s1 p1 q1 hm1 h1 => hb.ee h1 X hX' F1 As1 σ H1 (sr.mono s1 p1) hm1 _ fun u F2 As2 H2 r2 M2 s2 p2 q2 hm2 h2 => ?_
  dsimp only [wpA, biR] at h2
  split at h2
  · rename_i e; cases e
  · rename_i i j e
    cases e
    obtain ⟨hb, q⟩ := h2
    refine ⟨i, j, q1, q2, ⟨by omega, by omega, by omega, by omega, by omega⟩, fun p hp => fin_lst (Aft.mono k (s1.trans s2) (p1.trans p2)) hm2 (Nat.le_trans (hm.le hm1 p1) (hm1.le hm2 p2)) hp (dvs_ints.mpr ?_) q⟩
    rw [rgV_rng]
  · exact h2.elim
theorem tr_rev {k1 : Nat} (ha : Tr c e x) : Tr c (.Subscript e (.Slice none none (some (.UnaryOp .USub (.Constant (.int 1) k1 p1) p2)) p3) pos) (.rev x) := fun ρ M Q h X hX F As σ H sr hm G k => by
  have hX' := hX
  cases hX with | mk X k0 nd calm room po =>
  refine ⟨_, pe_revL pe_w, ha.ee h X hX' F As σ H sr hm _ fun v F1 As1 H1 r1 M1 s1 p1 q1 hm1 h1 => ?_⟩
  split at h1
  · rename_i ds e
    obtain ⟨l, vs, rfl, g1, g2⟩ := (sq_s e).get hm1 q1
    refine ⟨l, vs, rfl, .inl (.inl g2), fun p hp => fin_lst (Aft.mono k s1 p1) hm1 (hm.le hm1 p1) hp ?_ h1⟩
    have rev : ∀ {xs : List D} {ys : List V}, Paired (fun d v => DV X.K F1 d v) xs ys → Paired (fun d v => DV X.K F1 d v) xs.reverse ys.reverse := by
      intro xs ys hp
      induction hp with
      | nil => exact .nil
      | cons r t ih => rw [List.reverse_cons, List.reverse_cons]; exact paired_append ih (.cons r .nil)
    exact dvs_paired.mpr (rev (dvs_paired.mp g1))
  · exact h1.elim
end
end Dl
/-! X11: targets, what is walked -/
namespace Dl
open PySem L2
theorem pg_w {X : Cx} {tg : Expr} : PG X tg (WG X tg) := ⟨fun pins s σ H v u Q I r ⟨_, h, q⟩ => h.run pins s σ H v u Q I r q⟩
theorem wipe_get {σ : L2.St} {i : Nat} : ∀ {vs : List Nat}, i ∉ vs → (wipe σ vs)[i]? = σ[i]?
  | [], _ => rfl
  | v :: vs, h => by
    unfold wipe
    rw [List.getElem?_set_ne (fun z => h (by simp [z])), wipe_get fun z => h (List.mem_cons_of_mem _ z)]
theorem wipe_in {σ : L2.St} {i : Nat} (hi : i < σ.length) : ∀ {vs : List Nat}, i ∈ vs → (wipe σ vs)[i]? = some none
  | [], h => nomatch h
  | v :: vs, h => by
    unfold wipe
    by_cases e : v = i
    · subst e; rw [List.getElem?_set_self (by rw [wipe_length]; exact hi)]
    · rw [List.getElem?_set_ne e]
      rcases List.mem_cons.mp h with h | h
      · exact absurd h.symm e
      · exact wipe_in hi h
theorem wipe_ext {σ σ' : L2.St} {vs : List Nat} (hl : σ'.length = σ.length) (h : ∀ i : Nat, i ∉ vs → σ'[i]? = σ[i]?) : wipe σ' vs = wipe σ vs := by
  apply List.ext_getElem?
  intro i
  by_cases hi : i ∈ vs
  · by_cases hz : i < σ.length
    · rw [wipe_in hz hi, wipe_in (by omega) hi]
    · rw [List.getElem?_eq_none_iff.mpr (by rw [wipe_length]; omega), List.getElem?_eq_none_iff.mpr (by rw [wipe_length]; omega)]
  · rw [wipe_get hi, wipe_get hi, h i hi]
theorem wipe_wipe {σ : L2.St} {vs : List Nat} : wipe (wipe σ vs) vs = wipe σ vs := wipe_ext (wipe_length _ _) fun i hi => wipe_get hi

theorem clr_len : ∀ (ρ : List Sl) (is : List Nat), (clr ρ is).length = ρ.length
  | _, [] => rfl
  | ρ, i :: is => by unfold clr; rw [clr_len, pt_eq, List.length_set]
theorem clr_get {j : Nat} : ∀ {ρ : List Sl} {is : List Nat}, j ∉ is → (clr ρ is)[j]? = ρ[j]?
  | _, [], _ => rfl
  | ρ, i :: is, h => by unfold clr; rw [clr_get (fun z => h (List.mem_cons_of_mem _ z)), pt_eq, List.getElem?_set_ne (fun z => h (by simp [z]))]
theorem clr_un {j : Nat} {s : Sl} : ∀ {ρ : List Sl} {is : List Nat}, j ∈ is → (clr ρ is)[j]? = some s → s = .un
  | _, [], h, _ => nomatch h
  | ρ, i :: is, h, e => by
    unfold clr at e
    by_cases hi : j ∈ is
    · exact clr_un hi e
    · have : j = i := by
        rcases List.mem_cons.mp h with z | z
        · exact z
        · exact absurd z hi
      subst this
      rw [clr_get hi, pt_eq] at e
      by_cases hl : j < ρ.length
      · rw [List.getElem?_set_self hl] at e; cases e; rfl
      · rw [List.getElem?_eq_none_iff.mpr (by rw [List.length_set]; omega)] at e; cases e
section
variable {K : PySem.W.Frag} {F : Hp} {As : List Addr} {ρ : List Sl} {σ : L2.St}
theorem SR.clr (h : SR K F As ρ σ) (is : List Nat) : SR K F As (clr ρ is) σ := ⟨by rw [clr_len]; exact h.len, fun j s e z => by
  by_cases hj : j ∈ is
  · exact absurd (clr_un hj e) z
  · rw [clr_get hj] at e; exact h.get j s e z⟩
theorem SR.clrW (h : SR K F As ρ σ) (is : List Nat) : SR K F As (Dl.clr ρ is) (wipe σ is) := ⟨by rw [clr_len, wipe_length]; exact h.len, fun j s e z => by
  by_cases hj : j ∈ is
  · exact absurd (clr_un hj e) z
  · rw [clr_get hj] at e; rw [wipe_get hj]; exact h.get j s e z⟩
end
/-! ### targets -/
def Tg.ix : Tg → List Nat
  | .n i => [i]
  | .t is => is
def TrG (c : Ctx) (tg : Expr) (t : Tg) : Prop := ∀ ρ d (Q : List Sl → Prop), bindT t d ρ Q → ∀ X, c.Is X → ∀ F As σ H v, SR c.K F As ρ σ → Same F H → DV c.K F d v →
  ∀ R : L2.St → Hp → Prop, (∀ ρ' σ', Q ρ' → SR c.K F As ρ' σ' → σ'.length = σ.length → (∀ i, i ∉ t.ix → σ'[i]? = σ[i]?) → R σ' H) → WG X tg v σ H R
section
variable {c : Ctx} {ρ : List Sl} {M : List C} {a b e tg : Expr} {x y : E} {pos p1 p2 p3 : Pos}
theorem trG_n (i : Nat) {nm : Str} (hi : c.N[i]? = some nm) (hx : Loc c.sc nm) (hf : c.fn nm = true ∨ c.sc.names.lookup nm = some .local) : TrG c (.Name nm pos) (.n i) := fun ρ d Q h X hX F As σ H v sr hm hv R k => by
  cases hX with | mk X k0 nd calm room po =>
  refine ⟨_, pg_name nd hi hx hf, k _ _ h ?_ (by simp) fun j hj => by rw [List.getElem?_set_ne (fun z => hj (by simp [Tg.ix, z]))]⟩
  rw [pt_eq]
  exact sr.set (s := .val d) hv
theorem trG_t (i j : Nat) {nx ny : Str} {kk : Nat} (hi : c.N[i]? = some nx) (hx : Loc c.sc nx) (hf : c.fn nx = true ∨ c.sc.names.lookup nx = some .local) (hj : c.N[j]? = some ny) (hy : Loc c.sc ny) (hfy : c.fn ny = true ∨ c.sc.names.lookup ny = some .local) :
    TrG c (.Tuple [.Name nx p1, .Name ny p2] kk pos) (.t [i, j]) := fun ρ d Q h X hX F As σ H v sr hm hv R k => by
  cases hX with | mk X k0 nd calm room po =>
  dsimp only [bindT] at h
  split at h
  · rename_i d1 d2
    obtain ⟨t, vs, rfl, h1, v1, r1, rfl, h2, v2, r2, rfl, h3, h4⟩ := hv
    have h4 : r2 = [] := h4
    subst h4
    refine ⟨_, pg_tup calm (pgs_cons (pg_name nd hi hx hf) (pgs_cons (pg_name nd hj hy hfy) pgs_nil)), t, _, rfl, same_t hm h1, rfl, v1, _, rfl, v2, _, rfl, rfl, ?_⟩
    refine k _ _ h ?_ (by simp) fun l hl => by
      rw [List.getElem?_set_ne (fun z => hl (by simp [Tg.ix, z])), List.getElem?_set_ne (fun z => hl (by simp [Tg.ix, z]))]
    rw [pt_eq, pt_eq]
    exact (sr.set (s := .val d1) h2).set (s := .val d2) h3
  · exact h.elim
/-! ### what is walked -/
structure IterOk (K : PySem.W.Frag) (As : List Addr) (M : List C) (F : Hp) (ks : List Nat) (J : L2.It) (ds : List D) : Prop where
  inn : ∀ k ∈ ks, k < M.length
  ex : ∃ (G : Hp → Prop) (Y : Nat → Hp → V → Hp → Prop), Walk J ds.length G Y ∧ (∀ F' As' M' H', Same F F' → As <+: As' → HM K F' As' M' H' → (∀ k ∈ ks, M'[k]? = M[k]?) → G H') ∧
    ∀ i d F' As' M' H' x H'', ds[i]? = some d → Same F F' → As <+: As' → HM K F' As' M' H' → (∀ k ∈ ks, M'[k]? = M[k]?) → Y i H' x H'' → ∃ F'', Same F' F'' ∧ HM K F'' As' M' H'' ∧ DV K F'' d x

def TrI (c : Ctx) (tg it : Expr) (i : It) : Prop := ∀ ρ M (Q : List D → List Nat → List C → Prop), wpI c.g i ρ M Q → ∀ X, c.Is X → ∀ F As σ H, SR c.K F As ρ σ → HM c.K F As M H →
  ∀ R : L2.It → Hp → Prop, (∀ J F' As' H' M' ds ks, Same F F' → As <+: As' → HM c.K F' As' M' H' → IterOk c.K As' M' F' ks J ds → Q ds ks M' → R J H') → WI X tg it σ H R
theorem iter_lst {K : PySem.W.Frag} {As : List Addr} {F : Hp} {s : Sl} {ds : List D} {a : Addr} (q : SqS M s true ds) (r : SlR K F As s (.ref a)) (hl : As.length = M.length) : IterOk K As M F s.refs (Itl K a) ds := by
  have get : ∀ F' As' M' H', Same F F' → As <+: As' → HM K F' As' M' H' → (∀ k ∈ s.refs, M'[k]? = M[k]?) → ∃ vs, H' a = some (.lst vs) ∧ DVs K F' ds vs := fun F' As' M' H' sm p hm hk => by
    have q' : SqS M' s true ds := by
      cases q with
      | lst => exact .lst
      | own h => exact .own ((hk _ (by simp [Sl.refs])).trans h)
    obtain ⟨a', vs, e, h1, h2⟩ := q'.get hm (r.mono sm p)
    cases e
    exact ⟨vs, h2, h1⟩
  refine ⟨fun k hk => ?_, fun H => ∃ vs, H a = some (.lst vs) ∧ vs.length = ds.length, fun i H x H' => H' = H ∧ ∀ vs, H a = some (.lst vs) → vs[i]? = some x, ⟨fun i H hi ⟨vs, h1, h2⟩ => ?_, fun H ⟨vs, h1, h2⟩ => ?_, fun i H x H' hi g y => ?_⟩, fun F' As' M' H' sm p hm hk => ?_, fun i d F' As' M' H' x H'' hd sm p hm hk y => ?_⟩
  · cases q with
    | lst => cases hk
    | own h =>
      rename_i k1
      have : k = k1 := by simpa [Sl.refs] using hk
      subst this
      exact (List.getElem?_eq_some_iff.mp h).1
  · have hi' : i < vs.length := by omega
    exact ⟨vs, vs[i], .inl (.inl h1), List.getElem?_eq_getElem hi'⟩
  · exact ⟨vs, .inl (.inl h1), by omega⟩
  · exact ⟨y.1, fun vs h => y.2 vs (.inl (.inl h))⟩
  · obtain ⟨vs, h1, h2⟩ := get F' As' M' H' sm p hm hk
    exact ⟨vs, h1, h2.length.symm⟩
  · obtain ⟨vs, h1, h2⟩ := get F' As' M' H' sm p hm hk
    obtain ⟨rfl, y⟩ := y
    obtain ⟨v, h3, h4⟩ := h2.get hd
    have := y vs h1
    rw [h3] at this; cases this
    exact ⟨F', Same.refl _, hm, h4⟩
theorem iter_tup {K : PySem.W.Frag} {As : List Addr} {F : Hp} {ds : List D} {a : Addr} (r : DV K F (.tup ds) (.ref a)) : IterOk K As M F [] (Itt K a) ds := by
  obtain ⟨a', vs, e, h1, h2⟩ := r
  cases e
  have hz := h2.length
  refine ⟨fun k hk => (nomatch hk), fun H => SqT K H a vs, YAt vs, by rw [hz]; exact walk_tup, fun F' As' M' H' sm p hm _ => same_t (sm.trans hm.same) h1, fun i d F' As' M' H' x H'' hd sm p hm _ y => ?_⟩
  obtain ⟨rfl, y⟩ := y
  obtain ⟨v, h3, h4⟩ := h2.get hd
  rw [y] at h3; cases h3
  exact ⟨F', Same.refl _, hm, h4.mono sm⟩
theorem rng_get {lo : Int} {n i : Nat} {x : Int} : (rng lo n)[i]? = some x ↔ i < n ∧ x = lo + i := by
  unfold rng
  rw [List.getElem?_map]
  by_cases h : i < n
  · rw [List.getElem?_range h]; simp [h]; constructor <;> intro z <;> exact z.symm
  · rw [List.getElem?_eq_none_iff.mpr (by simp; omega)]; simp [h]
theorem rng_len {lo : Int} {n : Nat} : (rng lo n).length = n := by simp [rng]
theorem iter_fn {K : PySem.W.Frag} {As : List Addr} {F : Hp} {J : L2.It} {n : Nat} {f : Nat → Int} (w : Walk J n (fun _ => True) (YFn fun i => .int (f i))) : IterOk K As M F [] J (((List.range n).map f).map D.int) := by
  refine ⟨fun k hk => (nomatch hk), fun _ => True, YFn fun i => .int (f i), by simpa using w, fun _ _ _ _ _ _ _ _ => trivial, fun i d F' As' M' H' x H'' hd sm p hm _ y => ?_⟩
  obtain ⟨rfl, rfl⟩ := y
  rw [List.getElem?_map, List.getElem?_map] at hd
  by_cases h : i < n
  · rw [List.getElem?_range h] at hd
    simp at hd
    subst hd
    exact ⟨F', Same.refl _, hm, rfl⟩
  · rw [List.getElem?_eq_none_iff.mpr (by simp; omega)] at hd
    simp at hd
theorem iter_pair {K : PySem.W.Frag} {As : List Addr} {F : Hp} {J : L2.It} {n : Nat} {ks : List Nat} {G : Hp → Prop} {xs ys : Hp → Nat → Option V} {ds es : Nat → D} (inn : ∀ k ∈ ks, k < M.length)
    (w : Walk J n G (fun i H v H' => ∃ T x y, v = .ref T ∧ H T = none ∧ H' = upd H T (.tup [x, y]) ∧ xs H i = some x ∧ ys H i = some y)) (hG : ∀ F' As' M' H', Same F F' → As <+: As' → HM K F' As' M' H' → (∀ k ∈ ks, M'[k]? = M[k]?) → G H' ∧ ∀ i x y, i < n → xs H' i = some x → ys H' i = some y → DV K F' (ds i) x ∧ DV K F' (es i) y) :
    IterOk K As M F ks J ((List.range n).map fun i => .tup [ds i, es i]) := by
  refine ⟨inn, G, fun i H v H' => ∃ T x y, v = .ref T ∧ H T = none ∧ H' = upd H T (.tup [x, y]) ∧ xs H i = some x ∧ ys H i = some y, by simpa using w, fun F' As' M' H' s p hm hk => (hG F' As' M' H' s p hm hk).1, fun i d F' As' M' H' x H'' hd s p hm hk ⟨T, u, v, e1, e2, e3, e4, e5⟩ => ?_⟩
  subst e1; subst e3
  rw [List.getElem?_map] at hd
  by_cases hi : i < n
  · rw [List.getElem?_range hi] at hd
    cases hd
    obtain ⟨h1, h2⟩ := (hG F' As' M' H' s p hm hk).2 i u v hi e4 e5
    obtain ⟨_, fT⟩ := hm.fresh e2
    exact ⟨_, same_new fT, hm.laid e2, T, [u, v], rfl, .inl (.inl upd_same), u, [v], rfl, h1.mono (same_new fT), v, [], rfl, h2.mono (same_new fT), rfl⟩
  · rw [List.getElem?_eq_none_iff.mpr (by simp; omega)] at hd
    cases hd

theorem trI_r1 (B : Bi c.mg) (ha : Tr c a x) (hg : Glo c "range") (hs : ∀ env, starEach [a] env = [(false, eval a env)]) : TrI c tg (.Call (.Name "range" p1) [a] [] pos) (.r1 x) := fun ρ M Q h X hX F As σ H sr hm R k => by
  have hX' := hX
  cases hX with | mk X k0 nd calm room po =>
  refine ⟨_, pi_range1 hg (B _ (by decide)) (pa_cons pe_w pa_nil (hs _)) (hs _), ha.ee h X hX' F As σ H sr hm _ fun v F1 As1 H1 r M1 s1 p1 r1 hm1 h1 => ?_⟩
  split at h1
  · rename_i i
    have r1 : v = .int i := r1
    subst r1
    exact ⟨i, rfl, by omega, by omega, k _ F1 As1 H1 M1 _ _ s1 p1 hm1 (iter_fn (f := fun j => 0 + (j : Int)) walk_range) h1.2⟩
  · exact h1.elim
theorem trI_r2 (B : Bi c.mg) (ha : Tr c a x) (hb : Tr c b y) (hg : Glo c "range") (hs : ∀ env, starEach [a, b] env = [(false, eval a env), (false, eval b env)]) (hs2 : ∀ env, starEach [b] env = [(false, eval b env)]) : TrI c tg (.Call (.Name "range" p1) [a, b] [] pos) (.r2 x y) := fun ρ M Q h X hX F As σ H sr hm R k => by
  have hX' := hX
  cases hX with | mk X k0 nd calm room po =>
  refine ⟨_, pi_range2 hg (B _ (by decide)) (pa_cons pe_w (pa_cons pe_w pa_nil (hs2 _)) ((hs _).trans (by rw [hs2]))) (hs _) (hs2 _), ha.ee h X hX' F As σ H sr hm _ fun v F1 As1 H1 r M1 s1 p1 r1 hm1 h1 => hb.ee h1 X hX' F1 As1 σ H1 (sr.mono s1 p1) hm1 _ fun u F2 As2 H2 r2 M2 s2 p2 q2 hm2 h2 => ?_⟩
  split at h2
  · rename_i i j
    have r1 : v = .int i := r1
    have q2 : u = .int j := q2
    subst r1; subst q2
    exact ⟨i, j, rfl, by omega, k _ F2 As2 H2 M2 _ _ (s1.trans s2) (p1.trans p2) hm2 (iter_fn (f := fun l => i + (l : Int)) walk_range) h2.2⟩
  · exact h2.elim
theorem trI_rd {e3 : Expr} {k1 : Nat} {q1 q2 : Pos} (B : Bi c.mg) (ha : Tr c a x) (hb : Tr c b y) (he3 : e3 = .UnaryOp .USub (.Constant (.int 1) k1 q1) q2) (hg : Glo c "range") (hs : ∀ env, starEach [a, b, e3] env = [(false, eval a env), (false, eval b env), (false, eval e3 env)]) (hs2 : ∀ env, starEach [b, e3] env = [(false, eval b env), (false, eval e3 env)]) (hs3 : ∀ env, starEach [e3] env = [(false, eval e3 env)]) (hbb : ∀ env, (backTo pos [(false, eval b env), (false, eval e3 env)]).any (·.1) = false) : TrI c tg (.Call (.Name "range" p1) [a, b, e3] [] pos) (.rd x y) := fun ρ M Q h X hX F As σ H sr hm R k => by
  have hX' := hX
  cases hX with | mk X k0 nd calm room po =>
  have h3 : PE X e3 (tUn (fun v H Q => ∃ i, v = .int i ∧ Q (.int (-i)) H) (tC (.int 1))) := by
    rw [he3]
    exact pe_un un_neg pe_int
  refine ⟨_, pi_range3 hg (B _ (by decide)) (pa_cons pe_w (pa_cons pe_w (pa_cons h3 pa_nil (hs3 _)) ((hs2 _).trans (by rw [hs3]))) ((hs _).trans (by rw [hs2]))) ((hs _).trans (by rw [hs2])) (by rw [hs2]; exact hbb _), ha.ee h X hX' F As σ H sr hm _ fun v F1 As1 H1 r M1 s1 p1 r1 hm1 h1 => hb.ee h1 X hX' F1 As1 σ H1 (sr.mono s1 p1) hm1 _ fun u F2 As2 H2 r2 M2 s2 p2 q2 hm2 h2 => ?_⟩
  split at h2
  · rename_i i j
    have r1 : v = .int i := r1
    have q2 : u = .int j := q2
    subst r1; subst q2
    refine ⟨1, rfl, i, j, -1, (i - j).toNat, rfl, RgC.neg (by omega) (by omega) (by omega) (by omega), k _ F2 As2 H2 M2 _ _ (s1.trans s2) (p1.trans p2) hm2 (iter_fn (f := fun l => i + (l : Int) * (-1)) walk_rangeC) h2.2⟩
  · exact h2.elim
end
end Dl
/-! X12: for over sequences, enumerate, zip; comprehensions -/
namespace Dl
open PySem L2
/-- a value that is walked -/
def PIv (X : Cx) (tg : Expr) (r : V → Hp → (L2.It → Hp → Prop) → Prop) : Prop := ∀ (pins : List (Addr × Obj)) (s : Shared) (σ : L2.St) (H : Hp) (R : L2.It → Hp → Prop) (x : V) (v : Value), L2.Inv X pins σ H s → RelV x v → r x H R → wpAny (model X.prog X.w) X.A (pyIter v) (PIE X pins σ tg R) X.xe s
theorem pi_v {X : Cx} {tg e : Expr} {te : TE} (he : PE X e te) : PI X tg e fun σ H R => te σ H fun v H1 => ∃ r, PIv X tg r ∧ r v H1 R :=
  ⟨fun pins s σ H R I h => thn (he.run pins s σ H _ I h) fun v s1 ⟨x, H1, I1, r1, r, hr, q⟩ => hr pins s1 σ H1 R x v I1 r1 q⟩
theorem piv_list {X : Cx} {tg : Expr} : PIv X tg fun x H R => ∃ a xs, x = .ref a ∧ SqL X.K H a xs ∧ R (Itl X.K a) H := fun pins s1 σ H1 R x v I1 r1 ⟨a, xs, e, hq, q⟩ => by
  subst e
  cases r1
  obtain ⟨its, rv, p, hz⟩ := I1.list hq
  refine wpAny_pyIter_list p.isList ?_
  refine ⟨s1.heap.objs.size, [s1.heap.objs.size], _, _, H1, rfl, I1.kept (t' := s1.toks) fun b o e => Heap.get?_push_of_some _ e, turn_list a _, ⟨_, Heap.get?_push_size _ rfl, rfl, rfl⟩, fun b hb => ?_, q⟩
  have e : b = s1.heap.objs.size := by simpa using hb
  subst e
  exact I1.fpOk (Nat.le_refl _) (I1.hok.fresh (Nat.le_refl _))
theorem piv_tup {X : Cx} {tg : Expr} : PIv X tg fun x H R => ∃ a xs, x = .ref a ∧ SqT X.K H a xs ∧ R (Itt X.K a) H := fun pins s1 σ H1 R x v I1 r1 ⟨a, xs, e, hq, q⟩ => by
  subst e
  cases r1
  obtain ⟨its, rv, p, hz⟩ := I1.tuple hq
  refine wpAny_pyIter_tuple (show s1.heap.IsTuple a its.toArray from p) ?_
  refine ⟨s1.heap.objs.size, [s1.heap.objs.size], _, _, H1, rfl, I1.kept (t' := s1.toks) fun b o e => Heap.get?_push_of_some _ e, turn_tuple a _, ⟨_, Heap.get?_push_size _ rfl, rfl, rfl⟩, fun b hb => ?_, q⟩
  have e : b = s1.heap.objs.size := by simpa using hb
  subst e
  exact I1.fpOk (Nat.le_refl _) (I1.hok.fresh (Nat.le_refl _))
section
variable {c : Ctx} {ρ : List Sl} {M : List C} {a b e tg : Expr} {x y : E} {pos p1 p2 p3 : Pos}
theorem trI_e (ha : Tr c e x) : TrI c tg e (.e x) := fun ρ M Q h X hX F As σ H sr hm R k => by
  have hX' := hX
  cases hX with | mk X k0 nd calm room po =>
  refine ⟨_, pi_v pe_w, ha.ee h X hX' F As σ H sr hm _ fun v F1 As1 H1 r M1 s1 p1 r1 hm1 h1 => ?_⟩
  split at h1
  · rename_i bb ds e1
    have q := sq_s e1
    obtain ⟨l, vs, rfl, g1, g2⟩ := q.get hm1 r1
    cases bb with
    | true => exact ⟨_, piv_list, l, vs, rfl, .inl (.inl g2), k _ F1 As1 H1 M1 ds r.refs s1 p1 hm1 (iter_lst q r1 hm1.len) h1⟩
    | false =>
      cases q with
      | tup => exact ⟨_, piv_tup, l, vs, rfl, g2, k _ F1 As1 H1 M1 ds [] s1 p1 hm1 (iter_tup r1) h1⟩
  · exact h1.elim

theorem seq_stays {K : PySem.W.Frag} {F1 : Hp} {As : List Addr} {s : Sl} {ds : List D} {l : Addr} (q : SqS M s true ds) (r1 : SlR K F1 As s (.ref l)) : ∀ F' As' M' H', Same F1 F' → As <+: As' → HM K F' As' M' H' → (∀ k ∈ s.refs, M'[k]? = M[k]?) → ∃ us, H' l = some (.lst us) ∧ DVs K F' ds us := fun F' As' M' H' sm p hm hk => by
  have q' : SqS M' s true ds := by
    cases q with
    | lst => exact .lst
    | own h => exact .own ((hk _ (by simp [Sl.refs])).trans h)
  obtain ⟨a', us, e, h1, h2⟩ := q'.get hm (r1.mono sm p)
  cases e
  exact ⟨us, h2, h1⟩
theorem seq_in {s : Sl} {ds : List D} (q : SqS M s true ds) : ∀ k ∈ s.refs, k < M.length := by
  intro j hj
  cases q with
  | lst => cases hj
  | own h =>
    rename_i k1
    have : j = k1 := by simpa [Sl.refs] using hj
    subst this
    exact (List.getElem?_eq_some_iff.mp h).1
theorem trI_en {elts : List Expr} {kk : Nat} {tpos : Pos} (B : Bi c.mg) (ha : Tr c e x) (hg : Glo c "enumerate") (hs : ∀ env, starEach [e] env = [(false, eval e env)]) : TrI c (.Tuple elts kk tpos) (.Call (.Name "enumerate" p1) [e] [] pos) (.en x) := fun ρ M Q h X hX F As σ H sr hm R k => by
  have hX' := hX
  cases hX with | mk X k0 nd calm room po =>
  refine ⟨_, pi_enum hg (B _ (by decide)) (pa_cons pe_w pa_nil (hs _)) (hs _), ha.ee h X hX' F As σ H sr hm _ fun v F1 As1 H1 s M1 s1 p1 r1 hm1 h1 => ?_⟩
  split at h1
  · rename_i ds e1
    have q := sq_s e1
    obtain ⟨a, vs, rfl, g1, g2⟩ := q.get hm1 r1
    refine ⟨a, vs, rfl, .inl (.inl g2), k _ F1 As1 H1 M1 _ s.refs s1 p1 hm1 ?_ h1⟩
    have get := seq_stays q r1
    refine iter_pair (n := ds.length) (G := fun H => ∃ us, H a = some (.lst us) ∧ us.length = ds.length) (xs := fun _ i => some (.int (i : Nat))) (ys := fun H i => match H a with | some (.lst us) => us[i]? | _ => none) (ds := fun i => .int (i : Int)) (es := fun i => ds.getD i .non) (seq_in q) ⟨fun i H hi ⟨us, g1, g2⟩ => ?_, fun H ⟨us, g1, g2⟩ => ?_, fun i H x H' hi ⟨us, g1, g2⟩ y => ?_⟩ fun F' As' M' H' sm p hm hk => ?_
    · have hi' : i < us.length := by omega
      exact ⟨us, us[i], .inl (.inl g1), List.getElem?_eq_getElem hi'⟩
    · exact ⟨us, .inl (.inl g1), by omega⟩
    · obtain ⟨T, z, e1, e2, e3, e4⟩ := y
      refine ⟨T, .int (i : Nat), z, e1, e2, e3, rfl, ?_⟩
      rw [g1]; exact e4 us (.inl (.inl g1))
    · obtain ⟨us, g1, g2⟩ := get F' As' M' H' sm p hm hk
      refine ⟨⟨us, g1, g2.length.symm⟩, fun i x y hi ex ey => ?_⟩
      cases ex
      rw [g1] at ey
      have hd : ds[i]? = some ds[i] := List.getElem?_eq_getElem hi
      obtain ⟨w, w1, w2⟩ := g2.get hd
      have ey : us[i]? = some y := ey
      rw [w1] at ey; cases ey
      refine ⟨rfl, ?_⟩
      rw [List.getD_eq_getElem?_getD, hd]; exact w2
  · exact h1.elim
theorem trI_zp {e2 : Expr} {elts : List Expr} {kk : Nat} {tpos : Pos} (B : Bi c.mg) (ha : Tr c e x) (hb : Tr c e2 y) (hg : Glo c "zip") (hs : ∀ env, starEach [e, e2] env = (false, eval e env) :: starEach [e2] env) (hs2 : ∀ env, starEach [e2] env = (false, eval e2 env) :: starEach [] env) (hn : ∀ env, starEach [] env = []) :
    TrI c (.Tuple elts kk tpos) (.Call (.Name "zip" p1) [e, e2] [] pos) (.zp x y) := fun ρ M Q h X hX F As σ H sr hm R k => by
  have hX' := hX
  cases hX with | mk X k0 nd calm room po =>
  refine ⟨_, RZ.pi_zipA hg (B _ (by decide)) (pa_cons pe_w (pa_cons pe_w pa_nil (hs2 _)) (hs _)) (hs _) (by rw [hs2, hn]; rfl), ha.ee h X hX' F As σ H sr hm _ fun v F1 As1 H1 t1 M1 s1 p1 r1 hm1 h1 => hb.ee h1 X hX' F1 As1 σ H1 (sr.mono s1 p1) hm1 _ fun u F2 As2 H2 t2 M2 s2 p2 r2 hm2 h2 => ?_⟩
  have r1 := r1.mono s2 p2
  split at h2
  · -- lists
    rename_i ds es e1 e2
    have q1 := sq_s e1
    have q2 := sq_s e2
    obtain ⟨a, vs, rfl, g1, g2⟩ := q1.get hm2 r1
    obtain ⟨b, us, rfl, g3, g4⟩ := q2.get hm2 r2
    refine ⟨a, b, vs, us, rfl, .inl ⟨.inl (.inl g2), .inl (.inl g4), k _ F2 As2 H2 M2 _ (t1.refs ++ t2.refs) (s1.trans s2) (p1.trans p2) hm2 ?_ h2⟩⟩
    have get1 := seq_stays q1 r1
    have get2 := seq_stays q2 r2
    refine iter_pair (n := min ds.length es.length) (G := fun H => (∃ us, H a = some (.lst us) ∧ us.length = ds.length) ∧ ∃ us, H b = some (.lst us) ∧ us.length = es.length) (xs := fun H i => match H a with | some (.lst us) => us[i]? | _ => none) (ys := fun H i => match H b with | some (.lst us) => us[i]? | _ => none) (ds := fun i => ds.getD i .non) (es := fun i => es.getD i .non) (fun j hj => ?_) ⟨fun i H hi ⟨⟨us, g1, g2⟩, ⟨ws, g3, g4⟩⟩ => ?_, fun H ⟨⟨us, g1, g2⟩, ⟨ws, g3, g4⟩⟩ => ?_, fun i H x H' hi ⟨⟨us, g1, g2⟩, ⟨ws, g3, g4⟩⟩ y => ?_⟩ fun F' As' M' H' sm p hm hk => ?_
    · rcases List.mem_append.mp hj with z | z
      · exact seq_in q1 j z
      · exact seq_in q2 j z
    · have i1 : i < us.length := by omega
      have i2 : i < ws.length := by omega
      exact ⟨us, ws, us[i], ws[i], .inl (.inl g1), .inl (.inl g3), List.getElem?_eq_getElem i1, List.getElem?_eq_getElem i2⟩
    · exact ⟨us, ws, .inl (.inl g1), .inl (.inl g3), by omega⟩
    · obtain ⟨T, z, z', e1, e2, e3, e4, e5⟩ := y
      refine ⟨T, z, z', e1, e2, e3, ?_, ?_⟩
      · rw [g1]; exact e4 us (.inl (.inl g1))
      · rw [g3]; exact e5 ws (.inl (.inl g3))
    · obtain ⟨us, g1, g2⟩ := get1 F' As' M' H' sm p hm fun k hk' => hk k (List.mem_append_left _ hk')
      obtain ⟨ws, g3, g4⟩ := get2 F' As' M' H' sm p hm fun k hk' => hk k (List.mem_append_right _ hk')
      refine ⟨⟨⟨us, g1, g2.length.symm⟩, ⟨ws, g3, g4.length.symm⟩⟩, fun i x y hi ex ey => ?_⟩
      rw [g1] at ex
      rw [g3] at ey
      have d1 : ds[i]? = some (ds[i]'(by omega)) := List.getElem?_eq_getElem (by omega)
      have d2 : es[i]? = some (es[i]'(by omega)) := List.getElem?_eq_getElem (by omega)
      obtain ⟨w, w1, w2⟩ := g2.get d1
      obtain ⟨w', w3, w4⟩ := g4.get d2
      have ex : us[i]? = some x := ex
      have ey : ws[i]? = some y := ey
      rw [w1] at ex; cases ex
      rw [w3] at ey; cases ey
      rw [List.getD_eq_getElem?_getD, List.getD_eq_getElem?_getD, d1, d2]
      exact ⟨w2, w4⟩
  · -- tuples
    rename_i ds es e1 e2
    have q1 := sq_s e1
    have q2 := sq_s e2
    cases q1 with
    | tup =>
    cases q2 with
    | tup =>
    obtain ⟨a, vs, rfl, h1, h2'⟩ := r1
    obtain ⟨b, us, rfl, h3, h4⟩ := id r2
    refine ⟨a, b, vs, us, rfl, .inr ⟨same_t hm2.same h1, same_t hm2.same h3, k _ F2 As2 H2 M2 _ [] (s1.trans s2) (p1.trans p2) hm2 ?_ h2⟩⟩
    have l1 := h2'.length
    have l2 := h4.length
    refine iter_pair (n := min ds.length es.length) (G := fun H => SqT X.K H a vs ∧ SqT X.K H b us) (xs := fun _ i => vs[i]?) (ys := fun _ i => us[i]?) (ds := fun i => ds.getD i .non) (es := fun i => es.getD i .non) (fun _ z => (nomatch z)) ⟨fun i H hi ⟨g1, g2⟩ => ?_, fun H ⟨g1, g2⟩ => ?_, fun i H x H' hi ⟨g1, g2⟩ y => ?_⟩ fun F' As' M' H' sm p hm hk => ?_
    · have i1 : i < vs.length := by omega
      have i2 : i < us.length := by omega
      exact ⟨vs, us, vs[i], us[i], g1, g2, List.getElem?_eq_getElem i1, List.getElem?_eq_getElem i2⟩
    · exact ⟨vs, us, g1, g2, by omega⟩
    · obtain ⟨T, z, z', e1, e2, e3, e4, e5⟩ := y
      exact ⟨T, z, z', e1, e2, e3, e4 vs g1, e5 us g2⟩
    · refine ⟨⟨same_t hm.same (same_t sm h1), same_t hm.same (same_t sm h3)⟩, fun i x y hi ex ey => ?_⟩
      have d1 : ds[i]? = some (ds[i]'(by omega)) := List.getElem?_eq_getElem (by omega)
      have d2 : es[i]? = some (es[i]'(by omega)) := List.getElem?_eq_getElem (by omega)
      obtain ⟨w, w1, w2⟩ := h2'.get d1
      obtain ⟨w', w3, w4⟩ := h4.get d2
      have ex : vs[i]? = some x := ex
      have ey : us[i]? = some y := ey
      rw [w1] at ex; cases ex
      rw [w3] at ey; cases ey
      rw [List.getD_eq_getElem?_getD, List.getD_eq_getElem?_getD, d1, d2]
      exact ⟨DV.mono sm w2, DV.mono sm w4⟩
  · exact h2.elim
end
end Dl
/-! X13: comprehensions -/
namespace Dl
open PySem L2
def relS (scope sc : Scope) : Scope := { scope with names := scope.names.map fun (n, k) => if (k == .free && sc.kind == .function && sc.names.lookup n == some .cell) then (n, .cell) else (n, k) }
def Ctx.blk (c : Ctx) (scope : Scope) : Ctx := { c with sc := relS scope c.sc, fn := fun x => scope.names.lookup x == some .cell }
theorem blk_is {c : Ctx} {X : Cx} (hX : c.Is X) (s : Shared) (H : Hp) (scope : Scope) (cl : List (Str × Addr)) (C : Addr) (fp : List Addr) : (c.blk scope).Is (X.blk s H scope (compEnvC scope cl C X.env) fp) := by
  cases hX with
  | mk X k0 nd calm room po => exact .mk (X.blk s H scope (compEnvC scope cl C X.env) fp) k0 nd calm room PassesOwn.never
def gBlk (X : Cx) (scope : Scope) (tg : Expr) : TG := fun v σ H R => ∀ (s : Shared) (H' : Hp) (C : Addr) (cl : List (Str × Addr)) (fp : List Addr), WG (X.blk s H' scope (compEnvC scope cl C X.env) fp) tg v σ H R
def tBlk (X : Cx) (scope : Scope) (ifs : List Expr) : TT := fun σ H R => ∀ (s : Shared) (H' : Hp) (C : Addr) (cl : List (Str × Addr)) (fp : List Addr), WTs (X.blk s H' scope (compEnvC scope cl C X.env) fp) ifs σ H R
def eBlk (X : Cx) (scope : Scope) (elt : Expr) : TE := fun σ H R => ∀ (s : Shared) (H' : Hp) (C : Addr) (cl : List (Str × Addr)) (fp : List Addr), WE (X.blk s H' scope (compEnvC scope cl C X.env) fp) elt σ H R

theorem HM.unlast {K : PySem.W.Frag} {F : Hp} {As : List Addr} {M : List C} {H : Hp} {a : Addr} {cc : C} (h : HM K F (As ++ [a]) (M ++ [cc]) H) (hr : ∀ c ∈ M, ∀ k ∈ c.refs, k < M.length) : HM K F As M (del H a) ∧ ∃ o, H a = some o ∧ CR K F (As ++ [a]) a cc o := by
  have hl : As.length = M.length := by have := h.len; simpa using this
  have na : a ∉ As := by
    have := h.nd
    rw [List.nodup_append] at this
    exact fun z => this.2.2 a z a (by simp) rfl
  refine ⟨⟨(List.nodup_append.mp h.nd).1, hl, fun i b c' eb ec => ?_, fun b hb => h.off b (List.mem_append_left _ hb), fun b hb => ?_⟩, ?_⟩
  · obtain ⟨o, h1, h2⟩ := h.cell i b c' (by rw [List.getElem?_append_left (List.getElem?_eq_some_iff.mp eb).1]; exact eb) (by rw [List.getElem?_append_left (List.getElem?_eq_some_iff.mp ec).1]; exact ec)
    refine ⟨o, by rw [del_ne (fun z => na (by rw [← z]; exact List.mem_iff_getElem?.mpr ⟨i, eb⟩))]; exact h1, CR.cut (fun k hk => ?_) h2⟩
    rw [hl]; exact hr c' (List.mem_of_getElem? ec) k hk
  · by_cases e : b = a
    · subst e; rw [del_same]; exact (h.off b (by simp)).symm
    · rw [del_ne e]
      exact h.out b fun z => by
        rcases List.mem_append.mp z with z | z
        · exact hb z
        · exact e (by simpa using z)
  · obtain ⟨o, h1, h2⟩ := h.cell As.length a cc (by simp) (by rw [hl]; simp)
    exact ⟨o, h1, h2⟩
theorem upd_del {H : Hp} {a : Addr} {o : HO} (h : H a = some o) : upd (del H a) a o = H := by
  funext b
  unfold upd del
  split
  · rename_i e; rw [e]; exact h.symm
  · rfl
theorem del_upd {H : Hp} {a : Addr} {o : HO} (h : H a = none) : del (upd H a o) a = H := by
  funext b
  unfold upd del
  split
  · rename_i e; rw [e]; exact h.symm
  · rename_i n; exact if_neg n
section
variable {c : Ctx} {ρ : List Sl} {M : List C} {a b e tg iter elt : Expr} {pos p1 p2 p3 : Pos} {ifs : List Expr} {scope : Scope} {tx : Tg} {ix : It} {fx : Tl} {ex : E}
theorem trTs_nil : TrTs c [] .nil := fun ρ M Q h X hX F As σ H sr hm G k => ⟨_, pts_nil, k true F As H M (Same.refl _) (List.prefix_refl _) hm h⟩
theorem trTs_one {t : Te} (h : TrT c e t) : TrTs c [e] (.one t) := fun ρ M Q q X hX F As σ H sr hm G k => ⟨_, pts_one pt_w, h ρ M Q q X hX F As σ H sr hm G k⟩
abbrev OutK (Q : List D → List C → Prop) : Z → List C → Prop := fun z M' => ∃ out, z = .n (.lst out) ∧ Q out M'
theorem lc_core {vs : List Nat} {X : Cx} (hX : c.Is X) (hi : TrI c tg iter ix) (hg : TrG (c.blk scope) tg tx) (ht : TrTs (c.blk scope) ifs fx) (he : Tr (c.blk scope) elt ex) (hjs : ∀ j ∈ tx.ix, j ∈ vs) {Q : List D → List C → Prop} (h : wpG c.g (.last tx ix fx ex) (clr ρ vs) M Q) {F : Hp} {As : List Addr} {σ : L2.St} {H : Hp} (sr : SR c.K F As ρ σ) (hm : HM c.K F As M H) {G : VK} (k : Aft c.K F As (zq M.length (OutK Q)) G) :
    tLc (WI X tg iter) (gBlk X scope tg) (tBlk X scope ifs) (eBlk X scope elt) vs σ H G := by
  refine hi (clr ρ vs) M _ h X hX F As σ H (sr.clr vs) hm _ fun J F1 As1 H1 M1 ds ks s1 p1 hm1 it ⟨hz, hw⟩ Dl hD => ?_
  obtain ⟨Gd, Y, W, hG, hY⟩ := it.ex
  generalize hf : (fun (d : D) (M' : List C) (k : List D → List C → Prop) => bindT tx d (clr ρ vs) fun ρ2 => wpTs c.g fx ρ2 M' fun t M2 => (t = true → wpR c.g ex ρ2 M2 fun z M3 => z.fz M3 fun r M3 => match r with | .val y => k [y] M3 | _ => False) ∧ (t = false → k [] M2)) = f at hw
  have vis : ∀ {F' : Hp} {M' : List C} {H' : Hp} {acc : List D} {ws : List V}, HM c.K F' As1 M' (del H' Dl) → H' Dl = some (.lst ws) → DVs c.K F' acc ws → HM c.K F' (As1 ++ [Dl]) (M' ++ [.lst acc]) H' := fun {F' M' H' acc ws} hm' hD' dv => by
    have := hm'.made (c := .lst acc) (o := .lst ws) del_same ⟨ws, rfl, dv⟩
    rw [upd_del hD'] at this
    exact this
  refine lc_it (g := gBlk X scope tg) (tt := tBlk X scope ifs) (te := eBlk X scope elt) (vs := vs) (σ := σ) (H1 := H1) (D := Dl) (Qd := G (.ref Dl)) W (fun i H' => ∃ F' M' acc ws, Same F1 F' ∧ HM c.K F' As1 M' (del H' Dl) ∧ H' Dl = some (.lst ws) ∧ DVs c.K F' acc ws ∧ M'.length = M1.length ∧ (∀ k ∈ ks, M'[k]? = M1[k]?) ∧ acc.length ≤ i ∧ lcW f (fun M' => M'.length = M1.length ∧ ∀ k ∈ ks, lkM M' k = lkM M1 k) (ds.drop i) acc M' Q) ?_ ?_ ?_ ?_
  · exact ⟨F1, M1, [], [], Same.refl _, by rw [del_upd hD]; exact hm1, upd_same, rfl, rfl, fun _ _ => rfl, Nat.zero_le _, by rw [List.drop_zero]; exact hw⟩
  · rintro i H' _ ⟨F', M', acc, ws, s', h', hD', dv, hl, hk, _, _⟩
    refine hG F' _ (M' ++ [.lst acc]) H' s' (List.prefix_append _ _) (vis h' hD' dv) fun q hq => ?_
    rw [List.getElem?_append_left (by have := it.inn q hq; omega)]
    exact hk q hq
  · rintro i x H' H'' hlt ⟨F', M', acc, ws, s', h', hD', dv, hl, hk, ha, hwi⟩ y
    have hd : ds[i]? = some ds[i] := List.getElem?_eq_getElem hlt
    obtain ⟨F2, s2, hm2, dv2⟩ := hY i ds[i] F' _ (M' ++ [.lst acc]) H' x H'' hd s' (List.prefix_append _ _) (vis h' hD' dv) (fun q hq => by
      rw [List.getElem?_append_left (by have := it.inn q hq; omega)]
      exact hk q hq) y
    rw [List.drop_eq_getElem_cons hlt] at hwi
    have hwi : f ds[i] M' fun out M'' => (M''.length = M1.length ∧ ∀ k ∈ ks, lkM M'' k = lkM M1 k) ∧ lcW f _ (ds.drop (i + 1)) (acc ++ out) M'' Q := hwi
    rw [← hf] at hwi
    intro sh Hh Ch clh fph
    have srw : SR (c.blk scope).K F2 As1 (clr ρ vs) (wipe σ vs) := ((sr.mono ((s1.trans s').trans s2) p1).clrW vs)
    obtain ⟨hmu, oD, hoD, wsD, rfl, dvD⟩ := hm2.unlast h'.refs
    refine hg (clr ρ vs) ds[i] _ hwi _ (blk_is hX sh Hh scope clh Ch fph) F2 As1 (wipe σ vs) H'' x srw hm2.same dv2 _ fun ρ2 σ2 h2 sr2 hl2 hn2 => ⟨?_, fun sh Hh Ch clh fph => ?_⟩
    · rw [wipe_ext hl2 fun j hj => hn2 j fun z => hj (hjs j z)]; exact wipe_wipe
    · refine WTs.frame hoD (.lst wsD) (ht ρ2 M' _ h2 _ (blk_is hX sh Hh scope clh Ch fph) F2 As1 σ2 _ sr2 hmu _ fun bb F3 As3 H3 M3 s3 p3 hm3 h3 n3 => ?_)
      have eAs : ∀ {F4 : Hp} {As4 : List Addr} {M4 : List C} {H4 : Hp}, HM c.K F4 As4 M4 H4 → As1 <+: As4 → M4.length = M1.length → As4 = As1 := fun {F4 As4 M4 H4} hm4 p4 l4 => by
        have l1 := hm4.len
        have l2 := hm1.len
        exact (p4.eq_of_length (by omega)).symm
      cases bb with
      | false =>
        obtain ⟨⟨l3, k3⟩, h4⟩ := h3.2 rfl
        have := eAs hm3 p3 l3
        subst this
        refine ⟨F3, M3, acc, wsD, (s'.trans s2).trans s3, by rw [del_upd n3]; exact hm3, upd_same, dvD.mono s3, l3, fun q hq => by rw [← lkM_eq, ← lkM_eq]; exact k3 q hq, by omega, ?_⟩
        rw [List.append_nil, hf] at h4; exact h4
      | true =>
        show eBlk X scope elt σ2 _ _
        intro sh Hh Ch clh fph
        have hu : (upd H3 Dl (.lst wsD)) Dl = some (.lst wsD) := upd_same
        refine WE.frame hu (.lst wsD) ?_
        rw [del_upd n3]
        refine he.ee (h3.1 rfl) _ (blk_is hX sh Hh scope clh Ch fph) F3 As3 σ2 H3 (sr2.mono s3 p3) hm3 _ fun v F4 As4 H4 r M4 s4 p4 r4 hm4 h4 n4 => ?_
        split at h4
        · rename_i yd
          obtain ⟨⟨l4, k4⟩, h5⟩ := h4
          rw [hf] at h5
          have := eAs hm4 (p3.trans p4) l4
          subst this
          refine ⟨wsD, upd_same, ?_, F4, M4, acc ++ [yd], wsD ++ [v], ((s'.trans s2).trans s3).trans s4, ?_, ?_, dvs_paired.mpr (paired_append (dvs_paired.mp (dvD.mono (s3.trans s4))) (.cons r4 .nil)), l4, fun q hq => by rw [← lkM_eq, ← lkM_eq]; exact k4 q hq, ?_, h5⟩
          · rw [← dvD.length]
            exact Nat.lt_of_le_of_lt (Nat.le_trans ha (Nat.le_trans (Nat.le_of_lt hlt) hz)) (by decide)
          · rw [upd_upd, del_upd n4]; exact hm4
          · rw [upd_upd, upd_same]
          · rw [List.length_append]; exact Nat.succ_le_succ ha
        · exact h4.elim
  · rintro H' ⟨F', M', acc, ws, s', h', hD', dv, hl, hk, _, hwi⟩
    rw [List.drop_length] at hwi
    exact k _ F' (As1 ++ [Dl]) H' (.own M'.length) (M' ++ [.lst acc]) (s1.trans s') (p1.trans (List.prefix_append _ _)) ⟨Dl, by rw [← h'.len]; simp, rfl⟩ (vis h' hD' dv) ⟨.n (.lst acc), M', ⟨rfl, rfl, h'.refs⟩, by rw [hl]; exact hm.le hm1 p1, acc, rfl, hwi⟩
theorem tr_lc {own : List (Str × Nat)} (hi : TrI c tg iter ix) (hg : TrG (c.blk scope) tg tx) (ht : TrTs (c.blk scope) ifs fx) (he : Tr (c.blk scope) elt ex) (hjs : ∀ j ∈ tx.ix, j ∈ own.map (·.2)) (ok : blkC c.N c.sc scope own = true) (hs : ∀ (env : Env) x, foldedSetIterable iter env x = pure x) :
    Tr c (.ListComp elt [⟨tg, iter, ifs, 0⟩] scope pos) (.lc (.last tx ix fx ex) (own.map (·.2))) := fun ρ M Q h X hX F As σ H sr hm G k => by
  have hq := lc_core (G := G) hX hi hg ht he hjs h sr hm fun v F' As' H' r M' s p r' hm' ⟨z, M1, z1, z2, out, z3, z4⟩ => k v F' As' H' r M' s p r' hm' ⟨z, M1, z1, z2, by subst z3; exact z4⟩
  cases hX with | mk X k0 nd calm room po =>
  exact ⟨_, pe_lc calm nd pi_w (blkOk_by ok) (fun s H C cl fp => ⟨fun pins s' σ' H' v u Q I r h => pg_w.run pins s' σ' H' v u Q I r (h s H C cl fp)⟩)
      (fun s H C cl fp => ⟨fun pins s' σ' H' Q I h => pts_w.run pins s' σ' H' Q I (h s H C cl fp)⟩) (fun s H C cl fp => ⟨fun pins s' σ' H' Q I h => pe_w.run pins s' σ' H' Q I (h s H C cl fp)⟩) (hs _), hq⟩
end
end Dl
/-! X14: statements -/
namespace Dl
open PySem L2
def TrS (c : Ctx) (ss : List Stmt) (x : Ss) : Prop := ∀ ρ M Q, wpSs c.g x ρ M Q → ES c ρ M ss Q
section
variable {c : Ctx} {a b e tg iter elt : Expr} {x y : E} {pos p1 p2 p3 : Pos} {rest : List Stmt} {xs : Ss}
theorem trS_nil : TrS c [] .nil := fun ρ M Q h X hX F As B σ H E sr hm pb ends => ⟨_, pss_nil, ends.nx F As ρ M σ H (Same.refl _) pb sr hm h⟩
theorem ws_cons {X : Cx} {st : Stmt} {E : Ends} {σ : L2.St} {H : Hp} {t : TS} (h : PS X st t) (q : t { E with nx := WS X rest E } σ H) : WS X (st :: rest) E σ H := ⟨_, pss_cons h pss_w, q⟩
/-- what follows a statement -/
theorem EndsR.next {X : Cx} {D0 : DE} {E : Ends} {F : Hp} {B : List Addr} (hX : c.Is X) (hr : TrS c rest xs) (ends : EndsR c.K B.length D0 E F B) : EndsR c.K B.length { D0 with nx := fun ρ' M' => wpSs c.g xs ρ' M' D0 } { E with nx := WS X rest E } F B :=
  ⟨fun F' As' ρ' M' σ' H' s p sr hm h => hr ρ' M' D0 h X hX F' As' B σ' H' E sr hm p (ends.f s), ends.rt, ends.bk, ends.ct⟩
theorem trS_asg (i : Nat) {nm : Str} (he : Tr c e x) (hr : TrS c rest xs) (hi : c.N[i]? = some nm) (hx : Loc c.sc nm) (hf : c.fn nm = true ∨ c.sc.names.lookup nm = some .local) (hs : ∀ env : Env, env.scope = c.sc → swapsWith e (some (.Name nm p1)) pos.line env = pure false) : TrS c (.Assign [.Name nm p1] e pos :: rest) (.cons (.asg i x) xs) := fun ρ M Q h X hX F As B σ H E sr hm pb ends => by
  have hX' := hX
  cases hX with | mk X k0 nd calm room po =>
  refine ws_cons (ps_set nd hi hx pe_w (hs _ rfl) hf) (he.ee h X hX' F As σ H sr hm _ fun v F1 As1 H1 r M1 s1 p1 r1 hm1 h1 => ?_)
  rw [pt_eq] at h1
  exact hr _ M1 Q h1 X hX' F1 As1 B _ H1 E ((sr.mono s1 p1).set r1) hm1 (pb.trans p1) (ends.f s1)
/-- x = [.. for ..] on one line -/
theorem trS_asgLc (i : Nat) {nm : Str} {own : List (Str × Nat)} {ifs : List Expr} {scope : Scope} {tx : Tg} {ix : It} {fx : Tl} {ex : E} {ow : Bool} (hi : TrI c tg iter ix) (hg : TrG (c.blk scope) tg tx) (ht : TrTs (c.blk scope) ifs fx) (he : Tr (c.blk scope) elt ex) (hjs : ∀ j ∈ tx.ix, j ∈ own.map (·.2)) (ok : blkC c.N c.sc scope own = true) (hs : ∀ (env : Env) x, foldedSetIterable iter env x = pure x)
    (hr : TrS c rest xs) (hN : c.N[i]? = some nm) (hy : c.sc.names.lookup nm = some .local) (hk : c.sc.kind = .function) (hl : (p1.line == p2.line) = true) (ha : (scope.names.any fun (n, k) => n == nm && (k == .local || k == .cell)) = false) :
    TrS c (.Assign [.Name nm p1] (.ListComp elt [⟨tg, iter, ifs, 0⟩] scope p2) pos :: rest) (.cons (.asg i (if ow then .own (.lc (.last tx ix fx ex) (own.map (·.2))) else .lc (.last tx ix fx ex) (own.map (·.2)))) xs) := fun ρ M Q h X hX F As B σ H E sr hm pb ends => by
  -- both readings by one of results
  have hz : wpR c.g (.lc (.last tx ix fx ex) (own.map (·.2))) ρ M fun z M1 => (if ow then (match z with | .n c0 => wpSs c.g xs (pt ρ i (.own M1.length)) (M1 ++ [c0]) Q | .s _ => False) else z.fz M1 fun r M1 => wpSs c.g xs (pt ρ i r) M1 Q) := by
    cases ow with
    | true =>
      refine (show wpG _ _ _ _ _ from ?_)
      have h : wpG c.g (.last tx ix fx ex) (clr ρ (own.map (·.2))) M fun out M1 => (Z.s (.own M1.length)).fz (M1 ++ [.lst out]) fun r M1 => wpSs c.g xs (pt ρ i r) M1 Q := h
      exact h
    | false => exact h
  have hq : ∀ G : VK, Aft c.K F As (zq M.length (OutK fun out M1 => (if ow then wpSs c.g xs (pt ρ i (.own M1.length)) (M1 ++ [.lst out]) Q else wpSs c.g xs (pt ρ i (.val (.lst out))) M1 Q))) G → tLc (WI X tg iter) (gBlk X scope tg) (tBlk X scope ifs) (eBlk X scope elt) (own.map (·.2)) σ H G := fun G k => by
    refine lc_core (G := G) hX hi hg ht he hjs (Q := fun out M1 => (if ow then wpSs c.g xs (pt ρ i (.own M1.length)) (M1 ++ [.lst out]) Q else wpSs c.g xs (pt ρ i (.val (.lst out))) M1 Q)) ?_ sr hm k
    cases ow <;> exact hz
  have hX' := hX
  cases hX with | mk X k0 nd calm room po =>
  refine ws_cons (ps_setLc calm nd hN hy (sw_true hk hy hl ha) pi_w (blkOk_by ok) (fun s H C cl fp => ⟨fun pins s' σ' H' v u Q I r h => pg_w.run pins s' σ' H' v u Q I r (h s H C cl fp)⟩)
      (fun s H C cl fp => ⟨fun pins s' σ' H' Q I h => pts_w.run pins s' σ' H' Q I (h s H C cl fp)⟩) (fun s H C cl fp => ⟨fun pins s' σ' H' Q I h => pe_w.run pins s' σ' H' Q I (h s H C cl fp)⟩) (hs _)) (hq _ fun v F1 As1 H1 r M' s1 p1 r1 hm1 ⟨z, M1, z1, z2, out, z3, z4⟩ => ?_)
  subst z3
  obtain ⟨e1, e2, e3⟩ := z1
  subst e1; subst e2
  cases ow with
  | true =>
    have z4 : wpSs _ xs (pt ρ i (.own M1.length)) (M1 ++ [.lst out]) Q := z4
    rw [pt_eq] at z4
    exact hr _ _ Q z4 X hX' F1 As1 B _ H1 E ((sr.mono s1 p1).set r1) hm1 (pb.trans p1) (ends.f s1)
  | false =>
    have z4 : wpSs _ xs (pt ρ i (.val (.lst out))) M1 Q := z4
    rw [pt_eq] at z4
    have l1 := hm1.len
    obtain ⟨A0, p, rfl⟩ : ∃ A0 p, As1 = A0 ++ [p] := by
      have hne : As1 ≠ [] := fun z => by subst z; simp at l1
      exact ⟨As1.dropLast, As1.getLast hne, (List.dropLast_concat_getLast hne).symm⟩
    have lB : A0.length = M1.length := by simpa using l1
    obtain ⟨a', ha', rfl⟩ := r1
    have : a' = p := by
      rw [← lB] at ha'
      simpa using ha'.symm
    subst this
    obtain ⟨F2, s2, hm2, dv⟩ := hm1.freeze (d := .lst out) rfl e3
    have pA : As <+: A0 := List.prefix_of_prefix_length_le p1 (List.prefix_append _ _) (by rw [lB, hm.len]; exact z2)
    exact hr _ _ Q z4 X hX' F2 A0 B _ H1 E ((sr.mono (s1.trans s2) pA).set (s := .val (.lst out)) dv) hm2 (pb.trans pA) (ends.f (s1.trans s2))
theorem trS_ret (he : Tr c e x) : TrS c (.Return (some e) pos :: rest) (.cons (.ret x) xs) := fun ρ M Q h X hX F As B σ H E sr hm pb ends =>
  ws_cons (ps_ret pe_w) (he ρ M _ h X hX F As σ H sr hm _ fun v F1 As1 H1 r M1 s1 p1 r1 hm1 ⟨z, M2, z1, z2, q⟩ => ends.rt F1 As1 z r v M1 M2 H1 s1 (pb.trans p1) r1 hm1 z1 (Nat.le_trans (by rw [← hm.len]; exact pb.length_le) z2) q)
theorem trS_ex (he : Tr c e x) (hr : TrS c rest xs) (hs : ∀ env, swapsWith e none pos.line env = pure false) : TrS c (.Expr e pos :: rest) (.cons (.ex x) xs) := fun ρ M Q h X hX F As B σ H E sr hm pb ends =>
  ws_cons (ps_expr pe_w (hs _)) (he.ee h X hX F As σ H sr hm _ fun v F1 As1 H1 r M1 s1 p1 r1 hm1 h1 => hr ρ M1 Q h1 X hX F1 As1 B σ H1 E (sr.mono s1 p1) hm1 (pb.trans p1) (ends.f s1))
theorem trS_if {t : Te} {s1 s2 : List Stmt} {x1 x2 : Ss} (ht : TrT c e t) (h1 : TrS c s1 x1) (h2 : TrS c s2 x2) (hr : TrS c rest xs) : TrS c (.If e s1 s2 pos :: rest) (.cons (.ite t x1 x2) xs) := fun ρ M Q h X hX F As B σ H E sr hm pb ends =>
  ws_cons (ps_if pt_w pss_w pss_w) (ht ρ M _ h X hX F As σ H sr hm _ fun t F1 As1 H1 M1 sm p1 hm1 h' => by
    have ends' := (ends.next hX hr).f sm
    cases t with
    | true => exact h1 ρ M1 _ (h'.1 rfl) X hX F1 As1 B σ H1 _ (sr.mono sm p1) hm1 (pb.trans p1) ends'
    | false => exact h2 ρ M1 _ (h'.2 rfl) X hX F1 As1 B σ H1 _ (sr.mono sm p1) hm1 (pb.trans p1) ends')
end
end Dl
/-! X15: loops, pairs, stores -/
namespace Dl
open PySem L2
theorem SR.trim {K : PySem.W.Frag} {F F' : Hp} {As : List Addr} {ρ : List Sl} {σ : L2.St} {n : Nat} (sr : SR K F As ρ σ) (s : Same F F') (dead : List Nat) : SR K F' (As.take n) ((Dl.clr ρ dead).map (Sl.trim n)) σ := by
  have sr := (sr.clr dead).mono s (List.prefix_refl _)
  refine ⟨by simpa using sr.len, fun i t q z => ?_⟩
  rw [List.getElem?_map] at q
  cases e : (Dl.clr ρ dead)[i]? with
  | none => rw [e] at q; cases q
  | some s0 =>
    rw [e] at q
    cases q
    cases s0 with
    | un => exact absurd rfl z
    | val d =>
      obtain ⟨v, h1, h2⟩ := sr.get i _ e (fun z => by cases z)
      exact ⟨v, h1, h2⟩
    | own k =>
      obtain ⟨v, h1, a, h2, rfl⟩ := sr.get i _ e (fun z => by cases z)
      refine ⟨_, h1, ?_⟩
      show SlR K F' (As.take n) (if k < n then .own k else .un) _
      split
      · rename_i hk
        exact ⟨a, by rw [List.getElem?_take, if_pos hk]; exact h2, rfl⟩
      · exact trivial
section
variable {c : Ctx} {a b e tg iter elt : Expr} {x y : E} {pos p1 p2 p3 : Pos} {rest : List Stmt} {xs : Ss}
theorem trS_for {tx : Tg} {ix : It} {bx : Ss} {dead : List Nat} {body : List Stmt} (hi : TrI c tg iter ix) (hg : TrG c tg tx) (hb : TrS c body bx) (hr : TrS c rest xs) (hf : ∀ (env : Env) x, foldedSetIterable iter env x = pure x) : TrS c (.For tg iter body [] pos :: rest) (.cons (.for tx ix bx dead) xs) := fun ρ M Q h X hX F As B σ H E sr hm pb ends => by
  have hXc := hX
  cases hX with | mk X k0 nd calm room po =>
  refine ws_cons (ps_for po calm pi_w pg_w pss_w (hf _)) (hi ρ M _ h X hXc F As σ H sr hm _ fun J F1 As1 H1 M1 ds ks s1 p1 hm1 it hw => ?_)
  obtain ⟨Gd, Y, W, hG, hY⟩ := it.ex
  have l1 := hm1.len
  have ends' := (ends.next hXc hr).f s1
  generalize hfb : (fun (d : D) (ρ : List Sl) (M : List C) (Q : DE) => bindT tx d ρ fun ρ' => wpSs (⟨X.prog, X.w, X.K, X.mg, X.base, X.N, X.env.scope, X.fn, k0⟩ : Ctx).g bx ρ' M Q) = f at hw
  generalize hq : ({ Q with nx := fun ρ' M' => wpSs (⟨X.prog, X.w, X.K, X.mg, X.base, X.N, X.env.scope, X.fn, k0⟩ : Ctx).g xs ρ' M' Q } : DE) = Q1 at hw ends'
  refine for_it (g := WG X tg) (tb := WS X body) (D := { E with nx := WS X rest E }) W (fun i σ' H' => ∃ F' ρ' M', Same F1 F' ∧ SR X.K F' As1 ρ' σ' ∧ HM X.K F' As1 M' H' ∧ (∀ k ∈ ks, lkM M' k = lkM M1 k) ∧ forW f (trimW M1.length dead) (fun M' => ∀ k ∈ ks, lkM M' k = lkM M1 k) (ds.drop i) ρ' M' Q1) ?_ ?_ ?_ ?_
  · refine ⟨F1, _, M1, Same.refl _, ?_, hm1, fun _ _ => rfl, by rw [List.drop_zero]; exact hw⟩
    have := (sr.mono s1 p1).trim (n := M1.length) (Same.refl _) dead
    rwa [← l1, List.take_length, l1] at this
  · rintro i σ' H' _ ⟨F', ρ', M', s', sr', hm', hk, _⟩
    exact hG F' As1 M' H' s' (List.prefix_refl _) hm' fun q hq => by rw [← lkM_eq, ← lkM_eq]; exact hk q hq
  · rintro i x σ' H' H'' hlt ⟨F', ρ', M', s', sr', hm', hk, hwi⟩ y
    have hdi : ds[i]? = some ds[i] := List.getElem?_eq_getElem hlt
    obtain ⟨F2, s2, hm2, dv⟩ := hY i ds[i] F' As1 M' H' x H'' hdi s' (List.prefix_refl _) hm' (fun q hq => by rw [← lkM_eq, ← lkM_eq]; exact hk q hq) y
    rw [List.drop_eq_getElem_cons hlt] at hwi
    have hwi : f ds[i] ρ' M' _ := hwi
    rw [← hfb] at hwi
    refine hg ρ' ds[i] _ hwi X hXc F2 As1 σ' H'' x (sr'.mono s2 (List.prefix_refl _)) hm2.same dv _ fun ρ2 σ2 h2 sr2 _ _ => ?_
    have back : ∀ {F3 : Hp} {As3 : List Addr} {ρ3 : List Sl} {M3 : List C} {σ3 : L2.St} {H3 : Hp}, Same F2 F3 → As1 <+: As3 → SR X.K F3 As3 ρ3 σ3 → HM X.K F3 As3 M3 H3 → trimW M1.length dead (fun ρ' M' => (∀ k ∈ ks, lkM M' k = lkM M1 k) ∧ forW f (trimW M1.length dead) (fun M' => ∀ k ∈ ks, lkM M' k = lkM M1 k) (ds.drop (i + 1)) ρ' M' Q1) ρ3 M3 → ∃ F' ρ' M', Same F1 F' ∧ SR X.K F' As1 ρ' σ3 ∧ HM X.K F' As1 M' H3 ∧ (∀ k ∈ ks, lkM M' k = lkM M1 k) ∧ forW f (trimW M1.length dead) (fun M' => ∀ k ∈ ks, lkM M' k = lkM M1 k) (ds.drop (i + 1)) ρ' M' Q1 := fun {F3 As3 ρ3 M3 σ3 H3} s3 p3 sr3 hm3 ⟨t1, t2, t3, t4⟩ => by
      obtain ⟨F4, s4, hm4⟩ := hm3.drop M1.length t1 t2
      have eA : As3.take M1.length = As1 := by
        rw [← l1]
        obtain ⟨t, rfl⟩ := p3
        exact List.take_left' rfl
      rw [eA] at hm4
      have sr4 := sr3.trim (n := M1.length) s4 dead
      rw [eA] at sr4
      exact ⟨F4, _, _, ((s'.trans s2).trans s3).trans s4, sr4, hm4, t3, t4⟩
    refine hb ρ2 M' _ h2 X hXc F2 As1 As1 σ2 H'' _ sr2 hm2 (List.prefix_refl _) ⟨fun F3 As3 ρ3 M3 σ3 H3 s3 p3 sr3 hm3 hh => ?_, fun F3 As3 z r v M3 M4 H3 s3 p3 r3 hm3 z1 z2 k => ?_, fun F3 As3 ρ3 M3 σ3 H3 s3 p3 sr3 hm3 k => ?_, fun F3 As3 ρ3 M3 σ3 H3 s3 p3 sr3 hm3 hh => ?_⟩
    · rw [hfb] at hh; exact back s3 p3 sr3 hm3 hh
    · exact ends'.rt F3 As3 z r v M3 M4 H3 ((s'.trans s2).trans s3) ((pb.trans p1).trans p3) r3 hm3 z1 (Nat.le_trans (pb.trans p1).length_le z2) k
    · exact ends'.nx F3 As3 ρ3 M3 σ3 H3 ((s'.trans s2).trans s3) ((pb.trans p1).trans p3) sr3 hm3 k
    · rw [hfb] at hh; exact back s3 p3 sr3 hm3 hh
  · rintro σ' H' ⟨F', ρ', M', s', sr', hm', hk, hwi⟩
    rw [List.drop_length] at hwi
    exact ends'.nx F' As1 ρ' M' σ' H' s' (pb.trans p1) sr' hm' hwi
theorem trS_while {t : Te} {bx : Ss} {dead : List Nat} {body : List Stmt} (ht : TrT c e t) (hb : TrS c body bx) (hr : TrS c rest xs) : TrS c (.While e body [] pos :: rest) (.cons (.while t bx dead) xs) := fun ρ M Q ⟨n, hw⟩ X hX F As B σ H E sr hm pb ends => by
  have hXc := hX
  cases hX with | mk X k0 nd calm room po =>
  have l1 := hm.len
  have ends' := ends.next hXc hr
  generalize hq : ({ Q with nx := fun ρ' M' => wpSs (⟨X.prog, X.w, X.K, X.mg, X.base, X.N, X.env.scope, X.fn, k0⟩ : Ctx).g xs ρ' M' Q } : DE) = Q1 at hw ends'
  refine ws_cons (ps_while po pt_w pss_w) ?_
  refine ⟨fun n σ' H' => ∃ F' ρ' M', Same F F' ∧ SR X.K F' As ρ' σ' ∧ HM X.K F' As M' H' ∧ whileW (wpT (⟨X.prog, X.w, X.K, X.mg, X.base, X.N, X.env.scope, X.fn, k0⟩ : Ctx).g t) (wpSs (⟨X.prog, X.w, X.K, X.mg, X.base, X.N, X.env.scope, X.fn, k0⟩ : Ctx).g bx) (trimW M.length dead) Q1 n ρ' M', ⟨n, F, _, M, Same.refl _, ?_, hm, hw⟩, ?_⟩
  · have := sr.trim (n := M.length) (Same.refl _) dead
    rwa [← l1, List.take_length, l1] at this
  rintro n σ' H' ⟨F', ρ', M', s', sr', hm', hwi⟩
  cases n with
  | zero => exact False.elim hwi
  | succ n =>
    refine ht ρ' M' _ hwi X hXc F' As σ' H' sr' hm' _ fun tt F2 As2 H2 M2 s2 p2 hm2 h2 => ?_
    cases tt with
    | false => exact ends'.nx F2 As2 ρ' M2 σ' H2 (s'.trans s2) (pb.trans p2) (sr'.mono s2 p2) hm2 (h2.2 rfl)
    | true =>
      refine ⟨fun σ3 H3 => ∃ n', n' < n + 1 ∧ ∃ F' ρ' M', Same F F' ∧ SR X.K F' As ρ' σ3 ∧ HM X.K F' As M' H3 ∧ whileW (wpT (⟨X.prog, X.w, X.K, X.mg, X.base, X.N, X.env.scope, X.fn, k0⟩ : Ctx).g t) (wpSs (⟨X.prog, X.w, X.K, X.mg, X.base, X.N, X.env.scope, X.fn, k0⟩ : Ctx).g bx) (trimW M.length dead) Q1 n' ρ' M', fun σ3 H3 ⟨n', h, z⟩ => ⟨n', h, z⟩, ?_⟩
      have back : ∀ {F3 : Hp} {As3 : List Addr} {ρ3 : List Sl} {M3 : List C} {σ3 : L2.St} {H3 : Hp}, Same F2 F3 → As2 <+: As3 → SR X.K F3 As3 ρ3 σ3 → HM X.K F3 As3 M3 H3 → trimW M.length dead (fun ρ' M' => whileW (wpT (⟨X.prog, X.w, X.K, X.mg, X.base, X.N, X.env.scope, X.fn, k0⟩ : Ctx).g t) (wpSs (⟨X.prog, X.w, X.K, X.mg, X.base, X.N, X.env.scope, X.fn, k0⟩ : Ctx).g bx) (trimW M.length dead) Q1 n ρ' M') ρ3 M3 → ∃ F' ρ' M', Same F F' ∧ SR X.K F' As ρ' σ3 ∧ HM X.K F' As M' H3 ∧ whileW (wpT (⟨X.prog, X.w, X.K, X.mg, X.base, X.N, X.env.scope, X.fn, k0⟩ : Ctx).g t) (wpSs (⟨X.prog, X.w, X.K, X.mg, X.base, X.N, X.env.scope, X.fn, k0⟩ : Ctx).g bx) (trimW M.length dead) Q1 n ρ' M' := fun {F3 As3 ρ3 M3 σ3 H3} s3 p3 sr3 hm3 ⟨t1, t2, t3⟩ => by
        obtain ⟨F4, s4, hm4⟩ := hm3.drop M.length t1 t2
        have eA : As3.take M.length = As := by
          rw [← l1]
          obtain ⟨t, rfl⟩ := p2.trans p3
          exact List.take_left' rfl
        rw [eA] at hm4
        have sr4 := sr3.trim (n := M.length) s4 dead
        rw [eA] at sr4
        exact ⟨F4, _, _, ((s'.trans s2).trans s3).trans s4, sr4, hm4, t3⟩
      refine hb ρ' M2 _ (h2.1 rfl) X hXc F2 As2 As2 σ' H2 _ (sr'.mono s2 p2) hm2 (List.prefix_refl _) ⟨fun F3 As3 ρ3 M3 σ3 H3 s3 p3 sr3 hm3 hh => ?_, fun F3 As3 z r v M3 M4 H3 s3 p3 r3 hm3 z1 z2 k => ?_, fun F3 As3 ρ3 M3 σ3 H3 s3 p3 sr3 hm3 k => ?_, fun F3 As3 ρ3 M3 σ3 H3 s3 p3 sr3 hm3 hh => ?_⟩
      · exact ⟨n, Nat.lt_succ_self _, back s3 p3 sr3 hm3 hh⟩
      · exact ends'.rt F3 As3 z r v M3 M4 H3 ((s'.trans s2).trans s3) ((pb.trans p2).trans p3) r3 hm3 z1 (Nat.le_trans (pb.trans p2).length_le z2) k
      · exact ends'.nx F3 As3 ρ3 M3 σ3 H3 ((s'.trans s2).trans s3) ((pb.trans p2).trans p3) sr3 hm3 k
      · exact ⟨n, Nat.lt_succ_self _, back s3 p3 sr3 hm3 hh⟩
end
end Dl
/-! X16: stores, pairs -/
namespace Dl
open PySem L2
theorem pset_any {X : Cx} : PSet X fun o i v H Q => ∃ t, PSet X t ∧ t o i v H Q := fun pins s σ H o i v ov iv u Q I ro ri rv ⟨t, ht, q⟩ => ht pins s σ H o i v ov iv u Q I ro ri rv q
theorem set_dict {X : Cx} (hu : X.A.units + 1 < cLine) : PSet X fun o i v H Q => ∃ a H', o = .ref a ∧ DPut H a i v H' ∧ Q H' := fun pins s σ H o i v ov iv u Q I ro ri rv ⟨a, H', ex, g, q⟩ => by
  subst ex
  obtain rfl : ov = Value.ref a := ro
  exact d_setItem hu I g ri rv fun s4 I4 => ⟨H', I4, q⟩
theorem pk_any {α β : Type} {R : α → β → Prop} {k : Key} : ∀ {xs : List (Key × α)} {ys : List (Key × β)}, Paired (fun p q => p.1 = q.1 ∧ R p.2 q.2) xs ys → (xs.any fun p => decide (p.1 = k)) = ys.any fun p => decide (p.1 = k)
  | [], _, .nil => rfl
  | _ :: _, _, .cons h r => by rw [List.any_cons, List.any_cons, pk_any r, h.1]
theorem pk_map {α β : Type} {R : α → β → Prop} {k : Key} {d : α} {v : β} (hv : R d v) : ∀ {xs : List (Key × α)} {ys : List (Key × β)}, Paired (fun p q => p.1 = q.1 ∧ R p.2 q.2) xs ys → Paired (fun p q => p.1 = q.1 ∧ R p.2 q.2) (xs.map fun p => if p.1 = k then (p.1, d) else p) (ys.map fun p => if p.1 = k then (p.1, v) else p)
  | [], _, .nil => .nil
  | p :: _, q :: _, .cons h r => by
    rw [List.map_cons, List.map_cons]
    refine .cons ?_ (pk_map hv r)
    show (if p.1 = k then (p.1, d) else p).1 = (if q.1 = k then (q.1, v) else q).1 ∧ R (if p.1 = k then (p.1, d) else p).2 (if q.1 = k then (q.1, v) else q).2
    rw [h.1]
    split
    · exact ⟨rfl, hv⟩
    · exact h
theorem pk_put {β : Type} {α : Type} {R : α → V → Prop} {k : Key} {d : α} {v : V} (hv : R d v) {xs : List (Key × α)} {ys : List (Key × V)} (h : Paired (fun p q => p.1 = q.1 ∧ R p.2 q.2) xs ys) : Paired (fun p q => p.1 = q.1 ∧ R p.2 q.2) (putD xs k d) (putK ys k v) := by
  unfold putD putK
  rw [pk_any h]
  split
  · exact pk_map hv h
  · exact paired_append h (.cons ⟨rfl, hv⟩ .nil)
section
variable {c : Ctx} {a b e o tg iter elt : Expr} {x y z : E} {pos p1 p2 p3 : Pos} {rest : List Stmt} {xs : Ss}
theorem set_all {r1 r2 r : Sl} {M : List C} {Q : List C → Prop} (h : setR r1 r2 r M Q) : ∀ X, c.Is X → ∀ F As H u v w, SlR c.K F As r1 u → SlR c.K F As r2 v → SlR c.K F As r w → HM c.K F As M H → ∀ G : Hp → Prop, (∀ M' H', M'.length = M.length → HM c.K F As M' H' → Q M' → G H') → ∃ t, PSet X t ∧ t u v w H G := fun X hX F As H u v w h1 h2 h3 hm G k => by
  cases hX with | mk X k0 nd calm room po =>
  cases r1 with
  | un => exact False.elim h
  | val _ => exact False.elim h
  | own j =>
  cases r2 with
  | un => exact False.elim h
  | own _ => exact False.elim h
  | val xi =>
  obtain ⟨l, hl, rfl⟩ := h1
  unfold setR at h
  dsimp only at h
  rw [lkM_eq] at h
  cases e : M[j]? with
  | none => rw [e] at h; exact False.elim h
  | some cc =>
    rw [e] at h
    obtain ⟨ob, hob, hc⟩ := hm.cell j l cc hl e
    cases cc with
    | lst ds =>
      obtain ⟨vs, rfl, hv⟩ := hc
      dsimp only at h
      split at h
      · rename_i i yd
        split at h
        · rename_i n en
          have h2 : v = .int i := h2
          subst h2
          refine ⟨_, set_list, l, vs, i, n, rfl, rfl, hob, by rw [← hv.length]; exact en, ?_⟩
          rw [ptM_eq] at h
          exact k _ _ (by simp) (hm.set (c := .lst (ds.set n yd)) hl ⟨_, rfl, dvs_paired.mpr (paired_set (R := fun d v => DV X.K F d v) h3 n (dvs_paired.mp hv))⟩) h
        · exact h.elim
      · exact h.elim
    | dic kvs =>
      obtain ⟨vs, rfl, hv⟩ := hc
      dsimp only at h
      split at h
      · rename_i kk yd ek
        have := keyV ek h2
        subst this
        rw [ptM_eq] at h
        refine ⟨_, set_dict (lt_room room), l, _, rfl, DPut.k hob (by rw [← Paired.length hv]; exact Nat.lt_of_lt_of_le h.1 (by decide)), ?_⟩
        exact k _ _ (by simp) (hm.set (c := .dic (putD kvs kk yd)) hl ⟨_, rfl, pk_put (β := Unit) (R := fun d v => DV X.K F d v) h3 hv⟩) h.2
      · exact h.elim
    | mdc kvs =>
      obtain ⟨vs, rfl, hv⟩ := hc
      dsimp only at h
      split at h
      · rename_i kk ek
        have := keyV ek h2
        subst this
        rw [ptM_eq] at h
        refine ⟨_, set_dict (lt_room room), l, _, rfl, DPut.k hob (by rw [← Paired.length hv]; exact Nat.lt_of_lt_of_le h.1.1 (by decide)), ?_⟩
        exact k _ _ (by simp) (hm.set (c := .mdc (putD kvs kk r)) hl ⟨_, rfl, pk_put (β := Unit) (R := fun d v => SlR X.K F As d v) h3 hv⟩) h.2
      · exact h.elim
    | mls _ => exact False.elim h
    | ins _ _ _ => exact False.elim h
    | dxo _ => exact False.elim h
    | sob0 _ _ => exact False.elim h
    | sob _ _ _ => exact False.elim h
    | dxx => exact False.elim h
theorem trS_setix (he : Tr c e z) (ho : Tr c o x) (hi : Tr c a y) (hr : TrS c rest xs) (hs : ∀ env : Env, swapsWithSole [.Subscript o a p1] e pos.line env = pure false) (hw : ∀ env : Env, swappedStores [.Subscript o a p1] e env = pure none) (h1 : ∀ env : Env, (assignEach [.Subscript o a p1] env).map (·.2) = [assign (.Subscript o a p1) env])
    (has : ∀ (env : Env) v, assign (.Subscript o a p1) env v = (do
      let ov ← holding [v] (eval o env)
      let iv ← holding [v, ov] (eval a env)
      standAt p1
      holding [v, ov, iv] (setItem ov iv v)
      release [v, ov, iv] [])) : TrS c (.Assign [.Subscript o a p1] e pos :: rest) (.cons (.setix x y z) xs) := fun ρ M Q h X hX F As B σ H E sr hm pb ends => by
  have hX' := hX
  cases hX with | mk X k0 nd calm room po =>
  refine ws_cons (ps_asg pe_w (pg_sub pe_w pe_w pset_any (has _)) (hs _) (hw _) (h1 _)) (he.ee h X hX' F As σ H sr hm _ fun v F1 As1 H1 r M1 s1 p1 q1 hm1 h1 => ?_)
  refine ho.ee h1 X hX' F1 As1 σ H1 (sr.mono s1 p1) hm1 _ fun u F2 As2 H2 r1 M2 s2 p2 q2 hm2 h2 => hi.ee h2 X hX' F2 As2 σ H2 (sr.mono (s1.trans s2) (p1.trans p2)) hm2 _ fun w F3 As3 H3 r2 M3 s3 p3 q3 hm3 h3 => ?_
  exact set_all h3 X hX' F3 As3 H3 u w v (q2.mono s3 p3) q3 (q1.mono (s2.trans s3) (p2.trans p3)) hm3 _ fun M4 H4 _ hm4 h4 =>
    hr ρ M4 Q h4 X hX' F3 As3 B σ H4 E (sr.mono ((s1.trans s2).trans s3) ((p1.trans p2).trans p3)) hm4 (pb.trans ((p1.trans p2).trans p3)) (ends.f ((s1.trans s2).trans s3))
theorem trS_aug (i : Nat) {nm : Str} {op : Operator} (he : Tr c e x) (hop : op = .Add ∨ op = .Sub) (hr : TrS c rest xs) (hi : c.N[i]? = some nm) (hx : Loc c.sc nm) (hf : c.fn nm = true ∨ c.sc.names.lookup nm = some .local) : TrS c (.AugAssign (.Name nm p1) op e pos :: rest) (.cons (.aug i op x) xs) := fun ρ M Q h X hX F As B σ H E sr hm pb ends => by
  have hX' := hX
  cases hX with | mk X k0 nd calm room po =>
  dsimp only [wpSs, wpS] at h
  cases el : lk ρ i with
  | un => rw [el] at h; exact False.elim h
  | own _ => rw [el] at h; exact False.elim h
  | val d =>
    rw [el] at h
    cases d with
    | int n =>
      obtain ⟨v0, hv0, hn0⟩ := sr.get i _ (lk_eq ρ i (by rw [el]; exact fun z => (nomatch z))) (by rw [el]; exact fun z => (nomatch z))
      rw [el] at hn0
      have hn0 : v0 = .int n := hn0
      subst hn0
      have fin : ∀ {F1 : Hp} {As1 : List Addr} {H1 : Hp} {M1 : List C} {m : Int}, Same F F1 → As <+: As1 → HM X.K F1 As1 M1 H1 → wpSs _ xs (pt ρ i (.val (.int m))) M1 Q → WS X rest E (σ.set i (some (.int m))) H1 := fun {F1 As1 H1 M1 m} s1 p1 hm1 q => by
        rw [pt_eq] at q
        exact hr _ M1 Q q X hX' F1 As1 B _ H1 E ((sr.mono s1 p1).set (s := .val (.int m)) rfl) hm1 (pb.trans p1) (ends.f s1)
      rcases hop with rfl | rfl
      · refine ws_cons (ps_aug nd hi hx pe_w ip_add hf) ⟨_, hv0, he.ee h X hX' F As σ H sr hm _ fun v F1 As1 H1 r M1 s1 p1 r1 hm1 h1 => ?_⟩
        dsimp only [binR] at h1
        split at h1
        · rename_i i' j' e1
          cases e1
          exact ⟨n, j', rfl, r1, fin s1 p1 hm1 h1⟩
        · split at h1
          · rename_i e1 _; cases e1
          · rename_i e1 _; cases e1
          · exact h1.elim
      · refine ws_cons (ps_aug nd hi hx pe_w ip_sub hf) ⟨_, hv0, he.ee h X hX' F As σ H sr hm _ fun v F1 As1 H1 r M1 s1 p1 r1 hm1 h1 => ?_⟩
        dsimp only [binR] at h1
        split at h1
        · rename_i i' j' e1
          cases e1
          exact ⟨n, j', rfl, r1, fin s1 p1 hm1 h1⟩
        · exact h1.elim
    | _ => exact False.elim h
/-! ### pairs -/
theorem trS_par2 (i j : Nat) {n1 n2 : Str} {as : Es} {kt k2} {pt2 : Pos} (ha : TrA c [a, b] as) (hr : TrS c rest xs) (hij : i ≠ j) (hi : c.N[i]? = some n1) (hj : c.N[j]? = some n2)
    (hx : c.sc.names.lookup n1 = some .local) (hy : c.sc.names.lookup n2 = some .local)
    (hw : ∀ env : Env, env.scope = c.sc → swappedStores [.Tuple [.Name n1 p1, .Name n2 p2] kt p3] (.Tuple [a, b] k2 pt2) env = pure (some [n1, n2]))
    (hs : ∀ env : Env, swapsWithSole [.Tuple [.Name n1 p1, .Name n2 p2] kt p3] (.Tuple [a, b] k2 pt2) pos.line env = pure false) :
    TrS c (.Assign [.Tuple [.Name n1 p1, .Name n2 p2] kt p3] (.Tuple [a, b] k2 pt2) pos :: rest) (.cons (.par [i, j] as) xs) := fun ρ M Q h X hX F As B σ H E sr hm pb ends => by
  have hX' := hX
  cases hX with | mk X k0 nd calm room po =>
  refine ws_cons (ps_par calm nd hi hj hij hx hy pa_w (hw _ rfl) (hs _)) (ha ρ M _ h X hX' F As σ H sr hm _ fun vs F1 As1 H1 rs M1 s1 p1 r1 hm1 ⟨hl, k⟩ => ?_)
  match rs, hl with
  | [ra, rb], _ =>
    obtain ⟨v, u, rfl, h1, h2⟩ := slrs2 r1
    have k : wpSs _ xs (pt (pt ρ i ra) j rb) M1 Q := k
    rw [pt_eq, pt_eq] at k
    exact ⟨v, u, rfl, hr _ M1 Q k X hX' F1 As1 B _ H1 E (((sr.mono s1 p1).set h1).set h2) hm1 (pb.trans p1) (ends.f s1)⟩
theorem trS_par3 (i j l : Nat) {n1 n2 n3 : Str} {e3 : Expr} {as : Es} {kt k2} {pt2 pz : Pos} (ha : TrA c [a, b, e3] as) (hr : TrS c rest xs) (hij : i ≠ j) (hil : i ≠ l) (hjl : j ≠ l) (hi : c.N[i]? = some n1) (hj : c.N[j]? = some n2) (hl : c.N[l]? = some n3)
    (hx : c.sc.names.lookup n1 = some .local) (hy : c.sc.names.lookup n2 = some .local) (hz : c.sc.names.lookup n3 = some .local)
    (hw : ∀ env : Env, env.scope = c.sc → swappedStores [.Tuple [.Name n1 p1, .Name n2 p2, .Name n3 pz] kt p3] (.Tuple [a, b, e3] k2 pt2) env = pure (some [n1, n2, n3]))
    (hs : ∀ env : Env, swapsWithSole [.Tuple [.Name n1 p1, .Name n2 p2, .Name n3 pz] kt p3] (.Tuple [a, b, e3] k2 pt2) pos.line env = pure false) :
    TrS c (.Assign [.Tuple [.Name n1 p1, .Name n2 p2, .Name n3 pz] kt p3] (.Tuple [a, b, e3] k2 pt2) pos :: rest) (.cons (.par [i, j, l] as) xs) := fun ρ M Q h X hX F As B σ H E sr hm pb ends => by
  have hX' := hX
  cases hX with | mk X k0 nd calm room po =>
  refine ws_cons (ps_par3 calm nd hi hj hl hij hil hjl hx hy hz pa_w (hw _ rfl) (hs _)) (ha ρ M _ h X hX' F As σ H sr hm _ fun vs F1 As1 H1 rs M1 s1 p1 r1 hm1 ⟨hln, k⟩ => ?_)
  match rs, hln with
  | [ra, rb, rc], _ =>
    cases r1 with
    | cons h1 r2 =>
      obtain ⟨v, u, rfl, h2, h3⟩ := slrs2 r2
      have k : wpSs _ xs (pt (pt (pt ρ i ra) j rb) l rc) M1 Q := k
      rw [pt_eq, pt_eq, pt_eq] at k
      exact ⟨_, v, u, rfl, hr _ M1 Q k X hX' F1 As1 B _ H1 E ((((sr.mono s1 p1).set h1).set h2).set h3) hm1 (pb.trans p1) (ends.f s1)⟩
/-- names that are stored one after another -/
structure StN (c : Ctx) (i : Nat) (n : Str) : Prop where
  at_ : c.N[i]? = some n
  loc : Loc c.sc n
  fn : c.fn n = true ∨ c.sc.names.lookup n = some .local
theorem trS_parC2 (i j : Nat) {n1 n2 : Str} {as : Es} {kt k2} {pt2 : Pos} (ha : TrA c [a, b] as) (hr : TrS c rest xs) (h1 : StN c i n1) (h2 : StN c j n2)
    (hw : ∀ env : Env, env.scope = c.sc → swappedStores [.Tuple [.Name n1 p1, .Name n2 p2] kt p3] (.Tuple [a, b] k2 pt2) env = pure none)
    (hs : ∀ env : Env, swapsWithSole [.Tuple [.Name n1 p1, .Name n2 p2] kt p3] (.Tuple [a, b] k2 pt2) pos.line env = pure false) :
    TrS c (.Assign [.Tuple [.Name n1 p1, .Name n2 p2] kt p3] (.Tuple [a, b] k2 pt2) pos :: rest) (.cons (.par [i, j] as) xs) := fun ρ M Q h X hX F As B σ H E sr hm pb ends => by
  have hX' := hX
  cases hX with | mk X k0 nd calm room po =>
  refine ws_cons (ps_asg (pe_tup pa_w) (pg_tup calm (pgs_cons (pg_name nd h1.at_ h1.loc h1.fn) (pgs_cons (pg_name nd h2.at_ h2.loc h2.fn) pgs_nil))) (hs _) (hw _ rfl)) (ha ρ M _ h X hX' F As σ H sr hm _ fun vs F1 As1 H1 rs M1 s1 p1 r1 hm1 ⟨hl, k⟩ => ?_)
  match rs, hl with
  | [ra, rb], _ =>
    obtain ⟨v, u, rfl, g1, g2⟩ := slrs2 r1
    refine ⟨by simp; decide, fun p hp => ?_⟩
    obtain ⟨_, fp⟩ := hm1.fresh hp
    refine ⟨p, [v, u], rfl, .inl (.inl upd_same), rfl, v, _, rfl, u, _, rfl, rfl, ?_⟩
    have s2 := same_new (o := .tup [v, u]) fp
    have k : wpSs _ xs (pt (pt ρ i ra) j rb) M1 Q := k
    rw [pt_eq, pt_eq] at k
    exact hr _ M1 Q k X hX' _ As1 B _ _ E ((((sr.mono s1 p1).mono s2 (List.prefix_refl _)).set (g1.mono s2 (List.prefix_refl _))).set (g2.mono s2 (List.prefix_refl _))) (hm1.laid hp) (pb.trans p1) (ends.f (s1.trans s2))
theorem trS_parC3 (i j l : Nat) {n1 n2 n3 : Str} {e3 : Expr} {as : Es} {kt k2} {pt2 pz : Pos} (ha : TrA c [a, b, e3] as) (hr : TrS c rest xs) (h1 : StN c i n1) (h2 : StN c j n2) (h3 : StN c l n3)
    (hw : ∀ env : Env, env.scope = c.sc → swappedStores [.Tuple [.Name n1 p1, .Name n2 p2, .Name n3 pz] kt p3] (.Tuple [a, b, e3] k2 pt2) env = pure none)
    (hs : ∀ env : Env, swapsWithSole [.Tuple [.Name n1 p1, .Name n2 p2, .Name n3 pz] kt p3] (.Tuple [a, b, e3] k2 pt2) pos.line env = pure false) :
    TrS c (.Assign [.Tuple [.Name n1 p1, .Name n2 p2, .Name n3 pz] kt p3] (.Tuple [a, b, e3] k2 pt2) pos :: rest) (.cons (.par [i, j, l] as) xs) := fun ρ M Q h X hX F As B σ H E sr hm pb ends => by
  have hX' := hX
  cases hX with | mk X k0 nd calm room po =>
  refine ws_cons (ps_asg (pe_tup pa_w) (pg_tup calm (pgs_cons (pg_name nd h1.at_ h1.loc h1.fn) (pgs_cons (pg_name nd h2.at_ h2.loc h2.fn) (pgs_cons (pg_name nd h3.at_ h3.loc h3.fn) pgs_nil)))) (hs _) (hw _ rfl)) (ha ρ M _ h X hX' F As σ H sr hm _ fun vs F1 As1 H1 rs M1 s1 p1 r1 hm1 ⟨hl, k⟩ => ?_)
  match rs, hl with
  | [ra, rb, rc], _ =>
    cases r1 with
    | @cons _ v0 _ _ g0 r2 =>
      obtain ⟨v, u, rfl, g1, g2⟩ := slrs2 r2
      refine ⟨by simp; decide, fun p hp => ?_⟩
      obtain ⟨_, fp⟩ := hm1.fresh hp
      refine ⟨p, [_, v, u], rfl, .inl (.inl upd_same), rfl, _, _, rfl, v, _, rfl, u, _, rfl, rfl, ?_⟩
      have s2 := same_new (o := .tup [v0, v, u]) fp
      have k : wpSs _ xs (pt (pt (pt ρ i ra) j rb) l rc) M1 Q := k
      rw [pt_eq, pt_eq, pt_eq] at k
      exact hr _ M1 Q k X hX' _ As1 B _ _ E (((((sr.mono s1 p1).mono s2 (List.prefix_refl _)).set (g0.mono s2 (List.prefix_refl _))).set (g1.mono s2 (List.prefix_refl _))).set (g2.mono s2 (List.prefix_refl _))) (hm1.laid hp) (pb.trans p1) (ends.f (s1.trans s2))
/-- a, b = e -/
theorem trS_tgt {tx : Tg} (he : Tr c e x) (hg : TrG c tg tx) (hr : TrS c rest xs) (hs : ∀ env : Env, swapsWithSole [tg] e pos.line env = pure false) (hw : ∀ env : Env, env.scope = c.sc → swappedStores [tg] e env = pure none) (h1 : ∀ env : Env, (assignEach [tg] env).map (·.2) = [assign tg env]) : TrS c (.Assign [tg] e pos :: rest) (.cons (.tgt tx x) xs) := fun ρ M Q h X hX F As B σ H E sr hm pb ends => by
  have hX' := hX
  cases hX with | mk X k0 nd calm room po =>
  refine ws_cons (ps_asg pe_w pg_w (hs _) (hw _ rfl) (h1 _)) (he.ee h X hX' F As σ H sr hm _ fun v F1 As1 H1 r M1 s1 p1 r1 hm1 h1 => ?_)
  split at h1
  · rename_i d
    exact hg ρ d _ h1 X hX' F1 As1 σ H1 v (sr.mono s1 p1) hm1.same r1 _ fun ρ' σ' q sr' _ _ => hr ρ' M1 Q q X hX' F1 As1 B σ' H1 E sr' hm1 (pb.trans p1) (ends.f s1)
  · exact h1.elim
theorem trS_pass (hr : TrS c rest xs) : TrS c (.Pass pos :: rest) (.cons .pass xs) := fun ρ M Q h X hX F As B σ H E sr hm pb ends =>
  ws_cons ps_pass (hr ρ M Q h X hX F As B σ H E sr hm pb ends)
end
end Dl
/-! X17: fields that are stored, promises, entries, calls -/
namespace Dl
open PySem L2
theorem sr_put {K : PySem.W.Frag} {F : Hp} {As : List Addr} {vs : List Sl} {us : List (Option V)} {i : Nat} {r : Sl} {v : V} (h : SR K F As vs us) (hr : SlR K F As r v) : SR K F As (putSl i r vs) (SlX.putS i v us) := by
  unfold putSl SlX.putS
  have hl := h.len
  have h2 : SR K F As (vs ++ List.replicate (i + 1 - vs.length) .un) (us ++ List.replicate (i + 1 - us.length) none) := by
    refine ⟨by simp [hl], fun j s e z => ?_⟩
    by_cases hj : j < vs.length
    · rw [List.getElem?_append_left hj] at e
      rw [List.getElem?_append_left (by omega)]
      exact h.get j s e z
    · rw [List.getElem?_append_right (by omega)] at e
      exact absurd (List.eq_of_mem_replicate (List.mem_of_getElem? e)) z
  exact SR.set h2 hr
section
variable {c : Ctx} {a b e o tg iter elt : Expr} {x y z : E} {pos p1 p2 p3 : Pos} {rest : List Stmt} {xs : Ss}
theorem clsFlds_nd : ∀ c, (clsFlds c).Nodup := by
  intro c
  unfold clsFlds
  split <;> decide +kernel
theorem clsFlds_len : ∀ c, (clsFlds c).length ≤ 11 := by
  intro c
  unfold clsFlds
  split <;> decide
theorem nd_sub {α : Type} [DecidableEq α] : ∀ {l m : List α}, l.Nodup → (∀ x ∈ l, x ∈ m) → l.length ≤ m.length
  | [], _, _, _ => Nat.zero_le _
  | x :: l, m, nd, h => by
    have nd := List.nodup_cons.mp nd
    have hx := h x List.mem_cons_self
    have := nd_sub (l := l) (m := m.erase x) nd.2 fun y hy => by
      have : y ≠ x := fun z => nd.1 (z ▸ hy)
      exact (List.mem_erase_of_ne this).mpr (h y (List.mem_cons_of_mem _ hy))
    rw [List.length_erase_of_mem hx] at this
    have := List.length_pos_of_mem hx
    simp; omega
theorem lookup_putF {f g : Str} {v : V} : ∀ {kvs : List (Str × V)}, (putF f v kvs).lookup g = if g = f then some v else kvs.lookup g
  | [] => by
    show List.lookup g [(f, v)] = _
    rw [List.lookup_cons]
    by_cases e : g = f
    · subst e; simp
    · rw [if_neg e]
      have : (g == f) = false := by cases q : g == f with | false => rfl | true => exact absurd (eq_of_beq q) e
      rw [this]
  | (h, w) :: kvs => by
    show List.lookup g (if h = f then (h, v) :: kvs else (h, w) :: putF f v kvs) = _
    by_cases e : h = f
    · subst e
      rw [if_pos rfl, List.lookup_cons, List.lookup_cons]
      by_cases e2 : g = h
      · subst e2; simp
      · have : (g == h) = false := by cases q : g == h with | false => rfl | true => exact absurd (eq_of_beq q) e2
        rw [this, if_neg e2]
    · rw [if_neg e, List.lookup_cons, List.lookup_cons, lookup_putF]
      by_cases e2 : g = h
      · subst e2
        rw [if_neg e]; simp
        exact fun z => absurd z e
      · have : (g == h) = false := by cases q : g == h with | false => rfl | true => exact absurd (eq_of_beq q) e2
        rw [this]
theorem keys_putF {f : Str} {v : V} : ∀ {kvs : List (Str × V)}, (putF f v kvs).map (·.1) = if f ∈ kvs.map (·.1) then kvs.map (·.1) else kvs.map (·.1) ++ [f]
  | [] => by simp [putF]
  | (h, w) :: kvs => by
    have e0 : putF f v ((h, w) :: kvs) = if h = f then (h, v) :: kvs else (h, w) :: putF f v kvs := rfl
    rw [e0]
    by_cases e : h = f
    · subst e; simp
    · rw [if_neg e, List.map_cons, keys_putF]
      have : f ≠ h := fun z => e z.symm
      by_cases e2 : f ∈ kvs.map (·.1)
      · rw [if_pos e2, if_pos (by rw [List.map_cons]; exact List.mem_cons_of_mem _ e2)]; rfl
      · rw [if_neg e2, if_neg (by rw [List.map_cons]; intro z; rcases List.mem_cons.mp z with z | z; exact this z; exact e2 z)]; rfl
theorem putS_get {i j : Nat} {v v' : V} {us : List (Option V)} (h : (SlX.putS i v us)[j]? = some (some v')) : (j = i ∧ v' = v) ∨ (j ≠ i ∧ us[j]? = some (some v')) := by
  unfold SlX.putS at h
  by_cases e : i = j
  · subst e
    rw [List.getElem?_set_self (by simp; omega)] at h
    cases h
    exact .inl ⟨rfl, rfl⟩
  · rw [List.getElem?_set_ne e] at h
    refine .inr ⟨fun z => e z.symm, ?_⟩
    by_cases hj : j < us.length
    · rw [List.getElem?_append_left hj] at h; exact h
    · rw [List.getElem?_append_right (by omega)] at h
      have := List.eq_of_mem_replicate (List.mem_of_getElem? h)
      cases this
theorem FsR.put {c i : Nat} {f : Str} {v : V} {kvs : List (Str × V)} {us : List (Option V)} (h : FsR c kvs us) (hf : fldAt c i = some f) : FsR c (putF f v kvs) (SlX.putS i v us) := by
  refine ⟨fun j g w hg hw => ?_, fun p hp => ?_, ?_⟩
  · rw [lookup_putF]
    rcases putS_get hw with ⟨rfl, rfl⟩ | ⟨hne, hw⟩
    · rw [hf] at hg; cases hg; rw [if_pos rfl]
    · have : g ≠ f := fun z => by
        subst z
        unfold fldAt at hf hg
        rw [lkA_eq] at hf hg
        have hj := (List.getElem?_eq_some_iff.mp hg).1
        exact hne ((List.getElem?_inj hj (clsFlds_nd c)).mp (hg.trans hf.symm))
      rw [if_neg this]
      exact h.get j g w hg hw
  · have : p.1 ∈ (putF f v kvs).map (·.1) := List.mem_map_of_mem hp
    rw [keys_putF] at this
    split at this
    · obtain ⟨q, hq, e⟩ := List.mem_map.mp this
      rw [← e]; exact h.mem q hq
    · rcases List.mem_append.mp this with z | z
      · obtain ⟨q, hq, e⟩ := List.mem_map.mp z
        rw [← e]; exact h.mem q hq
      · rw [List.mem_singleton.mp z]; exact sltAt_no hf
  · rw [keys_putF]
    split
    · exact h.nd
    · rename_i hn
      exact List.nodup_append.mpr ⟨h.nd, by simp, fun a ha b hb e => by rw [List.mem_singleton.mp hb] at e; rw [e] at ha; exact hn ha⟩
theorem FsR.len {c : Nat} {kvs : List (Str × V)} {us : List (Option V)} (h : FsR c kvs us) : kvs.length < 1000 := by
  have := nd_sub h.nd (m := clsFlds c) fun x hx => by
    obtain ⟨q, hq, e⟩ := List.mem_map.mp hx
    rw [← e]; exact h.mem q hq
  rw [List.length_map] at this
  have := clsFlds_len c
  omega
theorem ps_attU {X : Cx} {o value : Expr} {f : Str} {pos pos' : Pos} {ta tv : TE} (ha : PE X o ta) (hv : PE X value tv) (hs : swapsWith value (some (.Attribute o f pos')) pos.line X.env = pure false) : PS X (.Assign [.Attribute o f pos'] value pos) (fun D σ H => tv σ H fun y H1 => ta σ H1 fun x H2 =>
    (∃ a C dx fs, x = .ref a ∧ H2 a = some (.ins C dx fs) ∧ Cls X.K C ∧ NoAttr X.K C f ∧ fs.length < 1000 ∧ D.nx σ (upd H2 a (.ins C dx (putF f y fs)))) ∨
    (∃ a C dx p vs i, x = .ref a ∧ SlX.Slt H2 a C dx vs ∧ SlX.SCls X.K C ∧ SlX.Slot1 X.K C f p i ∧ D.nx σ (SlX.slH H2 a C dx (SlX.putS i y vs)))) := by
  refine ⟨fun pins s σ H D I h => ?_⟩
  refine plainObj_wpAny_Assign_Attribute (thn (hv.run pins s σ H _ I h) fun u s1 ⟨y, H1, I1, ry, q⟩ => thn (ha.run pins s1 σ H1 _ I1 q) fun ov s2 ⟨x, H2, I2, rx, hh⟩ => ?_) hs
  rcases hh with ⟨a, C, dx, fs, ex, ea, c, n, l, q2⟩ | ⟨a, C, dx, p, vs, i, ex, hsl, c, t, q2⟩
  · subst ex
    obtain rfl : ov = Value.ref a := rx
    exact setattr_ok I2 ea c n l ry fun s3 I3 => ⟨σ, _, I3, q2⟩
  · subst ex
    obtain rfl : ov = Value.ref a := rx
    exact SlX.setslot_ok I2 hsl c t ry fun s3 I3 => ⟨σ, _, I3, q2⟩
inductive SetS (M : List C) (c i : Nat) (r : Sl) : Sl → List C → Prop
  | sob0 {k j : Nat} (h : lkM M k = some (.sob0 c j)) (hkj : k ≠ j) : SetS M c i r (.own k) (ptM (ptM M j .dxx) k (.sob c j (putSl i r [])))
  | sob {k j : Nat} {vs : List Sl} (h : lkM M k = some (.sob c j vs)) (hj : lkM M j = some .dxx) (hkj : k ≠ j) : SetS M c i r (.own k) (ptM (ptM M j .dxx) k (.sob c j (putSl i r vs)))
  | ins {k j : Nat} {vs : List Sl} (h : lkM M k = some (.ins c j vs)) : SetS M c i r (.own k) (ptM M k (.ins c j (putSl i r vs)))
theorem setfM_s {M M3 : List C} {c i : Nat} {r t : Sl} (h : setfM M c i r t = some M3) : SetS M c i r t M3 := by
  have nb : ∀ {a b : Nat}, Nat.beq a b = false → a ≠ b := fun h z => by subst z; rw [Nat.beq_refl] at h; cases h
  unfold setfM at h
  split at h
  · split at h
    · rename_i e0
      split at h
      · rename_i ec ej
        have ec := Nat.eq_of_beq_eq_true ec
        subst ec
        cases h
        exact .sob0 e0 (nb ej)
      · cases h
    · rename_i e0
      split at h
      · rename_i ec ej hj
        have ec := Nat.eq_of_beq_eq_true ec
        subst ec
        cases h
        exact .sob e0 hj (nb ej)
      · cases h
    · rename_i e0
      split at h
      · rename_i ec
        have ec := Nat.eq_of_beq_eq_true ec
        subst ec
        cases h
        exact .ins e0
      · cases h
    · cases h
  · cases h
theorem trS_setfld {f : Str} {c0 i0 : Nat} (he : Tr c e z) (ho : Tr c o x) (hr : TrS c rest xs) (hs : ∀ env, swapsWith e (some (.Attribute o f p1)) pos.line env = pure false) (hf : fNm c0 i0 f) : TrS c (.Assign [.Attribute o f p1] e pos :: rest) (.cons (.setfld x c0 i0 z) xs) := fun ρ M Q h X hX F As B σ H E sr hm pb ends => by
  have hX' := hX
  cases hX with | mk X k0 nd calm room po =>
  refine ws_cons (ps_attU pe_w pe_w (hs _)) (he.ee h X hX' F As σ H sr hm _ fun v F1 As1 H1 r M1 s1 p1 q1 hm1 h1 => ?_)
  refine ho.ee h1 X hX' F1 As1 σ H1 (sr.mono s1 p1) hm1 _ fun u F2 As2 H2 r1 M2 s2 p2 q2 hm2 ⟨hu, h2⟩ => ?_
  have q1 := q1.mono s2 p2
  have h2 : match setfM M2 c0 i0 r r1 with
    | some M3 => wpSs (⟨X.prog, X.w, X.K, X.mg, X.base, X.N, X.env.scope, X.fn, k0⟩ : Ctx).g xs ρ M3 Q
    | none => False := h2
  have fin : ∀ {Cl : Nat} {al dx : Addr} {n j i : Nat} {us : List (Option V)} {vs : List Sl}, As2[n]? = some al → As2[j]? = some dx → SR X.K F2 As2 vs us → SlOk X.K Cl → wpSs (⟨X.prog, X.w, X.K, X.mg, X.base, X.N, X.env.scope, X.fn, k0⟩ : Ctx).g xs ρ (ptM (ptM M2 j .dxx) n (.sob Cl j (putSl i r vs))) Q → WS X rest E σ (SlX.slH H2 al (clsAt X.K Cl) dx (SlX.putS i v us)) := fun {Cl al dx n j i us vs} ha hd hsr hcl q => by
    rw [ptM_eq, ptM_eq] at q
    have hm3 := hm2.set (c := .dxx) (o := .xd []) hd rfl
    have hm4 := hm3.set (c := .sob Cl j (putSl i r vs)) (o := SlX.SlO al (clsAt X.K Cl) dx (SlX.putS i v us)) ha ⟨dx, _, hd, rfl, sr_put hsr q1, hcl⟩
    exact hr ρ _ Q q X hX' F2 As2 B σ _ E (sr.mono (s1.trans s2) (p1.trans p2)) hm4 (pb.trans (p1.trans p2)) (ends.f (s1.trans s2))
  cases em : setfM M2 c0 i0 r r1 with
  | none => rw [em] at h2; exact h2.elim
  | some M3 =>
    rw [em] at h2
    have em := setfM_s em
    cases em with
    | @sob0 n j hk hkj =>
      obtain ⟨al, ha, rfl⟩ := q2
      rw [lkM_eq] at hk
      obtain ⟨ob, hob, dx, hdx, rfl, g4⟩ := hm2.cell n al _ ha hk
      rcases hf with hf | hf
      · obtain ⟨p, t⟩ := g4.sl f i0 hf
        exact .inr ⟨al, _, dx, p, [], i0, rfl, .inl ⟨hob, rfl⟩, g4.cl, t, fin ha hdx ⟨rfl, fun _ _ e => by simp at e⟩ g4 h2⟩
      · exact (no_sl hf g4).elim
    | @sob n j vs hk hj hkj =>
      obtain ⟨al, ha, rfl⟩ := q2
      obtain ⟨dx, us, g0, _, g2, g3, g4⟩ := slt_of hm2 ha hk hj
      rcases hf with hf | hf
      · obtain ⟨p, t⟩ := g4.sl f i0 hf
        exact .inr ⟨al, _, dx, p, us, i0, rfl, g2, g4.cl, t, fin ha g0 g3 g4 h2⟩
      · exact (no_sl hf g4).elim
    | @ins n j vs hk =>
      obtain ⟨al, ha, rfl⟩ := q2
      rw [lkM_eq] at hk
      obtain ⟨ob, hob, dx, kvs, us, hdx, rfl, g2, g3, g4⟩ := hm2.cell n al _ ha hk
      rw [ptM_eq] at h2
      rcases hf with hf | hf
      · exact (no_ob hf g4).elim
      · refine .inl ⟨al, _, dx, kvs, rfl, hob, g4.cl, g4.na f (sltAt_no hf), g3.len, ?_⟩
        exact hr ρ _ Q h2 X hX' F2 As2 B σ _ E (sr.mono (s1.trans s2) (p1.trans p2)) (hm2.set (c := .ins c0 j (putSl i0 r vs)) ha ⟨dx, _, _, hdx, rfl, sr_put g2 q1, g3.put hf, g4⟩) (pb.trans (p1.trans p2)) (ends.f (s1.trans s2))
end
section
variable {P : Program} {w : World} {K : PySem.W.Frag} {mg : Str → Option Value} {base : Heap}
abbrev ctxOf (P : Program) (w : World) (K : PySem.W.Frag) (mg : Str → Option Value) (base : Heap) (N : List Str) (st : Stmt) (k : Nat) : Ctx := ⟨P, w, K, mg, base, N, defScope st, fun _ => true, k⟩
abbrev gOf (P : Program) (w : World) (K : PySem.W.Frag) (mg : Str → Option Value) (base : Heap) (k : Nat) : Gx := ⟨P, w, K, mg, base, k⟩
def rho (N : List Str) (rs : List Sl) : List Sl := rs ++ List.replicate (N.length - rs.length) .un
theorem sr_start {F : Hp} {As : List Addr} {N : List Str} {rs : List Sl} {vs : List V} (h : SlRs K F As rs vs) : SR K F As (rho N rs) (L2.start N vs) := by
  have hl := Paired.length h
  have get : ∀ (i : Nat) (r : Sl), (rho N rs)[i]? = some r → r ≠ .un → ∃ v, (L2.start N vs)[i]? = some (some v) ∧ SlR K F As r v := fun i r e hr => by
    unfold rho at e
    unfold L2.start
    by_cases hi : i < rs.length
    · rw [List.getElem?_append_left hi] at e
      obtain ⟨v, h1, h2⟩ := paired_get h e
      rw [List.getElem?_append_left (by simp; omega), List.getElem?_map, h1]
      exact ⟨v, rfl, h2⟩
    · rw [List.getElem?_append_right (by omega)] at e
      have := List.mem_of_getElem? e
      exact absurd (List.eq_of_mem_replicate this) hr
  exact ⟨by simp [rho, L2.start, hl], fun i d e z => get i _ e z⟩

variable {x qual : Str} {st : Stmt} {f : Addr} {fd : FuncData} {N ps : List Str} {k : Nat}
theorem hm_nil (H : Hp) : HM K H [] [] H := ⟨.nil, rfl, fun i a c e => by simp at e, fun a h => (nomatch h), fun _ _ => rfl⟩
end
end Dl
/-! X18: slots that are values -/
namespace Dl
open PySem L2
def valsOf : List Sl → Option (List D)
  | [] => some []
  | .val d :: rs => match valsOf rs with
    | some ds => some (d :: ds)
    | none => none
  | _ :: _ => none
theorem valsOf_eq : ∀ {rs : List Sl} {ds : List D}, valsOf rs = some ds → rs = ds.map .val
  | [], ds, h => by cases h; rfl
  | .val d :: rs, ds, h => by
    have h : (match valsOf rs with | some ds => some (d :: ds) | none => none) = some ds := h
    cases e : valsOf rs with
    | none => rw [e] at h; cases h
    | some ds' => rw [e] at h; cases h; rw [valsOf_eq e]; rfl
  | .un :: _, _, h => by cases h
  | .own _ :: _, _, h => by cases h
theorem valsOf_map (ds : List D) : valsOf (ds.map .val) = some ds := by
  induction ds with
  | nil => rfl
  | cons d ds ih => show (match valsOf (ds.map .val) with | some ds => some (d :: ds) | none => none) = _; rw [ih]
end Dl
/-! X19: slots as data -/
namespace Dl
open PySem L2
variable {K : PySem.W.Frag}
/-- the slots as data -/
def viewF (M : List C) : List Sl → Option (List D)
  | [] => some []
  | r :: rs => match vw M r, viewF M rs with
    | some d, some ds => some (d :: ds)
    | _, _ => none
theorem viewF_dvs {F : Hp} {As : List Addr} {M : List C} {H : Hp} (hm : HM K F As M H) : ∀ {rs : List Sl} {us : List (Option V)} {ds : List D}, SR K F As rs us → viewF M rs = some ds → ∃ vs, us = vs.map some ∧ DVs K H ds vs
  | [], us, ds, sr, h => by
    cases h
    have := sr.len
    have : us = [] := List.length_eq_zero_iff.mp (by simpa using this.symm)
    subst this
    exact ⟨[], rfl, rfl⟩
  | r :: rs, us, ds, sr, h => by
    have h : (match vw M r, viewF M rs with | some d, some ds => some (d :: ds) | _, _ => none) = some ds := h
    cases e1 : vw M r with
    | none => rw [e1] at h; cases h
    | some d =>
      cases e2 : viewF M rs with
      | none => rw [e1, e2] at h; cases h
      | some ds' =>
        rw [e1, e2] at h
        cases h
        cases us with
        | nil => have := sr.len; simp at this
        | cons u us =>
          have hu : r ≠ .un := fun z => by subst z; cases e1
          obtain ⟨v, g1, g2⟩ := sr.get 0 r rfl hu
          have g1 : u = some v := by simpa using g1
          subst g1
          have sr' : SR K F As rs us := ⟨by have := sr.len; simpa using this, fun i s e z => by
            have := sr.get (i + 1) s (by simpa using e) z
            simpa using this⟩
          obtain ⟨vs, q1, q2⟩ := viewF_dvs hm sr' e2
          exact ⟨v :: vs, by rw [q1]; rfl, v, vs, rfl, vw_dv e1 hm g2, q2⟩
end Dl
/-! X20: dict comprehensions -/
namespace Dl
open PySem L2
section
variable {X : Cx}
theorem sw_dict {kx vx : Expr} {gs : List Comprehension} {scope : Scope} {pos py : Pos} {y : Str} {l : Nat} {env : Env} (hf : env.scope.kind = .function) (hloc : env.scope.names.lookup y = some .local) (hline : (py.line == pos.line) = true)
    (hno : (scope.names.any fun (n, k) => n == y && (k == .local || k == .cell)) = false) : swapsWith (.DictComp kx vx gs scope pos) (some (.Name y py)) l env = pure true := by
  have e1 : env.kindOf y = some .local := hloc
  have e2 : env.blockKind = .function := by unfold Env.blockKind; rw [hf]; rfl
  unfold swapsWith
  simp only [e2, e1, hno, Expr.pos, hline]
  rfl
/-- y = {k: v for ..}, y a local name -/
theorem ps_setDc {i : Nat} {y : Str} {py : Pos} {kx vx tg iter : Expr} {ifs : List Expr} {scope : Scope} {own : List (Str × Nat)} {pos spos : Pos} {wi : TI} {g : TG} {tt : TT} {tk tv : TE} (calm : X.calm = true) (nd : X.N.Nodup) (hy : X.N[i]? = some y) (hloc : X.env.scope.names.lookup y = some .local)
    (sw : swapsWith (.DictComp kx vx [⟨tg, iter, ifs, 0⟩] scope pos) (some (.Name y py)) spos.line X.env = pure true) (hi : PI X tg iter wi) (ok : BlkOk X.N X.env.scope scope own)
    (pg : ∀ s H C cl fp, PG (X.blk s H scope (compEnvC scope cl C X.env) fp) tg g) (pt : ∀ s H C cl fp, PTs (X.blk s H scope (compEnvC scope cl C X.env) fp) ifs tt)
    (pk : ∀ s H C cl fp, PE (X.blk s H scope (compEnvC scope cl C X.env) fp) kx tk) (pv : ∀ s H C cl fp, PE (X.blk s H scope (compEnvC scope cl C X.env) fp) vx tv) (fi : ∀ x, foldedSetIterable iter X.env x = pure x) :
    PS X (.Assign [.Name y py] (.DictComp kx vx [⟨tg, iter, ifs, 0⟩] scope pos) spos) (tAsg (tDc wi g tt tk tv (own.map (·.2))) (gName i)) := by
  refine ⟨fun pins s σ H D I q => ?_⟩
  rw [exec_Assign_Name_used _ _ _ _ sw]
  refine wpAny_bind (wpAny_standAt (wpAny_bind ?_))
  have q : tDc wi g tt tk tv (own.map (·.2)) σ H (fun x H1 => gName i x σ H1 D.nx) := q
  show wpAny _ X.A (do let _ ← comprehension (.DictComp kx vx [⟨tg, iter, ifs, 0⟩] scope pos) scope X.env (firstIterPos [⟨tg, iter, ifs, 0⟩] pos) newDict false (eval iter X.env) (some (assign (.Name y py) X.env))) _ _ s
  refine wpAny_bind (thn (dc_core (Qf := fun _ s' => SP X pins D .next s') calm nd I hi ok pg pt pk pv fi q fun L C s1 m H1 I1 q1 hn fp => ?_) fun _ s' hq => wpAny_pure (wpAny_pure hq))
  obtain ⟨z0, z1, z2, z3, z4, z5⟩ := fp
  show wpAny _ _ (assign (.Name y py) X.env (.ref L)) _ _ _
  refine wpAny_assign_Name (store_ok2 (v := V.ref L) I1 nd hy (.inl hloc) rfl (fun s2 I2 ⟨a, sb, ha⟩ => ?_) (.inr hloc))
  have nC : C ≠ a := by
    rcases ha with r | r
    · rw [r]; exact z1
    · exact fun e => z4 y a r e.symm
  exact ⟨m, hn.sameBut sb nC, fun h3 sb3 => ⟨_, H1, I2.turned (t' := s2.toks) (fun b o hb e => (sb3.2 b hb).trans e) z0 z1 z3 z4 z5, q1⟩⟩
end
theorem dc_it {J : L2.It} {n : Nat} {Gd : Hp → Prop} {Y : Nat → Hp → V → Hp → Prop} (wk : Walk J n Gd Y) {g : TG} {tt : TT} {tk tv : TE} {vs : List Nat} {σ : L2.St} {H1 : Hp} {Dl : Addr} {Qd : Hp → Prop} (Pv : Nat → Hp → Prop) (start : Pv 0 (upd H1 Dl (.dK []))) (good : ∀ j H, j ≤ n → Pv j H → Gd H)
    (step : ∀ j x H H', j < n → Pv j H → Y j H x H' → g x (wipe σ vs) H' fun σ2 H2 => wipe σ2 vs = wipe σ vs ∧ tt σ2 H2 fun b H3 =>
      if b = true then tk σ2 H3 fun y H4 => tv σ2 H4 fun z H5 => ∃ kvs k, y = kV k ∧ H5 Dl = some (.dK kvs) ∧ kvs.length < sizeLine ∧ Pv (j + 1) (upd H5 Dl (.dK (putK kvs k z))) else Pv (j + 1) H3) (fin : ∀ H, Pv n H → Qd H) :
    ∃ W : Nat → Nat → Hp → Prop, (∃ m, W 0 m (upd H1 Dl (.dK []))) ∧ ∀ j m H, W j m H →
      (J.stop j H ∧ Qd H) ∨ (J.go j H ∧ ∃ Nx : Hp → Prop, (∀ H', Nx H' → ∃ m', m' < m ∧ W (j + 1) m' H') ∧ ∀ x H', J.yld j H x H' → g x (wipe σ vs) H' fun σ2 H2 => wipe σ2 vs = wipe σ vs ∧ tt σ2 H2 fun b H3 =>
        if b = true then tk σ2 H3 fun y H4 => tv σ2 H4 fun z H5 => ∃ kvs k, y = kV k ∧ H5 Dl = some (.dK kvs) ∧ kvs.length < sizeLine ∧ Nx (upd H5 Dl (.dK (putK kvs k z))) else Nx H3) := by
  refine ⟨fun j m H => j ≤ n ∧ m = n - j ∧ Pv j H, ⟨n, Nat.zero_le _, rfl, start⟩, ?_⟩
  rintro j m H ⟨hj, rfl, p⟩
  have gd := good j H hj p
  rcases Nat.lt_or_ge j n with hlt | hge
  · exact .inr ⟨wk.goes j H hlt gd, Pv (j + 1), fun H' p' => ⟨n - (j + 1), by omega, hlt, rfl, p'⟩, fun x H' y => step j x H H' hlt p (wk.yields j H x H' hlt gd y)⟩
  · have : j = n := by omega
    subst this
    exact .inl ⟨wk.stops H gd, fin H p⟩

theorem putD_len {α : Type} (kvs : List (Key × α)) (k : Key) (d : α) : (putD kvs k d).length ≤ kvs.length + 1 := by
  unfold putD; split <;> simp
section
variable {c : Ctx} {ρ : List Sl} {M : List C} {a b e tg iter kx vx : Expr} {pos p1 p2 p3 : Pos} {ifs : List Expr} {scope : Scope} {tx : Tg} {ix : It} {fx : Tl} {ek ev : E} {rest : List Stmt} {xs : Ss}
abbrev OutD (Q : List (Key × D) → List C → Prop) : Z → List C → Prop := fun z M' => ∃ out, z = .n (.dic out) ∧ Q out M'
theorem dc_core1 {vs : List Nat} {X : Cx} (hX : c.Is X) (hi : TrI c tg iter ix) (hg : TrG (c.blk scope) tg tx) (ht : TrTs (c.blk scope) ifs fx) (hk : Tr (c.blk scope) kx ek) (hv : Tr (c.blk scope) vx ev) (hjs : ∀ j ∈ tx.ix, j ∈ vs) {Q : List (Key × D) → List C → Prop} (h : wpD c.g (.dlast tx ix fx ek ev) (clr ρ vs) M Q) {F : Hp} {As : List Addr} {σ : L2.St} {H : Hp} (sr : SR c.K F As ρ σ) (hm : HM c.K F As M H) {G : VK} (k : Aft c.K F As (zq M.length (OutD Q)) G) :
    tDc (WI X tg iter) (gBlk X scope tg) (tBlk X scope ifs) (eBlk X scope kx) (eBlk X scope vx) vs σ H G := by
  refine hi (clr ρ vs) M _ h X hX F As σ H (sr.clr vs) hm _ fun J F1 As1 H1 M1 ds ks s1 p1 hm1 it ⟨hz, hw⟩ Dl hD => ?_
  obtain ⟨Gd, Y, W, hG, hY⟩ := it.ex
  generalize hf : (fun (d : D) (M' : List C) (k : List (Key × D) → List C → Prop) => bindT tx d (clr ρ vs) fun ρ2 => wpTs c.g fx ρ2 M' fun t M2 => (t = true → wpR c.g ek ρ2 M2 fun z M3 => z.fz M3 fun r1 M3 => wpR c.g ev ρ2 M3 fun z M4 => z.fz M4 fun r2 M4 => match r1, r2 with
        | .val x, .val y => match keyD x with
          | some kk => k [(kk, y)] M4
          | none => False
        | _, _ => False) ∧ (t = false → k [] M2)) = f at hw
  have vis : ∀ {F' : Hp} {M' : List C} {H' : Hp} {acc : List (Key × D)} {ws : List (Key × V)}, HM c.K F' As1 M' (del H' Dl) → H' Dl = some (.dK ws) → KD c.K F' acc ws → HM c.K F' (As1 ++ [Dl]) (M' ++ [.dic acc]) H' := fun {F' M' H' acc ws} hm' hD' dv => by
    have := hm'.made (c := .dic acc) (o := .dK ws) del_same ⟨ws, rfl, dv⟩
    rw [upd_del hD'] at this
    exact this
  refine dc_it (g := gBlk X scope tg) (tt := tBlk X scope ifs) (tk := eBlk X scope kx) (tv := eBlk X scope vx) (vs := vs) (σ := σ) (H1 := H1) (Dl := Dl) (Qd := G (.ref Dl)) W (fun i H' => ∃ F' M' acc ws, Same F1 F' ∧ HM c.K F' As1 M' (del H' Dl) ∧ H' Dl = some (.dK ws) ∧ KD c.K F' acc ws ∧ M'.length = M1.length ∧ (∀ k ∈ ks, M'[k]? = M1[k]?) ∧ acc.length ≤ i ∧ dcW f (fun M' => M'.length = M1.length ∧ ∀ k ∈ ks, lkM M' k = lkM M1 k) (ds.drop i) acc M' Q) ?_ ?_ ?_ ?_
  · exact ⟨F1, M1, [], [], Same.refl _, by rw [del_upd hD]; exact hm1, upd_same, .nil, rfl, fun _ _ => rfl, Nat.zero_le _, by rw [List.drop_zero]; exact hw⟩
  · rintro i H' _ ⟨F', M', acc, ws, s', h', hD', dv, hl, hk, _, _⟩
    refine hG F' _ (M' ++ [.dic acc]) H' s' (List.prefix_append _ _) (vis h' hD' dv) fun q hq => ?_
    rw [List.getElem?_append_left (by have := it.inn q hq; omega)]
    exact hk q hq
  · rintro i x H' H'' hlt ⟨F', M', acc, ws, s', h', hD', dv, hl, hkk, ha, hwi⟩ y
    have hd : ds[i]? = some ds[i] := List.getElem?_eq_getElem hlt
    obtain ⟨F2, s2, hm2, dv2⟩ := hY i ds[i] F' _ (M' ++ [.dic acc]) H' x H'' hd s' (List.prefix_append _ _) (vis h' hD' dv) (fun q hq => by
      rw [List.getElem?_append_left (by have := it.inn q hq; omega)]
      exact hkk q hq) y
    rw [List.drop_eq_getElem_cons hlt] at hwi
    have hwi : f ds[i] M' fun out M'' => (M''.length = M1.length ∧ ∀ k ∈ ks, lkM M'' k = lkM M1 k) ∧ dcW f _ (ds.drop (i + 1)) (out.foldl (fun a p => putD a p.1 p.2) acc) M'' Q := hwi
    rw [← hf] at hwi
    intro sh Hh Ch clh fph
    have srw : SR (c.blk scope).K F2 As1 (clr ρ vs) (wipe σ vs) := ((sr.mono ((s1.trans s').trans s2) p1).clrW vs)
    obtain ⟨hmu, oD, hoD, wsD, rfl, dvD⟩ := hm2.unlast h'.refs
    refine hg (clr ρ vs) ds[i] _ hwi _ (blk_is hX sh Hh scope clh Ch fph) F2 As1 (wipe σ vs) H'' x srw hm2.same dv2 _ fun ρ2 σ2 h2 sr2 hl2 hn2 => ⟨?_, fun sh Hh Ch clh fph => ?_⟩
    · rw [wipe_ext hl2 fun j hj => hn2 j fun z => hj (hjs j z)]; exact wipe_wipe
    · refine WTs.frame hoD (.dK wsD) (ht ρ2 M' _ h2 _ (blk_is hX sh Hh scope clh Ch fph) F2 As1 σ2 _ sr2 hmu _ fun bb F3 As3 H3 M3 s3 p3 hm3 h3 n3 => ?_)
      have eAs : ∀ {F4 : Hp} {As4 : List Addr} {M4 : List C} {H4 : Hp}, HM c.K F4 As4 M4 H4 → As1 <+: As4 → M4.length = M1.length → As4 = As1 := fun {F4 As4 M4 H4} hm4 p4 l4 => by
        have l1 := hm4.len
        have l2 := hm1.len
        exact (p4.eq_of_length (by omega)).symm
      cases bb with
      | false =>
        obtain ⟨⟨l3, k3⟩, h4⟩ := h3.2 rfl
        have := eAs hm3 p3 l3
        subst this
        refine ⟨F3, M3, acc, wsD, (s'.trans s2).trans s3, by rw [del_upd n3]; exact hm3, upd_same, Paired.mapP dvD fun _ _ z => ⟨z.1, z.2.mono s3⟩, l3, fun q hq => by rw [← lkM_eq, ← lkM_eq]; exact k3 q hq, by omega, ?_⟩
        rw [hf] at h4; exact h4
      | true =>
        show eBlk X scope kx σ2 _ _
        intro sh Hh Ch clh fph
        have hu : (upd H3 Dl (.dK wsD)) Dl = some (.dK wsD) := upd_same
        refine WE.frame hu (.dK wsD) ?_
        rw [del_upd n3]
        refine hk.ee (h3.1 rfl) _ (blk_is hX sh Hh scope clh Ch fph) F3 As3 σ2 H3 (sr2.mono s3 p3) hm3 _ fun kv F4 As4 H4 r1 M4 s4 p4 r4 hm4 h4 n4 => ?_
        show eBlk X scope vx σ2 _ _
        intro sh Hh Ch clh fph
        have hu : (upd H4 Dl (.dK wsD)) Dl = some (.dK wsD) := upd_same
        refine WE.frame hu (.dK wsD) ?_
        rw [del_upd n4]
        refine hv.ee h4 _ (blk_is hX sh Hh scope clh Ch fph) F4 As4 σ2 H4 (sr2.mono (s3.trans s4) (p3.trans p4)) hm4 _ fun vv F5 As5 H5 r2 M5 s5 p5 r5 hm5 h5 n5 => ?_
        split at h5
        · rename_i xd yd
          split at h5
          · rename_i kk ekk
            obtain ⟨⟨l4, k4⟩, h6⟩ := h5
            rw [hf] at h6
            have := eAs hm5 ((p3.trans p4).trans p5) l4
            subst this
            have r4 : DV c.K F4 xd kv := r4
            have hkv := keyV ekk r4
            refine ⟨wsD, kk, hkv, upd_same, ?_, F5, M5, putD acc kk yd, putK wsD kk vv, (((s'.trans s2).trans s3).trans s4).trans s5, ?_, ?_, ?_, l4, fun q hq => by rw [← lkM_eq, ← lkM_eq]; exact k4 q hq, ?_, h6⟩
            · rw [← Paired.length dvD]
              exact Nat.lt_of_le_of_lt (Nat.le_trans ha (Nat.le_trans (Nat.le_of_lt hlt) hz)) (by decide)
            · rw [upd_upd, del_upd n5]; exact hm5
            · rw [upd_upd, upd_same]
            · exact pk_put (β := Unit) (R := fun d v => DV c.K F5 d v) r5 (Paired.mapP dvD fun _ _ z => ⟨z.1, z.2.mono ((s3.trans s4).trans s5)⟩)
            · exact Nat.le_trans (putD_len _ _ _) (Nat.succ_le_succ ha)
          · exact h5.elim
        · exact h5.elim
  · rintro H' ⟨F', M', acc, ws, s', h', hD', dv, hl, hk, _, hwi⟩
    rw [List.drop_length] at hwi
    exact k _ F' (As1 ++ [Dl]) H' (.own M'.length) (M' ++ [.dic acc]) (s1.trans s') (p1.trans (List.prefix_append _ _)) ⟨Dl, by rw [← h'.len]; simp, rfl⟩ (vis h' hD' dv) ⟨.n (.dic acc), M', ⟨rfl, rfl, h'.refs⟩, by rw [hl]; exact hm.le hm1 p1, acc, rfl, hwi⟩
theorem tr_dc {own : List (Str × Nat)} (hi : TrI c tg iter ix) (hg : TrG (c.blk scope) tg tx) (ht : TrTs (c.blk scope) ifs fx) (hk : Tr (c.blk scope) kx ek) (hv : Tr (c.blk scope) vx ev) (hjs : ∀ j ∈ tx.ix, j ∈ own.map (·.2)) (ok : blkC c.N c.sc scope own = true) (hs : ∀ (env : Env) x, foldedSetIterable iter env x = pure x) :
    Tr c (.DictComp kx vx [⟨tg, iter, ifs, 0⟩] scope pos) (.dc (.dlast tx ix fx ek ev) (own.map (·.2))) := fun ρ M Q h X hX F As σ H sr hm G k => by
  have hq := dc_core1 (G := G) hX hi hg ht hk hv hjs h sr hm fun v F' As' H' r M' s p r' hm' ⟨z, M1, z1, z2, out, z3, z4⟩ => k v F' As' H' r M' s p r' hm' ⟨z, M1, z1, z2, by subst z3; exact z4⟩
  cases hX with | mk X k0 nd calm room po =>
  exact ⟨_, pe_dc calm nd pi_w (blkOk_by ok) (fun s H C cl fp => ⟨fun pins s' σ' H' v u Q I r h => pg_w.run pins s' σ' H' v u Q I r (h s H C cl fp)⟩)
      (fun s H C cl fp => ⟨fun pins s' σ' H' Q I h => pts_w.run pins s' σ' H' Q I (h s H C cl fp)⟩) (fun s H C cl fp => ⟨fun pins s' σ' H' Q I h => pe_w.run pins s' σ' H' Q I (h s H C cl fp)⟩) (fun s H C cl fp => ⟨fun pins s' σ' H' Q I h => pe_w.run pins s' σ' H' Q I (h s H C cl fp)⟩) (hs _), hq⟩
/-- x = {.. for ..} on one line -/
theorem trS_asgDc (i : Nat) {nm : Str} {own : List (Str × Nat)} {ow : Bool} (hi : TrI c tg iter ix) (hg : TrG (c.blk scope) tg tx) (ht : TrTs (c.blk scope) ifs fx) (hkx : Tr (c.blk scope) kx ek) (hvx : Tr (c.blk scope) vx ev) (hjs : ∀ j ∈ tx.ix, j ∈ own.map (·.2)) (ok : blkC c.N c.sc scope own = true) (hs : ∀ (env : Env) x, foldedSetIterable iter env x = pure x)
    (hr : TrS c rest xs) (hN : c.N[i]? = some nm) (hy : c.sc.names.lookup nm = some .local) (hk : c.sc.kind = .function) (hl : (p1.line == p2.line) = true) (ha : (scope.names.any fun (n, k) => n == nm && (k == .local || k == .cell)) = false) :
    TrS c (.Assign [.Name nm p1] (.DictComp kx vx [⟨tg, iter, ifs, 0⟩] scope p2) pos :: rest) (.cons (.asg i (if ow then .own (.dc (.dlast tx ix fx ek ev) (own.map (·.2))) else .dc (.dlast tx ix fx ek ev) (own.map (·.2)))) xs) := fun ρ M Q h X hX F As B σ H E sr hm pb ends => by
  have hz : wpD c.g (.dlast tx ix fx ek ev) (clr ρ (own.map (·.2))) M fun out M1 => (if ow then wpSs c.g xs (pt ρ i (.own M1.length)) (M1 ++ [.dic out]) Q else wpSs c.g xs (pt ρ i (.val (.dic (out.map (·.1)) (out.map (·.2))))) M1 Q) := by
    cases ow <;> exact h
  have hq : ∀ G : VK, Aft c.K F As (zq M.length (OutD fun out M1 => (if ow then wpSs c.g xs (pt ρ i (.own M1.length)) (M1 ++ [.dic out]) Q else wpSs c.g xs (pt ρ i (.val (.dic (out.map (·.1)) (out.map (·.2))))) M1 Q))) G → tDc (WI X tg iter) (gBlk X scope tg) (tBlk X scope ifs) (eBlk X scope kx) (eBlk X scope vx) (own.map (·.2)) σ H G := fun G k => dc_core1 (G := G) hX hi hg ht hkx hvx hjs hz sr hm k
  have hX' := hX
  cases hX with | mk X k0 nd calm room po =>
  refine ws_cons (ps_setDc calm nd hN hy (sw_dict hk hy hl ha) pi_w (blkOk_by ok) (fun s H C cl fp => ⟨fun pins s' σ' H' v u Q I r h => pg_w.run pins s' σ' H' v u Q I r (h s H C cl fp)⟩)
      (fun s H C cl fp => ⟨fun pins s' σ' H' Q I h => pts_w.run pins s' σ' H' Q I (h s H C cl fp)⟩) (fun s H C cl fp => ⟨fun pins s' σ' H' Q I h => pe_w.run pins s' σ' H' Q I (h s H C cl fp)⟩) (fun s H C cl fp => ⟨fun pins s' σ' H' Q I h => pe_w.run pins s' σ' H' Q I (h s H C cl fp)⟩) (hs _)) (hq _ fun v F1 As1 H1 r M' s1 p1 r1 hm1 ⟨z, M1, z1, z2, out, z3, z4⟩ => ?_)
  subst z3
  obtain ⟨e1, e2, e3⟩ := z1
  subst e1; subst e2
  cases ow with
  | true =>
    have z4 : wpSs _ xs (pt ρ i (.own M1.length)) (M1 ++ [.dic out]) Q := z4
    rw [pt_eq] at z4
    exact hr _ _ Q z4 X hX' F1 As1 B _ H1 E ((sr.mono s1 p1).set r1) hm1 (pb.trans p1) (ends.f s1)
  | false =>
    have z4 : wpSs _ xs (pt ρ i (.val (.dic (out.map (·.1)) (out.map (·.2))))) M1 Q := z4
    rw [pt_eq] at z4
    have l1 := hm1.len
    obtain ⟨A0, p, rfl⟩ : ∃ A0 p, As1 = A0 ++ [p] := by
      have hne : As1 ≠ [] := fun z => by subst z; simp at l1
      exact ⟨As1.dropLast, As1.getLast hne, (List.dropLast_concat_getLast hne).symm⟩
    have lB : A0.length = M1.length := by simpa using l1
    obtain ⟨a', ha', rfl⟩ := r1
    have : a' = p := by
      rw [← lB] at ha'
      simpa using ha'.symm
    subst this
    obtain ⟨F2, s2, hm2, dv⟩ := hm1.freeze (d := .dic (out.map (·.1)) (out.map (·.2))) rfl e3
    have pA : As <+: A0 := List.prefix_of_prefix_length_le p1 (List.prefix_append _ _) (by rw [lB, hm.len]; exact z2)
    exact hr _ _ Q z4 X hX' F2 A0 B _ H1 E ((sr.mono (s1.trans s2) pA).set (s := .val _) dv) hm2 (pb.trans pA) (ends.f (s1.trans s2))
end
end Dl
/-! X21: len by an own __len__; def f(a, *v) -/
namespace Dl
open PySem L2
def rLenOwn (C : Addr) (sp : Sp) (E : XK) : List V → Hp → VK → Prop := fun xs H Q => ∃ a dx vs, xs = [V.ref a] ∧ SlX.Slt H a C dx vs ∧ sp [.ref a] H (fun z H' => ∃ i : Int, z = .int i ∧ 0 ≤ i ∧ i < 2 ^ 63 ∧ Q z H') E
theorem call_lenOwn {X : Cx} {C g : Addr} {CX : CXT} {n : Nat} {sp : Sp} {E : XK} (hs : PySem.W.findIn X.K (.ref C) "__len__" = some (some (.ref g))) (hf : PySem.W.isFn X.K (.ref g) = true) (Fn : FnR X.prog X.w X.K X.mg X.base CX n g sp) (hr : Room (n + 1) X.A) (hx : Passes CX X E) : CallR X (.builtin "len") (rLenOwn C sp E) := by
  intro pins s σ H xs us Q I r h
  obtain ⟨a, dx, vs, rfl, hsl, q⟩ := h
  obtain ⟨u, rfl, ru⟩ := r.one
  cases (show u = Value.ref a from ru)
  obtain ⟨sl, od, _, J, _⟩ := SlX.slt_inst I hsl
  obtain ⟨mF, hF⟩ := I.fr
  refine PySem.W.len_K hF I.ok.mod.kin J hs hf (wpAny_mono (wpAny_call (SlX.run_at (us := [.ref a]) (ws := [.ref a]) Fn hr.in1 I.env0.in1 hx I (.cons rfl .nil) q)) (fun w s' z => ?_) fun _ _ x => x)
  obtain ⟨z', H', I', rz, i, ei, i0, i1, qz⟩ := z
  subst ei
  obtain ⟨t, e⟩ := (show ∃ t, w = Value.int i t from rz)
  cases e
  exact ⟨⟨i0, i1⟩, .int i, H', I'.tok _, ⟨_, rfl⟩, qz⟩

section
variable {c : Ctx} {a b e : Expr} {x : E} {pos p1 p2 p3 : Pos}
theorem tr_lenO {n0 : Nat} (B : Bi c.mg) (ha : Tr c e x) (hg : Glo c "len") (he : ∀ env, starEach [e] env = (false, eval e env) :: starEach [] env) : Tr c (.Call (.Name "len" p1) [e] [] pos) (.lenO n0 x) := fun ρ M Q h X hX F As σ H sr hm G k => by
  have hX' := hX
  cases hX with | mk X k0 nd calm room po =>
  refine ⟨_, pe_callB callR_any hg (B _ (by decide)) PySem.boot_len (pa_cons pe_w pa_nil (he _)) (by decide) (by decide) (he _), ha.ee h X hX' F As σ H sr hm _ fun v F1 As1 H1 r M1 s1 p1 r1 hm1 ⟨Cl, ds, kk, sp, er, df, hk, q⟩ => ?_⟩
  subst er
  obtain ⟨f, h1, h2, h3⟩ := df.ok
  obtain ⟨l, dx, vs, rfl, h4, h5⟩ := id r1
  refine ⟨_, call_lenOwn h1 h2 (FnR.frame h3) (room.mono hk) pass0, l, dx, vs.map some, rfl, same_slt hm1.same h4, q F1 As1 H1 [.ref l] hm1 (.cons r1 .nil) _ fun v' F2 As2 H2 r2 M2 s2 p2 q2 hm2 ⟨i, e1, i0, i1, e2, qq⟩ => ?_⟩
  subst e1; subst e2
  exact ⟨i, q2, i0, i1, fin_val (d := .int i) (Aft.mono k (s1.trans s2) (p1.trans p2)) hm2 (hm.le hm1 p1) q2 qq⟩
end
end Dl
/-! X22: side conditions, rules to reason with -/
namespace Dl
open PySem L2
def visB (sc : Scope) (x : Str) : Bool := match sc.names.lookup x with
  | some .local => true
  | some .cell => true
  | some .free => true
  | _ => false
def locB (sc : Scope) (x : Str) : Bool := match sc.names.lookup x with
  | some .local => true
  | some .cell => true
  | _ => false
theorem vis_of {sc : Scope} {x : Str} (h : visB sc x = true) : Vis sc x := by
  unfold visB at h
  unfold Vis
  split at h <;> simp_all
theorem loc_of {sc : Scope} {x : Str} (h : locB sc x = true) : L2.Loc sc x := by
  unfold locB at h
  unfold L2.Loc
  split at h <;> simp_all
def fnB (c : Ctx) (x : Str) : Bool := c.fn x || (match c.sc.names.lookup x with | some .local => true | _ => false)
theorem fn_of {c : Ctx} {x : Str} (h : fnB c x = true) : c.fn x = true ∨ c.sc.names.lookup x = some .local := by
  unfold fnB at h
  rcases Bool.or_eq_true_iff.mp h with h | h
  · exact .inl h
  · split at h <;> simp_all
section
variable {c : Ctx} {e : Expr} {x : E} {pos p1 : Pos} {rest : List Stmt} {xs : Ss}
theorem tv (i : Nat) {nm : Str} (hN : c.N[i]? = some nm) (hv : visB c.sc nm = true) (hd : (nm == ("__debug__" : Str)) = false) (hcd : (nm == ("__classdict__" : Str)) = false) : Tr c (.Name nm pos) (.v i) := tr_v i hN (vis_of hv) hd hcd
theorem trS_retN : TrS c (.Return none pos :: rest) (.cons (.ret (.k .non)) xs) := fun ρ M Q h X hX F As B σ H E sr hm pb ends =>
  ws_cons ps_retN (ends.rt F As (.s (.val .non)) (.val .non) .non M M H (Same.refl _) pb rfl hm ⟨rfl, rfl⟩ (by rw [← hm.len]; exact pb.length_le) h)
end
end Dl
/-! X23: two fors -/
namespace Dl
open PySem L2
def TrID (c : Ctx) (tg it : Expr) (i : It) : Prop := ∀ ρ M (Q : List D → List Nat → List C → Prop), wpI c.g i ρ M Q → ∀ X, c.Is X → ∀ F As σ H a o, SR c.K F As ρ σ → H a = some o → FrL o → HM c.K F As M (del H a) →
  ∀ R : L2.It → Hp → Prop, (∀ J F' As' H' M' ds ks, Same F F' → As <+: As' → HM c.K F' As' M' H' → H' a = none → IterOk c.K As' M' F' ks J ds → Q ds ks M' → R J (upd H' a o)) → WI X tg it σ H R
section
variable {c : Ctx} {ρ : List Sl} {M : List C} {a b e tg iter tg1 iter1 elt : Expr} {x y : E} {pos p1 p2 p3 : Pos} {ifs ifs1 : List Expr} {scope : Scope} {tx tx1 : Tg} {ix ix1 : It} {fx fx1 : Tl} {ex : E} {rest : List Stmt} {xs : Ss}
theorem trID_e (ha : Tr c e x) : TrID c tg e (.e x) := fun ρ M Q h X hX F As σ H a0 o0 sr hH fr hm R k => by
  have hX' := hX
  cases hX with | mk X k0 nd calm room po =>
  refine ⟨_, pi_v pe_w, WE.frame hH fr (ha.ee h X hX' F As σ _ sr hm _ fun v F1 As1 H1 r M1 s1 p1 r1 hm1 h1 n1 => ?_)⟩
  split at h1
  · rename_i bb ds e1
    have q := sq_s e1
    obtain ⟨l, vs, rfl, g1, g2⟩ := q.get hm1 r1
    cases bb with
    | true =>
      have g2 : H1 l = some (.lst vs) := g2
      have hne : l ≠ a0 := fun z => by subst z; rw [n1] at g2; cases g2
      exact ⟨_, piv_list, l, vs, rfl, .inl (.inl (by rw [upd_ne hne]; exact g2)), k _ F1 As1 H1 M1 ds r.refs s1 p1 hm1 n1 (iter_lst q r1 hm1.len) h1⟩
    | false =>
      cases q with
      | tup => exact ⟨_, piv_tup, l, vs, rfl, same_t (same_new n1) g2, k _ F1 As1 H1 M1 ds [] s1 p1 hm1 n1 (iter_tup r1) h1⟩
  · exact h1.elim
theorem trID_r1 (B : Bi c.mg) (ha : Tr c a x) (hg : Glo c "range") (hs : ∀ env, starEach [a] env = [(false, eval a env)]) : TrID c tg (.Call (.Name "range" p1) [a] [] pos) (.r1 x) := fun ρ M Q h X hX F As σ H a0 o0 sr hH fr hm R k => by
  have hX' := hX
  cases hX with | mk X k0 nd calm room po =>
  refine ⟨_, pi_range1 hg (B _ (by decide)) (pa_cons pe_w pa_nil (hs _)) (hs _), WE.frame hH fr (ha.ee h X hX' F As σ _ sr hm _ fun v F1 As1 H1 r M1 s1 p1 r1 hm1 h1 n1 => ?_)⟩
  split at h1
  · rename_i i
    have r1 : v = .int i := r1
    subst r1
    exact ⟨i, rfl, by omega, by omega, k _ F1 As1 H1 M1 _ _ s1 p1 hm1 n1 (iter_fn (f := fun j => 0 + (j : Int)) walk_range) h1.2⟩
  · exact h1.elim
theorem trID_r2 (B : Bi c.mg) (ha : Tr c a x) (hb : Tr c b y) (hg : Glo c "range") (hs : ∀ env, starEach [a, b] env = [(false, eval a env), (false, eval b env)]) (hs2 : ∀ env, starEach [b] env = [(false, eval b env)]) : TrID c tg (.Call (.Name "range" p1) [a, b] [] pos) (.r2 x y) := fun ρ M Q h X hX F As σ H a0 o0 sr hH fr hm R k => by
  have hX' := hX
  cases hX with | mk X k0 nd calm room po =>
  refine ⟨_, pi_range2 hg (B _ (by decide)) (pa_cons pe_w (pa_cons pe_w pa_nil (hs2 _)) ((hs _).trans (by rw [hs2]))) (hs _) (hs2 _), WE.frame hH fr (ha.ee h X hX' F As σ _ sr hm _ fun v F1 As1 H1 r M1 s1 p1 r1 hm1 h1 n1 => ?_)⟩
  refine WE.frame (a := a0) (o := o0) upd_same fr ?_
  rw [del_upd n1]
  refine hb.ee h1 X hX' F1 As1 σ H1 (sr.mono s1 p1) hm1 _ fun u F2 As2 H2 r2 M2 s2 p2 q2 hm2 h2 n2 => ?_
  split at h2
  · rename_i i j
    have r1 : v = .int i := r1
    have q2 : u = .int j := q2
    subst r1; subst q2
    exact ⟨i, j, rfl, by omega, k _ F2 As2 H2 M2 _ _ (s1.trans s2) (p1.trans p2) hm2 n2 (iter_fn (f := fun l => i + (l : Int)) walk_range) h2.2⟩
  · exact h2.elim
def iBlk (X : Cx) (scope : Scope) (tg it : Expr) : TI := fun σ H R => ∀ (s : Shared) (H' : Hp) (C : Addr) (cl : List (Str × Addr)) (fp : List Addr), WI (X.blk s H' scope (compEnvC scope cl C X.env) fp) tg it σ H R
theorem lc2_coreX {vs vs1 : List Nat} {X : Cx} (hX : c.Is X) (hi : TrI c tg iter ix) (hg : TrG (c.blk scope) tg tx) (ht : TrTs (c.blk scope) ifs fx) (hi1 : TrID (c.blk scope) tg1 iter1 ix1) (hg1 : TrG (c.blk scope) tg1 tx1) (ht1 : TrTs (c.blk scope) ifs1 fx1) (he : Tr (c.blk scope) elt ex) (hjs : ∀ j ∈ tx.ix, j ∈ vs) (hjs1 : ∀ j ∈ tx1.ix, j ∈ vs1) (hv1 : (Gs.last tx1 ix1 fx1 ex).ix1 = vs1) {Q : List D → List C → Prop} (h : wpG c.g (.cons tx ix fx (.last tx1 ix1 fx1 ex)) (clr ρ vs) M Q) {F : Hp} {As : List Addr} {σ : L2.St} {H : Hp} (sr : SR c.K F As ρ σ) (hm : HM c.K F As M H) {G : VK} (k : Aft c.K F As (zq M.length (OutK Q)) G) :
    tLc2 (WI X tg iter) (gBlk X scope tg) (tBlk X scope ifs) (iBlk X scope tg1 iter1) (gBlk X scope tg1) (tBlk X scope ifs1) (eBlk X scope elt) vs vs1 σ H G := by
  refine hi (clr ρ vs) M _ h X hX F As σ H (sr.clr vs) hm _ fun J F1 As1 H1 M1 ds ks s1 p1 hm1 it ⟨hz, hw⟩ Dl hD => ?_
  obtain ⟨Gd, Y, W, hG, hY⟩ := it.ex
  generalize hf : (fun (d : D) (M' : List C) (k : List D → List C → Prop) => bindT tx d (clr ρ vs) fun ρ2 => wpTs c.g fx ρ2 M' fun t M2 => (t = true → wpG c.g (.last tx1 ix1 fx1 ex) (clr ρ2 (Gs.last tx1 ix1 fx1 ex).ix1) M2 fun out M3 => out.length ≤ 1000 ∧ k out M3) ∧ (t = false → k [] M2)) = f at hw
  rw [hv1] at hf
  have vis : ∀ {F' : Hp} {As' : List Addr} {M' : List C} {H' : Hp} {acc : List D} {ws : List V}, HM c.K F' As' M' (del H' Dl) → H' Dl = some (.lst ws) → DVs c.K F' acc ws → HM c.K F' (As' ++ [Dl]) (M' ++ [.lst acc]) H' := fun {F' As' M' H' acc ws} hm' hD' dv => by
    have := hm'.made (c := .lst acc) (o := .lst ws) del_same ⟨ws, rfl, dv⟩
    rw [upd_del hD'] at this
    exact this
  let Pv : Nat → Hp → Prop := fun i H' => ∃ F' M' acc ws, Same F1 F' ∧ HM c.K F' As1 M' (del H' Dl) ∧ H' Dl = some (.lst ws) ∧ DVs c.K F' acc ws ∧ M'.length = M1.length ∧ (∀ k ∈ ks, M'[k]? = M1[k]?) ∧ acc.length ≤ 1000 * i ∧ lcW f (fun M' => M'.length = M1.length ∧ ∀ k ∈ ks, lkM M' k = lkM M1 k) (ds.drop i) acc M' Q
  refine ⟨fun i m H' => i ≤ ds.length ∧ m = ds.length - i ∧ Pv i H', ⟨ds.length, Nat.zero_le _, rfl, F1, M1, [], [], Same.refl _, by rw [del_upd hD]; exact hm1, upd_same, rfl, rfl, fun _ _ => rfl, Nat.zero_le _, by rw [List.drop_zero]; exact hw⟩, ?_⟩
  rintro i m H' ⟨hi0, rfl, F', M', acc, ws, s', h', hD', dv, hl, hk, ha, hwi⟩
  have app : ∀ (q : Nat), q ∈ ks → (M' ++ [C.lst acc])[q]? = M1[q]? := fun q hq => by
    rw [List.getElem?_append_left (by have := it.inn q hq; omega)]
    exact hk q hq
  have gd := hG F' _ (M' ++ [.lst acc]) H' s' (List.prefix_append _ _) (vis h' hD' dv) app
  rcases Nat.lt_or_ge i ds.length with hlt | hge
  · refine .inr ⟨W.goes i H' hlt gd, Pv (i + 1), fun H2 p2 => ⟨ds.length - (i + 1), by omega, hlt, rfl, p2⟩, fun x H'' y => ?_⟩
    have y := W.yields i H' x H'' hlt gd y
    have hd : ds[i]? = some ds[i] := List.getElem?_eq_getElem hlt
    obtain ⟨F2, s2, hm2, dv2⟩ := hY i ds[i] F' _ (M' ++ [.lst acc]) H' x H'' hd s' (List.prefix_append _ _) (vis h' hD' dv) app y
    rw [List.drop_eq_getElem_cons hlt] at hwi
    have hwi : f ds[i] M' fun out M'' => (M''.length = M1.length ∧ ∀ k ∈ ks, lkM M'' k = lkM M1 k) ∧ lcW f _ (ds.drop (i + 1)) (acc ++ out) M'' Q := hwi
    rw [← hf] at hwi
    intro sh Hh Ch clh fph
    have srw : SR (c.blk scope).K F2 As1 (clr ρ vs) (wipe σ vs) := ((sr.mono ((s1.trans s').trans s2) p1).clrW vs)
    obtain ⟨hmu, oD, hoD, wsD, rfl, dvD⟩ := hm2.unlast h'.refs
    refine hg (clr ρ vs) ds[i] _ hwi _ (blk_is hX sh Hh scope clh Ch fph) F2 As1 (wipe σ vs) H'' x srw hm2.same dv2 _ fun ρ2 σ2 h2 sr2 hl2 hn2 => ⟨?_, fun sh Hh Ch clh fph => ?_⟩
    · rw [wipe_ext hl2 fun j hj => hn2 j fun z => hj (hjs j z)]; exact wipe_wipe
    refine WTs.frame hoD (.lst wsD) (ht ρ2 M' _ h2 _ (blk_is hX sh Hh scope clh Ch fph) F2 As1 σ2 _ sr2 hmu _ fun bb F3 As3 H3 M3 s3 p3 hm3 h3 n3 => ?_)
    have eAs : ∀ {F4 : Hp} {As4 : List Addr} {M4 : List C} {H4 : Hp}, HM c.K F4 As4 M4 H4 → As1 <+: As4 → M4.length = M1.length → As4 = As1 := fun {F4 As4 M4 H4} hm4 p4 l4 => by
      have l1 := hm4.len
      have l2 := hm1.len
      exact (p4.eq_of_length (by omega)).symm
    cases bb with
    | false =>
      obtain ⟨⟨l3, k3⟩, h4⟩ := h3.2 rfl
      have := eAs hm3 p3 l3
      subst this
      refine ⟨F3, M3, acc, wsD, (s'.trans s2).trans s3, by rw [del_upd n3]; exact hm3, upd_same, dvD.mono s3, l3, fun q hq => by rw [← lkM_eq, ← lkM_eq]; exact k3 q hq, by omega, ?_⟩
      rw [List.append_nil, hf] at h4; exact h4
    | true =>
      show iBlk X scope tg1 iter1 σ2 _ _
      intro sh Hh Ch clh fph
      have h4 := h3.1 rfl
      rw [hf] at h4
      refine hi1 (clr ρ2 vs1) M3 _ h4 _ (blk_is hX sh Hh scope clh Ch fph) F3 As3 σ2 _ Dl (.lst wsD) ((sr2.mono s3 p3).clr vs1) upd_same (.lst wsD) (by rw [del_upd n3]; exact hm3) _ fun J1 F5 As5 H5 M5 ds1 ks1 s5 p5 hm5 n5 it1 ⟨hz1, hw1⟩ => ?_
      obtain ⟨Gd1, Y1, W1, hG1, hY1⟩ := it1.ex
      generalize hf1 : (fun (d : D) (M' : List C) (k : List D → List C → Prop) => bindT tx1 d (clr ρ2 vs1) fun ρ2 => wpTs c.g fx1 ρ2 M' fun t M2 => (t = true → wpR c.g ex ρ2 M2 fun z M3 => z.fz M3 fun r M3 => match r with | .val y => k [y] M3 | _ => False) ∧ (t = false → k [] M2)) = f1 at hw1
      let Pv1 : Nat → Hp → Prop := fun j H' => ∃ F' M' out ws, Same F5 F' ∧ HM c.K F' As5 M' (del H' Dl) ∧ H' Dl = some (.lst ws) ∧ DVs c.K F' (acc ++ out) ws ∧ M'.length = M5.length ∧ (∀ k ∈ ks1, M'[k]? = M5[k]?) ∧ out.length ≤ j ∧ lcW f1 (fun M' => M'.length = M5.length ∧ ∀ k ∈ ks1, lkM M' k = lkM M5 k) (ds1.drop j) out M' (fun out M3 => out.length ≤ 1000 ∧ (M3.length = M1.length ∧ ∀ k ∈ ks, lkM M3 k = lkM M1 k) ∧ lcW f (fun M' => M'.length = M1.length ∧ ∀ k ∈ ks, lkM M' k = lkM M1 k) (ds.drop (i + 1)) (acc ++ out) M3 Q)
      refine ⟨fun j m H' => j ≤ ds1.length ∧ m = ds1.length - j ∧ Pv1 j H', ⟨_, Nat.zero_le _, rfl, F5, M5, [], wsD, Same.refl _, by rw [del_upd n5]; exact hm5, upd_same, by rw [List.append_nil]; exact dvD.mono (s3.trans s5), rfl, fun _ _ => rfl, Nat.zero_le _, by rw [List.drop_zero]; exact hw1⟩, ?_⟩
      rintro j m H6 ⟨hj0, rfl, F6, M6, out, w6, s6, h6, hD6, dv6, l6, k6, a6, hw6⟩
      have app1 : ∀ (q : Nat), q ∈ ks1 → (M6 ++ [C.lst (acc ++ out)])[q]? = M5[q]? := fun q hq => by
        rw [List.getElem?_append_left (by have := it1.inn q hq; omega)]
        exact k6 q hq
      have vis6 : HM (c.blk scope).K F6 (As5 ++ [Dl]) (M6 ++ [.lst (acc ++ out)]) H6 := vis h6 hD6 dv6
      have gd1 := hG1 F6 _ (M6 ++ [.lst (acc ++ out)]) H6 s6 (List.prefix_append _ _) vis6 app1
      rcases Nat.lt_or_ge j ds1.length with hlt1 | hge1
      · refine .inr ⟨W1.goes j H6 hlt1 gd1, Pv1 (j + 1), fun H2 p2 => ⟨ds1.length - (j + 1), by omega, hlt1, rfl, p2⟩, fun x1 H7 y1 => ?_⟩
        have y1 := W1.yields j H6 x1 H7 hlt1 gd1 y1
        have hd1 : ds1[j]? = some ds1[j] := List.getElem?_eq_getElem hlt1
        obtain ⟨F7, s7, hm7, dv7⟩ := hY1 j ds1[j] F6 _ (M6 ++ [.lst (acc ++ out)]) H6 x1 H7 hd1 s6 (List.prefix_append _ _) vis6 app1 y1
        rw [List.drop_eq_getElem_cons hlt1] at hw6
        have hw6 : f1 ds1[j] M6 fun o1 M'' => (M''.length = M5.length ∧ ∀ k ∈ ks1, lkM M'' k = lkM M5 k) ∧ lcW f1 _ (ds1.drop (j + 1)) (out ++ o1) M'' _ := hw6
        rw [← hf1] at hw6
        intro sh Hh Ch clh fph
        have srw1 : SR (c.blk scope).K F7 As5 (clr ρ2 vs1) (wipe σ2 vs1) := ((sr2.mono (((s3.trans s5).trans s6).trans s7) (p3.trans p5)).clrW vs1)
        obtain ⟨hmu1, oD1, hoD1, wsD1, rfl, dvD1⟩ := hm7.unlast h6.refs
        refine hg1 (clr ρ2 vs1) ds1[j] _ hw6 _ (blk_is hX sh Hh scope clh Ch fph) F7 As5 (wipe σ2 vs1) H7 x1 srw1 hm7.same dv7 _ fun ρ3 σ3 h8 sr3 hl3 hn3 => ⟨?_, fun sh Hh Ch clh fph => ?_⟩
        · rw [wipe_ext hl3 fun j hj => hn3 j fun z => hj (hjs1 j z)]; exact wipe_wipe
        refine WTs.frame hoD1 (.lst wsD1) (ht1 ρ3 M6 _ h8 _ (blk_is hX sh Hh scope clh Ch fph) F7 As5 σ3 _ sr3 hmu1 _ fun bb F8 As8 H8 M8 s8 p8 hm8 h9 n8 => ?_)
        have eA1 : ∀ {F4 : Hp} {As4 : List Addr} {M4 : List C} {H4 : Hp}, HM c.K F4 As4 M4 H4 → As5 <+: As4 → M4.length = M5.length → As4 = As5 := fun {F4 As4 M4 H4} hm4 p4 l4 => by
          have l1 := hm4.len
          have l2 := hm5.len
          exact (p4.eq_of_length (by omega)).symm
        cases bb with
        | false =>
          obtain ⟨⟨l3, k3⟩, h10⟩ := h9.2 rfl
          have := eA1 hm8 p8 l3
          subst this
          refine ⟨F8, M8, out, wsD1, (s6.trans s7).trans s8, by rw [del_upd n8]; exact hm8, upd_same, dvD1.mono s8, l3, fun q hq => by rw [← lkM_eq, ← lkM_eq]; exact k3 q hq, by omega, ?_⟩
          rw [List.append_nil, hf1] at h10; exact h10
        | true =>
          show eBlk X scope elt σ3 _ _
          intro sh Hh Ch clh fph
          refine WE.frame (a := Dl) (o := .lst wsD1) upd_same (.lst wsD1) ?_
          rw [del_upd n8]
          refine he.ee (h9.1 rfl) _ (blk_is hX sh Hh scope clh Ch fph) F8 As8 σ3 H8 (sr3.mono s8 p8) hm8 _ fun v F9 As9 H9 r M9 s9 p9 r9 hm9 h11 n9 => ?_
          split at h11
          · rename_i yd
            obtain ⟨⟨l9, k9⟩, h12⟩ := h11
            rw [hf1] at h12
            have := eA1 hm9 (p8.trans p9) l9
            subst this
            refine ⟨wsD1, upd_same, ?_, F9, M9, out ++ [yd], wsD1 ++ [v], ((s6.trans s7).trans s8).trans s9, ?_, ?_, ?_, l9, fun q hq => by rw [← lkM_eq, ← lkM_eq]; exact k9 q hq, ?_, h12⟩
            · have q1 := dvD1.length
              rw [List.length_append] at q1
              have : wsD1.length ≤ 1200000 := by
                have : 1000 * i ≤ 1000 * 1000 := Nat.mul_le_mul_left _ (by omega)
                omega
              exact Nat.lt_of_le_of_lt this (by decide)
            · rw [upd_upd, del_upd n9]; exact hm9
            · rw [upd_upd, upd_same]
            · rw [← List.append_assoc]
              exact dvs_paired.mpr (paired_append (dvs_paired.mp (dvD1.mono (s8.trans s9))) (.cons r9 .nil))
            · rw [List.length_append]; exact Nat.succ_le_succ a6
          · exact h11.elim
      · have ej : j = ds1.length := by omega
        subst ej
        rw [List.drop_length] at hw6
        obtain ⟨b1, ⟨b2, b3⟩, b4⟩ := hw6
        have := eAs h6 (p3.trans p5) b2
        subst this
        exact .inl ⟨W1.stops H6 gd1, F6, M6, acc ++ out, w6, (((s'.trans s2).trans s3).trans s5).trans s6, h6, hD6, dv6, b2, fun q hq => by rw [← lkM_eq, ← lkM_eq]; exact b3 q hq, by rw [List.length_append]; omega, b4⟩
  · have ei : i = ds.length := by omega
    subst ei
    rw [List.drop_length] at hwi
    exact .inl ⟨W.stops H' gd, k _ F' (As1 ++ [Dl]) H' (.own M'.length) (M' ++ [.lst acc]) (s1.trans s') (p1.trans (List.prefix_append _ _)) ⟨Dl, by rw [← h'.len]; simp, rfl⟩ (vis h' hD' dv) ⟨.n (.lst acc), M', ⟨rfl, rfl, h'.refs⟩, by rw [hl]; exact hm.le hm1 p1, acc, rfl, hwi⟩⟩
end
end Dl
/-! X24: two fors, displays, what is never reached, a or b of lists -/
namespace Dl
open PySem L2
section
variable {c : Ctx} {ρ : List Sl} {M : List C} {a b e tg iter tg1 iter1 elt : Expr} {x y : E} {pos p1 p2 p3 : Pos} {ifs ifs1 : List Expr} {scope : Scope} {tx tx1 : Tg} {ix ix1 : It} {fx fx1 : Tl} {ex : E} {rest : List Stmt} {xs : Ss} {st : Stmt}
theorem tr_bad : Tr c e .bad := fun ρ M Q h => h.elim
theorem trS_bad : TrS c rest (.cons .bad xs) := fun ρ M Q h => h.elim
theorem tr_lc2 {own : List (Str × Nat)} (hi : TrI c tg iter ix) (hg : TrG (c.blk scope) tg tx) (ht : TrTs (c.blk scope) ifs fx) (hi1 : TrID (c.blk scope) tg1 iter1 ix1) (hg1 : TrG (c.blk scope) tg1 tx1) (ht1 : TrTs (c.blk scope) ifs1 fx1) (he : Tr (c.blk scope) elt ex) (hjs : ∀ j ∈ tx.ix, j ∈ own.map (·.2)) (hjs1 : ∀ j ∈ tx1.ix, j ∈ (Gs.last tx1 ix1 fx1 ex).ix1) (hv1 : ∀ j ∈ (Gs.last tx1 ix1 fx1 ex).ix1, j ∈ own.map (·.2)) (ok : blkC c.N c.sc scope own = true) (hs : ∀ (env : Env) x, foldedSetIterable iter env x = pure x) (hs1 : ∀ (env : Env) x, foldedSetIterable iter1 env x = pure x) :
    Tr c (.ListComp elt [⟨tg, iter, ifs, 0⟩, ⟨tg1, iter1, ifs1, 0⟩] scope pos) (.lc (.cons tx ix fx (.last tx1 ix1 fx1 ex)) (own.map (·.2))) := fun ρ M Q h X hX F As σ H sr hm G k => by
  have hq := lc2_coreX (G := G) hX hi hg ht hi1 hg1 ht1 he hjs hjs1 rfl h sr hm fun v F' As' H' r M' s p r' hm' ⟨z, M1, z1, z2, out, z3, z4⟩ => k v F' As' H' r M' s p r' hm' ⟨z, M1, z1, z2, by subst z3; exact z4⟩
  cases hX with | mk X k0 nd calm room po =>
  exact ⟨_, pe_lc2 calm nd pi_w (blkOk_by ok) hv1 (fun s H C cl fp => ⟨fun pins s' σ' H' v u Q I r h => pg_w.run pins s' σ' H' v u Q I r (h s H C cl fp)⟩)
      (fun s H C cl fp => ⟨fun pins s' σ' H' Q I h => pts_w.run pins s' σ' H' Q I (h s H C cl fp)⟩) (fun s H C cl fp => ⟨fun pins s' σ' H' R I h => pi_w.run pins s' σ' H' R I (h s H C cl fp)⟩)
      (fun s H C cl fp => ⟨fun pins s' σ' H' v u Q I r h => pg_w.run pins s' σ' H' v u Q I r (h s H C cl fp)⟩) (fun s H C cl fp => ⟨fun pins s' σ' H' Q I h => pts_w.run pins s' σ' H' Q I (h s H C cl fp)⟩)
      (fun s H C cl fp => ⟨fun pins s' σ' H' Q I h => pe_w.run pins s' σ' H' Q I (h s H C cl fp)⟩) (hs _) hs1, hq⟩
theorem trS_asgLc2 (i : Nat) {nm : Str} {own : List (Str × Nat)} {ow : Bool} (hi : TrI c tg iter ix) (hg : TrG (c.blk scope) tg tx) (ht : TrTs (c.blk scope) ifs fx) (hi1 : TrID (c.blk scope) tg1 iter1 ix1) (hg1 : TrG (c.blk scope) tg1 tx1) (ht1 : TrTs (c.blk scope) ifs1 fx1) (he : Tr (c.blk scope) elt ex) (hjs : ∀ j ∈ tx.ix, j ∈ own.map (·.2)) (hjs1 : ∀ j ∈ tx1.ix, j ∈ (Gs.last tx1 ix1 fx1 ex).ix1) (hv1 : ∀ j ∈ (Gs.last tx1 ix1 fx1 ex).ix1, j ∈ own.map (·.2)) (ok : blkC c.N c.sc scope own = true) (hs : ∀ (env : Env) x, foldedSetIterable iter env x = pure x) (hs1 : ∀ (env : Env) x, foldedSetIterable iter1 env x = pure x)
    (hr : TrS c rest xs) (hN : c.N[i]? = some nm) (hy : c.sc.names.lookup nm = some .local) (hk : c.sc.kind = .function) (hl : (p1.line == p2.line) = true) (ha : (scope.names.any fun (n, k) => n == nm && (k == .local || k == .cell)) = false) :
    TrS c (.Assign [.Name nm p1] (.ListComp elt [⟨tg, iter, ifs, 0⟩, ⟨tg1, iter1, ifs1, 0⟩] scope p2) pos :: rest) (.cons (.asg i (if ow then .own (.lc (.cons tx ix fx (.last tx1 ix1 fx1 ex)) (own.map (·.2))) else .lc (.cons tx ix fx (.last tx1 ix1 fx1 ex)) (own.map (·.2)))) xs) := fun ρ M Q h X hX F As B σ H E sr hm pb ends => by
  have hz : wpG c.g (.cons tx ix fx (.last tx1 ix1 fx1 ex)) (clr ρ (own.map (·.2))) M fun out M1 => (if ow then wpSs c.g xs (pt ρ i (.own M1.length)) (M1 ++ [.lst out]) Q else wpSs c.g xs (pt ρ i (.val (.lst out))) M1 Q) := by
    cases ow <;> exact h
  have hq : ∀ G : VK, Aft c.K F As (zq M.length (OutK fun out M1 => (if ow then wpSs c.g xs (pt ρ i (.own M1.length)) (M1 ++ [.lst out]) Q else wpSs c.g xs (pt ρ i (.val (.lst out))) M1 Q))) G → tLc2 (WI X tg iter) (gBlk X scope tg) (tBlk X scope ifs) (iBlk X scope tg1 iter1) (gBlk X scope tg1) (tBlk X scope ifs1) (eBlk X scope elt) (own.map (·.2)) _ σ H G := fun G k => lc2_coreX (G := G) hX hi hg ht hi1 hg1 ht1 he hjs hjs1 rfl hz sr hm k
  have hX' := hX
  cases hX with | mk X k0 nd calm room po =>
  refine ws_cons (ps_setLc2 calm nd hN hy (sw_true hk hy hl ha) pi_w (blkOk_by ok) hv1 (fun s H C cl fp => ⟨fun pins s' σ' H' v u Q I r h => pg_w.run pins s' σ' H' v u Q I r (h s H C cl fp)⟩)
      (fun s H C cl fp => ⟨fun pins s' σ' H' Q I h => pts_w.run pins s' σ' H' Q I (h s H C cl fp)⟩) (fun s H C cl fp => ⟨fun pins s' σ' H' R I h => pi_w.run pins s' σ' H' R I (h s H C cl fp)⟩)
      (fun s H C cl fp => ⟨fun pins s' σ' H' v u Q I r h => pg_w.run pins s' σ' H' v u Q I r (h s H C cl fp)⟩) (fun s H C cl fp => ⟨fun pins s' σ' H' Q I h => pts_w.run pins s' σ' H' Q I (h s H C cl fp)⟩)
      (fun s H C cl fp => ⟨fun pins s' σ' H' Q I h => pe_w.run pins s' σ' H' Q I (h s H C cl fp)⟩) (hs _) hs1) (hq _ fun v F1 As1 H1 r M' s1 p1 r1 hm1 ⟨z, M1, z1, z2, out, z3, z4⟩ => ?_)
  subst z3
  obtain ⟨e1, e2, e3⟩ := z1
  subst e1; subst e2
  cases ow with
  | true =>
    have z4 : wpSs _ xs (pt ρ i (.own M1.length)) (M1 ++ [.lst out]) Q := z4
    rw [pt_eq] at z4
    exact hr _ _ Q z4 X hX' F1 As1 B _ H1 E ((sr.mono s1 p1).set r1) hm1 (pb.trans p1) (ends.f s1)
  | false =>
    have z4 : wpSs _ xs (pt ρ i (.val (.lst out))) M1 Q := z4
    rw [pt_eq] at z4
    have l1 := hm1.len
    obtain ⟨A0, p, rfl⟩ : ∃ A0 p, As1 = A0 ++ [p] := by
      have hne : As1 ≠ [] := fun z => by subst z; simp at l1
      exact ⟨As1.dropLast, As1.getLast hne, (List.dropLast_concat_getLast hne).symm⟩
    have lB : A0.length = M1.length := by simpa using l1
    obtain ⟨a', ha', rfl⟩ := r1
    have : a' = p := by
      rw [← lB] at ha'
      simpa using ha'.symm
    subst this
    obtain ⟨F2, s2, hm2, dv⟩ := hm1.freeze (d := .lst out) rfl e3
    have pA : As <+: A0 := List.prefix_of_prefix_length_le p1 (List.prefix_append _ _) (by rw [lB, hm.len]; exact z2)
    exact hr _ _ Q z4 X hX' F2 A0 B _ H1 E ((sr.mono (s1.trans s2) pA).set (s := .val (.lst out)) dv) hm2 (pb.trans pA) (ends.f (s1.trans s2))
end
end Dl
/-! X25: displays of dicts, get, a or b of lists -/
namespace Dl
open PySem L2
section
variable {c : Ctx} {ρ : List Sl} {M : List C} {a b e f o : Expr} {x y z : E} {pos p1 p2 p3 apos : Pos}
/-! ### a or b -/
theorem tr_orl (ha : Tr c a x) (hb : Tr c b y) : Tr c (.BoolOp .Or [a, b] pos) (.orl x y) := fun ρ M Q h X hX F As σ H sr hm G k => by
  refine ⟨_, pe_orT pe_w (pe_one pe_w), ha ρ M _ h X hX F As σ H sr hm _ fun v F1 As1 H1 r M' s1 p1 r1 hm1 ⟨z, M1, z1, z2, q⟩ => ?_⟩
  cases z with
  | s s0 => exact False.elim q
  | n c0 =>
    cases c0 with
    | lst ds =>
      obtain ⟨e1, e2, e3⟩ := z1
      subst e1; subst e2
      have l1 := hm1.len
      obtain ⟨A0, p, rfl⟩ : ∃ A0 p, As1 = A0 ++ [p] := by
        have hne : As1 ≠ [] := fun z => by subst z; simp at l1
        exact ⟨As1.dropLast, As1.getLast hne, (List.dropLast_concat_getLast hne).symm⟩
      have lB : A0.length = M1.length := by simpa using l1
      obtain ⟨a', ha', rfl⟩ := r1
      have : a' = p := by
        rw [← lB] at ha'
        simpa using ha'.symm
      subst this
      obtain ⟨ob, ho, vs, rfl, hv⟩ := hm1.cell A0.length a' (.lst ds) (by simp) (by rw [lB]; simp)
      refine ⟨!ds.isEmpty, .inl ⟨vs, .inl (.inl ho), ?_⟩, ?_⟩
      · have := hv.length
        cases ds <;> cases vs <;> first | rfl | (simp at this)
      · cases ds with
        | nil =>
          obtain ⟨F2, s2, hm2, dv⟩ := hm1.freeze (d := .lst []) rfl e3
          have pA : As <+: A0 := List.prefix_of_prefix_length_le p1 (List.prefix_append _ _) (by rw [lB, hm.len]; exact z2)
          exact hb ρ M1 Q q X hX F2 A0 σ H1 (sr.mono (s1.trans s2) pA) hm2 G (Aft.less (Aft.mono k (s1.trans s2) pA) z2)
        | cons d ds => exact k _ F1 (A0 ++ [a']) H1 (.own M1.length) _ s1 p1 ⟨a', by rw [← lB]; simp, rfl⟩ hm1 ⟨.n (.lst (d :: ds)), M1, ⟨rfl, rfl, e3⟩, z2, q⟩
    | _ => exact False.elim q
/-! ### {} and {k: v, ..} -/
def flat2 : List (V × V) → List V
  | [] => []
  | p :: r => p.1 :: p.2 :: flat2 r
def TrP (c : Ctx) (ks : List (Option Expr)) (vs : List Expr) (as : Es) : Prop := ∀ ρ M Q, wpA c.g as ρ M Q → ∀ X, c.Is X → ∀ F As σ H p, SR c.K F As ρ σ → H p = some (.dK []) → HM c.K F As M (del H p) → ∀ (pos : Pos) (R : List (V × V) → Hp → Prop),
  (∀ ps F' As' H' rs M', Same F F' → As <+: As' → SlRs c.K F' As' rs (flat2 ps) → HM c.K F' As' M' H' → H' p = none → Q rs M' → R ps (upd H' p (.dK []))) → ∃ trs, PPs X pos ks vs trs ∧ tPairs trs σ H R
/-- the trees of the pairs -/
def wes (X : Cx) : List (Option Expr) → List Expr → List (TE × TE)
  | some k :: ks, v :: vs => (WE X k, WE X v) :: wes X ks vs
  | _, _ => []
def TrP' (c : Ctx) (ks : List (Option Expr)) (vs : List Expr) (as : Es) : Prop := (∀ X pos, PPs X pos ks vs (wes X ks vs)) ∧ ∀ ρ M Q, wpA c.g as ρ M Q → ∀ X, c.Is X → ∀ F As σ H p, SR c.K F As ρ σ → H p = some (.dK []) → HM c.K F As M (del H p) → ∀ (R : List (V × V) → Hp → Prop),
  (∀ ps F' As' H' rs M', Same F F' → As <+: As' → SlRs c.K F' As' rs (flat2 ps) → HM c.K F' As' M' H' → H' p = none → Q rs M' → R ps (upd H' p (.dK []))) → tPairs (wes X ks vs) σ H R
theorem trP_nil : TrP' c [] [] .nil := ⟨fun X pos => pps_nil, fun ρ M Q h X hX F As σ H p sr hp hm R k => by
  have := k [] F As (del H p) [] M (Same.refl _) (List.prefix_refl _) .nil hm del_same h
  rw [upd_del hp] at this
  exact this⟩
theorem trP_cons {ks : List (Option Expr)} {vs : List Expr} {as : Es} (hk : Tr c a x) (hv : Tr c b y) (hr : TrP' c ks vs as) : TrP' c (some a :: ks) (b :: vs) (.cons x (.cons y as)) := ⟨fun X pos => pps_cons pe_w pe_w (hr.1 X pos), fun ρ M Q h X hX F As σ H p sr hp hm R k => by
  refine WE.frame hp (.dK []) (hk.ee h X hX F As σ _ sr hm _ fun v F1 As1 H1 r1 M1 s1 p1 q1 hm1 h1 n1 => ?_)
  refine WE.frame (a := p) (o := .dK []) upd_same (.dK []) ?_
  rw [del_upd n1]
  refine hv.ee h1 X hX F1 As1 σ H1 (sr.mono s1 p1) hm1 _ fun u F2 As2 H2 r2 M2 s2 p2 q2 hm2 h2 n2 => ?_
  refine hr.2 ρ M2 _ h2 X hX F2 As2 σ _ p (sr.mono (s1.trans s2) (p1.trans p2)) upd_same (by rw [del_upd n2]; exact hm2) _ fun ps F' As' H' rs M' s' p' q' hm' n' h' => ?_
  exact k ((v, u) :: ps) F' As' H' (r1 :: r2 :: rs) M' ((s1.trans s2).trans s') ((p1.trans p2).trans p') (.cons (q1.mono (s2.trans s') (p2.trans p')) (.cons (q2.mono s' p') q')) hm' n' h'⟩
theorem pairs_kv {K : PySem.W.Frag} {F : Hp} {As : List Addr} : ∀ {ps : List (V × V)} {rs : List Sl} {kvs : List (Key × Sl)}, SlRs K F As rs (flat2 ps) → pairsR rs = some kvs → ∃ ws : List (Key × V), ps = ws.map (fun kv => (kV kv.1, kv.2)) ∧ KSl K F As kvs ws
  | [], rs, kvs, h, e => by
    cases h
    cases e
    exact ⟨[], rfl, .nil⟩
  | (v, u) :: ps, rs, kvs, h, e => by
    cases h with
    | @cons r1 _ rs1 _ g1 g2 =>
      cases g2 with
      | @cons r2 _ rs2 _ g2 g3 =>
        cases r1 with
        | val d =>
          have e : (match keyD d, pairsR rs2 with | some k, some kvs => some ((k, r2) :: kvs) | _, _ => none) = some kvs := e
          split at e
          · rename_i k kvs2 e1 e2
            cases e
            obtain ⟨ws, rfl, hw⟩ := pairs_kv g3 e2
            have := keyV e1 g1
            subst this
            exact ⟨(k, u) :: ws, rfl, .cons ⟨rfl, g2⟩ hw⟩
          · cases e
        | un => cases e
        | own _ => cases e
theorem merge_kv {α : Type} {R : α → V → Prop} : ∀ {kvs : List (Key × α)} {ws : List (Key × V)} {acc : List (Key × α)} {bcc : List (Key × V)}, Paired (fun p q => p.1 = q.1 ∧ R p.2 q.2) kvs ws → Paired (fun p q => p.1 = q.1 ∧ R p.2 q.2) acc bcc → Paired (fun p q => p.1 = q.1 ∧ R p.2 q.2) (mergeD acc kvs) (mergeK bcc ws)
  | [], ws, acc, bcc, h, g => by cases h; exact g
  | p :: r, ws, acc, bcc, h, g => by
    cases h with
    | @cons _ q _ ws h1 h2 =>
      obtain ⟨k, d⟩ := p
      obtain ⟨k', v⟩ := q
      obtain ⟨e1, e2⟩ := h1
      cases e1
      show Paired _ (mergeD (putD acc k d) r) (mergeK (putK bcc k v) ws)
      exact merge_kv h2 (pk_put (β := Unit) e2 g)
theorem valsK_kv {K : PySem.W.Frag} {F : Hp} {As : List Addr} : ∀ {kvs : List (Key × Sl)} {ws : List (Key × V)} {l : List (Key × D)}, KSl K F As kvs ws → valsK kvs = some l → Paired (fun p q => p.1 = q.1 ∧ DV K F p.2 q.2) l ws
  | [], ws, l, h, e => by cases h; cases e; exact .nil
  | (k, s) :: r, ws, l, h, e => by
    cases h with
    | @cons _ q _ ws h1 h2 =>
      cases s with
      | val d =>
        have e : (match valsK r with | some kvs => some ((k, d) :: kvs) | none => none) = some l := e
        split at e
        · rename_i l2 e2
          cases e
          exact .cons ⟨h1.1, h1.2⟩ (valsK_kv h2 e2)
        · cases e
      | un => cases e
      | own _ => cases e
theorem cr_kvC {K : PySem.W.Frag} {F : Hp} {As : List Addr} {p : Addr} {kvs : List (Key × Sl)} {ws : List (Key × V)} (h : KSl K F As kvs ws) : CR K F As p (kvC kvs) (.dK (mergeK [] ws)) := by
  unfold kvC
  split
  · rename_i l e
    exact ⟨_, rfl, merge_kv (R := fun d v => DV K F d v) (valsK_kv h e) .nil⟩
  · exact ⟨_, rfl, merge_kv (R := fun d v => SlR K F As d v) h .nil⟩
theorem tr_dct0 : Tr c (.Dict [] [] pos) (.dct .nil) := fun ρ M Q h X hX F As σ H sr hm G k =>
  ⟨_, pe_dnewK, fun p hp => by
    obtain ⟨kvs, e, _, q⟩ := h
    cases e
    exact fin_new (c := .dic []) k hm (Nat.le_refl _) hp ⟨[], rfl, .nil⟩ q⟩
theorem tr_dct {ks : List Expr} {vs : List Expr} {as : Es} (hp : TrP' c ((a :: ks).map some) vs as) (hl : (a :: ks).length = vs.length) (h15 : (a :: ks).length ≤ 15) : Tr c (.Dict ((a :: ks).map some) vs pos) (.dct as) := fun ρ M Q h X hX F As σ H sr hm G k =>
  ⟨_, pe_disp (hp.1 X pos) (by simp) (by simpa using hl) (by simp) (by simpa using h15), fun p hpn => by
    refine hp.2 ρ M _ h X hX F As σ _ p sr upd_same (by rw [del_upd hpn]; exact hm) _ fun ps F' As' H' rs M' s' p' q' hm' n' ⟨kvs, e1, e2, q⟩ => ?_
    obtain ⟨ws, rfl, hw⟩ := pairs_kv q' e1
    refine ⟨upd_same, ws, rfl, by rw [← Paired.length hw]; exact e2, ?_⟩
    rw [upd_upd]
    exact fin_new (Aft.mono k s' p') hm' (hm.le hm' p') n' (cr_kvC hw) q⟩
/-! ### get -/
theorem mtOk_isD {m : Mth} {r : Sl} {M : List C} {K : PySem.W.Frag} {F : Hp} {As : List Addr} {H : Hp} {v : V} (hm : HM K F As M H) (hr : SlR K F As r v) (hl : m.isL = false) (h : mtOk m r M = true) : ∃ al, v = .ref al ∧ IsD H al := by
  unfold mtOk at h
  split at h
  · rename_i k
    obtain ⟨al, ha, rfl⟩ := hr
    split at h
    · rw [hl] at h; cases h
    · rw [hl] at h; cases h
    · rename_i kvs e
      rw [lkM_eq] at e
      obtain ⟨ob, ho, ws, rfl, hw⟩ := hm.cell k al _ ha e
      exact ⟨al, rfl, .inl ⟨ws, .inl ho⟩⟩
    · rename_i kvs e
      rw [lkM_eq] at e
      obtain ⟨ob, ho, ws, rfl, hw⟩ := hm.cell k al _ ha e
      exact ⟨al, rfl, .inl ⟨ws, .inl ho⟩⟩
    · cases h
  · rename_i ks vs
    obtain ⟨al, ws, rfl, h1, h2⟩ := dq_kd (M := M) (s := .val (.dic ks vs)) rfl hm hr
    exact ⟨al, rfl, .inl ⟨ws, .inl h1⟩⟩
  · cases h
theorem inv_get1 {r s : Sl} {M : List C} {Q : Z → List C → Prop} (h : mtR .get1 r [s] M Q) : ∃ d kvs kk, s = .val d ∧ dq M r = some kvs ∧ keyD d = some kk ∧ (match getK kvs kk with | some x => Q (.s (.val x)) M | none => Q (.s (.val .non)) M) := by
  cases s with
  | val d =>
    have h : (match dq M r, keyD d with | some kvs, some kk => (match getK kvs kk with | some x => Q (.s (.val x)) M | none => Q (.s (.val .non)) M) | _, _ => False) := h
    split at h
    · rename_i kvs kk e1 e2
      exact ⟨d, kvs, kk, rfl, e1, e2, h⟩
    · exact h.elim
  | un => exact False.elim h
  | own _ => exact False.elim h
theorem inv_get2 {r s t : Sl} {M : List C} {Q : Z → List C → Prop} (h : mtR .get2 r [s, t] M Q) : ∃ d kvs kk, s = .val d ∧ dq M r = some kvs ∧ keyD d = some kk ∧ (match getK kvs kk with | some x => Q (.s (.val x)) M | none => t ≠ .un ∧ Q (.s t) M) := by
  cases s with
  | val d =>
    have h : (match dq M r, keyD d with | some kvs, some kk => (match getK kvs kk with | some x => Q (.s (.val x)) M | none => t ≠ .un ∧ Q (.s t) M) | _, _ => False) := h
    split at h
    · rename_i kvs kk e1 e2
      exact ⟨d, kvs, kk, rfl, e1, e2, h⟩
    · exact h.elim
  | un => exact False.elim h
  | own _ => exact False.elim h
theorem tr_get1 (ho : Tr c o x) (ha : Tr c e y) (m : ∀ X : Cx, M1 X o "get" apos e pos) : Tr c (.Call (.Attribute o "get" apos) [e] [] pos) (.mt x .get1 (.cons y .nil)) := fun ρ M Q h X hX F As σ H sr hm G k => by
  have hX' := hX
  cases hX with | mk X k0 nd calm room po =>
  refine ⟨_, pe_dget1 (lt_room room) pe_w pe_w (m X), ho.ee h X hX' F As σ H sr hm _ fun v F1 As1 H1 r1 M1 s1 p1 q1 hm1 ⟨hk, h1⟩ => ?_⟩
  obtain ⟨al, rfl, hd⟩ := mtOk_isD hm1 q1 rfl hk
  refine ⟨al, rfl, hd, ha.ee h1 X hX' F1 As1 σ H1 (sr.mono s1 p1) hm1 _ fun u F2 As2 H2 r2 M2 s2 p2 q2 hm2 h2 => ?_⟩
  have kk := Aft.mono k (s1.trans s2) (p1.trans p2)
  have hn := Nat.le_trans (hm.le hm1 p1) (hm1.le hm2 p2)
  obtain ⟨d, kvs, kk', rfl, e1, e2, h2⟩ := inv_get1 (show mtR .get1 r1 [r2] M2 Q from h2)
  obtain ⟨a', ws, e3, g1, g2⟩ := dq_kd e1 hm2 (q1.mono s2 p2)
  cases e3
  have ek := keyV e2 q2
  subst ek
  refine ⟨_, DGet.k g1, ?_⟩
  rcases kd_get (k := kk') g2 with ⟨e4, e5⟩ | ⟨d', v', e4, e5, hv⟩
  · rw [e5]; rw [e4] at h2
    exact fin_val (d := .non) kk hm2 hn rfl h2
  · rw [e5]; rw [e4] at h2
    exact fin_val (d := d') kk hm2 hn hv h2
theorem tr_get2 (ho : Tr c o x) (ha : Tr c e y) (hf : Tr c f z) (m : ∀ X : Cx, M2 X o "get" apos e f pos) : Tr c (.Call (.Attribute o "get" apos) [e, f] [] pos) (.mt x .get2 (.cons y (.cons z .nil))) := fun ρ M Q h X hX F As σ H sr hm G k => by
  have hX' := hX
  cases hX with | mk X k0 nd calm room po =>
  refine ⟨_, pe_dget2 (lt_room room) pe_w pe_w pe_w (m X), ho.ee h X hX' F As σ H sr hm _ fun v F1 As1 H1 r1 M1 s1 p1 q1 hm1 ⟨hk, h1⟩ => ?_⟩
  obtain ⟨al, rfl, hd⟩ := mtOk_isD hm1 q1 rfl hk
  refine ⟨al, rfl, hd, ha.ee h1 X hX' F1 As1 σ H1 (sr.mono s1 p1) hm1 _ fun u F2 As2 H2 r2 M2 s2 p2 q2 hm2 h2 => hf.ee h2 X hX' F2 As2 σ H2 (sr.mono (s1.trans s2) (p1.trans p2)) hm2 _ fun w F3 As3 H3 r3 M3 s3 p3 q3 hm3 h3 => ?_⟩
  have kk := Aft.mono k ((s1.trans s2).trans s3) ((p1.trans p2).trans p3)
  have hn := Nat.le_trans (Nat.le_trans (hm.le hm1 p1) (hm1.le hm2 p2)) (hm2.le hm3 p3)
  obtain ⟨d, kvs, kk', rfl, e1, e2, h3⟩ := inv_get2 (show mtR .get2 r1 [r2, r3] M3 Q from h3)
  obtain ⟨a', ws, e3, g1, g2⟩ := dq_kd e1 hm3 ((q1.mono s2 p2).mono s3 p3)
  cases e3
  have ek := keyV (F := F3) e2 (DV.mono s3 (show DV _ F2 d u from q2))
  subst ek
  refine ⟨_, DGet.k g1, ?_⟩
  rcases kd_get (k := kk') g2 with ⟨e4, e5⟩ | ⟨d', v', e4, e5, hv⟩
  · rw [e5]; rw [e4] at h3
    exact fin_s kk hm3 hn q3 h3.2
  · rw [e5]; rw [e4] at h3
    exact fin_val (d := d') kk hm3 hn hv h3
end
end Dl
/-! X26: a op b op' c as a test -/
namespace Dl
open PySem L2
section
variable {c : Ctx} {ρ : List Sl} {M : List C} {a b e3 : Expr} {x y z : E} {pos : Pos} {op op' : CmpOp}
theorem chain_core (ha : Tr c a x) (hb : Tr c b y) (hc : Tr c e3 z) {Q : Z → List C → Prop} (h : wpR c.g (.cmp2 op op' x y z) ρ M Q) {X : Cx} (hX : c.Is X) {F : Hp} {As : List Addr} {σ : L2.St} {H : Hp} (sr : SR c.K F As ρ σ) (hm : HM c.K F As M H) {G : VK} (k : Aft c.K F As (zq M.length Q) G) :
    tChain (fun x y H' G' => ∃ r, OpR X (compareOp op) r ∧ r x y H' G') (fun x y H' G' => ∃ r, OpR X (compareOp op') r ∧ r x y H' G') (WE X a) (WE X b) (WE X e3) σ H G :=
  ha.ee h X hX F As σ H sr hm _ fun x F1 As1 H1 r1 M1 s1 p1 q1 hm1 h1 => hb.ee h1 X hX F1 As1 σ H1 (sr.mono s1 p1) hm1 _ fun y F2 As2 H2 r2 M2 s2 p2 q2 hm2 h2 => by
    refine cmp_all op h2 X hX F2 As2 H2 x y (q1.mono s2 p2) q2 hm2 M.length _ (Nat.le_trans (hm.le hm1 p1) (hm1.le hm2 p2)) fun v F3 As3 H3 r M' s3 p3 r3 hm3 ⟨zz, M3, z1, z2, z3, t, z4, z5⟩ => ?_
    subst z3; subst z4
    obtain ⟨e1, e2⟩ := z1
    subst e1; subst e2
    refine ⟨t, r3, ?_⟩
    cases t with
    | false => exact fin_val (d := .bl false) (Aft.mono k ((s1.trans s2).trans s3) ((p1.trans p2).trans p3)) hm3 z2 rfl (z5.2 rfl)
    | true =>
      refine hc.ee (z5.1 rfl) X hX F3 As3 σ H3 (sr.mono ((s1.trans s2).trans s3) ((p1.trans p2).trans p3)) hm3 _ fun w F4 As4 H4 r4 M4 s4 p4 q4 hm4 h4 => ?_
      exact cmp_all op' h4 X hX F4 As4 H4 y w (q2.mono (s3.trans s4) (p3.trans p4)) q4 hm4 M.length G (Nat.le_trans z2 (hm3.le hm4 p4)) (Aft.bz k (((s1.trans s2).trans s3).trans s4) (((p1.trans p2).trans p3).trans p4))
theorem trT_cmp2 (ha : Tr c a x) (hb : Tr c b y) (hc : Tr c e3 z) (hl : lastMarks [op, op'] [b, e3] = false) : TrT c (.Compare a [op, op'] [b, e3] pos) (.e (.cmp2 op op' x y z)) := fun ρ M Q h X hX F As σ H sr hm G k =>
  ⟨_, pt_chain opR_any opR_any pe_w pe_w pe_w (hm := hl), chain_core ha hb hc h hX sr hm fun v F' As' H' r M' s p r' hm' ⟨zz, M3, z1, z2, q⟩ => by
    cases zz with
    | s r0 =>
      obtain ⟨e1, e2⟩ := z1
      subst e1; subst e2
      cases r with
      | val d =>
        cases d with
        | bl t => exact ⟨t, r', k t F' As' H' _ s p hm' q⟩
        | _ => exact False.elim q
      | _ => exact False.elim q
    | n c0 =>
      have q : (match c0.frz with | some d => (match Sl.val d with | .val (.bl t) => Q t M3 | _ => False) | none => False) := q
      cases c0 <;> exact False.elim q⟩
end
end Dl
/-! X30: calls by keywords, from the text -/
namespace Dl
open PySem L2
theorem vals_getD {zs : List V} {ws : List Value} (h : Vals zs ws) (i : Nat) : RelV (zs.getD i .non) (ws.getD i .none) := by
  rw [List.getD_eq_getElem?_getD, List.getD_eq_getElem?_getD]
  cases e : zs[i]? with
  | none => rw [Vals.none_of h e]; exact rfl
  | some z =>
    obtain ⟨u, h1, h2⟩ := Vals.get h e
    rw [h1]; exact h2
theorem perm_rel {n : Nat} {idx : List Nat} {vs zs : List V} {us ws : List Value} (hv : Vals vs us) (h : Vals zs ws) : Vals (permV n idx vs zs) (permU n idx us ws) := by
  unfold permV permU
  rw [← h.length, ← hv.length]
  split
  · induction idx with
    | nil => exact .nil
    | cons i r ih => exact .cons (vals_getD h i) ih
  · exact .nil
theorem kb_of {K : PySem.W.Frag} {x qual : Str} {st : Stmt} {f : Addr} {fd : FuncData} {ps ks : List Str} {idx : List Nat} (F : Fun K x qual st f fd) (hi : 0 < ps.length)
    (h : ∀ (kV doc pm : Value) (an : Option Addr) (cdv ct : Value) (ws : List Value), ws.length = ks.length → bindArgs (PySem.W.fnOf x qual (defArgs st) (defBody st) (defScope st) .none kV doc pm an cdv ct) ⟨[], ks.zip ws⟩ = pure (ps.zip (idx.map fun i => ws.getD i .none))) : KBinds K fd ps ks (permU ks.length idx) (permV ks.length idx) := by
  obtain ⟨oc, od, kV, doc, pm, an, cdv, ct, osl, rfl, lk, hcd⟩ := F.ex
  refine ⟨fun s us ws _ hl => ?_, fun h1 h2 => perm_rel h1 h2⟩
  by_cases hc : us.length = 0 ∧ ws.length = ks.length
  · have e : permU ks.length idx us ws = idx.map fun i => ws.getD i .none := by unfold permU; rw [if_pos hc]
    rw [e]
    have eu : us = [] := List.length_eq_zero_iff.mp hc.1
    subst eu
    exact .of_eq (h kV doc pm an cdv ct ws hc.2)
  · have e : permU ks.length idx us ws = [] := by unfold permU; rw [if_neg hc]
    rw [e] at hl
    simp at hl
    omega
end Dl
/-! X35: remove -/
namespace Dl
open PySem L2
theorem inv_remove {r s : Sl} {M : List C} {Q : Z → List C → Prop} (h : mtR .remove r [s] M Q) : ∃ k i ds, r = .own k ∧ s = .val (.int i) ∧ M[k]? = some (.lst ds) ∧ (ds.all isI = true ∧ i ∈ ds.map intD) ∧ Q (.s (.val .non)) (ptM M k (.lst (((ds.map intD).erase i).map D.int))) := by
  cases r with
  | un => exact False.elim h
  | val _ => exact False.elim h
  | own k =>
    cases s with
    | un => exact False.elim h
    | own _ => exact False.elim h
    | val d =>
      cases d with
      | int i =>
        have h : (match lkM M k with | some (.lst ds) => (ds.all isI = true ∧ i ∈ ds.map intD) ∧ Q (.s (.val .non)) (ptM M k (.lst (((ds.map intD).erase i).map D.int))) | _ => False) := h
        rw [lkM_eq] at h
        cases e : M[k]? with
        | none => rw [e] at h; exact False.elim h
        | some c =>
          rw [e] at h
          cases c with
          | lst ds => exact ⟨k, i, ds, rfl, rfl, e, h.1, h.2⟩
          | _ => exact False.elim h
      | _ => exact False.elim h
theorem erase_at : ∀ {ns : List Int} {k : Int}, k ∈ ns → ∃ j, ns[j]? = some k ∧ (∀ m : Nat, m < j → ns[m]? ≠ some k) ∧ ns.eraseIdx j = ns.erase k
  | [], _, h => nomatch h
  | x :: ns, k, h => by
    by_cases e : x = k
    · subst e
      exact ⟨0, rfl, fun m hm => absurd hm (Nat.not_lt_zero _), by simp⟩
    · have hk : k ∈ ns := by
        rcases List.mem_cons.mp h with z | z
        · exact absurd z.symm e
        · exact z
      obtain ⟨j, h1, h2, h3⟩ := erase_at hk
      refine ⟨j + 1, by simpa using h1, fun m hm => ?_, ?_⟩
      · cases m with
        | zero => simpa using e
        | succ m => simpa using h2 m (by omega)
      · rw [List.eraseIdx_cons_succ, h3, List.erase_cons, if_neg (by simpa using e)]
section
variable {c : Ctx} {e o : Expr} {x y : E} {pos apos : Pos}
theorem tr_remove (ho : Tr c o x) (ha : Tr c e y) (hbase : ∀ env, attributeBase o "remove" env (eval o env) = eval o env) (hline : (apos.endLine == pos.line) = true) (hs : ∀ env, starEach [e] env = (false, eval e env) :: starEach [] env)
    (hfew : ∀ env, ((backTo pos (starEach [e] env)).all (fun x => !x.1) && (backToKw pos (keywordEach [] env)).all (fun x => x.1.isSome) && decide (([e] : List Expr).length + ([] : List Keyword).length + (if ([] : List Keyword).isEmpty then 0 else 1) < 30)) = true) :
    Tr c (.Call (.Attribute o "remove" apos) [e] [] pos) (.mt x .remove (.cons y .nil)) := fun ρ M Q h X hX F As σ H sr hm G k => by
  have hX' := hX
  cases hX with | mk X k0 nd calm room po =>
  refine ⟨_, pe_bm PySem.F.plainAttrs_list PySem.F.slot_list_remove PySem.F.type_list_remove mt_remove pe_w (pa_cons pe_w pa_nil (hs _)) (hbase _) (hfew _) hline (hs _), ?_⟩
  refine ho.ee h X hX' F As σ H sr hm _ fun v F1 As1 H1 r1 M1 s1 p1 q1 hm1 ⟨hk, h1⟩ => ⟨mt_list hm1 q1 rfl hk, ?_⟩
  refine ha.ee h1 X hX' F1 As1 σ H1 (sr.mono s1 p1) hm1 _ fun u F2 As2 H2 r2 M2 s2 p2 q2 hm2 h2 => ?_
  obtain ⟨j, i, ds, rfl, rfl, e, ⟨hI, hi⟩, q⟩ := inv_remove h2
  obtain ⟨l, hl, rfl⟩ := q1.mono s2 p2
  obtain ⟨ob, hob, vs, rfl, hv⟩ := hm2.cell j l _ hl e
  have := dvs_isI hI hv
  subst this
  have q2 : u = .int i := q2
  subst q2
  obtain ⟨n, g1, g2, g3⟩ := erase_at hi
  refine ⟨l, ds.map intD, i, n, rfl, rfl, by simpa using hob, g1, g2, ?_⟩
  rw [g3]
  exact fin_set (cc := .lst (((ds.map intD).erase i).map D.int)) (d := .non) (Aft.mono k (s1.trans s2) (p1.trans p2)) hm2 (Nat.le_trans (hm.le hm1 p1) (hm1.le hm2 p2)) hl ⟨_, rfl, dvs_ints.mpr rfl⟩ rfl q
end
end Dl
/-! X36: a list with owned items -/
namespace Dl
open PySem L2
section
variable {c : Ctx} {pos : Pos}
theorem slr_all {K : PySem.W.Frag} {F : Hp} {As : List Addr} {M : List C} {p : Addr} {rs : List Sl} {vs : List V} (h : SlRs K F As rs vs) : CR K F As p (.mls rs) (.lst vs) := ⟨vs, rfl, h⟩
theorem tr_lstM {es : List Expr} {as : Es} (hs : TrA c es as) : Tr c (.List es pos) (.lstM as) := fun ρ M Q h X hX F As σ H sr hm G k =>
  ⟨_, pe_lst pa_w, hs ρ M _ h X hX F As σ H sr hm _ fun vs F1 As1 H1 rs M1 s1 p1 r1 hm1 ⟨⟨hz, _⟩, q⟩ => ⟨by rw [← Paired.length r1]; exact Nat.le_trans hz (by decide), fun p hp => fin_new (c := .mls rs) (Aft.mono k s1 p1) hm1 (hm.le hm1 p1) hp ⟨vs, rfl, r1⟩ q⟩⟩
end
end Dl
/-! Y0: cells renamed, chosen, put back -/
namespace Dl
open PySem L2
def Sl.mp (φ : Nat → Nat) : Sl → Sl
  | .own k => .own (φ k)
  | .val d => .val d
  | .un => .un
def C.mp (φ : Nat → Nat) : C → C
  | .lst xs => .lst xs
  | .dic kvs => .dic kvs
  | .mls xs => .mls (xs.map (Sl.mp φ))
  | .mdc kvs => .mdc (kvs.map fun p => (p.1, p.2.mp φ))
  | .ins c j vs => .ins c (φ j) (vs.map (Sl.mp φ))
  | .dxo k => .dxo (φ k)
  | .sob0 c j => .sob0 c (φ j)
  | .sob c j vs => .sob c (φ j) (vs.map (Sl.mp φ))
  | .dxx => .dxx
section
variable {K : PySem.W.Frag} {F F' : Hp} {As Bs : List Addr} {M : List C} {H : Hp} {φ : Nat → Nat}
theorem slr_mp {s : Sl} {v : V} (h : ∀ k ∈ s.refs, Bs[φ k]? = As[k]?) (r : SlR K F As s v) : SlR K F Bs (s.mp φ) v := by
  cases s with
  | un => trivial
  | val d => exact r
  | own k => obtain ⟨a, h1, h2⟩ := r; exact ⟨a, (h k (by simp [Sl.refs])).trans h1, h2⟩
theorem paired_mp {α β γ : Type} {R : α → β → Prop} {R' : γ → β → Prop} {f : α → γ} : ∀ {l : List α} {r : List β}, Paired R l r → (∀ x ∈ l, ∀ y, R x y → R' (f x) y) → Paired R' (l.map f) r
  | _, _, .nil, _ => .nil
  | _, _, .cons h t, g => .cons (g _ List.mem_cons_self _ h) (paired_mp t fun x hx => g x (List.mem_cons_of_mem _ hx))
theorem sr_mp {vs : List Sl} {us : List (Option V)} (h : ∀ k ∈ vs.flatMap Sl.refs, Bs[φ k]? = As[k]?) (r : SR K F As vs us) : SR K F Bs (vs.map (Sl.mp φ)) us := by
  refine ⟨by simpa using r.len, fun i s e z => ?_⟩
  rw [List.getElem?_map] at e
  cases e0 : vs[i]? with
  | none => rw [e0] at e; cases e
  | some s0 =>
    rw [e0] at e
    cases e
    have z0 : s0 ≠ .un := fun q => by subst q; exact z rfl
    obtain ⟨v, g1, g2⟩ := r.get i s0 e0 z0
    exact ⟨v, g1, slr_mp (fun k hk => h k (List.mem_flatMap.mpr ⟨s0, List.mem_of_getElem? e0, hk⟩)) g2⟩
theorem cr_mp {ad : Addr} {c : C} {o : HO} (h : ∀ k ∈ c.refs, Bs[φ k]? = As[k]?) (r : CR K F As ad c o) : CR K F Bs ad (c.mp φ) o := by
  cases c with
  | lst _ => exact r
  | dic _ => exact r
  | mls xs =>
    obtain ⟨vs, h1, h2⟩ := r
    exact ⟨vs, h1, paired_mp h2 fun x hx y z => slr_mp (fun k hk => h k (List.mem_flatMap.mpr ⟨x, hx, hk⟩)) z⟩
  | mdc xs =>
    obtain ⟨vs, h1, h2⟩ := r
    exact ⟨vs, h1, paired_mp h2 fun x hx y z => ⟨z.1, slr_mp (fun k hk => h k (List.mem_flatMap.mpr ⟨x, hx, hk⟩)) z.2⟩⟩
  | ins Cl j vs =>
    obtain ⟨dx, kvs, us, h0, h1, h2, h3⟩ := r
    exact ⟨dx, kvs, us, (h j List.mem_cons_self).trans h0, h1, sr_mp (fun k hk => h k (List.mem_cons_of_mem _ hk)) h2, h3⟩
  | dxo k => obtain ⟨a, h0, h1⟩ := r; exact ⟨a, (h k (by simp [C.refs])).trans h0, h1⟩
  | sob0 Cl j => obtain ⟨a, h0, h1⟩ := r; exact ⟨a, (h j (by simp [C.refs])).trans h0, h1⟩
  | sob Cl j vs =>
    obtain ⟨dx, us, h0, h1, h2, h3⟩ := r
    exact ⟨dx, us, (h j List.mem_cons_self).trans h0, h1, sr_mp (fun k hk => h k (List.mem_cons_of_mem _ hk)) h2, h3⟩
  | dxx => exact r
theorem refs_mp {c : C} {k : Nat} (h : k ∈ (c.mp φ).refs) : ∃ j ∈ c.refs, k = φ j := by
  have sl : ∀ {s : Sl} {k : Nat}, k ∈ (s.mp φ).refs → ∃ j ∈ s.refs, k = φ j := fun {s k} h => by
    cases s with
    | un => cases h
    | val d => cases h
    | own j =>
      have : k = φ j := by simpa [Sl.mp, Sl.refs] using h
      exact ⟨j, by simp [Sl.refs], this⟩
  have sls : ∀ {vs : List Sl} {k : Nat}, k ∈ (vs.map (Sl.mp φ)).flatMap Sl.refs → ∃ j ∈ vs.flatMap Sl.refs, k = φ j := fun {vs k} h => by
    obtain ⟨x, hx, hk⟩ := List.mem_flatMap.mp h
    obtain ⟨y, hy, rfl⟩ := List.mem_map.mp hx
    obtain ⟨j, hj, e⟩ := sl hk
    exact ⟨j, List.mem_flatMap.mpr ⟨y, hy, hj⟩, e⟩
  cases c with
  | lst _ => cases h
  | dic _ => cases h
  | mls xs => exact sls h
  | mdc xs =>
    obtain ⟨x, hx, hk⟩ := List.mem_flatMap.mp h
    obtain ⟨y, hy, rfl⟩ := List.mem_map.mp hx
    obtain ⟨j, hj, e⟩ := sl hk
    exact ⟨j, List.mem_flatMap.mpr ⟨y, hy, hj⟩, e⟩
  | ins Cl j vs =>
    rcases List.mem_cons.mp h with rfl | h
    · exact ⟨j, List.mem_cons_self, rfl⟩
    · obtain ⟨i, hi, e⟩ := sls h
      exact ⟨i, List.mem_cons_of_mem _ hi, e⟩
  | dxo j =>
    have : k = φ j := by simpa [C.mp, C.refs] using h
    exact ⟨j, by simp [C.refs], this⟩
  | sob0 Cl j =>
    have : k = φ j := by simpa [C.mp, C.refs] using h
    exact ⟨j, by simp [C.refs], this⟩
  | sob Cl j vs =>
    rcases List.mem_cons.mp h with rfl | h
    · exact ⟨j, List.mem_cons_self, rfl⟩
    · obtain ⟨i, hi, e⟩ := sls h
      exact ⟨i, List.mem_cons_of_mem _ hi, e⟩
  | dxx => cases h
end
/-! ### places -/
def memN (k : Nat) : List Nat → Bool
  | [] => false
  | x :: xs => Nat.beq x k || memN k xs
theorem memN_iff {k : Nat} : ∀ {ks : List Nat}, memN k ks = true ↔ k ∈ ks
  | [] => by simp [memN]
  | x :: xs => by
    rw [memN, Bool.or_eq_true, memN_iff, List.mem_cons]
    constructor
    · rintro (h | h)
      · exact .inl (Nat.eq_of_beq_eq_true h).symm
      · exact .inr h
    · rintro (h | h)
      · subst h; exact .inl (Nat.beq_refl _)
      · exact .inr h
def plc (ks : List Nat) (k : Nat) : Nat :=
  match ks with
  | [] => 0
  | x :: xs => match Nat.beq x k with
    | true => 0
    | false => plc xs k + 1
theorem plc_get {k : Nat} : ∀ {ks : List Nat}, k ∈ ks → ks[plc ks k]? = some k
  | x :: xs, h => by
    unfold plc
    cases e : Nat.beq x k with
    | true => rw [Nat.eq_of_beq_eq_true e]; rfl
    | false =>
      rcases List.mem_cons.mp h with rfl | h
      · rw [Nat.beq_refl] at e; cases e
      · rw [List.getElem?_cons_succ]; exact plc_get h
theorem plc_at {i k : Nat} {ks : List Nat} (nd : ks.Nodup) (h : ks[i]? = some k) : plc ks k = i := by
  have hi := (List.getElem?_eq_some_iff.mp h).1
  have := plc_get (List.mem_of_getElem? h)
  exact ((List.getElem?_inj hi nd).mp (h.trans this.symm)).symm
def selA {α : Type} [Inhabited α] (As : List α) (ks : List Nat) : List α := ks.map fun k => (lkA As k).getD default
def selM (M : List C) (ks : List Nat) : List C := ks.map fun k => match lkM M k with
  | some c => c.mp (plc ks)
  | none => .dxx
def scat (M : List C) : List Nat → List C → List C
  | k :: ks, c :: N => scat (ptM M k c) ks N
  | _, _ => M
theorem scat_len : ∀ {M : List C} {ks : List Nat} {N : List C}, (scat M ks N).length = M.length
  | M, [], N => by cases N <;> rfl
  | M, k :: ks, [] => rfl
  | M, k :: ks, c :: N => by rw [scat, scat_len, ptM_eq, List.length_set]
theorem scat_out {i : Nat} : ∀ {M : List C} {ks : List Nat} {N : List C}, i ∉ ks → (scat M ks N)[i]? = M[i]?
  | M, [], N, _ => by cases N <;> rfl
  | M, k :: ks, [], _ => rfl
  | M, k :: ks, c :: N, h => by
    rw [scat, scat_out fun z => h (List.mem_cons_of_mem _ z), ptM_eq, List.getElem?_set_ne fun z => h (by simp [z])]
theorem scat_in {i k : Nat} {c : C} : ∀ {M : List C} {ks : List Nat} {N : List C}, ks.Nodup → (∀ k ∈ ks, k < M.length) → ks[i]? = some k → N[i]? = some c → (scat M ks N)[k]? = some c
  | M, [], N, _, _, h, _ => by simp at h
  | M, x :: ks, [], _, _, _, h => by simp at h
  | M, x :: ks, d :: N, nd, lt, h1, h2 => by
    have nd := List.nodup_cons.mp nd
    rw [scat]
    cases i with
    | zero =>
      cases h1; cases h2
      rw [scat_out nd.1, ptM_eq, List.getElem?_set_self (lt _ List.mem_cons_self)]
    | succ i =>
      exact scat_in nd.2 (fun k hk => by rw [ptM_eq, List.length_set]; exact lt k (List.mem_cons_of_mem _ hk)) (by simpa using h1) (by simpa using h2)
def nodupB : List Nat → Bool
  | [] => true
  | x :: xs => !memN x xs && nodupB xs
theorem nodupB_iff : ∀ {ks : List Nat}, nodupB ks = true → ks.Nodup
  | [], _ => .nil
  | x :: xs, h => by
    rw [nodupB, Bool.and_eq_true] at h
    refine List.nodup_cons.mpr ⟨fun z => ?_, nodupB_iff h.2⟩
    rw [memN_iff.mpr z] at h
    cases h.1
/-- those not chosen stand by themselves -/
def rest1 (ks : List Nat) : C → Bool
  | .ins _ j _ => !memN j ks
  | .sob0 _ j => !memN j ks
  | .dxo j => !memN j ks
  | _ => true
def restC (ks : List Nat) : Nat → List C → Bool
  | _, [] => true
  | i, c :: M => (memN i ks || rest1 ks c) && restC ks (i + 1) M
theorem restC_at {ks : List Nat} : ∀ {M : List C} {n i : Nat} {c : C}, restC ks n M = true → M[i]? = some c → (n + i) ∉ ks → rest1 ks c = true
  | [], _, _, _, _, e, _ => by simp at e
  | x :: M, n, i, c, h, e, ni => by
    rw [restC, Bool.and_eq_true] at h
    cases i with
    | zero =>
      cases e
      rcases (Bool.or_eq_true _ _).mp h.1 with z | z
      · exact absurd (memN_iff.mp z) ni
      · exact z
    | succ i => exact restC_at h.2 (by simpa using e) (by rw [show n + 1 + i = n + (i + 1) by omega]; exact ni)
def chosB (M : List C) (ks : List Nat) : Bool := ks.all fun k => match lkM M k with
  | some c => c.refs.all fun j => memN j ks
  | none => false
def okSel (M : List C) (ks : List Nat) : Bool := nodupB ks && chosB M ks && restC ks 0 M
structure OkSel (M : List C) (ks : List Nat) : Prop where
  nd : ks.Nodup
  lt : ∀ k ∈ ks, k < M.length
  cl : ∀ k ∈ ks, ∀ c, M[k]? = some c → ∀ j ∈ c.refs, j ∈ ks
  re : restC ks 0 M = true
theorem okSel_of {M : List C} {ks : List Nat} (h : okSel M ks = true) : OkSel M ks := by
  unfold okSel at h
  rw [Bool.and_eq_true, Bool.and_eq_true] at h
  obtain ⟨⟨h1, h2⟩, h3⟩ := h
  have h2 := List.all_eq_true.mp h2
  have at_ : ∀ k ∈ ks, ∃ c, M[k]? = some c ∧ ∀ j ∈ c.refs, j ∈ ks := fun k hk => by
    have := h2 k hk
    rw [lkM_eq] at this
    cases e : M[k]? with
    | none => rw [e] at this; cases this
    | some c =>
      rw [e] at this
      exact ⟨c, rfl, fun j hj => memN_iff.mp (List.all_eq_true.mp this j hj)⟩
  exact ⟨nodupB_iff h1, fun k hk => by obtain ⟨c, e, _⟩ := at_ k hk; exact (List.getElem?_eq_some_iff.mp e).1, fun k hk c e => by
    obtain ⟨c', e', g⟩ := at_ k hk
    rw [e] at e'; cases e'; exact g, h3⟩
section
variable {K : PySem.W.Frag} {F F' : Hp} {As Bs : List Addr} {M : List C} {H H' : Hp} {ks : List Nat}
theorem selA_get {i k : Nat} {a : Addr} (h : ks[i]? = some k) (ha : As[k]? = some a) : (selA As ks)[i]? = some a := by
  unfold selA
  rw [List.getElem?_map, h]
  show some ((lkA As k).getD default) = _
  rw [lkA_eq, ha]; rfl
theorem selM_get {i k : Nat} {c : C} (h : ks[i]? = some k) (ha : M[k]? = some c) : (selM M ks)[i]? = some (c.mp (plc ks)) := by
  unfold selM
  rw [List.getElem?_map, h]
  show some (match lkM M k with | some c => c.mp (plc ks) | none => .dxx) = _
  rw [lkM_eq, ha]
theorem selA_len : (selA As ks).length = ks.length := List.length_map ..
theorem selM_len : (selM M ks).length = ks.length := List.length_map ..
/-- the addresses not chosen -/
def restA (As : List Addr) (ks : List Nat) : List Addr := As.filter fun a => !decide (a ∈ selA As ks)
theorem restA_iff {a : Addr} : a ∈ restA As ks ↔ a ∈ As ∧ a ∉ selA As ks := by
  unfold restA
  rw [List.mem_filter]
  simp
theorem sel_at (hm : HM K F As M H) (ok : OkSel M ks) {i : Nat} {a : Addr} (e : (selA As ks)[i]? = some a) : ∃ k c, ks[i]? = some k ∧ As[k]? = some a ∧ M[k]? = some c := by
  cases ek : ks[i]? with
  | none =>
    have := (List.getElem?_eq_some_iff.mp e).1
    rw [selA_len] at this
    rw [List.getElem?_eq_none_iff] at ek; omega
  | some k =>
    have hk := ok.lt k (List.mem_of_getElem? ek)
    obtain ⟨a', ha⟩ := hm.addr (List.getElem?_eq_getElem hk)
    rw [selA_get ek ha] at e
    cases e
    exact ⟨k, M[k], rfl, ha, List.getElem?_eq_getElem hk⟩
theorem sel_place (hm : HM K F As M H) (ok : OkSel M ks) {k : Nat} (hk : k ∈ ks) : (selA As ks)[plc ks k]? = As[k]? := by
  have h1 := plc_get hk
  obtain ⟨a', ha⟩ := hm.addr (List.getElem?_eq_getElem (ok.lt k hk))
  rw [selA_get h1 ha, ha]
theorem hm_sel (hm : HM K F As M H) (ok : OkSel M ks) : HM K F (selA As ks) (selM M ks) (dels H (restA As ks)) := by
  refine ⟨?_, by rw [selA_len, selM_len], fun i a c ea ec => ?_, fun a ha => ?_, fun a ha => ?_⟩
  · rw [List.nodup_iff_pairwise_ne, List.pairwise_iff_getElem]
    intro i j hi hj hij e
    have e1 : (selA As ks)[i]? = some (selA As ks)[i] := List.getElem?_eq_getElem hi
    have e2 : (selA As ks)[j]? = some (selA As ks)[j] := List.getElem?_eq_getElem hj
    obtain ⟨k1, c1, a1, b1, _⟩ := sel_at hm ok e1
    obtain ⟨k2, c2, a2, b2, _⟩ := sel_at hm ok e2
    rw [← e] at b2
    have hk := (List.getElem?_inj (List.getElem?_eq_some_iff.mp b1).1 hm.nd).mp (b1.trans b2.symm)
    subst hk
    have := (List.getElem?_inj (List.getElem?_eq_some_iff.mp a1).1 ok.nd).mp (a1.trans a2.symm)
    omega
  · obtain ⟨k, c', ek, eA, eM⟩ := sel_at hm ok ea
    rw [selM_get ek eM] at ec
    cases ec
    obtain ⟨o, h1, h2⟩ := hm.cell k a c' eA eM
    refine ⟨o, by rw [dels_ne fun z => (restA_iff.mp z).2 (List.mem_of_getElem? ea)]; exact h1, cr_mp (fun j hj => ?_) h2⟩
    exact sel_place hm ok (ok.cl k (List.mem_of_getElem? ek) c' eM j hj)
  · obtain ⟨i, e⟩ := List.mem_iff_getElem?.mp ha
    obtain ⟨k, c', ek, eA, eM⟩ := sel_at hm ok e
    exact hm.off a (List.mem_of_getElem? eA)
  · by_cases h : a ∈ As
    · rw [dels_in (restA_iff.mpr ⟨h, ha⟩), hm.off a h]
    · rw [dels_ne fun z => h (restA_iff.mp z).1]; exact hm.out a h
theorem frs_sel (hm : HM K F As M H) (ok : OkSel M ks) : FrSet H (restA As ks) := fun b hb => by
  obtain ⟨hA, hn⟩ := restA_iff.mp hb
  obtain ⟨i, ei⟩ := List.mem_iff_getElem?.mp hA
  have hi : i < M.length := by rw [← hm.len]; exact (List.getElem?_eq_some_iff.mp ei).1
  have hMi : M[i]? = some M[i] := List.getElem?_eq_getElem hi
  obtain ⟨o, h1, h2⟩ := hm.cell i b M[i] ei hMi
  have ni : i ∉ ks := fun z => hn (by
    have := sel_place hm ok z
    rw [ei] at this
    exact List.mem_of_getElem? this)
  have hr := restC_at ok.re hMi (by rw [Nat.zero_add]; exact ni)
  have out : ∀ {j : Nat} {d : Addr}, (!memN j ks) = true → As[j]? = some d → d ∈ restA As ks := fun {j d} h e => by
    refine restA_iff.mpr ⟨List.mem_of_getElem? e, fun z => ?_⟩
    obtain ⟨p, ep⟩ := List.mem_iff_getElem?.mp z
    obtain ⟨k, c', ek, eA, eM⟩ := sel_at hm ok ep
    have := (List.getElem?_inj (List.getElem?_eq_some_iff.mp e).1 hm.nd).mp (e.trans eA.symm)
    subst this
    rw [memN_iff.mpr (List.mem_of_getElem? ek)] at h
    cases h
  refine ⟨o, h1, ?_⟩
  generalize M[i] = c at h2 hr
  cases c with
  | lst xs => obtain ⟨vs, rfl, _⟩ := h2; exact .lst vs
  | dic xs => obtain ⟨vs, rfl, _⟩ := h2; exact .dK vs
  | mls xs => obtain ⟨vs, rfl, _⟩ := h2; exact .lst vs
  | mdc xs => obtain ⟨vs, rfl, _⟩ := h2; exact .dK vs
  | ins Cl j vs => obtain ⟨dx, kvs, us, h3, rfl, _⟩ := h2; exact .ins fun _ => out hr h3
  | dxo k => obtain ⟨a, h3, rfl⟩ := h2; exact .own (out hr h3)
  | sob0 Cl j => obtain ⟨dx, h3, rfl, _⟩ := h2; exact .ins fun _ => out hr h3
  | sob Cl j vs => obtain ⟨dx, us, h3, rfl, _⟩ := h2; exact .ext _
  | dxx => cases h2; exact .xd []
/-- from a callee's cells to the caller's -/
def bk (ks : List Nat) (n : Nat) (i : Nat) : Nat := match lkA ks i with
  | some k => k
  | none => n + (i - ks.length)
def backM (M : List C) (ks : List Nat) (N : List C) : List C := scat M ks (N.map (C.mp (bk ks M.length))) ++ (N.drop ks.length).map (C.mp (bk ks M.length))
theorem backM_len {N : List C} (h : ks.length ≤ N.length) : (backM M ks N).length = M.length + (N.length - ks.length) := by
  unfold backM
  rw [List.length_append, scat_len, List.length_map, List.length_drop]
theorem bk_at (hm : HM K F As M H) (ok : OkSel M ks) {i : Nat} (hi : i < ks.length + Bs.length) : (As ++ Bs)[bk ks M.length i]? = (selA As ks ++ Bs)[i]? := by
  unfold bk
  rw [lkA_eq]
  by_cases h : i < ks.length
  · have e : ks[i]? = some ks[i] := List.getElem?_eq_getElem h
    rw [e]
    have hk := ok.lt _ (List.mem_of_getElem? e)
    obtain ⟨a', ha⟩ := hm.addr (List.getElem?_eq_getElem hk)
    show (As ++ Bs)[ks[i]]? = _
    rw [List.getElem?_append_left (by rw [hm.len]; exact hk), List.getElem?_append_left (by rw [selA_len]; exact h), selA_get e ha, ha]
  · have e : ks[i]? = none := List.getElem?_eq_none_iff.mpr (by omega)
    rw [e]
    show (As ++ Bs)[M.length + (i - ks.length)]? = _
    rw [List.getElem?_append_right (by rw [hm.len]; exact Nat.le_add_right _ _), List.getElem?_append_right (by rw [selA_len]; omega), hm.len, selA_len, Nat.add_sub_cancel_left]
theorem hm_bk {N : List C} (hm : HM K F As M H) (ok : OkSel M ks) (s : Same F F') (h' : HM K F' (selA As ks ++ Bs) N H') (hn : ∀ b ∈ restA As ks, H' b = none) : HM K F' (As ++ Bs) (backM M ks N) (puts H' H (restA As ks)) := by
  have hl := hm.len
  have hlN : N.length = ks.length + Bs.length := by rw [← h'.len, List.length_append, selA_len]
  have nA : ∀ a ∈ selA As ks, a ∉ restA As ks := fun a h z => (restA_iff.mp z).2 h
  have nB : ∀ a ∈ Bs, a ∉ restA As ks := fun a h z => by
    obtain ⟨i, ei⟩ := List.mem_iff_getElem?.mp (List.mem_append_right (selA As ks) h)
    have hi : i < N.length := by rw [← h'.len]; exact (List.getElem?_eq_some_iff.mp ei).1
    obtain ⟨o, h1, _⟩ := h'.cell i a N[i] ei (List.getElem?_eq_getElem hi)
    rw [hn a z] at h1; cases h1
  have AB : ∀ a ∈ As, a ∉ Bs := fun a h z => by
    by_cases hs : a ∈ selA As ks
    · exact (List.nodup_append.mp h'.nd).2.2 a hs a z rfl
    · exact nB a z (restA_iff.mpr ⟨h, hs⟩)
  have refs : ∀ {p : Nat} {c : C}, N[p]? = some c → ∀ k ∈ c.refs, (As ++ Bs)[bk ks M.length k]? = (selA As ks ++ Bs)[k]? := fun {p c} e k hk => bk_at hm ok (by
    have := h'.refs c (List.mem_of_getElem? e) k hk
    omega)
  refine ⟨List.nodup_append.mpr ⟨hm.nd, (List.nodup_append.mp h'.nd).2.1, fun a ha b hb e => AB a ha (e ▸ hb)⟩, ?_, fun i a c ea ec => ?_, fun a ha => ?_, fun a ha => ?_⟩
  · rw [backM_len (by omega), List.length_append]; omega
  · unfold backM at ec
    by_cases hi : i < M.length
    · rw [List.getElem?_append_left (by omega)] at ea
      rw [List.getElem?_append_left (by rw [scat_len]; exact hi)] at ec
      by_cases hk : i ∈ ks
      · have h1 := plc_get hk
        have hp : plc ks i < ks.length := (List.getElem?_eq_some_iff.mp h1).1
        have e0 : N[plc ks i]? = some N[plc ks i] := List.getElem?_eq_getElem (by omega)
        rw [scat_in (c := N[plc ks i].mp (bk ks M.length)) ok.nd ok.lt h1 (by rw [List.getElem?_map, e0]; rfl)] at ec
        cases ec
        have eA : (selA As ks ++ Bs)[plc ks i]? = some a := by
          rw [List.getElem?_append_left (by rw [selA_len]; exact hp), sel_place hm ok hk]; exact ea
        obtain ⟨o, g1, g2⟩ := h'.cell _ a _ eA e0
        have ha : a ∈ selA As ks := by
          rw [List.getElem?_append_left (by rw [selA_len]; exact hp)] at eA
          exact List.mem_of_getElem? eA
        exact ⟨o, by rw [puts_ne (nA a ha)]; exact g1, cr_mp (refs e0) g2⟩
      · rw [scat_out hk] at ec
        obtain ⟨o, g1, g2⟩ := hm.cell i a c ea ec
        have ha : a ∈ restA As ks := restA_iff.mpr ⟨List.mem_of_getElem? ea, fun z => by
          obtain ⟨p, ep⟩ := List.mem_iff_getElem?.mp z
          obtain ⟨k, c', ek, eA, eM⟩ := sel_at hm ok ep
          have := (List.getElem?_inj (List.getElem?_eq_some_iff.mp ea).1 hm.nd).mp (ea.trans eA.symm)
          subst this
          exact hk (List.mem_of_getElem? ek)⟩
        exact ⟨o, by rw [puts_in ha]; exact g1, g2.mono s (List.prefix_append _ _)⟩
    · rw [List.getElem?_append_right (by omega)] at ea
      rw [List.getElem?_append_right (by rw [scat_len]; omega), scat_len, List.getElem?_map, List.getElem?_drop] at ec
      rw [hl] at ea
      cases e0 : N[ks.length + (i - M.length)]? with
      | none => rw [e0] at ec; cases ec
      | some c0 =>
        rw [e0] at ec
        cases ec
        have eA : (selA As ks ++ Bs)[ks.length + (i - M.length)]? = some a := by
          rw [List.getElem?_append_right (by rw [selA_len]; omega), selA_len, Nat.add_sub_cancel_left]; exact ea
        obtain ⟨o, g1, g2⟩ := h'.cell _ a _ eA e0
        exact ⟨o, by rw [puts_ne (nB a (List.mem_of_getElem? ea))]; exact g1, cr_mp (refs e0) g2⟩
  · by_cases hs : a ∈ restA As ks
    · cases e : F' a with
      | none => rfl
      | some o =>
        have := h'.same a o e
        rw [hn a hs] at this; cases this
    · refine h'.off a ?_
      rcases List.mem_append.mp ha with h | h
      · exact List.mem_append_left _ (Classical.byContradiction fun z => hs (restA_iff.mpr ⟨h, z⟩))
      · exact List.mem_append_right _ h
  · have h1 : a ∉ restA As ks := fun z => ha (List.mem_append_left _ (restA_iff.mp z).1)
    rw [puts_ne h1]
    refine h'.out a fun z => ?_
    rcases List.mem_append.mp z with z | z
    · obtain ⟨p, ep⟩ := List.mem_iff_getElem?.mp z
      obtain ⟨k, c', ek, eA, eM⟩ := sel_at hm ok ep
      exact ha (List.mem_append_left _ (List.mem_of_getElem? eA))
    · exact ha (List.mem_append_right _ z)
end
end Dl
/-! Y1: the short syntax evaluated -/
namespace Dl
open PySem L2
/-! ### equal cells, by evaluation -/
mutual
def D.eqb : D → D → Bool
  | .non, .non => true
  | .bl a, .bl b => a == b
  | .int a, .int b => decide (a = b)
  | .str a, .str b => decide (a = b)
  | .lst a, .lst b => D.eqbs a b
  | .tup a, .tup b => D.eqbs a b
  | .dic k a, .dic l b => decide (k = l) && D.eqbs a b
  | .slo c a, .slo d b => decide (c = d) && D.eqbs a b
  | .obj c a, .obj d b => decide (c = d) && D.eqbs a b
  | .scr a, .scr b => decide (a = b)
  | _, _ => false
def D.eqbs : List D → List D → Bool
  | [], [] => true
  | a :: as, b :: bs => D.eqb a b && D.eqbs as bs
  | _, _ => false
end
mutual
theorem D.eqb_refl : ∀ d : D, D.eqb d d = true
  | .non => rfl
  | .bl b => by cases b <;> rfl
  | .int a => by simp [D.eqb]
  | .str a => by simp [D.eqb]
  | .lst a => D.eqbs_refl a
  | .tup a => D.eqbs_refl a
  | .dic k a => by simp [D.eqb, D.eqbs_refl a]
  | .slo c a => by simp [D.eqb, D.eqbs_refl a]
  | .obj c a => by simp [D.eqb, D.eqbs_refl a]
  | .scr a => by simp [D.eqb]
theorem D.eqbs_refl : ∀ d : List D, D.eqbs d d = true
  | [] => rfl
  | a :: as => by rw [D.eqbs, D.eqb_refl a, D.eqbs_refl as]; rfl
end
mutual
theorem D.eqb_eq : ∀ {a b : D}, D.eqb a b = true → a = b
  | .non, b, h => by cases b <;> first | rfl | cases h
  | .bl a, b, h => by cases b <;> first | (cases h; done) | (rw [eq_of_beq h])
  | .int a, b, h => by cases b <;> first | (cases h; done) | (rw [of_decide_eq_true h])
  | .str a, b, h => by cases b <;> first | (cases h; done) | (rw [of_decide_eq_true h])
  | .lst a, b, h => by cases b <;> first | (cases h; done) | (rw [D.eqbs_eq h])
  | .tup a, b, h => by cases b <;> first | (cases h; done) | (rw [D.eqbs_eq h])
  | .dic k a, b, h => by
    cases b <;> first | (cases h; done) | (have h := Bool.and_eq_true_iff.mp h; rw [of_decide_eq_true h.1, D.eqbs_eq h.2])
  | .slo k a, b, h => by
    cases b <;> first | (cases h; done) | (have h := Bool.and_eq_true_iff.mp h; rw [of_decide_eq_true h.1, D.eqbs_eq h.2])
  | .obj k a, b, h => by
    cases b <;> first | (cases h; done) | (have h := Bool.and_eq_true_iff.mp h; rw [of_decide_eq_true h.1, D.eqbs_eq h.2])
  | .scr a, b, h => by cases b <;> first | (cases h; done) | (rw [of_decide_eq_true h])
theorem D.eqbs_eq : ∀ {a b : List D}, D.eqbs a b = true → a = b
  | [], b, h => by cases b <;> first | rfl | cases h
  | a :: as, b, h => by
    cases b <;> first | (cases h; done) | (have h := Bool.and_eq_true_iff.mp h; rw [D.eqb_eq h.1, D.eqbs_eq h.2])
end
def Sl.eqb : Sl → Sl → Bool
  | .val a, .val b => D.eqb a b
  | .own a, .own b => decide (a = b)
  | .un, .un => true
  | _, _ => false
theorem Sl.eqb_refl (s : Sl) : Sl.eqb s s = true := by cases s <;> simp [Sl.eqb, D.eqb_refl]
theorem Sl.eqb_eq {a b : Sl} (h : Sl.eqb a b = true) : a = b := by
  cases a <;> cases b <;> first | (cases h; done) | rfl | (rw [D.eqb_eq h]) | (rw [of_decide_eq_true h])
def Sl.eqbs : List Sl → List Sl → Bool
  | [], [] => true
  | a :: as, b :: bs => Sl.eqb a b && Sl.eqbs as bs
  | _, _ => false
theorem Sl.eqbs_refl : ∀ s : List Sl, Sl.eqbs s s = true
  | [] => rfl
  | a :: as => by rw [Sl.eqbs, Sl.eqb_refl a, Sl.eqbs_refl as]; rfl
theorem Sl.eqbs_eq : ∀ {a b : List Sl}, Sl.eqbs a b = true → a = b
  | [], b, h => by cases b <;> first | rfl | cases h
  | a :: as, b, h => by
    cases b <;> first | (cases h; done) | (have h := Bool.and_eq_true_iff.mp h; rw [Sl.eqb_eq h.1, Sl.eqbs_eq h.2])
/-- a cell is as it was (lists and dicts alone) -/
def C.eqb : C → C → Bool
  | .lst a, .lst b => D.eqbs a b
  | .dic a, .dic b => decide (a.map (·.1) = b.map (·.1)) && D.eqbs (a.map (·.2)) (b.map (·.2))
  | .mls a, .mls b => Sl.eqbs a b
  | _, _ => false
theorem pairs_eq {α β : Type} : ∀ {a b : List (α × β)}, a.map (·.1) = b.map (·.1) → a.map (·.2) = b.map (·.2) → a = b
  | [], [], _, _ => rfl
  | [], _ :: _, h, _ => by cases h
  | _ :: _, [], h, _ => by cases h
  | x :: a, y :: b, h1, h2 => by
    have h1 := List.cons.inj h1
    have h2 := List.cons.inj h2
    rw [pairs_eq h1.2 h2.2, show x = y from Prod.ext h1.1 h2.1]
theorem C.eqb_eq {a b : C} (h : C.eqb a b = true) : a = b := by
  cases a <;> cases b <;> first | (cases h; done) | (rw [D.eqbs_eq h]; done) | (rw [Sl.eqbs_eq h]; done) | skip
  have h := Bool.and_eq_true_iff.mp h
  rw [pairs_eq (of_decide_eq_true h.1) (D.eqbs_eq h.2)]
/-- the cells ks stay -/
def keepB (M1 : List C) (ks : List Nat) (M' : List C) : Bool := ks.all fun k => match lkM M' k, lkM M1 k with
  | some a, some b => C.eqb a b
  | _, _ => false
theorem keepB_of {M1 M' : List C} {ks : List Nat} (h : keepB M1 ks M' = true) : ∀ k ∈ ks, lkM M' k = lkM M1 k := fun k hk => by
  have := List.all_eq_true.mp h k hk
  split at this
  · rename_i a b e1 e2
    rw [e1, e2, C.eqb_eq this]
  · cases this
theorem keepB_lst {M1 M' : List C} {k : Nat} {ds : List D} (h1 : lkM M1 k = some (.lst ds)) (h2 : lkM M' k = some (.lst ds)) : keepB M1 [k] M' = true := by
  unfold keepB
  rw [List.all_cons, h1, h2]
  simp [C.eqb, D.eqbs_refl]
theorem keepB_nil {M1 M' : List C} : keepB M1 [] M' = true := rfl

/-! ### results -/
inductive Ev (α : Type) where
  | ok (a : α) (M : List C)
  | ex (x : D) (M : List C)
  | bad
def Ev.bd {α β : Type} (x : Ev α) (f : α → List C → Ev β) : Ev β :=
  match x with
  | .ok a M => f a M
  | .ex d M => .ex d M
  | .bad => .bad
theorem bd_ok {α β : Type} {a : α} {M : List C} {f : α → List C → Ev β} : (Ev.ok a M).bd f = f a M := rfl
theorem bd_inv {α β : Type} {x : Ev α} {f : α → List C → Ev β} {b : β} {M : List C} (h : x.bd f = .ok b M) : ∃ a M1, x = .ok a M1 ∧ f a M1 = .ok b M := by
  cases x with
  | ok a M1 => exact ⟨a, M1, rfl, h⟩
  | ex d M1 => cases h
  | bad => cases h
/-- a value, or nothing -/
def opt {α : Type} (o : Option α) (M : List C) : Ev α :=
  match o with
  | some a => .ok a M
  | none => .bad
theorem opt_inv {α : Type} {o : Option α} {M M1 : List C} {a : α} (h : opt o M = .ok a M1) : o = some a ∧ M1 = M := by
  cases o with
  | none => cases h
  | some b => cases h; exact ⟨rfl, rfl⟩
abbrev Den := List Sl → List C → Ev Z
/-- what is new is frozen -/
def vz (x : Ev Z) : Ev Sl := x.bd fun z M => match z with
  | .s r => .ok r M
  | .n c => opt (match c.frz with
    | some d => some (.val d)
    | none => none) M
theorem vz_inv {x : Ev Z} {r : Sl} {M1 : List C} (h : vz x = .ok r M1) : ∃ z, x = .ok z M1 ∧ ∀ Q : Sl → List C → Prop, Q r M1 → z.fz M1 Q := by
  obtain ⟨z, M', rfl, h⟩ := bd_inv h
  cases z with
  | s r' => cases h; exact ⟨_, rfl, fun Q q => q⟩
  | n c =>
    obtain ⟨h1, h2⟩ := opt_inv h
    subst h2
    refine ⟨_, rfl, fun Q q => ?_⟩
    show (match c.frz with | some d => Q (.val d) M1 | none => False)
    cases e : c.frz with
    | none => rw [e] at h1; cases h1
    | some d => rw [e] at h1; cases h1; exact q
/-! ### operators -/
def mulB (i j : Int) : Bool := decide (-18446744073709551616 < i ∧ i < 18446744073709551616) || decide (-18446744073709551616 < j ∧ j < 18446744073709551616)
theorem mulB_of {i j : Int} (h : mulB i j = true) : CMul i j := by
  unfold mulB at h
  rcases (Bool.or_eq_true _ _).mp h with h | h
  · exact .inl (of_decide_eq_true h)
  · exact .inr (of_decide_eq_true h)
def gd {α : Type} (b : Bool) (a : α) : Option α :=
  match b with
  | true => some a
  | false => none
theorem gd_inv {α : Type} {b : Bool} {a a' : α} (h : gd b a = some a') : b = true ∧ a = a' := by
  cases b with
  | false => cases h
  | true => cases h; exact ⟨rfl, rfl⟩
def addE (r1 r2 : Sl) (M : List C) : Option Z :=
  match sq M r1, sq M r2 with
  | some (true, xs), some (true, ys) => gd (decide (xs.length + ys.length ≤ 100000)) (.n (.lst (xs ++ ys)))
  | some (false, xs), some (false, ys) => gd (decide (xs.length + ys.length ≤ 100000)) (.s (.val (.tup (xs ++ ys))))
  | _, _ => none
def repE (r1 : Sl) (j : Int) (M : List C) : Option Z :=
  match sq M r1 with
  | some (true, xs) => gd (decide (0 ≤ j ∧ j ≤ 1000 ∧ xs.length ≤ 1000)) (.n (.lst (List.replicate j.toNat xs).flatten))
  | _ => none
def binE (o : Operator) (r1 r2 : Sl) (M : List C) : Option Z :=
  match o with
  | .Add => match r1, r2 with
    | .val (.int i), .val (.int j) => some (.s (.val (.int (i + j))))
    | _, _ => addE r1 r2 M
  | .Sub => match r1, r2 with
    | .val (.int i), .val (.int j) => some (.s (.val (.int (i - j))))
    | _, _ => none
  | .Mult => match r1, r2 with
    | .val (.int i), .val (.int j) => gd (mulB i j) (.s (.val (.int (i * j))))
    | _, .val (.int j) => repE r1 j M
    | _, _ => none
  | .FloorDiv => match r1, r2 with
    | .val (.int i), .val (.int j) => gd (decide (0 < j ∧ j < 1073741824)) (.s (.val (.int (i / j))))
    | _, _ => none
  | .Mod => match r1, r2 with
    | .val (.int i), .val (.int j) => gd (decide (0 < j)) (.s (.val (.int (i % j))))
    | _, _ => none
  | .Pow => match r1, r2 with
    | .val (.int i), .val (.int j) => gd (decide (0 ≤ j ∧ j ≤ 1000000 ∧ i.natAbs < 18446744073709551616)) (.s (.val (.int (i ^ j.toNat))))
    | _, _ => none
  | _ => none
def eqE (r1 r2 : Sl) (M : List C) : Option Bool :=
  match r1, r2 with
  | .val (.int i), .val (.int j) => some (decide (i = j))
  | .val (.bl i), .val (.bl j) => some (i == j)
  | .val (.str i), .val (.str j) => some (decide (i = j))
  | _, _ => match vw M r1, vw M r2 with
    | some d, some d' => gd (plain 60 d && plain 60 d') (eqD d d')
    | _, _ => none
def inE (r1 r2 : Sl) (M : List C) : Option Bool :=
  match r1 with
  | .val d => match sq M r2 with
    | some (_, ds) => gd (atomD d && ds.all atomD) (inD d ds)
    | none => match dq M r2, keyD d with
      | some kvs, some k => some (getK kvs k).isSome
      | _, _ => none
  | _ => none
def ngO (o : Option Bool) : Option Bool :=
  match o with
  | some b => some (!b)
  | none => none
def cmpE (o : CmpOp) (r1 r2 : Sl) (M : List C) : Option Bool :=
  match o with
  | .Lt => match r1, r2 with
    | .val (.int i), .val (.int j) => some (decide (i < j))
    | _, _ => none
  | .LtE => match r1, r2 with
    | .val (.int i), .val (.int j) => some (decide (i ≤ j))
    | _, _ => none
  | .Gt => match r1, r2 with
    | .val (.int i), .val (.int j) => some (decide (j < i))
    | _, _ => none
  | .GtE => match r1, r2 with
    | .val (.int i), .val (.int j) => some (decide (j ≤ i))
    | _, _ => none
  | .Eq => eqE r1 r2 M
  | .NotEq => ngO (eqE r1 r2 M)
  | .Is => match r1, r2 with
    | .un, _ => none
    | _, .val .non => some r1.isNon
    | _, _ => none
  | .IsNot => match r1, r2 with
    | .un, _ => none
    | _, .val .non => some (!r1.isNon)
    | _, _ => none
  | .In => inE r1 r2 M
  | .NotIn => ngO (inE r1 r2 M)
/-! ### built-ins -/
def biE (b : Fb) (rs : List Sl) (M : List C) : Option Z :=
  match b with
  | .len => match rs with
    | [r] => match sq M r with
      | some (_, ds) => some (.s (.val (.int ds.length)))
      | none => match dq M r with
        | some kvs => some (.s (.val (.int kvs.length)))
        | none => none
    | _ => none
  | .abs => match rs with
    | [.val (.int i)] => some (.s (.val (.int (if i < 0 then -i else i))))
    | _ => none
  | .int => match rs with
    | [.val (.int i)] => some (.s (.val (.int i)))
    | [.val (.bl t)] => some (.s (.val (.int (if t then 1 else 0))))
    | _ => none
  | .tuple => match rs with
    | [r] => match sq M r with
      | some (_, ds) => some (.s (.val (.tup ds)))
      | none => none
    | _ => none
  | .list => match rs with
    | [r] => match sq M r with
      | some (_, ds) => some (.n (.lst ds))
      | none => match dq M r with
        | some kvs => gd (decide (kvs.length ≤ 1000)) (.n (.lst (kvs.map fun p => kD p.1)))
        | none => none
    | _ => none
  | .sorted => match rs with
    | [r] => match sq M r with
      | some (true, ds) => gd (ds.all isI) (.n (.lst ((isort (ds.map intD)).map D.int)))
      | some (false, ds) => none
      | none => match dq M r with
        | some kvs => gd ((kvs.map fun p => kD p.1).all isI && decide (kvs.length < 64)) (.n (.lst ((isort (kvs.map fun p => intD (kD p.1))).map D.int)))
        | none => none
    | _ => none
  | .all => match rs with
    | [r] => match sq M r with
      | some (true, ds) => gd (ds.all isB) (.s (.val (.bl (ds.all blD))))
      | _ => none
    | _ => none
  | .any => match rs with
    | [r] => match sq M r with
      | some (true, ds) => gd (ds.all isB) (.s (.val (.bl (ds.any blD))))
      | _ => none
    | _ => none
  | .sum => match rs with
    | [r] => match sq M r with
      | some (true, ds) => gd (ds.all isI) (.s (.val (.int (ds.map intD).sum)))
      | _ => none
    | _ => none
  | .max => match rs with
    | [.val (.int i), .val (.int j)] => some (.s (.val (.int (Max.max i j))))
    | [r] => match sq M r with
      | some (true, ds) => gd (ds.all isI && decide (0 < ds.length)) (.s (.val (.int (maxL (ds.map intD)))))
      | _ => none
    | _ => none
  | .min => match rs with
    | [.val (.int i), .val (.int j)] => some (.s (.val (.int (Min.min i j))))
    | [r] => match sq M r with
      | some (true, ds) => gd (ds.all isI && decide (0 < ds.length)) (.s (.val (.int (minL (ds.map intD)))))
      | _ => none
    | _ => none
  | .sset => match rs with
    | [r] => match sq M r with
      | some (_, ds) => gd (ds.all isI && decide (ds.length < 64)) (.n (.lst ((sset (ds.map intD)).map D.int)))
      | none => none
    | _ => none
  | .lrange => match rs with
    | [.val (.int i)] => gd (decide (-100000 ≤ i ∧ i ≤ 100000)) (.n (.lst ((rng 0 i.toNat).map D.int)))
    | [.val (.int i), .val (.int j)] => gd (decide (-100000 ≤ i ∧ i ≤ 100000 ∧ -100000 ≤ j ∧ j ≤ 100000)) (.n (.lst ((rng i (j - i).toNat).map D.int)))
    | _ => none
def ixE (r1 r2 : Sl) (M : List C) : Option Sl :=
  match r2 with
  | .val d => match sq M r1 with
    | some (_, ds) => match d with
      | .int i => match atI ds i with
        | some x => some (.val x)
        | none => none
      | _ => none
    | none => match keyD d with
      | none => none
      | some k => match r1 with
        | .own j => match lkM M j with
          | some (.dic kvs) => match getK kvs k with
            | some x => some (.val x)
            | none => none
          | some (.mdc kvs) => getK kvs k
          | some (.mls xs) => match d with
            | .int i => atI xs i
            | _ => none
          | _ => none
        | .val (.dic ks vs) => match getK (ks.zip vs) k with
          | some x => some (.val x)
          | none => none
        | _ => none
  | _ => none
def bindE (tg : Tg) (d : D) (ρ : List Sl) : Option (List Sl) :=
  match tg with
  | .n i => some (pt ρ i (.val d))
  | .t [i, j] => match d with
    | .tup [x, y] => some (pt (pt ρ i (.val x)) j (.val y))
    | _ => none
  | .t _ => none
def mtE (m : Mth) (r : Sl) (rs : List Sl) (M : List C) : Option (Z × List C) :=
  match m with
  | .append => match r, rs with
    | .own k, [.val d] => match lkM M k with
      | some (.lst ds) => gd (decide (ds.length < 100000)) (.s (.val .non), ptM M k (.lst (ds ++ [d])))
      | _ => none
    | _, _ => none
  | .extend => match r, rs with
    | .own k, [s] => match lkM M k, sq M s with
      | some (.lst ds), some (true, xs) => gd (decide (ds.length + xs.length < 100000)) (.s (.val .non), ptM M k (.lst (ds ++ xs)))
      | _, _ => none
    | _, _ => none
  | .pop => match r, rs with
    | .own k, [] => match lkM M k with
      | some (.lst ds) => match ds.getLast? with
        | some d => some (.s (.val d), ptM M k (.lst ds.dropLast))
        | none => none
      | _ => none
    | _, _ => none
  | .remove => match r, rs with
    | .own k, [.val (.int i)] => match lkM M k with
      | some (.lst ds) => gd (ds.all isI && decide (i ∈ ds.map intD)) (.s (.val .non), ptM M k (.lst (((ds.map intD).erase i).map D.int)))
      | _ => none
    | _, _ => none
  | .get1 => match r, rs with
    | r, [.val d] => match dq M r, keyD d with
      | some kvs, some kk => match getK kvs kk with
        | some x => some (.s (.val x), M)
        | none => some (.s (.val .non), M)
      | _, _ => none
    | _, _ => none
  | .get2 => match r, rs with
    | r, [.val d, s] => match dq M r, keyD d with
      | some kvs, some kk => match getK kvs kk with
        | some x => some (.s (.val x), M)
        | none => gd (slOk s) (.s s, M)
      | _, _ => none
    | _, _ => none
  | _ => none
def setE (r1 r2 : Sl) (d : Sl) (M : List C) : Option (List C) :=
  match r1 with
  | .own k => match r2 with
    | .val x => match lkM M k with
      | some (.lst ds) => match x, d with
        | .int i, .val y => match ixN ds.length i with
          | some n => some (ptM M k (.lst (ds.set n y)))
          | none => none
        | _, _ => none
      | some (.dic kvs) => match keyD x, d with
        | some kk, .val y => gd (decide (kvs.length < 100000)) (ptM M k (.dic (putD kvs kk y)))
        | _, _ => none
      | some (.mdc kvs) => match keyD x with
        | some kk => gd (decide (kvs.length < 100000) && slOk d) (ptM M k (.mdc (putD kvs kk d)))
        | none => none
      | _ => none
    | _ => none
  | _ => none
/-! ### calls -/
def refsAt (M : List C) (k : Nat) : List Nat :=
  match lkM M k with
  | some c => c.refs
  | none => []
def clo (M : List C) : Nat → List Nat → List Nat → List Nat
  | 0, _, seen => seen
  | _ + 1, [], seen => seen
  | n + 1, k :: todo, seen => match memN k seen with
    | true => clo M n todo seen
    | false => clo M n (todo ++ refsAt M k) (seen ++ [k])
def reach (M : List C) (rs : List Sl) : List Nat := clo M 100 (rs.flatMap Sl.refs) []
def Z.mp (φ : Nat → Nat) : Z → Z
  | .s r => .s (r.mp φ)
  | .n c => .n (c.mp φ)
def doCallAt (f : Den) (ks : List Nat) (rs : List Sl) (M : List C) : Ev Z :=
  match okSel M ks && (rs.all fun r => r.refs.all fun k => memN k ks) with
  | true => (f (rs.map (Sl.mp (plc ks))) (selM M ks)).bd fun z N => match Nat.ble ks.length N.length with
    | true => .ok (z.mp (bk ks M.length)) (backM M ks N)
    | false => .bad
  | false => .bad
def doCall (of : Option Den) (rs : List Sl) (M : List C) : Ev Z :=
  match of with
  | some f => doCallAt f (reach M rs) rs M
  | none => .bad
/-! ### the end of a def -/
def closedB (n : Nat) (M : List C) : Bool := M.all fun c => c.refs.all fun k => Nat.blt k n
def okTake (n : Nat) (M : List C) : Bool := Nat.ble n M.length && closedB n (M.take n)
def finZ (n : Nat) (z : Z) (M : List C) : Ev Z :=
  match z with
  | .s (.val d) => match okTake n M with
    | true => .ok (.s (.val d)) (M.take n)
    | false => .bad
  | .n (.lst xs) => match okTake n M with
    | true => .ok (.n (.lst xs)) (M.take n)
    | false => .bad
  | .n (.dic xs) => match okTake n M with
    | true => .ok (.n (.dic xs)) (M.take n)
    | false => .bad
  | .s (.own k) => match Nat.blt k n with
    | true => match okTake n M with
      | true => .ok (.s (.own k)) (M.take n)
      | false => .bad
    | false => match lkM M k with
      | some (.lst xs) => match okTake n M with
        | true => .ok (.n (.lst xs)) (M.take n)
        | false => .bad
      | some (.dic xs) => match okTake n M with
        | true => .ok (.n (.dic xs)) (M.take n)
        | false => .bad
      | _ => .ok (.s (.own k)) M
  | _ => .bad
/-! ### loops -/
inductive Rs where
  | nx (ρ : List Sl) | rt (z : Z) | bk (ρ : List Sl) | ct (ρ : List Sl)
def trimE (n : Nat) (dead : List Nat) (ρ : List Sl) (M : List C) : Ev (List Sl) :=
  match okTake n M with
  | true => .ok ((clr ρ dead).map (Sl.trim n)) (M.take n)
  | false => .bad
def lcE (f : D → List C → Ev (List D)) (ok : List C → Bool) : List D → List D → List C → Ev (List D)
  | [], acc, M => .ok acc M
  | d :: ds, acc, M => (f d M).bd fun out M' => match ok M' with
    | true => lcE f ok ds (acc ++ out) M'
    | false => .bad
def dcE (f : D → List C → Ev (List (Key × D))) (ok : List C → Bool) : List D → List (Key × D) → List C → Ev (List (Key × D))
  | [], acc, M => .ok acc M
  | d :: ds, acc, M => (f d M).bd fun out M' => match ok M' with
    | true => dcE f ok ds (out.foldl (fun a p => putD a p.1 p.2) acc) M'
    | false => .bad
def forE (body : D → List Sl → List C → Ev Rs) (tr : List Sl → List C → Ev (List Sl)) (ok : List C → Bool) : List D → List Sl → List C → Ev Rs
  | [], ρ, M => .ok (.nx ρ) M
  | d :: ds, ρ, M => (body d ρ M).bd fun r M' => match r with
    | .nx ρ' => (tr ρ' M').bd fun ρ2 M2 => match ok M2 with
      | true => forE body tr ok ds ρ2 M2
      | false => .bad
    | .ct ρ' => (tr ρ' M').bd fun ρ2 M2 => match ok M2 with
      | true => forE body tr ok ds ρ2 M2
      | false => .bad
    | .bk ρ' => .ok (.nx ρ') M'
    | .rt z => .ok (.rt z) M'
def whileE (test : List Sl → List C → Ev Bool) (body : List Sl → List C → Ev Rs) (tr : List Sl → List C → Ev (List Sl)) : Nat → List Sl → List C → Ev Rs
  | 0, _, _ => .bad
  | n + 1, ρ, M => (test ρ M).bd fun t M1 => match t with
    | true => (body ρ M1).bd fun r M' => match r with
      | .nx ρ' => (tr ρ' M').bd fun ρ2 M2 => whileE test body tr n ρ2 M2
      | .ct ρ' => (tr ρ' M').bd fun ρ2 M2 => whileE test body tr n ρ2 M2
      | .bk ρ' => .ok (.nx ρ') M'
      | .rt z => .ok (.rt z) M'
    | false => .ok (.nx ρ) M1
def fuelW : Nat := 1000000
def eqLen (M1 M' : List C) : Bool := Nat.beq M'.length M1.length
/-! ### the evaluation -/
mutual
def evR (env : List Den) : E → List Sl → List C → Ev Z
  | .v i, ρ, M => match lk ρ i with
    | .val d => .ok (.s (.val d)) M
    | .own k => .ok (.s (.own k)) M
    | .un => .bad
  | .k d, _, M => .ok (.s (.val d)) M
  | .g _ d, _, M => .ok (.s (.val d)) M
  | .bin o a b, ρ, M => (vz (evR env a ρ M)).bd fun r1 M1 => (vz (evR env b ρ M1)).bd fun r2 M2 => opt (binE o r1 r2 M2) M2
  | .neg a, ρ, M => (vz (evR env a ρ M)).bd fun r M1 => match r with
    | .val (.int i) => .ok (.s (.val (.int (-i)))) M1
    | _ => .bad
  | .cmp o a b, ρ, M => (vz (evR env a ρ M)).bd fun r1 M1 => (vz (evR env b ρ M1)).bd fun r2 M2 => (opt (cmpE o r1 r2 M2) M2).bd fun t M3 => .ok (.s (.val (.bl t))) M3
  | .cmp2 o o' a b c, ρ, M => (vz (evR env a ρ M)).bd fun r1 M1 => (vz (evR env b ρ M1)).bd fun r2 M2 => (opt (cmpE o r1 r2 M2) M2).bd fun t M2 => match t with
    | true => (vz (evR env c ρ M2)).bd fun r3 M3 => (opt (cmpE o' r2 r3 M3) M3).bd fun t M3 => .ok (.s (.val (.bl t))) M3
    | false => .ok (.s (.val (.bl false))) M2
  | .not a, ρ, M => (vz (evR env a ρ M)).bd fun r M1 => match r with
    | .val (.bl t) => .ok (.s (.val (.bl (!t)))) M1
    | _ => .bad
  | .and a b, ρ, M => (vz (evR env a ρ M)).bd fun r M1 => match r with
    | .val (.bl t) => match t with
      | true => evR env b ρ M1
      | false => .ok (.s (.val (.bl false))) M1
    | _ => .bad
  | .or a b, ρ, M => (vz (evR env a ρ M)).bd fun r M1 => match r with
    | .val (.bl t) => match t with
      | false => evR env b ρ M1
      | true => .ok (.s (.val (.bl true))) M1
    | _ => .bad
  | .ife t a b, ρ, M => (evT env t ρ M).bd fun t M1 => match t with
    | true => evR env a ρ M1
    | false => evR env b ρ M1
  | .tup as, ρ, M => (evA env as ρ M).bd fun rs M1 => match valsOf rs with
    | some ds => match Nat.ble ds.length 100000 with
      | true => .ok (.s (.val (.tup ds))) M1
      | false => .bad
    | none => .bad
  | .lst as, ρ, M => (evA env as ρ M).bd fun rs M1 => match valsOf rs with
    | some ds => match Nat.ble ds.length 100000 with
      | true => .ok (.n (.lst ds)) M1
      | false => .bad
    | none => .bad
  | .dct ps, ρ, M => (evA env ps ρ M).bd fun rs M1 => match pairsR rs with
    | some kvs => match Nat.ble kvs.length 15 with
      | true => .ok (.n (kvC kvs)) M1
      | false => .bad
    | none => .bad
  | .lstM as, ρ, M => (evA env as ρ M).bd fun rs M1 => match Nat.ble rs.length 100000 && rs.all slOk with
    | true => .ok (.n (.mls rs)) M1
    | false => .bad
  | .orl a b, ρ, M => (evR env a ρ M).bd fun z M1 => match z with
    | .n (.lst (d :: ds)) => .ok (.n (.lst (d :: ds))) M1
    | .n (.lst []) => evR env b ρ M1
    | _ => .bad
  | .bad, _, _ => .bad
  | .ix a i, ρ, M => (vz (evR env a ρ M)).bd fun r1 M1 => (vz (evR env i ρ M1)).bd fun r2 M2 => (opt (ixE r1 r2 M2) M2).bd fun r M2 => .ok (.s r) M2
  | .cut a lo hi, ρ, M => (vz (evR env a ρ M)).bd fun r M1 => (evO env lo ρ M1).bd fun lo M2 => (evO env hi ρ M2).bd fun hi M3 => match sq M3 r with
    | some (true, ds) => .ok (.n (.lst (cutL ds lo hi))) M3
    | some (false, ds) => .ok (.s (.val (.tup (cutL ds lo hi)))) M3
    | none => match r with
      | .val (.scr ns) => .ok (.n (.lst ((cutL ns lo hi).map D.int))) M3
      | _ => .bad
  | .rev a, ρ, M => (vz (evR env a ρ M)).bd fun r M1 => match sq M1 r with
    | some (true, ds) => .ok (.n (.lst ds.reverse)) M1
    | _ => .bad
  | .fld a c i, ρ, M => (vz (evR env a ρ M)).bd fun r M1 => match fldR M1 c i r with
    | some (.val d) => .ok (.s (.val d)) M1
    | some (.own k) => .ok (.s (.own k)) M1
    | _ => .bad
  | .bi b as, ρ, M => (evA env as ρ M).bd fun rs M1 => opt (biE b rs M1) M1
  | .isi a ts, ρ, M => (vz (evR env a ρ M)).bd fun r M1 => match vw M1 r with
    | some d => match kindD d == "?" with
      | false => .ok (.s (.val (.bl (ts.any fun t => isA (kindD d) t)))) M1
      | true => .bad
    | none => .bad
  | .lenO n a, ρ, M => (vz (evR env a ρ M)).bd fun r M1 => match r, lkA env n with
    | .val (.slo 1 ds), some f => match f [.val (.slo 1 ds)] [] with
      | .ok (.s (.val (.int i))) [] => match decide (0 ≤ i ∧ i < 9223372036854775808) with
        | true => .ok (.s (.val (.int i))) M1
        | false => .bad
      | _ => .bad
    | _, _ => .bad
  | .call n _ as, ρ, M => (evA env as ρ M).bd fun rs M1 => doCall (lkA env n) rs M1
  | .callk n _ ks idx as, ρ, M => (evA env as ρ M).bd fun rs M1 => match Nat.beq rs.length ks.length with
    | true => doCall (lkA env n) (idx.map fun i => lk0 rs i) M1
    | false => .bad
  | .meth n a c _ as, ρ, M => (vz (evR env a ρ M)).bd fun r M1 => match recvC M1 r with
    | some c' => match Nat.beq c' c with
      | true => (evA env as ρ M1).bd fun rs M2 => doCall (lkA env n) (r :: rs) M2
      | false => .bad
    | none => .bad
  | .make n _ as, ρ, M => (evA env as ρ M).bd fun rs M1 => match valsOf rs with
    | some _ => doCall (lkA env n) rs M1
    | none => .bad
  | .mt a m as, ρ, M => (vz (evR env a ρ M)).bd fun r M1 => match mtOk m r M1 with
    | true => (evA env as ρ M1).bd fun rs M2 => match mtE m r rs M2 with
      | some (z, M3) => .ok z M3
      | none => .bad
    | false => .bad
  | .lc gs own, ρ, M => (evG env gs (clr ρ own) M).bd fun out M1 => .ok (.n (.lst out)) M1
  | .dc gs own, ρ, M => (evD env gs (clr ρ own) M).bd fun out M1 => .ok (.n (.dic out)) M1
  | .own a, ρ, M => (evR env a ρ M).bd fun z M1 => match z with
    | .n c => .ok (.s (.own M1.length)) (M1 ++ [c])
    | .s _ => .bad
  | .lend a, ρ, M => (evR env a (ρ.map (lendS M)) []).bd fun z _ => match z with
    | .s (.val d) => match flatD d with
      | true => .ok (.s (.val d)) M
      | false => .bad
    | .n (.lst ds) => match flatDs ds with
      | true => .ok (.n (.lst ds)) M
      | false => .bad
    | _ => .bad
  | .scope a, ρ, M => (vz (evR env a ρ M)).bd fun r M1 => match r, okTake M.length M1 with
    | .val d, true => .ok (.s (.val d)) (M1.take M.length)
    | _, _ => .bad
def evT (env : List Den) : Te → List Sl → List C → Ev Bool
  | .not a, ρ, M => (evT env a ρ M).bd fun t M1 => .ok (!t) M1
  | .and a b, ρ, M => (evT env a ρ M).bd fun t M1 => match t with
    | true => evT env b ρ M1
    | false => .ok false M1
  | .or a b, ρ, M => (evT env a ρ M).bd fun t M1 => match t with
    | false => evT env b ρ M1
    | true => .ok true M1
  | .cmp o a b, ρ, M => (vz (evR env a ρ M)).bd fun r1 M1 => (vz (evR env b ρ M1)).bd fun r2 M2 => opt (cmpE o r1 r2 M2) M2
  | .e a, ρ, M => (vz (evR env a ρ M)).bd fun r M1 => match r with
    | .val (.bl t) => .ok t M1
    | _ => .bad
def evA (env : List Den) : Es → List Sl → List C → Ev (List Sl)
  | .nil, _, M => .ok [] M
  | .cons e es, ρ, M => (vz (evR env e ρ M)).bd fun r M1 => (evA env es ρ M1).bd fun rs M2 => .ok (r :: rs) M2
  | .star e es, ρ, M => (vz (evR env e ρ M)).bd fun r M1 => match sq M1 r with
    | some (_, ds) => (evA env es ρ M1).bd fun rs M2 => .ok (ds.map .val ++ rs) M2
    | none => .bad
def evO (env : List Den) : Eo → List Sl → List C → Ev (Option Int)
  | .none, _, M => .ok none M
  | .some e, ρ, M => (vz (evR env e ρ M)).bd fun r M1 => match r with
    | .val (.int i) => .ok (some i) M1
    | _ => .bad
def evI (env : List Den) : It → List Sl → List C → Ev (List D × List Nat)
  | .e a, ρ, M => (vz (evR env a ρ M)).bd fun r M1 => match sq M1 r with
    | some (_, ds) => .ok (ds, r.refs) M1
    | none => .bad
  | .r1 a, ρ, M => (vz (evR env a ρ M)).bd fun r M1 => match r with
    | .val (.int i) => match decide (-100000 ≤ i ∧ i ≤ 100000) with
      | true => .ok ((rng 0 i.toNat).map D.int, []) M1
      | false => .bad
    | _ => .bad
  | .r2 a b, ρ, M => (vz (evR env a ρ M)).bd fun r1 M1 => (vz (evR env b ρ M1)).bd fun r2 M2 => match r1, r2 with
    | .val (.int i), .val (.int j) => match decide (-100000 ≤ i ∧ i ≤ 100000 ∧ -100000 ≤ j ∧ j ≤ 100000) with
      | true => .ok ((rng i (j - i).toNat).map D.int, []) M2
      | false => .bad
    | _, _ => .bad
  | .rd a b, ρ, M => (vz (evR env a ρ M)).bd fun r1 M1 => (vz (evR env b ρ M1)).bd fun r2 M2 => match r1, r2 with
    | .val (.int i), .val (.int j) => match decide (-100000 ≤ i ∧ i ≤ 100000 ∧ -100000 ≤ j ∧ j ≤ 100000) with
      | true => .ok ((rngD i (i - j).toNat).map D.int, []) M2
      | false => .bad
    | _, _ => .bad
  | .en a, ρ, M => (vz (evR env a ρ M)).bd fun r M1 => match sq M1 r with
    | some (true, ds) => .ok ((List.range ds.length).map fun (i : Nat) => .tup [.int i, ds.getD i .non], r.refs) M1
    | _ => .bad
  | .zp a b, ρ, M => (vz (evR env a ρ M)).bd fun r1 M1 => (vz (evR env b ρ M1)).bd fun r2 M2 => match sq M2 r1, sq M2 r2 with
    | some (true, xs), some (true, ys) => .ok ((List.range (min xs.length ys.length)).map fun (i : Nat) => .tup [xs.getD i .non, ys.getD i .non], r1.refs ++ r2.refs) M2
    | some (false, xs), some (false, ys) => .ok ((List.range (min xs.length ys.length)).map fun (i : Nat) => .tup [xs.getD i .non, ys.getD i .non], []) M2
    | _, _ => .bad
  | .items _, _, _ => .bad
  | .vals _, _, _ => .bad
def evG (env : List Den) : Gs → List Sl → List C → Ev (List D)
  | .last tg it ifs elt, ρ, M => (evI env it ρ M).bd fun p M1 => match Nat.ble p.1.length 100000 with
    | true => lcE (fun d M' => (opt (bindE tg d ρ) M').bd fun ρ2 M' => (evTs env ifs ρ2 M').bd fun t M2 => match t with
        | true => (vz (evR env elt ρ2 M2)).bd fun r M3 => match r with
          | .val y => .ok [y] M3
          | _ => .bad
        | false => .ok [] M2) (fun M' => eqLen M1 M' && keepB M1 p.2 M') p.1 [] M1
    | false => .bad
  | .dlast _ _ _ _ _, _, _ => .bad
  | .cons tg it ifs gs, ρ, M => (evI env it ρ M).bd fun p M1 => match Nat.ble p.1.length 1000 with
    | true => lcE (fun d M' => (opt (bindE tg d ρ) M').bd fun ρ2 M' => (evTs env ifs ρ2 M').bd fun t M2 => match t with
        | true => (evG env gs (clr ρ2 gs.ix1) M2).bd fun out M3 => match Nat.ble out.length 1000 with
          | true => .ok out M3
          | false => .bad
        | false => .ok [] M2) (fun M' => eqLen M1 M' && keepB M1 p.2 M') p.1 [] M1
    | false => .bad
def evD (env : List Den) : Gs → List Sl → List C → Ev (List (Key × D))
  | .dlast tg it ifs ke ve, ρ, M => (evI env it ρ M).bd fun p M1 => match Nat.ble p.1.length 100000 with
    | true => dcE (fun d M' => (opt (bindE tg d ρ) M').bd fun ρ2 M' => (evTs env ifs ρ2 M').bd fun t M2 => match t with
        | true => (vz (evR env ke ρ2 M2)).bd fun r1 M3 => (vz (evR env ve ρ2 M3)).bd fun r2 M4 => match r1, r2 with
          | .val x, .val y => match keyD x with
            | some kk => .ok [(kk, y)] M4
            | none => .bad
          | _, _ => .bad
        | false => .ok [] M2) (fun M' => eqLen M1 M' && keepB M1 p.2 M') p.1 [] M1
    | false => .bad
  | .last _ _ _ _, _, _ => .bad
  | .cons _ _ _ _, _, _ => .bad
def evTs (env : List Den) : Tl → List Sl → List C → Ev Bool
  | .nil, _, M => .ok true M
  | .one e, ρ, M => evT env e ρ M
end
mutual
def evS (env : List Den) : S → List Sl → List C → Ev Rs
  | .asg i e, ρ, M => (vz (evR env e ρ M)).bd fun r M1 => .ok (.nx (pt ρ i r)) M1
  | .par is as, ρ, M => (evA env as ρ M).bd fun rs M1 => match Nat.beq rs.length is.length with
    | true => .ok (.nx (pts ρ is rs)) M1
    | false => .bad
  | .tgt tg e, ρ, M => (vz (evR env e ρ M)).bd fun r M1 => match r with
    | .val d => (opt (bindE tg d ρ) M1).bd fun ρ' M1 => .ok (.nx ρ') M1
    | _ => .bad
  | .setix o i e, ρ, M => (vz (evR env e ρ M)).bd fun r M1 => (vz (evR env o ρ M1)).bd fun r1 M2 => (vz (evR env i ρ M2)).bd fun r2 M3 => match setE r1 r2 r M3 with
    | some M4 => .ok (.nx ρ) M4
    | none => .bad
  | .setfld o c i e, ρ, M => (vz (evR env e ρ M)).bd fun r M1 => (vz (evR env o ρ M1)).bd fun r1 M2 => match slOk r, setfM M2 c i r r1 with
    | true, some M3 => .ok (.nx ρ) M3
    | _, _ => .bad
  | .aug i o e, ρ, M => match lk ρ i with
    | .val (.int x) => (vz (evR env e ρ M)).bd fun r M1 => (vz (opt (binE o (.val (.int x)) r M1) M1)).bd fun r M1 => .ok (.nx (pt ρ i r)) M1
    | _ => .bad
  | .ite t a b, ρ, M => (evT env t ρ M).bd fun t M1 => match t with
    | true => evSs env a ρ M1
    | false => evSs env b ρ M1
  | .for tg it b dead, ρ, M => (evI env it ρ M).bd fun p M1 => forE (fun d ρ M => (opt (bindE tg d ρ) M).bd fun ρ' M => evSs env b ρ' M) (trimE M1.length dead) (fun M' => keepB M1 p.2 M') p.1 ((clr ρ dead).map (Sl.trim M1.length)) M1
  | .while t b dead, ρ, M => whileE (evT env t) (evSs env b) (trimE M.length dead) fuelW ((clr ρ dead).map (Sl.trim M.length)) M
  | .ret e, ρ, M => (evR env e ρ M).bd fun z M1 => .ok (.rt z) M1
  | .ex e, ρ, M => (vz (evR env e ρ M)).bd fun _ M1 => .ok (.nx ρ) M1
  | .pass, ρ, M => .ok (.nx ρ) M
  | .bad, _, _ => .bad
def evSs (env : List Den) : Ss → List Sl → List C → Ev Rs
  | .nil, ρ, M => .ok (.nx ρ) M
  | .cons s ss, ρ, M => (evS env s ρ M).bd fun r M1 => match r with
    | .nx ρ' => evSs env ss ρ' M1
    | .rt z => .ok (.rt z) M1
    | .bk ρ' => .ok (.bk ρ') M1
    | .ct ρ' => .ok (.ct ρ') M1
end
/-- a def -/
def rhoN (n : Nat) (rs : List Sl) : List Sl := rs ++ List.replicate (n - rs.length) .un
def fin (m : Nat) (r : Rs) (M1 : List C) : Ev Z :=
  match r with
  | .nx _ => finZ m (.s (.val .non)) M1
  | .rt z => finZ m z M1
  | _ => .bad
def run (env : List Den) (code : Ss) (np n : Nat) : Den := fun rs M => match Nat.beq rs.length np with
  | true => (evSs env code (rhoN n rs) M).bd (fin M.length)
  | false => .bad
/-- def f(a, .., *rest) -/
def runS (env : List Den) (code : Ss) (np n : Nat) : Den := fun rs M => match Nat.ble np rs.length && Nat.ble rs.length 1000, valsOf (rs.drop np) with
  | true, some ds => (evSs env code (rhoN n (rs.take np ++ [.val (.tup ds)])) M).bd (fin M.length)
  | _, _ => .bad
/-- a class: an instance is made, and __init__ run; it is frozen then, or stays owned -/
def viewO (M : List C) : Option D :=
  match M with
  | .sob c 1 vs :: .dxx :: _ => match viewF M vs with
    | some fs => some (.slo c fs)
    | none => none
  | .ins c _ vs :: _ => match viewF M vs with
    | some fs => some (.obj c fs)
    | none => none
  | _ => none
def initR (r : Rs) (M1 : List C) : Ev Unit :=
  match r with
  | .nx _ => .ok () M1
  | .rt (.s (.val .non)) => .ok () M1
  | _ => .bad
def runI (env : List Den) (code : Ss) (np n : Nat) (sl : Bool) (c : Nat) : List Sl → Ev Unit := fun rs => match Nat.beq (rs.length + 1) np with
  | true => (evSs env code (rhoN n (.own 0 :: rs)) [if sl then .sob0 c 1 else .ins c 1 [], .dxo 0]).bd initR
  | false => .bad
def mkF (f : List Sl → Ev Unit) : Den := fun rs M => match M with
  | [] => (f rs).bd fun _ M1 => opt (match viewO M1 with
    | some d => some (.s (.val d))
    | none => none) []
  | _ => .bad
def mkO (f : List Sl → Ev Unit) : Den := fun rs M => match M with
  | [] => (f rs).bd fun _ M1 => .ok (.s (.own 0)) M1
  | _ => .bad
end Dl
/-! Y2: what is evaluated holds: operators -/
namespace Dl
open PySem L2
theorem addE_wp {r1 r2 : Sl} {M : List C} {z : Z} {Q : Z → Prop} (h : addE r1 r2 M = some z) (q : Q z) : (match (generalizing := false) sq M r1, sq M r2 with
      | some (true, xs), some (true, ys) => xs.length + ys.length ≤ 100000 ∧ Q (.n (.lst (xs ++ ys)))
      | some (false, xs), some (false, ys) => xs.length + ys.length ≤ 100000 ∧ Q (.s (.val (.tup (xs ++ ys))))
      | _, _ => False) := by
  unfold addE at h
  split at h
  · rename_i e1 e2
    obtain ⟨h1, h2⟩ := gd_inv h
    subst h2
    (try simp only [e1, e2])
    exact ⟨of_decide_eq_true h1, q⟩
  · rename_i e1 e2
    obtain ⟨h1, h2⟩ := gd_inv h
    subst h2
    (try simp only [e1, e2])
    exact ⟨of_decide_eq_true h1, q⟩
  · cases h
theorem repE_wp {r1 : Sl} {j : Int} {M : List C} {z : Z} {Q : Z → Prop} (h : repE r1 j M = some z) (q : Q z) : (match (generalizing := false) sq M r1 with
      | some (true, xs) => (0 ≤ j ∧ j ≤ 1000 ∧ xs.length ≤ 1000) ∧ Q (.n (.lst (List.replicate j.toNat xs).flatten))
      | _ => False) := by
  unfold repE at h
  split at h
  · rename_i e1
    obtain ⟨h1, h2⟩ := gd_inv h
    subst h2
    (try simp only [e1])
    exact ⟨of_decide_eq_true h1, q⟩
  · cases h
theorem binE_wp {o : Operator} {r1 r2 : Sl} {M : List C} {z : Z} {Q : Z → Prop} (h : binE o r1 r2 M = some z) (q : Q z) : binR o r1 r2 M Q := by
  cases o
  case Add =>
    replace h : (match (generalizing := false) r1, r2 with
      | .val (.int i), .val (.int j) => some (Z.s (.val (.int (i + j))))
      | _, _ => addE r1 r2 M) = some z := h
    split at h
    · cases h; exact q
    · rename_i hne
      show (match (generalizing := false) r1, r2 with
        | .val (.int i), .val (.int j) => Q (.s (.val (.int (i + j))))
        | _, _ => match sq M r1, sq M r2 with
          | some (true, xs), some (true, ys) => xs.length + ys.length ≤ 100000 ∧ Q (.n (.lst (xs ++ ys)))
          | some (false, xs), some (false, ys) => xs.length + ys.length ≤ 100000 ∧ Q (.s (.val (.tup (xs ++ ys))))
          | _, _ => False)
      split
      · exact (hne _ _ rfl rfl).elim
      · exact addE_wp h q
  case Sub =>
    replace h : (match (generalizing := false) r1, r2 with
      | .val (.int i), .val (.int j) => some (Z.s (.val (.int (i - j))))
      | _, _ => none) = some z := h
    split at h
    · cases h; exact q
    · cases h
  case Mult =>
    replace h : (match (generalizing := false) r1, r2 with
      | .val (.int i), .val (.int j) => gd (mulB i j) (Z.s (.val (.int (i * j))))
      | _, .val (.int j) => repE r1 j M
      | _, _ => none) = some z := h
    split at h
    · obtain ⟨h1, h2⟩ := gd_inv h
      subst h2
      exact ⟨mulB_of h1, q⟩
    · rename_i j hne
      have := repE_wp (Q := Q) h q
      cases r1 with
      | val d =>
        cases d with
        | int i => exact (hne i rfl).elim
        | _ => exact this
      | _ => exact this
    · cases h
  case FloorDiv =>
    replace h : (match (generalizing := false) r1, r2 with
      | .val (.int i), .val (.int j) => gd (decide (0 < j ∧ j < 1073741824)) (Z.s (.val (.int (i / j))))
      | _, _ => none) = some z := h
    split at h
    · obtain ⟨h1, h2⟩ := gd_inv h
      subst h2
      have h1 := of_decide_eq_true h1
      exact ⟨h1, q⟩
    · cases h
  case Mod =>
    replace h : (match (generalizing := false) r1, r2 with
      | .val (.int i), .val (.int j) => gd (decide (0 < j)) (Z.s (.val (.int (i % j))))
      | _, _ => none) = some z := h
    split at h
    · obtain ⟨h1, h2⟩ := gd_inv h
      subst h2
      exact ⟨of_decide_eq_true h1, q⟩
    · cases h
  case Pow =>
    replace h : (match (generalizing := false) r1, r2 with
      | .val (.int i), .val (.int j) => gd (decide (0 ≤ j ∧ j ≤ 1000000 ∧ i.natAbs < 18446744073709551616)) (Z.s (.val (.int (i ^ j.toNat))))
      | _, _ => none) = some z := h
    split at h
    · obtain ⟨h1, h2⟩ := gd_inv h
      subst h2
      have h1 := of_decide_eq_true h1
      exact ⟨h1, q⟩
    · cases h
  all_goals cases h
theorem eqE_wp {r1 r2 : Sl} {M : List C} {t : Bool} {Q : Bool → Prop} (h : eqE r1 r2 M = some t) (q : Q t) : eqR r1 r2 M Q := by
  replace h : (match (generalizing := false) r1, r2 with
    | .val (.int i), .val (.int j) => some (decide (i = j))
    | .val (.bl i), .val (.bl j) => some (i == j)
    | .val (.str i), .val (.str j) => some (decide (i = j))
    | _, _ => match (generalizing := false) vw M r1, vw M r2 with
      | some d, some d' => gd (plain 60 d && plain 60 d') (eqD d d')
      | _, _ => none) = some t := h
  show (match (generalizing := false) r1, r2 with
    | .val (.int i), .val (.int j) => Q (decide (i = j))
    | .val (.bl i), .val (.bl j) => Q (i == j)
    | .val (.str i), .val (.str j) => Q (decide (i = j))
    | _, _ => match (generalizing := false) vw M r1, vw M r2 with
      | some d, some d' => (plain 60 d = true ∧ plain 60 d' = true) ∧ Q (eqD d d')
      | _, _ => False)
  split at h
  · cases h; exact q
  · cases h; exact q
  · cases h; exact q
  · rename_i n1 n2 n3
    · split at h
      · rename_i e1 e2
        obtain ⟨h1, h2⟩ := gd_inv h
        subst h2
        (try simp only [e1, e2])
        exact ⟨Bool.and_eq_true_iff.mp h1, q⟩
      · cases h
theorem inE_wp {r1 r2 : Sl} {M : List C} {t : Bool} {Q : Bool → Prop} (h : inE r1 r2 M = some t) (q : Q t) : inR r1 r2 M Q := by
  cases r1 with
  | un => cases h
  | own _ => cases h
  | val d =>
    replace h : (match (generalizing := false) sq M r2 with
      | some (_, ds) => gd (atomD d && ds.all atomD) (inD d ds)
      | none => match dq M r2, keyD d with
        | some kvs, some k => some (getK kvs k).isSome
        | _, _ => none) = some t := h
    show (match (generalizing := false) sq M r2 with
      | some (_, ds) => (atomD d = true ∧ ds.all atomD = true) ∧ Q (inD d ds)
      | none => match dq M r2, keyD d with
        | some kvs, some k => Q (getK kvs k).isSome
        | _, _ => False)
    split at h
    · rename_i e1
      obtain ⟨h1, h2⟩ := gd_inv h
      subst h2
      (try simp only [e1])
      exact ⟨Bool.and_eq_true_iff.mp h1, q⟩
    · rename_i e1
      split at h
      · rename_i e2 e3
        cases h
        (try simp only [e1, e2, e3])
        exact q
      · cases h
theorem ngO_inv {o : Option Bool} {t : Bool} (h : ngO o = some t) : ∃ b, o = some b ∧ t = !b := by
  cases o with
  | none => cases h
  | some b => cases h; exact ⟨b, rfl, rfl⟩
theorem cmpE_wp {o : CmpOp} {r1 r2 : Sl} {M : List C} {t : Bool} {Q : Bool → Prop} (h : cmpE o r1 r2 M = some t) (q : Q t) : cmpR o r1 r2 M Q := by
  cases o
  case Lt =>
    replace h : (match (generalizing := false) r1, r2 with
      | .val (.int i), .val (.int j) => some (decide (i < j))
      | _, _ => none) = some t := h
    split at h
    · cases h; exact q
    · cases h
  case LtE =>
    replace h : (match (generalizing := false) r1, r2 with
      | .val (.int i), .val (.int j) => some (decide (i ≤ j))
      | _, _ => none) = some t := h
    split at h
    · cases h; exact q
    · cases h
  case Gt =>
    replace h : (match (generalizing := false) r1, r2 with
      | .val (.int i), .val (.int j) => some (decide (j < i))
      | _, _ => none) = some t := h
    split at h
    · cases h; exact q
    · cases h
  case GtE =>
    replace h : (match (generalizing := false) r1, r2 with
      | .val (.int i), .val (.int j) => some (decide (j ≤ i))
      | _, _ => none) = some t := h
    split at h
    · cases h; exact q
    · cases h
  case Eq => exact eqE_wp h q
  case NotEq =>
    obtain ⟨b, h1, h2⟩ := ngO_inv h
    subst h2
    exact eqE_wp (Q := fun b => Q (!b)) h1 q
  case In => exact inE_wp h q
  case NotIn =>
    obtain ⟨b, h1, h2⟩ := ngO_inv h
    subst h2
    exact inE_wp (Q := fun b => Q (!b)) h1 q
  case Is =>
    replace h : (match (generalizing := false) r1, r2 with
      | .un, _ => none
      | _, .val .non => some r1.isNon
      | _, _ => none) = some t := h
    split at h
    · cases h
    · rename_i hu
      cases h
      cases r1 with
      | un => exact (hu rfl).elim
      | val _ => exact q
      | own _ => exact q
    · cases h
  case IsNot =>
    replace h : (match (generalizing := false) r1, r2 with
      | .un, _ => none
      | _, .val .non => some (!r1.isNon)
      | _, _ => none) = some t := h
    split at h
    · cases h
    · rename_i hu
      cases h
      cases r1 with
      | un => exact (hu rfl).elim
      | val _ => exact q
      | own _ => exact q
    · cases h
theorem biE_wp {b : Fb} {rs : List Sl} {M : List C} {z : Z} {Q : Z → Prop} (h : biE b rs M = some z) (q : Q z) : biR b rs M Q := by
  have bool2 : ∀ {a b : Bool}, (a && b) = true → a = true ∧ b = true := fun h => Bool.and_eq_true_iff.mp h
  cases b
  case len =>
    cases rs with
    | nil => cases h
    | cons r rs =>
      cases rs with
      | cons _ _ => cases h
      | nil =>
        replace h : (match (generalizing := false) sq M r with
          | some (_, ds) => some (Z.s (.val (.int ds.length)))
          | none => match dq M r with
            | some kvs => some (Z.s (.val (.int kvs.length)))
            | none => none) = some z := h
        show (match (generalizing := false) sq M r with
          | some (_, ds) => Q (.s (.val (.int ds.length)))
          | none => match dq M r with
            | some kvs => Q (.s (.val (.int kvs.length)))
            | none => False)
        split at h
        · rename_i e; cases h; (try simp only [e]); exact q
        · rename_i e
          split at h
          · rename_i e2; cases h; (try simp only [e, e2]); exact q
          · cases h
  case abs =>
    replace h : (match (generalizing := false) rs with
      | [.val (.int i)] => some (Z.s (.val (.int (if i < 0 then -i else i))))
      | _ => none) = some z := h
    split at h
    · cases h; exact q
    · cases h
  case int =>
    replace h : (match (generalizing := false) rs with
      | [.val (.int i)] => some (Z.s (.val (.int i)))
      | [.val (.bl t)] => some (.s (.val (.int (if t then 1 else 0))))
      | _ => none) = some z := h
    split at h
    · cases h; exact q
    · cases h; exact q
    · cases h
  case tuple =>
    cases rs with
    | nil => cases h
    | cons r rs =>
      cases rs with
      | cons _ _ => cases h
      | nil =>
        replace h : (match (generalizing := false) sq M r with
          | some (_, ds) => some (Z.s (.val (.tup ds)))
          | none => none) = some z := h
        show (match (generalizing := false) sq M r with
          | some (_, ds) => Q (.s (.val (.tup ds)))
          | none => False)
        split at h
        · rename_i e; cases h; (try simp only [e]); exact q
        · cases h
  case list =>
    cases rs with
    | nil => cases h
    | cons r rs =>
      cases rs with
      | cons _ _ => cases h
      | nil =>
        replace h : (match (generalizing := false) sq M r with
          | some (_, ds) => some (Z.n (.lst ds))
          | none => match dq M r with
            | some kvs => gd (decide (kvs.length ≤ 1000)) (Z.n (.lst (kvs.map fun p => kD p.1)))
            | none => none) = some z := h
        show (match (generalizing := false) sq M r with
          | some (_, ds) => Q (.n (.lst ds))
          | none => match dq M r with
            | some kvs => kvs.length ≤ 1000 ∧ Q (.n (.lst (kvs.map fun p => kD p.1)))
            | none => False)
        split at h
        · rename_i e; cases h; (try simp only [e]); exact q
        · rename_i e
          split at h
          · rename_i e2
            obtain ⟨h1, h2⟩ := gd_inv h
            subst h2
            (try simp only [e, e2]); exact ⟨of_decide_eq_true h1, q⟩
          · cases h
  case sorted =>
    cases rs with
    | nil => cases h
    | cons r rs =>
      cases rs with
      | cons _ _ => cases h
      | nil =>
        replace h : (match (generalizing := false) sq M r with
          | some (true, ds) => gd (ds.all isI) (Z.n (.lst ((isort (ds.map intD)).map D.int)))
          | some (false, ds) => none
          | none => match dq M r with
            | some kvs => gd ((kvs.map fun p => kD p.1).all isI && decide (kvs.length < 64)) (Z.n (.lst ((isort (kvs.map fun p => intD (kD p.1))).map D.int)))
            | none => none) = some z := h
        show (match (generalizing := false) sq M r with
          | some (true, ds) => ds.all isI = true ∧ Q (.n (.lst ((isort (ds.map intD)).map D.int)))
          | some (false, ds) => False
          | none => match dq M r with
            | some kvs => ((kvs.map fun p => kD p.1).all isI = true ∧ kvs.length < 64) ∧ Q (.n (.lst ((isort (kvs.map fun p => intD (kD p.1))).map D.int)))
            | none => False)
        split at h
        · rename_i e
          obtain ⟨h1, h2⟩ := gd_inv h
          subst h2
          (try simp only [e]); exact ⟨h1, q⟩
        · cases h
        · rename_i e
          split at h
          · rename_i e2
            obtain ⟨h1, h2⟩ := gd_inv h
            subst h2
            (try simp only [e, e2]); exact ⟨⟨(bool2 h1).1, of_decide_eq_true (bool2 h1).2⟩, q⟩
          · cases h
  case all =>
    cases rs with
    | nil => cases h
    | cons r rs =>
      cases rs with
      | cons _ _ => cases h
      | nil =>
        replace h : (match (generalizing := false) sq M r with
          | some (true, ds) => gd (ds.all isB) (Z.s (.val (.bl (ds.all blD))))
          | _ => none) = some z := h
        show (match (generalizing := false) sq M r with
          | some (true, ds) => ds.all isB = true ∧ Q (.s (.val (.bl (ds.all blD))))
          | _ => False)
        split at h
        · rename_i e
          obtain ⟨h1, h2⟩ := gd_inv h
          subst h2
          (try simp only [e]); exact ⟨h1, q⟩
        · cases h
  case any =>
    cases rs with
    | nil => cases h
    | cons r rs =>
      cases rs with
      | cons _ _ => cases h
      | nil =>
        replace h : (match (generalizing := false) sq M r with
          | some (true, ds) => gd (ds.all isB) (Z.s (.val (.bl (ds.any blD))))
          | _ => none) = some z := h
        show (match (generalizing := false) sq M r with
          | some (true, ds) => ds.all isB = true ∧ Q (.s (.val (.bl (ds.any blD))))
          | _ => False)
        split at h
        · rename_i e
          obtain ⟨h1, h2⟩ := gd_inv h
          subst h2
          (try simp only [e]); exact ⟨h1, q⟩
        · cases h
  case sum =>
    cases rs with
    | nil => cases h
    | cons r rs =>
      cases rs with
      | cons _ _ => cases h
      | nil =>
        replace h : (match (generalizing := false) sq M r with
          | some (true, ds) => gd (ds.all isI) (Z.s (.val (.int (ds.map intD).sum)))
          | _ => none) = some z := h
        show (match (generalizing := false) sq M r with
          | some (true, ds) => ds.all isI = true ∧ Q (.s (.val (.int (ds.map intD).sum)))
          | _ => False)
        split at h
        · rename_i e
          obtain ⟨h1, h2⟩ := gd_inv h
          subst h2
          (try simp only [e]); exact ⟨h1, q⟩
        · cases h
  case max =>
    replace h : (match (generalizing := false) rs with
      | [.val (.int i), .val (.int j)] => some (Z.s (.val (.int (Max.max i j))))
      | [r] => match sq M r with
        | some (true, ds) => gd (ds.all isI && decide (0 < ds.length)) (Z.s (.val (.int (maxL (ds.map intD)))))
        | _ => none
      | _ => none) = some z := h
    split at h
    · cases h; exact q
    · rename_i r
      have key : (match (generalizing := false) sq M r with
        | some (true, ds) => (ds.all isI = true ∧ 0 < ds.length) ∧ Q (.s (.val (.int (maxL (ds.map intD)))))
        | _ => False) := by
        split at h
        · rename_i e
          obtain ⟨h1, h2⟩ := gd_inv h
          subst h2
          (try simp only [e]); exact ⟨⟨(bool2 h1).1, of_decide_eq_true (bool2 h1).2⟩, q⟩
        · cases h
      cases r with
      | val d => cases d <;> exact key
      | _ => exact key
    · cases h
  case min =>
    replace h : (match (generalizing := false) rs with
      | [.val (.int i), .val (.int j)] => some (Z.s (.val (.int (Min.min i j))))
      | [r] => match sq M r with
        | some (true, ds) => gd (ds.all isI && decide (0 < ds.length)) (Z.s (.val (.int (minL (ds.map intD)))))
        | _ => none
      | _ => none) = some z := h
    split at h
    · cases h; exact q
    · rename_i r
      have key : (match (generalizing := false) sq M r with
        | some (true, ds) => (ds.all isI = true ∧ 0 < ds.length) ∧ Q (.s (.val (.int (minL (ds.map intD)))))
        | _ => False) := by
        split at h
        · rename_i e
          obtain ⟨h1, h2⟩ := gd_inv h
          subst h2
          (try simp only [e]); exact ⟨⟨(bool2 h1).1, of_decide_eq_true (bool2 h1).2⟩, q⟩
        · cases h
      cases r with
      | val d => cases d <;> exact key
      | _ => exact key
    · cases h
  case sset =>
    cases rs with
    | nil => cases h
    | cons r rs =>
      cases rs with
      | cons _ _ => cases h
      | nil =>
        replace h : (match (generalizing := false) sq M r with
          | some (_, ds) => gd (ds.all isI && decide (ds.length < 64)) (Z.n (.lst ((sset (ds.map intD)).map D.int)))
          | none => none) = some z := h
        show (match (generalizing := false) sq M r with
          | some (_, ds) => (ds.all isI = true ∧ ds.length < 64) ∧ Q (.n (.lst ((sset (ds.map intD)).map D.int)))
          | none => False)
        split at h
        · rename_i e
          obtain ⟨h1, h2⟩ := gd_inv h
          subst h2
          (try simp only [e]); exact ⟨⟨(bool2 h1).1, of_decide_eq_true (bool2 h1).2⟩, q⟩
        · cases h
  case lrange =>
    replace h : (match (generalizing := false) rs with
      | [.val (.int i)] => gd (decide (-100000 ≤ i ∧ i ≤ 100000)) (Z.n (.lst ((rng 0 i.toNat).map D.int)))
      | [.val (.int i), .val (.int j)] => gd (decide (-100000 ≤ i ∧ i ≤ 100000 ∧ -100000 ≤ j ∧ j ≤ 100000)) (Z.n (.lst ((rng i (j - i).toNat).map D.int)))
      | _ => none) = some z := h
    split at h
    · obtain ⟨h1, h2⟩ := gd_inv h
      subst h2
      exact ⟨of_decide_eq_true h1, q⟩
    · obtain ⟨h1, h2⟩ := gd_inv h
      subst h2
      exact ⟨of_decide_eq_true h1, q⟩
    · cases h
theorem ixE_wp {r1 r2 : Sl} {M : List C} {r : Sl} {Q : Sl → Prop} (h : ixE r1 r2 M = some r) (q : Q r) : ixR r1 r2 M Q := by
  cases r2 with
  | un => cases h
  | own _ => cases h
  | val d =>
    replace h : (match (generalizing := false) sq M r1 with
      | some (_, ds) => (match (generalizing := false) d with
        | .int i => (match (generalizing := false) atI ds i with
          | some x => some (Sl.val x)
          | none => none)
        | _ => none)
      | none => match keyD d with
        | none => none
        | some k => match (generalizing := false) r1 with
          | .own j => (match (generalizing := false) lkM M j with
            | some (.dic kvs) => (match (generalizing := false) getK kvs k with
              | some x => some (Sl.val x)
              | none => none)
            | some (.mdc kvs) => getK kvs k
            | some (.mls xs) => (match (generalizing := false) d with
              | .int i => atI xs i
              | _ => none)
            | _ => none)
          | .val (.dic ks vs) => (match (generalizing := false) getK (ks.zip vs) k with
            | some x => some (Sl.val x)
            | none => none)
          | _ => none) = some r := h
    show (match (generalizing := false) sq M r1 with
      | some (_, ds) => (match (generalizing := false) d with
        | .int i => (match (generalizing := false) atI ds i with
          | some x => Q (Sl.val x)
          | none => False)
        | _ => False)
      | none => match keyD d with
        | none => False
        | some k => match (generalizing := false) r1 with
          | .own j => (match (generalizing := false) lkM M j with
            | some (.dic kvs) => (match (generalizing := false) getK kvs k with
              | some x => Q (Sl.val x)
              | none => False)
            | some (.mdc kvs) => (match (generalizing := false) getK kvs k with
              | some x => Q x
              | none => False)
            | some (.mls xs) => (match (generalizing := false) d with
              | .int i => (match (generalizing := false) atI xs i with
                | some x => Q x
                | none => False)
              | _ => False)
            | _ => False)
          | .val (.dic ks vs) => (match (generalizing := false) getK (ks.zip vs) k with
            | some x => Q (Sl.val x)
            | none => False)
          | _ => False)
    split at h
    · rename_i e1
      (try simp only [e1])
      split at h
      · split at h
        · rename_i e2; cases h; (try simp only [e2]); exact q
        · cases h
      · cases h
    · rename_i e1
      (try simp only [e1])
      split at h
      · cases h
      · rename_i e2
        (try simp only [e2])
        split at h
        · split at h
          · rename_i e3
            (try simp only [e3])
            split at h
            · rename_i e4; cases h; (try simp only [e4]); exact q
            · cases h
          · rename_i e3; (try simp only [e3, h]); exact q
          · rename_i e3
            (try simp only [e3])
            split at h
            · (try simp only [h]); exact q
            · cases h
          · cases h
        · split at h
          · rename_i e4; cases h; (try simp only [e4]); exact q
          · cases h
        · cases h
theorem bindE_wp {tg : Tg} {d : D} {ρ ρ' : List Sl} {Q : List Sl → Prop} (h : bindE tg d ρ = some ρ') (q : Q ρ') : bindT tg d ρ Q := by
  unfold bindE at h
  split at h
  · cases h; exact q
  · split at h
    · cases h; exact q
    · cases h
  · cases h
theorem dropLast_of {α : Type} {ds : List α} {d : α} (h : ds.getLast? = some d) : ds = ds.dropLast ++ [d] := by
  have hn : ds ≠ [] := fun z => by subst z; cases h
  rw [List.getLast?_eq_some_getLast hn] at h
  cases h
  exact (List.dropLast_concat_getLast hn).symm
theorem mtE_wp {m : Mth} {r : Sl} {rs : List Sl} {M M' : List C} {z : Z} {Q : Z → List C → Prop} (h : mtE m r rs M = some (z, M')) (q : Q z M') : mtR m r rs M Q := by
  have bool2 : ∀ {a b : Bool}, (a && b) = true → a = true ∧ b = true := fun h => Bool.and_eq_true_iff.mp h
  have gi : ∀ {b : Bool} {p : Z × List C}, gd b p = some (z, M') → b = true ∧ p = (z, M') := fun h => gd_inv h
  cases m
  case append =>
    replace h : (match (generalizing := false) r, rs with
      | .own k, [.val d] => (match (generalizing := false) lkM M k with
        | some (.lst ds) => gd (decide (ds.length < 100000)) (Z.s (.val .non), ptM M k (.lst (ds ++ [d])))
        | _ => none)
      | _, _ => none) = some (z, M') := h
    split at h
    · rename_i k d
      show (match (generalizing := false) lkM M k with
        | some (.lst ds) => ds.length < 100000 ∧ Q (.s (.val .non)) (ptM M k (.lst (ds ++ [d])))
        | _ => False)
      split at h
      · rename_i e
        obtain ⟨h1, h2⟩ := gi h
        cases h2
        (try simp only [e]); exact ⟨of_decide_eq_true h1, q⟩
      · cases h
    · cases h
  case extend =>
    replace h : (match (generalizing := false) r, rs with
      | .own k, [s] => (match (generalizing := false) lkM M k, sq M s with
        | some (.lst ds), some (true, xs) => gd (decide (ds.length + xs.length < 100000)) (Z.s (.val .non), ptM M k (.lst (ds ++ xs)))
        | _, _ => none)
      | _, _ => none) = some (z, M') := h
    split at h
    · rename_i k s
      show (match (generalizing := false) lkM M k, sq M s with
        | some (.lst ds), some (true, xs) => ds.length + xs.length < 100000 ∧ Q (.s (.val .non)) (ptM M k (.lst (ds ++ xs)))
        | _, _ => False)
      split at h
      · rename_i e1 e2
        obtain ⟨h1, h2⟩ := gi h
        cases h2
        (try simp only [e1, e2]); exact ⟨of_decide_eq_true h1, q⟩
      · cases h
    · cases h
  case pop =>
    replace h : (match (generalizing := false) r, rs with
      | .own k, [] => (match (generalizing := false) lkM M k with
        | some (.lst ds) => (match (generalizing := false) ds.getLast? with
          | some d => some (Z.s (.val d), ptM M k (.lst ds.dropLast))
          | none => none)
        | _ => none)
      | _, _ => none) = some (z, M') := h
    split at h
    · rename_i k
      show (match (generalizing := false) lkM M k with
        | some (.lst ds) => ∃ xs d, ds = xs ++ [d] ∧ Q (.s (.val d)) (ptM M k (.lst xs))
        | _ => False)
      split at h
      · rename_i e
        split at h
        · rename_i e2
          cases h
          (try simp only [e]); exact ⟨_, _, dropLast_of e2, q⟩
        · cases h
      · cases h
    · cases h
  case remove =>
    replace h : (match (generalizing := false) r, rs with
      | .own k, [.val (.int i)] => (match (generalizing := false) lkM M k with
        | some (.lst ds) => gd (ds.all isI && decide (i ∈ ds.map intD)) (Z.s (.val .non), ptM M k (.lst (((ds.map intD).erase i).map D.int)))
        | _ => none)
      | _, _ => none) = some (z, M') := h
    split at h
    · rename_i k i
      show (match (generalizing := false) lkM M k with
        | some (.lst ds) => (ds.all isI = true ∧ i ∈ ds.map intD) ∧ Q (.s (.val .non)) (ptM M k (.lst (((ds.map intD).erase i).map D.int)))
        | _ => False)
      split at h
      · rename_i e
        obtain ⟨h1, h2⟩ := gi h
        cases h2
        (try simp only [e]); exact ⟨⟨(bool2 h1).1, of_decide_eq_true (bool2 h1).2⟩, q⟩
      · cases h
    · cases h
  case get1 =>
    replace h : (match (generalizing := false) r, rs with
      | r, [.val d] => (match (generalizing := false) dq M r, keyD d with
        | some kvs, some kk => (match (generalizing := false) getK kvs kk with
          | some x => some (Z.s (.val x), M)
          | none => some (Z.s (.val .non), M))
        | _, _ => none)
      | _, _ => none) = some (z, M') := h
    split at h
    · rename_i d
      show (match (generalizing := false) dq M r, keyD d with
        | some kvs, some kk => (match (generalizing := false) getK kvs kk with
          | some x => Q (.s (.val x)) M
          | none => Q (.s (.val .non)) M)
        | _, _ => False)
      split at h
      · rename_i e1 e2
        (try simp only [e1, e2])
        split at h
        · rename_i e3; cases h; (try simp only [e3]); exact q
        · rename_i e3; cases h; (try simp only [e3]); exact q
      · cases h
    · cases h
  case get2 =>
    replace h : (match (generalizing := false) r, rs with
      | r, [.val d, s] => (match (generalizing := false) dq M r, keyD d with
        | some kvs, some kk => (match (generalizing := false) getK kvs kk with
          | some x => some (Z.s (.val x), M)
          | none => gd (slOk s) (Z.s s, M))
        | _, _ => none)
      | _, _ => none) = some (z, M') := h
    split at h
    · rename_i d s
      show (match (generalizing := false) dq M r, keyD d with
        | some kvs, some kk => (match (generalizing := false) getK kvs kk with
          | some x => Q (.s (.val x)) M
          | none => s ≠ .un ∧ Q (.s s) M)
        | _, _ => False)
      split at h
      · rename_i e1 e2
        (try simp only [e1, e2])
        split at h
        · rename_i e3; cases h; (try simp only [e3]); exact q
        · rename_i e3
          obtain ⟨h1, h2⟩ := gi h
          cases h2
          (try simp only [e3])
          exact ⟨fun z => (by subst z; cases h1), q⟩
      · cases h
    · cases h
  case update => cases h
theorem setE_wp {r1 r2 d : Sl} {M M' : List C} {Q : List C → Prop} (h : setE r1 r2 d M = some M') (q : Q M') : setR r1 r2 d M Q := by
  have bool2 : ∀ {a b : Bool}, (a && b) = true → a = true ∧ b = true := fun h => Bool.and_eq_true_iff.mp h
  cases r1 with
  | un => cases h
  | val _ => cases h
  | own k =>
    cases r2 with
    | un => cases h
    | own _ => cases h
    | val x =>
      replace h : (match (generalizing := false) lkM M k with
        | some (.lst ds) => (match (generalizing := false) x, d with
          | .int i, .val y => (match (generalizing := false) ixN ds.length i with
            | some n => some (ptM M k (.lst (ds.set n y)))
            | none => none)
          | _, _ => none)
        | some (.dic kvs) => (match (generalizing := false) keyD x, d with
          | some kk, .val y => gd (decide (kvs.length < 100000)) (ptM M k (.dic (putD kvs kk y)))
          | _, _ => none)
        | some (.mdc kvs) => (match (generalizing := false) keyD x with
          | some kk => gd (decide (kvs.length < 100000) && slOk d) (ptM M k (.mdc (putD kvs kk d)))
          | none => none)
        | _ => none) = some M' := h
      show (match (generalizing := false) lkM M k with
        | some (.lst ds) => (match (generalizing := false) x, d with
          | .int i, .val y => (match (generalizing := false) ixN ds.length i with
            | some n => Q (ptM M k (.lst (ds.set n y)))
            | none => False)
          | _, _ => False)
        | some (.dic kvs) => (match (generalizing := false) keyD x, d with
          | some kk, .val y => kvs.length < 100000 ∧ Q (ptM M k (.dic (putD kvs kk y)))
          | _, _ => False)
        | some (.mdc kvs) => (match (generalizing := false) keyD x with
          | some kk => (kvs.length < 100000 ∧ d ≠ .un) ∧ Q (ptM M k (.mdc (putD kvs kk d)))
          | none => False)
        | _ => False)
      split at h
      · rename_i e
        (try simp only [e])
        split at h
        · split at h
          · rename_i e2; cases h; (try simp only [e2]); exact q
          · cases h
        · cases h
      · rename_i e
        (try simp only [e])
        split at h
        · rename_i e2
          obtain ⟨h1, h2⟩ := gd_inv h
          subst h2
          (try simp only [e2]); exact ⟨of_decide_eq_true h1, q⟩
        · cases h
      · rename_i e
        (try simp only [e])
        split at h
        · rename_i e2
          obtain ⟨h1, h2⟩ := gd_inv h
          subst h2
          (try simp only [e2])
          exact ⟨⟨of_decide_eq_true (bool2 h1).1, fun z => by subst z; cases (bool2 h1).2⟩, q⟩
        · cases h
      · cases h
end Dl
/-! Y3: promises by evaluation; calls -/
namespace Dl
open PySem L2
def spX (K : PySem.W.Frag) (f : Den) : Sp := fun vs H G _ => ∃ (F : Hp) (As : List Addr) (rs : List Sl) (M : List C) (z : Z) (M1 : List C), HM K F As M H ∧ SlRs K F As rs vs ∧ f rs M = .ok z M1 ∧
  ∀ v F' As' H' r M', Same F F' → As <+: As' → SlR K F' As' r v → HM K F' As' M' H' → Zr z M1 r M' → G v H'
theorem scat_app {N2 : List C} : ∀ {M : List C} {ks : List Nat} {N : List C}, ks.length ≤ N.length → scat M ks (N ++ N2) = scat M ks N
  | M, [], N, _ => by cases N <;> cases N2 <;> rfl
  | M, k :: ks, [], h => by simp at h
  | M, k :: ks, c :: N, h => by
    show scat (ptM M k c) ks (N ++ N2) = scat (ptM M k c) ks N
    exact scat_app (by simpa using h)
theorem backM_app {M N : List C} {ks : List Nat} {c : C} (h : ks.length ≤ N.length) : backM M ks (N ++ [c]) = backM M ks N ++ [c.mp (bk ks M.length)] := by
  unfold backM
  rw [List.map_append, scat_app (by simpa using h), List.drop_append_of_le_length h, List.map_append, List.append_assoc]
  rfl
theorem bk_lt {ks : List Nat} {n m j : Nat} (lt : ∀ k ∈ ks, k < n) (hj : j < m) (hm : ks.length ≤ m) : bk ks n j < n + (m - ks.length) := by
  unfold bk
  rw [lkA_eq]
  by_cases h : j < ks.length
  · have e : ks[j]? = some ks[j] := List.getElem?_eq_getElem h
    rw [e]
    have := lt _ (List.mem_of_getElem? e)
    show ks[j] < _
    omega
  · have e : ks[j]? = none := List.getElem?_eq_none_iff.mpr (by omega)
    rw [e]
    show n + (j - ks.length) < _
    omega
theorem backM_refs {K : PySem.W.Frag} {F : Hp} {As : List Addr} {M N : List C} {H : Hp} {ks : List Nat} (hm : HM K F As M H) (ok : OkSel M ks) (hl : ks.length ≤ N.length) (hc : ∀ c ∈ N, ∀ k ∈ c.refs, k < N.length) : ∀ c ∈ backM M ks N, ∀ k ∈ c.refs, k < (backM M ks N).length := by
  intro c hcm k hk
  rw [backM_len hl]
  have mp : ∀ {c0 : C}, c0 ∈ N → k ∈ (c0.mp (bk ks M.length)).refs → k < M.length + (N.length - ks.length) := fun {c0} h0 hk => by
    obtain ⟨j, hj, e⟩ := refs_mp hk
    rw [e]
    exact bk_lt ok.lt (hc c0 h0 j hj) hl
  unfold backM at hcm
  rcases List.mem_append.mp hcm with h | h
  · obtain ⟨i, ei⟩ := List.mem_iff_getElem?.mp h
    by_cases hi : i ∈ ks
    · have h1 := plc_get hi
      have hp : plc ks i < ks.length := (List.getElem?_eq_some_iff.mp h1).1
      have e0 : N[plc ks i]? = some N[plc ks i] := List.getElem?_eq_getElem (by omega)
      rw [scat_in (c := N[plc ks i].mp (bk ks M.length)) ok.nd ok.lt h1 (by rw [List.getElem?_map, e0]; rfl)] at ei
      cases ei
      exact mp (List.mem_of_getElem? e0) hk
    · rw [scat_out hi] at ei
      have := hm.refs c (List.mem_of_getElem? ei) k hk
      omega
  · obtain ⟨c0, h0, e⟩ := List.mem_map.mp h
    rw [← e] at hk
    exact mp (List.mem_of_mem_drop h0) hk
section
variable {g : Gx} {M : List C} {Q : Z → List C → Prop} {rs : List Sl}
theorem callAt_inv {f : Den} {ks : List Nat} {z : Z} {M1 : List C} (h : doCallAt f ks rs M = .ok z M1) : ∃ z0 N, OkSel M ks ∧ (∀ r ∈ rs, ∀ k ∈ r.refs, k ∈ ks) ∧ f (rs.map (Sl.mp (plc ks))) (selM M ks) = .ok z0 N ∧ ks.length ≤ N.length ∧ z = z0.mp (bk ks M.length) ∧ M1 = backM M ks N := by
  unfold doCallAt at h
  split at h
  · rename_i e
    have e := Bool.and_eq_true_iff.mp e
    obtain ⟨z0, N, h1, h2⟩ := bd_inv h
    split at h2
    · rename_i e2
      cases h2
      exact ⟨z0, N, okSel_of e.1, fun r hr k hk => memN_iff.mp (List.all_eq_true.mp (List.all_eq_true.mp e.2 r hr) k hk), h1, Nat.le_of_ble_eq_true e2, rfl, rfl⟩
    · cases h2
  · cases h
/-- what a callee gives, for the caller -/
theorem back_z {F F' : Hp} {As Bs : List Addr} {H H' : Hp} {ks : List Nat} {z0 : Z} {N Mx : List C} {r : Sl} {v : V} {G : VK} (hm : HM g.K F As M H) (ok : OkSel M ks) (hl : ks.length ≤ N.length) (s : Same F F') (hr : SlR g.K F' (selA As ks ++ Bs) r v) (h' : HM g.K F' (selA As ks ++ Bs) Mx H') (hz : Zr z0 N r Mx) (hn : ∀ b ∈ restA As ks, H' b = none) (kk : Aft g.K F As (zq M.length Q) G) (q : Q (z0.mp (bk ks M.length)) (backM M ks N)) : G v (puts H' H (restA As ks)) := by
  have hb := hm_bk hm ok s h' hn
  have rl : ∀ {r : Sl} {v : V}, SlR g.K F' (selA As ks ++ Bs) r v → SlR g.K F' (As ++ Bs) (r.mp (bk ks M.length)) v := fun {r v} hr => slr_mp (fun k hk => bk_at hm ok (by
    have := hr.ref_lt k hk
    rw [List.length_append, selA_len] at this
    exact this)) hr
  have hbl := backM_len (M := M) hl
  cases z0 with
  | s r0 =>
    obtain ⟨e1, e2⟩ := hz
    subst e1; subst e2
    exact kk v F' (As ++ Bs) _ _ _ s (List.prefix_append _ _) (rl hr) hb ⟨.s (r.mp (bk ks M.length)), backM M ks Mx, ⟨rfl, rfl⟩, by omega, q⟩
  | n c =>
    obtain ⟨e1, e2, e3⟩ := hz
    subst e1; subst e2
    rw [backM_app hl] at hb
    have e : (Sl.own N.length).mp (bk ks M.length) = .own (backM M ks N).length := by
      show Sl.own (bk ks M.length N.length) = _
      rw [hbl]
      unfold bk
      rw [lkA_eq, List.getElem?_eq_none_iff.mpr hl]
    have hr2 := rl hr
    rw [e] at hr2
    exact kk v F' (As ++ Bs) _ _ _ s (List.prefix_append _ _) hr2 hb ⟨.n (c.mp (bk ks M.length)), backM M ks N, ⟨rfl, rfl, backM_refs hm ok hl e3⟩, by omega, q⟩
theorem sp_x {f : Den} {ks : List Nat} {z : Z} {M1 : List C} (h : doCallAt f ks rs M = .ok z M1) (q : Q z M1) : SpS g (spX g.K f) rs M (zq M.length Q) := fun F As H vs hm hrs G kk => by
  obtain ⟨z0, N, ok, hin, h1, hl, e1, e2⟩ := callAt_inv h
  subst e1; subst e2
  refine ⟨restA As ks, frs_sel hm ok, F, selA As ks, rs.map (Sl.mp (plc ks)), selM M ks, z0, N, hm_sel hm ok, paired_mp hrs fun r hr v hv => slr_mp (fun k hk => sel_place hm ok (hin r hr k hk)) hv, h1, fun v F' As' H' r Mx s p hr h' hz hn => ?_⟩
  obtain ⟨Bs, rfl⟩ := p
  exact back_z hm ok hl s hr h' hz hn kk q
end
theorem doCall_inv {of : Option Den} {rs : List Sl} {M M1 : List C} {z : Z} (h : doCall of rs M = .ok z M1) : ∃ f, of = some f ∧ doCallAt f (reach M rs) rs M = .ok z M1 := by
  cases of with
  | none => cases h
  | some f => exact ⟨f, rfl, h⟩
/-! ### what stands at a code's calls -/
inductive Site where
  | call (n : Nat) (x : Str)
  | callk (n : Nat) (x : Str) (ks : List Str) (idx : List Nat)
  | meth (n c : Nat) (m : Str)
  | make (n : Nat) (x : Str)
  | lenO (n : Nat)
  | gl (x : Str) (d : D)
def SiteOk (g : Gx) (env : List Den) : Site → Prop
  | .call n x => ∀ f, lkA env n = some f → ∃ k, Def g x k (spX g.K f) ∧ k ≤ g.k
  | .callk n x ks idx => ∀ f, lkA env n = some f → ∃ k, DefK g x k ks idx (spX g.K f) ∧ k ≤ g.k
  | .meth n c m => ∀ f, lkA env n = some f → ∃ k, DefM g c m k (spX g.K f) ∧ k ≤ g.k
  | .make n x => ∀ f, lkA env n = some f → HasC g x ∧ ∀ rs M z M1 Q, valsOf rs ≠ none → doCall (some f) rs M = .ok z M1 → Q z M1 → MakeZ g x rs M Q
  | .lenO n => ∀ f, lkA env n = some f → ∃ k, DefL g 1 k (spX g.K f) ∧ k + 1 ≤ g.k
  | .gl x d => GlobS g x d
def Al (g : Gx) (env : List Den) : List Site → Prop
  | [] => True
  | s :: l => SiteOk g env s ∧ Al g env l
theorem al_app {g : Gx} {env : List Den} : ∀ {a b : List Site}, Al g env (a ++ b) → Al g env a ∧ Al g env b
  | [], b, h => ⟨trivial, h⟩
  | s :: a, b, ⟨h1, h2⟩ => ⟨⟨h1, (al_app h2).1⟩, (al_app h2).2⟩
mutual
def siR : E → List Site
  | .v _ => []
  | .k _ => []
  | .g x d => [.gl x d]
  | .bin _ a b => siR a ++ siR b
  | .neg a => siR a
  | .cmp _ a b => siR a ++ siR b
  | .cmp2 _ _ a b c => siR a ++ (siR b ++ siR c)
  | .not a => siR a
  | .and a b => siR a ++ siR b
  | .or a b => siR a ++ siR b
  | .ife t a b => siT t ++ (siR a ++ siR b)
  | .tup as => siA as
  | .lst as => siA as
  | .dct ps => siA ps
  | .lstM as => siA as
  | .orl a b => siR a ++ siR b
  | .bad => []
  | .ix a i => siR a ++ siR i
  | .cut a lo hi => siR a ++ (siO lo ++ siO hi)
  | .rev a => siR a
  | .fld a _ _ => siR a
  | .bi _ as => siA as
  | .isi a _ => siR a
  | .lenO n a => .lenO n :: siR a
  | .call n x as => .call n x :: siA as
  | .callk n x ks idx as => .callk n x ks idx :: siA as
  | .meth n a c m as => .meth n c m :: (siR a ++ siA as)
  | .make n x as => .make n x :: siA as
  | .mt a _ as => siR a ++ siA as
  | .lc gs _ => siG gs
  | .dc gs _ => siG gs
  | .own a => siR a
  | .lend a => siR a
  | .scope a => siR a
def siT : Te → List Site
  | .not a => siT a
  | .and a b => siT a ++ siT b
  | .or a b => siT a ++ siT b
  | .cmp _ a b => siR a ++ siR b
  | .e a => siR a
def siA : Es → List Site
  | .nil => []
  | .cons e es => siR e ++ siA es
  | .star e es => siR e ++ siA es
def siO : Eo → List Site
  | .none => []
  | .some e => siR e
def siI : It → List Site
  | .e a => siR a
  | .r1 a => siR a
  | .r2 a b => siR a ++ siR b
  | .rd a b => siR a ++ siR b
  | .en a => siR a
  | .zp a b => siR a ++ siR b
  | .items a => siR a
  | .vals a => siR a
def siG : Gs → List Site
  | .last _ it ifs elt => siI it ++ (siL ifs ++ siR elt)
  | .dlast _ it ifs ke ve => siI it ++ (siL ifs ++ (siR ke ++ siR ve))
  | .cons _ it ifs gs => siI it ++ (siL ifs ++ siG gs)
def siL : Tl → List Site
  | .nil => []
  | .one e => siT e
end
mutual
def siS : S → List Site
  | .asg _ e => siR e
  | .par _ as => siA as
  | .tgt _ e => siR e
  | .setix o i e => siR o ++ (siR i ++ siR e)
  | .setfld o _ _ e => siR o ++ siR e
  | .aug _ _ e => siR e
  | .ite t a b => siT t ++ (siSs a ++ siSs b)
  | .for _ it b _ => siI it ++ siSs b
  | .while t b _ => siT t ++ siSs b
  | .ret e => siR e
  | .ex e => siR e
  | .pass => []
  | .bad => []
def siSs : Ss → List Site
  | .nil => []
  | .cons s ss => siS s ++ siSs ss
end
end Dl
/-! Y4: what is evaluated holds -/
namespace Dl
open PySem L2
theorem closedB_of {n : Nat} {M : List C} (h : closedB n M = true) : ∀ c ∈ M, ∀ k ∈ c.refs, k < n := fun c hc k hk => Nat.le_of_ble_eq_true ((List.all_eq_true.mp ((List.all_eq_true.mp h) c hc)) k hk)
theorem okTake_of {n : Nat} {M : List C} (h : okTake n M = true) : n ≤ M.length ∧ ∀ c ∈ M.take n, ∀ k ∈ c.refs, k < n := by
  have h := Bool.and_eq_true_iff.mp h
  exact ⟨Nat.le_of_ble_eq_true h.1, closedB_of h.2⟩
section
variable {g : Gx} {env : List Den}
theorem lcE_wp {f : D → List C → Ev (List D)} {f' : D → List C → (List D → List C → Prop) → Prop} {ok : List C → Bool} {ok' : List C → Prop} (hf : ∀ d M out M1, f d M = .ok out M1 → ∀ k : List D → List C → Prop, k out M1 → f' d M k) (ho : ∀ M, ok M = true → ok' M) : ∀ (ds acc : List D) (M : List C) (out : List D) (M1 : List C), lcE f ok ds acc M = .ok out M1 → ∀ Q : List D → List C → Prop, Q out M1 → lcW f' ok' ds acc M Q
  | [], acc, M, out, M1, h, Q, q => by cases h; exact q
  | d :: ds, acc, M, out, M1, h, Q, q => by
    obtain ⟨o, M2, h1, h2⟩ := bd_inv h
    split at h2
    · rename_i e
      exact hf d M o M2 h1 _ ⟨ho _ e, lcE_wp hf ho ds _ M2 out M1 h2 Q q⟩
    · cases h2
theorem dcE_wp {f : D → List C → Ev (List (Key × D))} {f' : D → List C → (List (Key × D) → List C → Prop) → Prop} {ok : List C → Bool} {ok' : List C → Prop} (hf : ∀ d M out M1, f d M = .ok out M1 → ∀ k : List (Key × D) → List C → Prop, k out M1 → f' d M k) (ho : ∀ M, ok M = true → ok' M) : ∀ (ds : List D) (acc : List (Key × D)) (M : List C) (out : List (Key × D)) (M1 : List C), dcE f ok ds acc M = .ok out M1 → ∀ Q : List (Key × D) → List C → Prop, Q out M1 → dcW f' ok' ds acc M Q
  | [], acc, M, out, M1, h, Q, q => by cases h; exact q
  | d :: ds, acc, M, out, M1, h, Q, q => by
    obtain ⟨o, M2, h1, h2⟩ := bd_inv h
    split at h2
    · rename_i e
      exact hf d M o M2 h1 _ ⟨ho _ e, dcE_wp hf ho ds _ M2 out M1 h2 Q q⟩
    · cases h2
theorem keep_ok {M1 M' : List C} {ks : List Nat} (h : (eqLen M1 M' && keepB M1 ks M') = true) : M'.length = M1.length ∧ ∀ k ∈ ks, lkM M' k = lkM M1 k := by
  have h := Bool.and_eq_true_iff.mp h
  exact ⟨Nat.eq_of_beq_eq_true h.1, keepB_of h.2⟩
/-- the next value -/
theorem vz_wp {x : Ev Z} {β : Type} {k : Sl → List C → Ev β} {b : β} {M1 : List C} (h : (vz x).bd k = .ok b M1) : ∃ z M' r, x = .ok z M' ∧ k r M' = .ok b M1 ∧ ∀ Q : Sl → List C → Prop, Q r M' → z.fz M' Q := by
  obtain ⟨r, M', h1, h2⟩ := bd_inv h
  obtain ⟨z, h3, h4⟩ := vz_inv h1
  exact ⟨z, M', r, h3, h2, h4⟩
theorem callZ_of {n : Nat} {x : Str} {rs : List Sl} {M M1 : List C} {z : Z} {Q : Z → List C → Prop} (s : SiteOk g env (.call n x)) (h : doCall (lkA env n) rs M = .ok z M1) (q : Q z M1) : CallZ g x rs M Q := by
  obtain ⟨f, e, h⟩ := doCall_inv h
  obtain ⟨k, d, hk⟩ := s f e
  exact ⟨k, _, d, hk, sp_x h q⟩
theorem map_eq {α β : Type} {f : α → β} : ∀ {l : List α} {m : List α}, l = m → l.map f = m.map f := fun h => by rw [h]
theorem bk_nil {M N : List C} : backM M [] N = M ++ N.map (C.mp (bk [] M.length)) := by
  unfold backM
  have : scat M [] (N.map (C.mp (bk [] M.length))) = M := by cases N <;> rfl
  rw [this]; rfl
theorem wpR_of_lenO {n : Nat} {ds : List D} {f : Den} {i : Int} {M : List C} {Q : Z → List C → Prop} (s : SiteOk g env (.lenO n)) (e : lkA env n = some f) (h : f [.val (.slo 1 ds)] [] = .ok (.s (.val (.int i))) []) (hi : 0 ≤ i ∧ i < 9223372036854775808) (q : Q (.s (.val (.int i))) M) : LenZ g (.val (.slo 1 ds)) M Q := by
  obtain ⟨k, d, hk⟩ := s f e
  refine ⟨1, ds, k, _, rfl, d, hk, fun F As H vs hm hrs G kk => ?_⟩
  have hrs0 : SlRs g.K F [] [.val (.slo 1 ds)] vs := by
    cases hrs with
    | cons h1 h2 => cases h2; exact .cons h1 .nil
  refine ⟨As, hm.frs, F, [], [.val (.slo 1 ds)], [], _, _, by rw [hm.bare]; exact hm_nil F, hrs0, h, fun v F' As' H' r M' s p hr h' hz hn => ?_⟩
  obtain ⟨e1, e2⟩ := hz
  subst e1; subst e2
  have hA : As' = [] := List.length_eq_zero_iff.mp (by rw [h'.len]; rfl)
  subst hA
  have e : F' = H' := funext fun a => (h'.out a (by simp)).symm
  subst e
  exact kk v F' As _ (.val (.int i)) M s (List.prefix_refl _) hr (hm.back s hn) ⟨i, rfl, hi.1, hi.2, rfl, q⟩
end
mutual
theorem evR_wp {g : Gx} {env : List Den} : ∀ (e : E) (ρ : List Sl) (M : List C) (z : Z) (M1 : List C), Al g env (siR e) → evR env e ρ M = .ok z M1 → ∀ Q : Z → List C → Prop, Q z M1 → wpR g e ρ M Q
  | .v i, ρ, M, z, M1, _, h, Q, q => by
    rw [evR] at h
    show (match lk ρ i with
      | .val d => Q (.s (.val d)) M
      | .own k => Q (.s (.own k)) M
      | .un => False)
    split at h
    · rename_i e; cases h; (try simp only [e]); exact q
    · rename_i e; cases h; (try simp only [e]); exact q
    · cases h
  | .k d, ρ, M, z, M1, _, h, Q, q => by rw [evR] at h; cases h; exact q
  | .g x d, ρ, M, z, M1, s, h, Q, q => by rw [evR] at h; cases h; exact ⟨s.1, q⟩
  | .bin o a b, ρ, M, z, M1, s, h, Q, q => by
    rw [evR] at h
    obtain ⟨z1, N1, r1, h1, h, k1⟩ := vz_wp h
    obtain ⟨z2, N2, r2, h2, h, k2⟩ := vz_wp h
    obtain ⟨h3, e⟩ := opt_inv h
    subst e
    exact evR_wp a ρ M z1 N1 (al_app s).1 h1 _ (k1 _ (evR_wp b ρ N1 z2 _ (al_app s).2 h2 _ (k2 _ (binE_wp h3 q))))
  | .neg a, ρ, M, z, M1, s, h, Q, q => by
    rw [evR] at h
    obtain ⟨z1, N1, r1, h1, h, k1⟩ := vz_wp h
    refine evR_wp a ρ M z1 N1 s h1 _ (k1 _ ?_)
    split at h
    · cases h; exact q
    · cases h
  | .cmp o a b, ρ, M, z, M1, s, h, Q, q => by
    rw [evR] at h
    obtain ⟨z1, N1, r1, h1, h, k1⟩ := vz_wp h
    obtain ⟨z2, N2, r2, h2, h, k2⟩ := vz_wp h
    obtain ⟨t, N3, h3, h4⟩ := bd_inv h
    obtain ⟨h3, e⟩ := opt_inv h3
    subst e
    cases h4
    exact evR_wp a ρ M z1 N1 (al_app s).1 h1 _ (k1 _ (evR_wp b ρ N1 z2 _ (al_app s).2 h2 _ (k2 _ (cmpE_wp (Q := fun t => Q (.s (.val (.bl t))) _) h3 q))))
  | .cmp2 o o' a b c, ρ, M, z, M1, s, h, Q, q => by
    rw [evR] at h
    obtain ⟨z1, N1, r1, h1, h, k1⟩ := vz_wp h
    obtain ⟨z2, N2, r2, h2, h, k2⟩ := vz_wp h
    obtain ⟨t, N3, h3, h4⟩ := bd_inv h
    obtain ⟨h3, e⟩ := opt_inv h3
    subst e
    refine evR_wp a ρ M z1 N1 (al_app s).1 h1 _ (k1 _ (evR_wp b ρ N1 z2 _ (al_app (al_app s).2).1 h2 _ (k2 _ (cmpE_wp h3 ?_))))
    cases t with
    | true =>
      obtain ⟨z5, N5, r5, h5, h4, k5⟩ := vz_wp h4
      obtain ⟨t, N6, h6, h7⟩ := bd_inv h4
      obtain ⟨h6, e⟩ := opt_inv h6
      subst e
      cases h7
      exact ⟨fun _ => evR_wp c ρ _ z5 _ (al_app (al_app s).2).2 h5 _ (k5 _ (cmpE_wp (Q := fun t => Q (.s (.val (.bl t))) _) h6 q)), fun e => nomatch e⟩
    | false => cases h4; exact ⟨fun e => (nomatch e), fun _ => q⟩
  | .not a, ρ, M, z, M1, s, h, Q, q => by
    rw [evR] at h
    obtain ⟨z1, N1, r1, h1, h, k1⟩ := vz_wp h
    refine evR_wp a ρ M z1 N1 s h1 _ (k1 _ ?_)
    split at h
    · cases h; exact q
    · cases h
  | .and a b, ρ, M, z, M1, s, h, Q, q => by
    rw [evR] at h
    obtain ⟨z1, N1, r1, h1, h, k1⟩ := vz_wp h
    refine evR_wp a ρ M z1 N1 (al_app s).1 h1 _ (k1 _ ?_)
    split at h
    · rename_i t
      cases t with
      | true => exact ⟨fun _ => evR_wp b ρ N1 z M1 (al_app s).2 h Q q, fun e => nomatch e⟩
      | false => cases h; exact ⟨fun e => (nomatch e), fun _ => q⟩
    · cases h
  | .or a b, ρ, M, z, M1, s, h, Q, q => by
    rw [evR] at h
    obtain ⟨z1, N1, r1, h1, h, k1⟩ := vz_wp h
    refine evR_wp a ρ M z1 N1 (al_app s).1 h1 _ (k1 _ ?_)
    split at h
    · rename_i t
      cases t with
      | false => exact ⟨fun _ => evR_wp b ρ N1 z M1 (al_app s).2 h Q q, fun e => nomatch e⟩
      | true => cases h; exact ⟨fun e => (nomatch e), fun _ => q⟩
    · cases h
  | .ife t a b, ρ, M, z, M1, s, h, Q, q => by
    rw [evR] at h
    obtain ⟨v, N1, h1, h⟩ := bd_inv h
    refine evT_wp t ρ M v N1 (al_app s).1 h1 _ ?_
    cases v with
    | true => exact ⟨fun _ => evR_wp a ρ N1 z M1 (al_app (al_app s).2).1 h Q q, fun e => nomatch e⟩
    | false => exact ⟨fun e => (nomatch e), fun _ => evR_wp b ρ N1 z M1 (al_app (al_app s).2).2 h Q q⟩
  | .tup as, ρ, M, z, M1, s, h, Q, q => by
    rw [evR] at h
    obtain ⟨rs, N1, h1, h⟩ := bd_inv h
    refine evA_wp as ρ M rs N1 s h1 _ ?_
    split at h
    · rename_i ds e
      split at h
      · rename_i e2
        cases h
        exact ⟨ds, valsOf_eq e, Nat.le_of_ble_eq_true e2, q⟩
      · cases h
    · cases h
  | .lst as, ρ, M, z, M1, s, h, Q, q => by
    rw [evR] at h
    obtain ⟨rs, N1, h1, h⟩ := bd_inv h
    refine evA_wp as ρ M rs N1 s h1 _ ?_
    split at h
    · rename_i ds e
      split at h
      · rename_i e2
        cases h
        exact ⟨ds, valsOf_eq e, Nat.le_of_ble_eq_true e2, q⟩
      · cases h
    · cases h
  | .dct as, ρ, M, z, M1, s, h, Q, q => by
    rw [evR] at h
    obtain ⟨rs, N1, h1, h⟩ := bd_inv h
    refine evA_wp as ρ M rs N1 s h1 _ ?_
    split at h
    · rename_i ds e
      split at h
      · rename_i e2
        cases h
        exact ⟨ds, e, Nat.le_of_ble_eq_true e2, q⟩
      · cases h
    · cases h
  | .lstM as, ρ, M, z, M1, s, h, Q, q => by
    rw [evR] at h
    obtain ⟨rs, N1, h1, h⟩ := bd_inv h
    refine evA_wp as ρ M rs N1 s h1 _ ?_
    split at h
    · rename_i e
      cases h
      have e := Bool.and_eq_true_iff.mp e
      exact ⟨⟨Nat.le_of_ble_eq_true e.1, e.2⟩, q⟩
    · cases h
  | .orl a b, ρ, M, z, M1, s, h, Q, q => by
    rw [evR] at h
    obtain ⟨z1, N1, h1, h⟩ := bd_inv h
    refine evR_wp a ρ M z1 N1 (al_app s).1 h1 _ ?_
    split at h
    · cases h; exact q
    · exact evR_wp b ρ N1 z M1 (al_app s).2 h Q q
    · cases h
  | .bad, ρ, M, z, M1, s, h, Q, q => by rw [evR] at h; cases h
  | .ix a b, ρ, M, z, M1, s, h, Q, q => by
    rw [evR] at h
    obtain ⟨z1, N1, r1, h1, h, k1⟩ := vz_wp h
    obtain ⟨z2, N2, r2, h2, h, k2⟩ := vz_wp h
    obtain ⟨t, N3, h3, h4⟩ := bd_inv h
    obtain ⟨h3, e⟩ := opt_inv h3
    subst e
    cases h4
    exact evR_wp a ρ M z1 N1 (al_app s).1 h1 _ (k1 _ (evR_wp b ρ N1 z2 _ (al_app s).2 h2 _ (k2 _ (ixE_wp (Q := fun r => Q (.s r) _) h3 q))))
  | .cut a lo hi, ρ, M, z, M1, s, h, Q, q => by
    rw [evR] at h
    obtain ⟨z1, N1, r1, h1, h, k1⟩ := vz_wp h
    obtain ⟨o1, N2, h2, h⟩ := bd_inv h
    obtain ⟨o2, N3, h3, h⟩ := bd_inv h
    refine evR_wp a ρ M z1 N1 (al_app s).1 h1 _ (k1 _ (evO_wp lo ρ N1 o1 N2 (al_app (al_app s).2).1 h2 _ (evO_wp hi ρ N2 o2 N3 (al_app (al_app s).2).2 h3 _ ?_)))
    split at h
    · rename_i e; cases h; (try simp only [e]); exact q
    · rename_i e; cases h; (try simp only [e]); exact q
    · rename_i e
      split at h
      · cases h; exact q
      · cases h
  | .rev a, ρ, M, z, M1, s, h, Q, q => by
    rw [evR] at h
    obtain ⟨z1, N1, r1, h1, h, k1⟩ := vz_wp h
    refine evR_wp a ρ M z1 N1 s h1 _ (k1 _ ?_)
    split at h
    · rename_i e; cases h; (try simp only [e]); exact q
    · cases h
  | .fld a c i, ρ, M, z, M1, s, h, Q, q => by
    rw [evR] at h
    obtain ⟨z1, N1, r1, h1, h, k1⟩ := vz_wp h
    refine evR_wp a ρ M z1 N1 s h1 _ (k1 _ ?_)
    split at h
    · rename_i e; cases h; simp only [e]; exact q
    · rename_i e; cases h; simp only [e]; exact q
    · cases h
  | .bi b as, ρ, M, z, M1, s, h, Q, q => by
    rw [evR] at h
    obtain ⟨rs, N1, h1, h⟩ := bd_inv h
    obtain ⟨h2, e⟩ := opt_inv h
    subst e
    exact evA_wp as ρ M rs _ s h1 _ (biE_wp (Q := fun z => Q z _) h2 q)
  | .isi a ts, ρ, M, z, M1, s, h, Q, q => by
    rw [evR] at h
    obtain ⟨z1, N1, r1, h1, h, k1⟩ := vz_wp h
    refine evR_wp a ρ M z1 N1 s h1 _ (k1 _ ?_)
    split at h
    · rename_i d e
      split at h
      · rename_i e2
        cases h
        (try simp only [e])
        exact ⟨fun e3 => by rw [e3] at e2; simp at e2, q⟩
      · cases h
    · cases h
  | .lenO n a, ρ, M, z, M1, s, h, Q, q => by
    rw [evR] at h
    obtain ⟨z1, N1, r1, h1, h, k1⟩ := vz_wp h
    refine evR_wp a ρ M z1 N1 s.2 h1 _ (k1 _ ?_)
    split at h
    · rename_i ds f e
      split at h
      · rename_i i e2
        split at h
        · rename_i e3
          cases h
          exact wpR_of_lenO s.1 e e2 (of_decide_eq_true e3) q
        · cases h
      · cases h
    · cases h
  | .call n x as, ρ, M, z, M1, s, h, Q, q => by
    rw [evR] at h
    obtain ⟨rs, N1, h1, h⟩ := bd_inv h
    obtain ⟨f, e, h'⟩ := doCall_inv h
    obtain ⟨k, d, hk⟩ := s.1 f e
    exact ⟨d.has, evA_wp as ρ M rs N1 s.2 h1 _ ⟨k, _, d, hk, sp_x h' q⟩⟩
  | .callk n x ks idx as, ρ, M, z, M1, s, h, Q, q => by
    rw [evR] at h
    obtain ⟨rs, N1, h1, h⟩ := bd_inv h
    split at h
    · rename_i el
      obtain ⟨f, e, h'⟩ := doCall_inv h
      obtain ⟨k, d, hk⟩ := s.1 f e
      exact ⟨d.has, evA_wp as ρ M rs N1 s.2 h1 _ ⟨k, idx, _, d, hk, Nat.eq_of_beq_eq_true el, sp_x h' q⟩⟩
    · cases h
  | .meth n a c m as, ρ, M, z, M1, s, h, Q, q => by
    rw [evR] at h
    obtain ⟨z1, N1, r1, h1, h, k1⟩ := vz_wp h
    refine evR_wp a ρ M z1 N1 (al_app s.2).1 h1 _ (k1 _ ?_)
    cases ec : recvC N1 r1 with
    | none => simp only [ec] at h; cases h
    | some c' =>
      simp only [ec] at h
      cases e0 : Nat.beq c' c with
      | false => simp only [e0] at h; cases h
      | true =>
        simp only [e0] at h
        have e0' := Nat.eq_of_beq_eq_true e0
        obtain ⟨rs, N2, h2, h3⟩ := bd_inv h
        obtain ⟨f, e, h'⟩ := doCall_inv h3
        obtain ⟨k, d, hk⟩ := s.1 f e
        exact ⟨by rw [e0'], d.has, evA_wp as ρ N1 rs N2 (al_app s.2).2 h2 _ ⟨k, _, d, hk, sp_x h' q⟩⟩
  | .make n x as, ρ, M, z, M1, s, h, Q, q => by
    rw [evR] at h
    obtain ⟨rs, N1, h1, h⟩ := bd_inv h
    split at h
    · rename_i ds ed
      obtain ⟨f, e, h'⟩ := doCall_inv h
      obtain ⟨hc, hmk⟩ := s.1 f e
      exact ⟨hc, evA_wp as ρ M rs N1 s.2 h1 _ (hmk rs N1 z M1 Q (by rw [ed]; simp) (by rw [← e]; exact h) q)⟩
    · cases h
  | .mt a m as, ρ, M, z, M1, s, h, Q, q => by
    rw [evR] at h
    obtain ⟨z1, N1, r1, h1, h, k1⟩ := vz_wp h
    refine evR_wp a ρ M z1 N1 (al_app s).1 h1 _ (k1 _ ?_)
    split at h
    · rename_i e0
      obtain ⟨rs, N2, h2, h⟩ := bd_inv h
      split at h
      · rename_i e1
        cases h
        exact ⟨e0, evA_wp as ρ N1 rs N2 (al_app s).2 h2 _ (mtE_wp e1 q)⟩
      · cases h
    · cases h
  | .lc gs own, ρ, M, z, M1, s, h, Q, q => by
    rw [evR] at h
    obtain ⟨out, N1, h1, h⟩ := bd_inv h
    cases h
    exact evG_wp gs (clr ρ own) M out _ s h1 _ q
  | .dc gs own, ρ, M, z, M1, s, h, Q, q => by
    rw [evR] at h
    obtain ⟨out, N1, h1, h⟩ := bd_inv h
    cases h
    exact evD_wp gs (clr ρ own) M out _ s h1 _ q
  | .own a, ρ, M, z, M1, s, h, Q, q => by
    rw [evR] at h
    obtain ⟨z1, N1, h1, h⟩ := bd_inv h
    refine evR_wp a ρ M z1 N1 s h1 _ ?_
    split at h
    · cases h; exact q
    · cases h
  | .lend a, ρ, M, z, M1, s, h, Q, q => by
    rw [evR] at h
    obtain ⟨z1, N1, h1, h⟩ := bd_inv h
    refine evR_wp a (ρ.map (lendS M)) [] z1 N1 s h1 _ ?_
    split at h
    · split at h
      · rename_i e; cases h; exact ⟨e, q⟩
      · cases h
    · split at h
      · rename_i e; cases h; exact ⟨e, q⟩
      · cases h
    · cases h
  | .scope a, ρ, M, z, M1, s, h, Q, q => by
    rw [evR] at h
    obtain ⟨z1, N1, r1, h1, h, k1⟩ := vz_wp h
    refine evR_wp a ρ M z1 N1 s h1 _ (k1 _ ?_)
    split at h
    · rename_i d e
      cases h
      exact ⟨okTake_of e, q⟩
    · cases h
theorem evT_wp {g : Gx} {env : List Den} : ∀ (e : Te) (ρ : List Sl) (M : List C) (t : Bool) (M1 : List C), Al g env (siT e) → evT env e ρ M = .ok t M1 → ∀ Q : Bool → List C → Prop, Q t M1 → wpT g e ρ M Q
  | .not a, ρ, M, t, M1, s, h, Q, q => by
    rw [evT] at h
    obtain ⟨v, N1, h1, h⟩ := bd_inv h
    cases h
    exact evT_wp a ρ M v _ s h1 _ q
  | .and a b, ρ, M, t, M1, s, h, Q, q => by
    rw [evT] at h
    obtain ⟨v, N1, h1, h⟩ := bd_inv h
    refine evT_wp a ρ M v N1 (al_app s).1 h1 _ ?_
    cases v with
    | true => exact ⟨fun _ => evT_wp b ρ N1 t M1 (al_app s).2 h Q q, fun e => nomatch e⟩
    | false => cases h; exact ⟨fun e => (nomatch e), fun _ => q⟩
  | .or a b, ρ, M, t, M1, s, h, Q, q => by
    rw [evT] at h
    obtain ⟨v, N1, h1, h⟩ := bd_inv h
    refine evT_wp a ρ M v N1 (al_app s).1 h1 _ ?_
    cases v with
    | false => exact ⟨fun _ => evT_wp b ρ N1 t M1 (al_app s).2 h Q q, fun e => nomatch e⟩
    | true => cases h; exact ⟨fun e => (nomatch e), fun _ => q⟩
  | .cmp o a b, ρ, M, t, M1, s, h, Q, q => by
    rw [evT] at h
    obtain ⟨z1, N1, r1, h1, h, k1⟩ := vz_wp h
    obtain ⟨z2, N2, r2, h2, h, k2⟩ := vz_wp h
    obtain ⟨h3, e⟩ := opt_inv h
    subst e
    exact evR_wp a ρ M z1 N1 (al_app s).1 h1 _ (k1 _ (evR_wp b ρ N1 z2 _ (al_app s).2 h2 _ (k2 _ (cmpE_wp (Q := fun t => Q t _) h3 q))))
  | .e a, ρ, M, t, M1, s, h, Q, q => by
    rw [evT] at h
    obtain ⟨z1, N1, r1, h1, h, k1⟩ := vz_wp h
    refine evR_wp a ρ M z1 N1 s h1 _ (k1 _ ?_)
    split at h
    · cases h; exact q
    · cases h
theorem evA_wp {g : Gx} {env : List Den} : ∀ (e : Es) (ρ : List Sl) (M : List C) (rs : List Sl) (M1 : List C), Al g env (siA e) → evA env e ρ M = .ok rs M1 → ∀ Q : List Sl → List C → Prop, Q rs M1 → wpA g e ρ M Q
  | .nil, ρ, M, rs, M1, s, h, Q, q => by rw [evA] at h; cases h; exact q
  | .cons e es, ρ, M, rs, M1, s, h, Q, q => by
    rw [evA] at h
    obtain ⟨z1, N1, r1, h1, h, k1⟩ := vz_wp h
    obtain ⟨rs2, N2, h2, h⟩ := bd_inv h
    cases h
    exact evR_wp e ρ M z1 N1 (al_app s).1 h1 _ (k1 _ (evA_wp es ρ N1 rs2 _ (al_app s).2 h2 _ q))
  | .star e es, ρ, M, rs, M1, s, h, Q, q => by
    rw [evA] at h
    obtain ⟨z1, N1, r1, h1, h, k1⟩ := vz_wp h
    refine evR_wp e ρ M z1 N1 (al_app s).1 h1 _ (k1 _ ?_)
    split at h
    · rename_i e1
      obtain ⟨rs2, N2, h2, h⟩ := bd_inv h
      cases h
      (try simp only [e1])
      exact evA_wp es ρ N1 rs2 _ (al_app s).2 h2 _ q
    · cases h
theorem evO_wp {g : Gx} {env : List Den} : ∀ (e : Eo) (ρ : List Sl) (M : List C) (o : Option Int) (M1 : List C), Al g env (siO e) → evO env e ρ M = .ok o M1 → ∀ Q : Option Int → List C → Prop, Q o M1 → wpO g e ρ M Q
  | .none, ρ, M, rs, M1, s, h, Q, q => by rw [evO] at h; cases h; exact q
  | .some e, ρ, M, rs, M1, s, h, Q, q => by
    rw [evO] at h
    obtain ⟨z1, N1, r1, h1, h, k1⟩ := vz_wp h
    refine evR_wp e ρ M z1 N1 s h1 _ (k1 _ ?_)
    split at h
    · cases h; exact q
    · cases h
theorem evI_wp {g : Gx} {env : List Den} : ∀ (e : It) (ρ : List Sl) (M : List C) (p : List D × List Nat) (M1 : List C), Al g env (siI e) → evI env e ρ M = .ok p M1 → ∀ Q : List D → List Nat → List C → Prop, Q p.1 p.2 M1 → wpI g e ρ M Q
  | .e a, ρ, M, p, M1, s, h, Q, q => by
    rw [evI] at h
    obtain ⟨z1, N1, r1, h1, h, k1⟩ := vz_wp h
    refine evR_wp a ρ M z1 N1 s h1 _ (k1 _ ?_)
    split at h
    · rename_i e1; cases h; (try simp only [e1]); exact q
    · cases h
  | .r1 a, ρ, M, p, M1, s, h, Q, q => by
    rw [evI] at h
    obtain ⟨z1, N1, r1, h1, h, k1⟩ := vz_wp h
    refine evR_wp a ρ M z1 N1 s h1 _ (k1 _ ?_)
    split at h
    · split at h
      · rename_i e; cases h; exact ⟨of_decide_eq_true e, q⟩
      · cases h
    · cases h
  | .r2 a b, ρ, M, p, M1, s, h, Q, q => by
    rw [evI] at h
    obtain ⟨z1, N1, r1, h1, h, k1⟩ := vz_wp h
    obtain ⟨z2, N2, r2, h2, h, k2⟩ := vz_wp h
    refine evR_wp a ρ M z1 N1 (al_app s).1 h1 _ (k1 _ (evR_wp b ρ N1 z2 N2 (al_app s).2 h2 _ (k2 _ ?_)))
    split at h
    · split at h
      · rename_i e; cases h; exact ⟨of_decide_eq_true e, q⟩
      · cases h
    · cases h
  | .rd a b, ρ, M, p, M1, s, h, Q, q => by
    rw [evI] at h
    obtain ⟨z1, N1, r1, h1, h, k1⟩ := vz_wp h
    obtain ⟨z2, N2, r2, h2, h, k2⟩ := vz_wp h
    refine evR_wp a ρ M z1 N1 (al_app s).1 h1 _ (k1 _ (evR_wp b ρ N1 z2 N2 (al_app s).2 h2 _ (k2 _ ?_)))
    split at h
    · split at h
      · rename_i e; cases h; exact ⟨of_decide_eq_true e, q⟩
      · cases h
    · cases h
  | .en a, ρ, M, p, M1, s, h, Q, q => by
    rw [evI] at h
    obtain ⟨z1, N1, r1, h1, h, k1⟩ := vz_wp h
    refine evR_wp a ρ M z1 N1 s h1 _ (k1 _ ?_)
    split at h
    · rename_i e1; cases h; (try simp only [e1]); exact q
    · cases h
  | .zp a b, ρ, M, p, M1, s, h, Q, q => by
    rw [evI] at h
    obtain ⟨z1, N1, r1, h1, h, k1⟩ := vz_wp h
    obtain ⟨z2, N2, r2, h2, h, k2⟩ := vz_wp h
    refine evR_wp a ρ M z1 N1 (al_app s).1 h1 _ (k1 _ (evR_wp b ρ N1 z2 N2 (al_app s).2 h2 _ (k2 _ ?_)))
    split at h
    · rename_i e1 e2; cases h; (try simp only [e1, e2]); exact q
    · rename_i e1 e2; cases h; (try simp only [e1, e2]); exact q
    · cases h
  | .items a, ρ, M, p, M1, s, h, Q, q => by rw [evI] at h; cases h
  | .vals a, ρ, M, p, M1, s, h, Q, q => by rw [evI] at h; cases h
theorem evG_wp {g : Gx} {env : List Den} : ∀ (e : Gs) (ρ : List Sl) (M : List C) (out : List D) (M1 : List C), Al g env (siG e) → evG env e ρ M = .ok out M1 → ∀ Q : List D → List C → Prop, Q out M1 → wpG g e ρ M Q
  | .last tg it ifs elt, ρ, M, out, M1, s, h, Q, q => by
    rw [evG] at h
    obtain ⟨p, N1, h1, h⟩ := bd_inv h
    refine evI_wp it ρ M p N1 (al_app s).1 h1 _ ?_
    split at h
    · rename_i el
      refine ⟨Nat.le_of_ble_eq_true el, lcE_wp (fun d M' o N2 hd k hk => ?_) (fun M' e => keep_ok e) _ _ _ _ _ h Q q⟩
      obtain ⟨ρ2, N3, h2, hd1⟩ := bd_inv hd
      obtain ⟨h2', e⟩ := opt_inv h2
      subst e
      obtain ⟨t, N4, h3, hd⟩ := bd_inv hd1
      refine bindE_wp h2' (evTs_wp ifs ρ2 _ t N4 (al_app (al_app s).2).1 h3 _ ?_)
      cases t with
      | true =>
        obtain ⟨z1, N5, r1, h5, hd, k1⟩ := vz_wp hd
        refine ⟨fun _ => evR_wp elt ρ2 N4 z1 N5 (al_app (al_app s).2).2 h5 _ (k1 _ ?_), fun e => nomatch e⟩
        split at hd
        · cases hd; exact hk
        · cases hd
      | false => cases hd; exact ⟨fun e => (nomatch e), fun _ => hk⟩
    · cases h
  | .dlast _ _ _ _ _, ρ, M, out, M1, s, h, Q, q => by rw [evG] at h; cases h
  | .cons tg it ifs gs, ρ, M, out, M1, s, h, Q, q => by
    rw [evG] at h
    obtain ⟨p, N1, h1, h⟩ := bd_inv h
    refine evI_wp it ρ M p N1 (al_app s).1 h1 _ ?_
    split at h
    · rename_i el
      refine ⟨Nat.le_of_ble_eq_true el, lcE_wp (fun d M' o N2 hd k hk => ?_) (fun M' e => keep_ok e) _ _ _ _ _ h Q q⟩
      obtain ⟨ρ2, N3, h2, hd1⟩ := bd_inv hd
      obtain ⟨h2', e⟩ := opt_inv h2
      subst e
      obtain ⟨t, N4, h3, hd⟩ := bd_inv hd1
      refine bindE_wp h2' (evTs_wp ifs ρ2 _ t N4 (al_app (al_app s).2).1 h3 _ ?_)
      cases t with
      | true =>
        obtain ⟨o2, N5, h5, hd⟩ := bd_inv hd
        refine ⟨fun _ => evG_wp gs (clr ρ2 gs.ix1) N4 o2 N5 (al_app (al_app s).2).2 h5 _ ?_, fun e => nomatch e⟩
        split at hd
        · rename_i e; cases hd; exact ⟨Nat.le_of_ble_eq_true e, hk⟩
        · cases hd
      | false => cases hd; exact ⟨fun e => (nomatch e), fun _ => hk⟩
    · cases h
theorem evD_wp {g : Gx} {env : List Den} : ∀ (e : Gs) (ρ : List Sl) (M : List C) (out : List (Key × D)) (M1 : List C), Al g env (siG e) → evD env e ρ M = .ok out M1 → ∀ Q : List (Key × D) → List C → Prop, Q out M1 → wpD g e ρ M Q
  | .dlast tg it ifs ke ve, ρ, M, out, M1, s, h, Q, q => by
    rw [evD] at h
    obtain ⟨p, N1, h1, h⟩ := bd_inv h
    refine evI_wp it ρ M p N1 (al_app s).1 h1 _ ?_
    split at h
    · rename_i el
      refine ⟨Nat.le_of_ble_eq_true el, dcE_wp (fun d M' o N2 hd k hk => ?_) (fun M' e => keep_ok e) _ _ _ _ _ h Q q⟩
      obtain ⟨ρ2, N3, h2, hd1⟩ := bd_inv hd
      obtain ⟨h2', e⟩ := opt_inv h2
      subst e
      obtain ⟨t, N4, h3, hd⟩ := bd_inv hd1
      refine bindE_wp h2' (evTs_wp ifs ρ2 _ t N4 (al_app (al_app s).2).1 h3 _ ?_)
      cases t with
      | true =>
        obtain ⟨z1, N5, r1, h5, hd, k1⟩ := vz_wp hd
        obtain ⟨z2, N6, r2, h6, hd, k2⟩ := vz_wp hd
        refine ⟨fun _ => evR_wp ke ρ2 N4 z1 N5 (al_app (al_app (al_app s).2).2).1 h5 _ (k1 _ (evR_wp ve ρ2 N5 z2 N6 (al_app (al_app (al_app s).2).2).2 h6 _ (k2 _ ?_))), fun e => nomatch e⟩
        split at hd
        · split at hd
          · rename_i e; cases hd; (try simp only [e]); exact hk
          · cases hd
        · cases hd
      | false => cases hd; exact ⟨fun e => (nomatch e), fun _ => hk⟩
    · cases h
  | .last _ _ _ _, ρ, M, out, M1, s, h, Q, q => by rw [evD] at h; cases h
  | .cons _ _ _ _, ρ, M, out, M1, s, h, Q, q => by rw [evD] at h; cases h
theorem evTs_wp {g : Gx} {env : List Den} : ∀ (e : Tl) (ρ : List Sl) (M : List C) (t : Bool) (M1 : List C), Al g env (siL e) → evTs env e ρ M = .ok t M1 → ∀ Q : Bool → List C → Prop, Q t M1 → wpTs g e ρ M Q
  | .nil, ρ, M, t, M1, s, h, Q, q => by rw [evTs] at h; cases h; exact q
  | .one e, ρ, M, t, M1, s, h, Q, q => by rw [evTs] at h; exact evT_wp e ρ M t M1 s h Q q
end
/-! ### statements -/
def doR (Q : DE) (r : Rs) (M : List C) : Prop :=
  match r with
  | .nx ρ => Q.nx ρ M
  | .rt z => Q.rt z M
  | .bk ρ => Q.bk ρ M
  | .ct ρ => Q.ct ρ M
theorem trimE_wp {n : Nat} {dead : List Nat} {ρ ρ' : List Sl} {M M' : List C} {Q : List Sl → List C → Prop} (h : trimE n dead ρ M = .ok ρ' M') (q : Q ρ' M') : trimW n dead Q ρ M := by
  unfold trimE at h
  split at h
  · rename_i e
    have e := Bool.and_eq_true_iff.mp e
    cases h
    exact ⟨Nat.le_of_ble_eq_true e.1, fun c hc k hk => closedB_of e.2 c hc k hk, q⟩
  · cases h
theorem forE_wp {body : D → List Sl → List C → Ev Rs} {body' : D → List Sl → List C → DE → Prop} {n : Nat} {dead : List Nat} {ok : List C → Bool} {ok' : List C → Prop} (hb : ∀ d ρ M r M1, body d ρ M = .ok r M1 → ∀ Q : DE, doR Q r M1 → body' d ρ M Q) (ho : ∀ M, ok M = true → ok' M) : ∀ (ds : List D) (ρ : List Sl) (M : List C) (r : Rs) (M1 : List C), forE body (trimE n dead) ok ds ρ M = .ok r M1 → ∀ Q : DE, doR Q r M1 → forW body' (trimW n dead) ok' ds ρ M Q
  | [], ρ, M, r, M1, h, Q, q => by cases h; exact q
  | d :: ds, ρ, M, r, M1, h, Q, q => by
    obtain ⟨r1, M2, h1, h2⟩ := bd_inv h
    refine hb d ρ M r1 M2 h1 _ ?_
    cases r1 with
    | nx ρ' =>
      obtain ⟨ρ2, M3, h3, h4⟩ := bd_inv h2
      split at h4
      · rename_i e
        exact trimE_wp (Q := fun ρ' M' => ok' M' ∧ forW body' (trimW n dead) ok' ds ρ' M' Q) h3 ⟨ho _ e, forE_wp hb ho ds ρ2 M3 r M1 h4 Q q⟩
      · cases h4
    | ct ρ' =>
      obtain ⟨ρ2, M3, h3, h4⟩ := bd_inv h2
      split at h4
      · rename_i e
        exact trimE_wp (Q := fun ρ' M' => ok' M' ∧ forW body' (trimW n dead) ok' ds ρ' M' Q) h3 ⟨ho _ e, forE_wp hb ho ds ρ2 M3 r M1 h4 Q q⟩
      · cases h4
    | bk ρ' => cases h2; exact q
    | rt z => cases h2; exact q
theorem whileE_wp {test : List Sl → List C → Ev Bool} {test' : List Sl → List C → (Bool → List C → Prop) → Prop} {body : List Sl → List C → Ev Rs} {body' : List Sl → List C → DE → Prop} {n : Nat} {dead : List Nat} (ht : ∀ ρ M t M1, test ρ M = .ok t M1 → ∀ Q : Bool → List C → Prop, Q t M1 → test' ρ M Q) (hb : ∀ ρ M r M1, body ρ M = .ok r M1 → ∀ Q : DE, doR Q r M1 → body' ρ M Q) : ∀ (k : Nat) (ρ : List Sl) (M : List C) (r : Rs) (M1 : List C), whileE test body (trimE n dead) k ρ M = .ok r M1 → ∀ Q : DE, doR Q r M1 → whileW test' body' (trimW n dead) Q k ρ M
  | 0, ρ, M, r, M1, h, Q, q => by cases h
  | k + 1, ρ, M, r, M1, h, Q, q => by
    rw [whileE] at h
    obtain ⟨t, M2, h1, h2⟩ := bd_inv h
    refine ht ρ M t M2 h1 _ ?_
    cases t with
    | false => cases h2; exact ⟨fun e => (nomatch e), fun _ => q⟩
    | true =>
      refine ⟨fun _ => ?_, fun e => nomatch e⟩
      obtain ⟨r1, M3, h3, h4⟩ := bd_inv h2
      refine hb ρ M2 r1 M3 h3 _ ?_
      cases r1 with
      | nx ρ' =>
        obtain ⟨ρ2, M4, h5, h6⟩ := bd_inv h4
        exact trimE_wp (Q := fun ρ' M' => whileW test' body' (trimW n dead) Q k ρ' M') h5 (whileE_wp ht hb k ρ2 M4 r M1 h6 Q q)
      | ct ρ' =>
        obtain ⟨ρ2, M4, h5, h6⟩ := bd_inv h4
        exact trimE_wp (Q := fun ρ' M' => whileW test' body' (trimW n dead) Q k ρ' M') h5 (whileE_wp ht hb k ρ2 M4 r M1 h6 Q q)
      | bk ρ' => cases h4; exact q
      | rt z => cases h4; exact q
mutual
theorem evS_wp {g : Gx} {env : List Den} : ∀ (s : S) (ρ : List Sl) (M : List C) (r : Rs) (M1 : List C), Al g env (siS s) → evS env s ρ M = .ok r M1 → ∀ Q : DE, doR Q r M1 → wpS g s ρ M Q
  | .asg i e, ρ, M, r, M1, s, h, Q, q => by
    rw [evS] at h
    obtain ⟨z1, N1, r1, h1, h, k1⟩ := vz_wp h
    cases h
    exact evR_wp e ρ M z1 _ s h1 _ (k1 _ q)
  | .par is as, ρ, M, r, M1, s, h, Q, q => by
    rw [evS] at h
    obtain ⟨rs, N1, h1, h⟩ := bd_inv h
    refine evA_wp as ρ M rs N1 s h1 _ ?_
    split at h
    · rename_i e; cases h; exact ⟨Nat.eq_of_beq_eq_true e, q⟩
    · cases h
  | .tgt tg e, ρ, M, r, M1, s, h, Q, q => by
    rw [evS] at h
    obtain ⟨z1, N1, r1, h1, h, k1⟩ := vz_wp h
    refine evR_wp e ρ M z1 _ s h1 _ (k1 _ ?_)
    split at h
    · obtain ⟨ρ', N2, h2, h3⟩ := bd_inv h
      obtain ⟨h4, e⟩ := opt_inv h2
      subst e
      cases h3
      exact bindE_wp (Q := fun ρ' => Q.nx ρ' _) h4 q
    · cases h
  | .setix o i e, ρ, M, r, M1, s, h, Q, q => by
    rw [evS] at h
    obtain ⟨z1, N1, r1, h1, h, k1⟩ := vz_wp h
    obtain ⟨z2, N2, r2, h2, h, k2⟩ := vz_wp h
    obtain ⟨z3, N3, r3, h3, h, k3⟩ := vz_wp h
    refine evR_wp e ρ M z1 _ (al_app (al_app s).2).2 h1 _ (k1 _ (evR_wp o ρ N1 z2 _ (al_app s).1 h2 _ (k2 _ (evR_wp i ρ N2 z3 _ (al_app (al_app s).2).1 h3 _ (k3 _ ?_)))))
    split at h
    · rename_i e1; cases h; exact setE_wp e1 q
    · cases h
  | .setfld o c i e, ρ, M, r, M1, s, h, Q, q => by
    rw [evS] at h
    obtain ⟨z1, N1, r1, h1, h, k1⟩ := vz_wp h
    obtain ⟨z2, N2, r2, h2, h, k2⟩ := vz_wp h
    refine evR_wp e ρ M z1 _ (al_app s).2 h1 _ (k1 _ (evR_wp o ρ N1 z2 _ (al_app s).1 h2 _ (k2 _ ?_)))
    split at h
    · rename_i e1 e2; cases h; simp only [e2]; exact ⟨e1, q⟩
    · cases h
  | .aug i o e, ρ, M, r, M1, s, h, Q, q => by
    rw [evS] at h
    show (match lk ρ i with
      | .val (.int x) => wpR g e ρ M fun z M1 => z.fz M1 fun r M1 => binR o (.val (.int x)) r M1 fun z => z.fz M1 fun r M1 => Q.nx (pt ρ i r) M1
      | _ => False)
    split at h
    · rename_i x ex
      obtain ⟨z1, N1, r1, h1, h, k1⟩ := vz_wp h
      obtain ⟨z2, N2, r2, h2, h3, k2⟩ := vz_wp h
      obtain ⟨h4, e1⟩ := opt_inv h2
      subst e1
      cases h3
      (try simp only [ex])
      exact evR_wp e ρ M z1 _ s h1 _ (k1 _ (binE_wp h4 (k2 _ q)))
    · cases h
  | .ite t a b, ρ, M, r, M1, s, h, Q, q => by
    rw [evS] at h
    obtain ⟨v, N1, h1, h⟩ := bd_inv h
    refine evT_wp t ρ M v N1 (al_app s).1 h1 _ ?_
    cases v with
    | true => exact ⟨fun _ => evSs_wp a ρ N1 r M1 (al_app (al_app s).2).1 h Q q, fun e => nomatch e⟩
    | false => exact ⟨fun e => (nomatch e), fun _ => evSs_wp b ρ N1 r M1 (al_app (al_app s).2).2 h Q q⟩
  | .for tg it b dead, ρ, M, r, M1, s, h, Q, q => by
    rw [evS] at h
    obtain ⟨p, N1, h1, h⟩ := bd_inv h
    refine evI_wp it ρ M p N1 (al_app s).1 h1 _ (forE_wp (fun d ρ M r M1 hb Q q => ?_) (fun M' e => keepB_of e) _ _ _ _ _ h Q q)
    obtain ⟨ρ2, N3, h2, hd⟩ := bd_inv hb
    obtain ⟨h4, e⟩ := opt_inv h2
    subst e
    exact bindE_wp (Q := fun ρ' => wpSs g b ρ' _ Q) h4 (evSs_wp b ρ2 _ r M1 (al_app s).2 hd Q q)
  | .while t b dead, ρ, M, r, M1, s, h, Q, q => by
    rw [evS] at h
    exact ⟨fuelW, whileE_wp (fun ρ M v M1 hv Q q => evT_wp t ρ M v M1 (al_app s).1 hv Q q) (fun ρ M r M1 hb Q q => evSs_wp b ρ M r M1 (al_app s).2 hb Q q) _ _ _ _ _ h Q q⟩
  | .ret e, ρ, M, r, M1, s, h, Q, q => by
    rw [evS] at h
    obtain ⟨z, N1, h1, h⟩ := bd_inv h
    cases h
    exact evR_wp e ρ M z _ s h1 _ q
  | .ex e, ρ, M, r, M1, s, h, Q, q => by
    rw [evS] at h
    obtain ⟨z1, N1, r1, h1, h, k1⟩ := vz_wp h
    cases h
    exact evR_wp e ρ M z1 _ s h1 _ (k1 _ q)
  | .pass, ρ, M, r, M1, s, h, Q, q => by rw [evS] at h; cases h; exact q
  | .bad, ρ, M, r, M1, s, h, Q, q => by rw [evS] at h; cases h
theorem evSs_wp {g : Gx} {env : List Den} : ∀ (s : Ss) (ρ : List Sl) (M : List C) (r : Rs) (M1 : List C), Al g env (siSs s) → evSs env s ρ M = .ok r M1 → ∀ Q : DE, doR Q r M1 → wpSs g s ρ M Q
  | .nil, ρ, M, r, M1, s, h, Q, q => by rw [evSs] at h; cases h; exact q
  | .cons a ss, ρ, M, r, M1, s, h, Q, q => by
    rw [evSs] at h
    obtain ⟨r1, N1, h1, h⟩ := bd_inv h
    refine evS_wp a ρ M r1 N1 (al_app s).1 h1 _ ?_
    cases r1 with
    | nx ρ' => exact evSs_wp ss ρ' N1 r M1 (al_app s).2 h Q q
    | rt z => cases h; exact q
    | bk ρ' => cases h; exact q
    | ct ρ' => cases h; exact q
end
end Dl
/-! Y5: entries -/
namespace Dl
open PySem L2
section
variable {K : PySem.W.Frag} {F F' : Hp} {As : List Addr} {M : List C} {H : Hp}
/-- the first n cells and one more stay -/
theorem HM.keep (h : HM K F As M H) {n k : Nat} {a : Addr} {c : C} (hn : n ≤ M.length) (hr : ∀ c ∈ M.take n, ∀ k ∈ c.refs, k < n) (hk : n ≤ k) (ha : As[k]? = some a) (hc : M[k]? = some c) (hcr : c.refs = []) : ∃ F', Same F F' ∧ HM K F' (As.take n ++ [a]) (M.take n ++ [c]) H := by
  have hl := h.len
  have nd := h.nd
  have split : As = As.take n ++ As.drop n := (List.take_append_drop n As).symm
  have tl : (As.take n).length = n := by rw [List.length_take]; omega
  have tm : ∀ b, b ∈ As.take n ++ [a] → b ∈ As := fun b hb => by
    rcases List.mem_append.mp hb with hb | hb
    · exact List.mem_of_mem_take hb
    · rw [List.mem_singleton.mp hb]; exact List.mem_of_getElem? ha
  have sm : Same F (dels H (As.take n ++ [a])) := fun b o e => by
    have na : b ∉ As := fun z => by rw [h.off b z] at e; cases e
    rw [dels_ne fun z => na (tm b z), h.out b na]; exact e
  have na : a ∉ As.take n := fun z => by
    obtain ⟨i, ei⟩ := List.mem_iff_getElem?.mp z
    have hi : i < n := by have := (List.getElem?_eq_some_iff.mp ei).1; omega
    rw [List.getElem?_take, if_pos hi] at ei
    have := (List.getElem?_inj (List.getElem?_eq_some_iff.mp ei).1 nd).mp (ei.trans ha.symm)
    omega
  refine ⟨dels H (As.take n ++ [a]), sm, ⟨?_, ?_, fun i b c' eb ec => ?_, fun b hb => dels_in hb, fun b hb => (dels_ne hb).symm⟩⟩
  · refine List.nodup_append.mpr ⟨?_, by simp, fun x hx y hy e => ?_⟩
    · rw [split] at nd; exact (List.nodup_append.mp nd).1
    · rw [List.mem_singleton.mp hy] at e; rw [e] at hx; exact na hx
  · rw [List.length_append, List.length_append, List.length_take, List.length_take, hl]; rfl
  · by_cases hi : i < n
    · rw [List.getElem?_append_left (by omega)] at eb
      rw [List.getElem?_append_left (by rw [List.length_take]; omega)] at ec
      have eb' : As[i]? = some b := by rw [List.getElem?_take, if_pos hi] at eb; exact eb
      have ec' : M[i]? = some c' := by rw [List.getElem?_take, if_pos hi] at ec; exact ec
      obtain ⟨o, h1, h2⟩ := h.cell i b c' eb' ec'
      refine ⟨o, h1, (CR.cut (As := As.take n) (Bs := As.drop n) ?_ ?_).mono (Same.refl _) (List.prefix_append _ _)⟩
      · intro j hj; rw [tl]; exact hr c' (List.mem_of_getElem? ec) j hj
      · rw [← split]
        exact h2.mono sm (List.prefix_refl _)
    · rw [List.getElem?_append_right (by omega)] at eb
      rw [List.getElem?_append_right (by rw [List.length_take]; omega)] at ec
      have e0 : i - n = 0 := by
        have := (List.getElem?_eq_some_iff.mp eb).1
        simp at this; omega
      rw [tl, e0] at eb
      rw [List.length_take, Nat.min_eq_left hn, e0] at ec
      cases eb; cases ec
      obtain ⟨o, h1, h2⟩ := h.cell k a c ha hc
      refine ⟨o, h1, CR.move (As := As) (fun j x hj => ?_) (h2.mono sm (List.prefix_refl _))⟩
      rw [hcr] at hj; cases hj
theorem fin_x {As0 : List Addr} {n : Nat} {z' z : Z} {r : Sl} {v : V} {Mx M' M1 : List C} (hn : As0.length = n) (hp : As0 <+: As) (hm : HM K F As M' H) (hr : SlR K F As r v) (hz : Zr z' Mx r M') (h : finZ n z' Mx = .ok z M1) : ∃ F2 As2 r2 M2, Same F F2 ∧ As0 <+: As2 ∧ SlR K F2 As2 r2 v ∧ HM K F2 As2 M2 H ∧ Zr z M1 r2 M2 := by
  have et : As.take n = As0 := by obtain ⟨t, rfl⟩ := hp; rw [← hn]; simp
  have cl : ∀ {N : List C}, n ≤ N.length → (∀ c ∈ N.take n, ∀ k ∈ c.refs, k < n) → ∀ c ∈ N.take n, ∀ k ∈ c.refs, k < (N.take n).length := fun {N} hl h c hc k hk => by
    rw [List.length_take]
    have := h c hc k hk
    omega
  -- a new cell that stays
  have kp : ∀ {c : C} {k : Nat} {a : Addr}, n ≤ k → As[k]? = some a → M'[k]? = some c → c.refs = [] → v = .ref a → n ≤ M'.length → M'.take n = Mx.take n → n ≤ Mx.length → (∀ c ∈ Mx.take n, ∀ k ∈ c.refs, k < n) → ∃ F2 As2 r2 M2, Same F F2 ∧ As0 <+: As2 ∧ SlR K F2 As2 r2 v ∧ HM K F2 As2 M2 H ∧ Zr (.n c) (Mx.take n) r2 M2 := fun {c k a} hk ha hc hcr hv hl e hl2 h2 => by
    obtain ⟨F2, s2, hm2⟩ := hm.keep hl (by rw [e]; exact h2) hk ha hc hcr
    rw [e, et] at hm2
    refine ⟨F2, _, .own (Mx.take n).length, _, s2, List.prefix_append _ _, ⟨a, ?_, hv⟩, hm2, rfl, rfl, cl hl2 h2⟩
    rw [List.length_take, Nat.min_eq_left hl2, ← hn]; simp
  cases z' with
  | s r0 =>
    obtain ⟨e1, e2⟩ := hz
    subst e1; subst e2
    cases r with
    | un => cases h
    | val d =>
      have h : (match okTake n M' with | true => Ev.ok (Z.s (.val d)) (M'.take n) | false => .bad) = .ok z M1 := h
      split at h
      · rename_i e
        obtain ⟨h1, h2⟩ := okTake_of e
        cases h
        obtain ⟨F2, s2, hm2⟩ := hm.drop n h1 h2
        rw [et] at hm2
        exact ⟨F2, As0, .val d, _, s2, List.prefix_refl _, DV.mono s2 hr, hm2, rfl, rfl⟩
      · cases h
    | own k =>
      obtain ⟨a, ha, hv⟩ := hr
      have hk : k < M'.length := by rw [← hm.len]; exact (List.getElem?_eq_some_iff.mp ha).1
      have h : (match Nat.blt k n with
        | true => (match okTake n M' with
          | true => Ev.ok (Z.s (.own k)) (M'.take n)
          | false => .bad)
        | false => (match lkM M' k with
          | some (.lst xs) => (match okTake n M' with
            | true => .ok (.n (.lst xs)) (M'.take n)
            | false => .bad)
          | some (.dic xs) => (match okTake n M' with
            | true => .ok (.n (.dic xs)) (M'.take n)
            | false => .bad)
          | _ => .ok (.s (.own k)) M')) = .ok z M1 := h
      cases eb : Nat.blt k n with
      | true =>
        simp only [eb] at h
        have hkn : k < n := Nat.le_of_ble_eq_true eb
        split at h
        · rename_i e
          obtain ⟨h1, h2⟩ := okTake_of e
          cases h
          obtain ⟨F2, s2, hm2⟩ := hm.drop n h1 h2
          refine ⟨F2, As.take n, .own k, _, s2, by rw [et]; exact List.prefix_refl _, ⟨a, ?_, hv⟩, hm2, rfl, rfl⟩
          rw [List.getElem?_take, if_pos hkn]; exact ha
        · cases h
      | false =>
        simp only [eb] at h
        have hkn : n ≤ k := Nat.le_of_not_lt fun z => by
          have : Nat.blt k n = true := Nat.ble_eq_true_of_le z
          rw [eb] at this; cases this
        split at h
        · rename_i e0
          rw [lkM_eq] at e0
          split at h
          · rename_i e
            obtain ⟨h1, h2⟩ := okTake_of e
            cases h
            exact kp hkn ha e0 rfl hv h1 rfl h1 h2
          · cases h
        · rename_i e0
          rw [lkM_eq] at e0
          split at h
          · rename_i e
            obtain ⟨h1, h2⟩ := okTake_of e
            cases h
            exact kp hkn ha e0 rfl hv h1 rfl h1 h2
          · cases h
        · cases h
          exact ⟨F, As, .own k, _, Same.refl _, hp, ⟨a, ha, hv⟩, hm, rfl, rfl⟩
  | n c =>
    obtain ⟨e1, e2, e3⟩ := hz
    subst e1; subst e2
    obtain ⟨a, ha, hv⟩ := hr
    have hc : (Mx ++ [c])[Mx.length]? = some c := by simp
    cases c with
    | lst xs =>
      have h : (match okTake n Mx with | true => Ev.ok (Z.n (.lst xs)) (Mx.take n) | false => .bad) = .ok z M1 := h
      split at h
      · rename_i e
        obtain ⟨h1, h2⟩ := okTake_of e
        cases h
        exact kp h1 ha hc rfl hv (by simp; omega) (List.take_append_of_le_length h1) h1 h2
      · cases h
    | dic xs =>
      have h : (match okTake n Mx with | true => Ev.ok (Z.n (.dic xs)) (Mx.take n) | false => .bad) = .ok z M1 := h
      split at h
      · rename_i e
        obtain ⟨h1, h2⟩ := okTake_of e
        cases h
        exact kp h1 ha hc rfl hv (by simp; omega) (List.take_append_of_le_length h1) h1 h2
      · cases h
    | _ => cases h
end
/-- what a block came to -/
def endX (r : Rs) (Mx : List C) : DE := { nx := fun ρ M => r = .nx ρ ∧ M = Mx, rt := fun z M => r = .rt z ∧ M = Mx }
theorem fin_nb {m : Nat} {r : Rs} {Mx M1 : List C} {z : Z} (h : fin m r Mx = .ok z M1) : doR (endX r Mx) r Mx := by
  cases r with
  | nx ρ => exact ⟨rfl, rfl⟩
  | rt z => exact ⟨rfl, rfl⟩
  | bk ρ => cases h
  | ct ρ => cases h
theorem rhoN_eq {N : List Str} {n : Nat} {rs : List Sl} (h : n = N.length) : rhoN n rs = rho N rs := by subst h; rfl
section
variable {P : Program} {w : World} {K : PySem.W.Frag} {mg : Str → Option Value} {base : Heap} {x qual : Str} {st : Stmt} {f : Addr} {fd : FuncData} {N ps : List Str} {k n np : Nat} {bx : Ss} {env : List Den}
theorem ends_x {F : Hp} {As : List Addr} {M M1 Mx : List C} {r : Rs} {z : Z} {G : VK} {H : Hp} (hm : HM K F As M H) (h2 : fin M.length r Mx = .ok z M1) (kk : ∀ v F' As' H' r M', Same F F' → As <+: As' → SlR K F' As' r v → HM K F' As' M' H' → Zr z M1 r M' → G v H') : EndsR K As.length (endX r Mx) { nx := fun _ H' => G .non H', rt := G } F As := by
  refine ⟨fun F' As' ρ' M' σ' H' s' p' sr' hm' ⟨e1, e2⟩ => ?_, fun F' As' z' r' v M' Mz H' s' p' hr hm' hz _ ⟨e1, e2⟩ => ?_, fun _ _ _ _ _ _ _ _ _ _ z => z.elim, fun _ _ _ _ _ _ _ _ _ _ z => z.elim⟩
  · subst e1; subst e2
    obtain ⟨F2, As2, r2, M2, g1, g2, g3, g4, g5⟩ := fin_x (z' := .s (.val .non)) (r := .val .non) (v := .non) (Mx := M') (M' := M') hm.len p' hm' rfl ⟨rfl, rfl⟩ h2
    exact kk _ F2 As2 H' r2 M2 (s'.trans g1) g2 g3 g4 g5
  · subst e1; subst e2
    obtain ⟨F2, As2, r2, M2, g1, g2, g3, g4, g5⟩ := fin_x hm.len p' hm' hr hz h2
    exact kk _ F2 As2 H' r2 M2 (s'.trans g1) g2 g3 g4 g5
theorem run_inv {rs : List Sl} {M M1 : List C} {z : Z} (h : run env bx np n rs M = .ok z M1) : rs.length = np ∧ ∃ r Mx, evSs env bx (rhoN n rs) M = .ok r Mx ∧ fin M.length r Mx = .ok z M1 := by
  unfold run at h
  split at h
  · rename_i e
    obtain ⟨r, Mx, h1, h2⟩ := bd_inv h
    exact ⟨Nat.eq_of_beq_eq_true e, r, Mx, h1, h2⟩
  · cases h
theorem fnX (Fn : Fun K x qual st f fd) (S : FnScope N ps (defScope st)) (tr : TrS (ctxOf P w K mg base N st k) (defBody st) bx) (al : Al (gOf P w K mg base k) env (siSs bx)) (hp : np = ps.length) (hn : n = N.length) : FnOk P w K mg base CX0 (k + 1) f fd ps (spX K (run env bx np n)) := by
  refine Fn.ok S (fun vs H Q E ⟨F, As, rs, M, z, M1, _, h1, h2, _⟩ => by rw [← Paired.length h1, (run_inv h2).1, hp]) fun cdv A outer s H vs Q E hr ⟨F, As, rs, M, z, M1, hm, h1, h2, kk⟩ => ?_
  obtain ⟨_, r, Mx, h3, h4⟩ := run_inv h2
  rw [rhoN_eq hn] at h3
  exact tr _ _ _ (evSs_wp bx _ M r Mx al h3 (endX r Mx) (fin_nb h4)) _ (.mk (cxOf CX0 P w K mg base N qual (defScope st) f cdv A outer s H E).nox k S.nd rfl hr PassesOwn.never) F As As (L2.start N vs) H _ (sr_start h1) hm (List.prefix_refl _) (ends_x hm h4 kk)
theorem runS_inv {rs : List Sl} {M M1 : List C} {z : Z} (h : runS env bx np n rs M = .ok z M1) : (np ≤ rs.length ∧ rs.length ≤ 1000) ∧ ∃ ds r Mx, rs.drop np = ds.map .val ∧ evSs env bx (rhoN n (rs.take np ++ [.val (.tup ds)])) M = .ok r Mx ∧ fin M.length r Mx = .ok z M1 := by
  unfold runS at h
  split at h
  · rename_i ds e1 e2
    have e1 := Bool.and_eq_true_iff.mp e1
    obtain ⟨r, Mx, h1, h2⟩ := bd_inv h
    exact ⟨⟨Nat.le_of_ble_eq_true e1.1, Nat.le_of_ble_eq_true e1.2⟩, ds, r, Mx, valsOf_eq e2, h1, h2⟩
  · cases h
theorem paired_take' {α β : Type} {R : α → β → Prop} : ∀ (n : Nat) {l : List α} {r : List β}, Paired R l r → Paired R (l.take n) (r.take n)
  | 0, _, _, _ => .nil
  | _ + 1, _, _, .nil => .nil
  | n + 1, _, _, .cons h t => .cons h (paired_take' n t)
theorem paired_drop' {α β : Type} {R : α → β → Prop} : ∀ (n : Nat) {l : List α} {r : List β}, Paired R l r → Paired R (l.drop n) (r.drop n)
  | 0, _, _, h => h
  | _ + 1, _, _, .nil => .nil
  | n + 1, _, _, .cons h t => paired_drop' n t
theorem slrs_vals' {F : Hp} {As : List Addr} : ∀ {ds : List D} {vs : List V}, SlRs K F As (ds.map .val) vs → DVs K F ds vs
  | [], _, h => by cases h; rfl
  | d :: ds, _, h => by
    cases h with
    | cons h1 h2 => exact ⟨_, _, rfl, h1, slrs_vals' h2⟩
theorem hm_same {F F2 : Hp} {As : List Addr} {M : List C} {H H2 : Hp} {p : Addr} {o : HO} (hm : HM K F As M H) (hp : H p = none) : HM K (upd F p o) As M (upd H p o) ∧ Same F (upd F p o) := ⟨hm.laid hp, same_new (hm.fresh hp).2⟩
theorem fnXS {pv : Str} (Fn : Fun K x qual st f fd) (S : FnScope N (ps ++ [pv]) (defScope st)) (tr : TrS (ctxOf P w K mg base N st k) (defBody st) bx) (al : Al (gOf P w K mg base k) env (siSs bx)) (hp : np = ps.length) (hn : n = N.length)
    (hb : ∀ (kV doc pm : Value) (an : Option Addr) (cdv ct : Value) (us rest : List Value), us.length = ps.length → bindArgs (PySem.W.fnOf x qual (defArgs st) (defBody st) (defScope st) .none kV doc pm an cdv ct) ⟨us ++ rest, []⟩ = (newTuple rest >>= fun t => pure (ps.zip us ++ [(pv, t)]))) : FnR P w K mg base CX0 (k + 1) f (spX K (runS env bx np n)) := by
  obtain ⟨oc, od, kV, doc, pm, an, cdv, ct, osl, rfl, lk, hcd⟩ := Fn.ex
  refine (StX.fn_star (sp := fun vs H Q _ => ∃ (F : Hp) (As : List Addr) (rs : List Sl) (M : List C) (ds : List D) (r : Rs) (Mx M1 : List C) (z : Z), HM K F As M H ∧ SlRs K F As (rs ++ [.val (.tup ds)]) vs ∧ evSs env bx (rhoN n (rs ++ [.val (.tup ds)])) M = .ok r Mx ∧ fin M.length r Mx = .ok z M1 ∧ ∀ v F' As' H' r M', Same F F' → As <+: As' → SlR K F' As' r v → HM K F' As' M' H' → Zr z M1 r M' → Q v H') lk hcd S StX.cxUp_none (hb kV doc pm an cdv ct) fun A outer s H vs Q E hr ⟨F, As, rs, M, ds, r, Mx, M1, z, hm, h1, h3, h4, kk⟩ => ?_).imp fun vs H Q E ⟨F, As, rs, M, z, M1, hm, h1, h2, kk⟩ => ?_
  · rw [rhoN_eq hn] at h3
    obtain ⟨t, ht, q⟩ := tr _ _ _ (evSs_wp bx _ M r Mx al h3 (endX r Mx) (fin_nb h4)) _ (.mk (cxOf CX0 P w K mg base N qual (defScope st) f cdv A outer s H E).nox k S.nd rfl hr PassesOwn.never) F As As (L2.start N vs) H _ (sr_start h1) hm (List.prefix_refl _) (ends_x hm h4 kk)
    exact ⟨t, ht.nox, q⟩
  · obtain ⟨⟨l1, l2⟩, ds, r, Mx, e1, h3, h4⟩ := runS_inv h2
    have hl := Paired.length h1
    refine ⟨vs.take ps.length, vs.drop ps.length, (List.take_append_drop _ _).symm, by rw [List.length_take]; omega, ?_, fun p hp0 => ?_⟩
    · rw [List.length_drop]
      exact Nat.le_trans (by omega : _ ≤ 1000) (by decide)
    · have hd := paired_drop' np h1
      rw [e1] at hd
      have hd := slrs_vals' hd
      obtain ⟨hm2, s2⟩ := hm_same (F2 := F) (H2 := H) (o := .tup (vs.drop ps.length)) hm hp0
      refine ⟨_, As, rs.take np, M, ds, r, Mx, M1, z, hm2, ?_, h3, h4, fun v F' As' H' r M' s => kk v F' As' H' r M' (s2.trans s)⟩
      refine paired_append (by rw [← hp]; rw [← hp] at s2; exact Paired.mapP (paired_take' np h1) fun _ _ z => z.mono s2 (List.prefix_refl _)) (.cons ⟨p, _, rfl, .inl (.inl upd_same), ?_⟩ .nil)
      rw [← hp]; exact hd.mono (by rw [hp]; exact s2)
/-! ### __init__ -/
def spI (K : PySem.W.Frag) (c : Nat) (f : List Sl → Ev Unit) : Sp := fun vs H G _ => ∃ (a dx : Addr) (us : List V) (ds : List D) (F : Hp) (M1 : List C), vs = .ref a :: us ∧ F a = none ∧ F dx = none ∧ dx ≠ a ∧ H = upd (upd F dx (.own a)) a (.ins (clsAt K c) dx []) ∧ DVs K F ds us ∧ f (ds.map .val) = .ok () M1 ∧
  ∀ F' As' H', Same F F' → [a, dx] <+: As' → HM K F' As' M1 H' → G .non H'
theorem vals_slrs' {F : Hp} {As : List Addr} : ∀ {ds : List D} {vs : List V}, DVs K F ds vs → SlRs K F As (ds.map .val) vs
  | [], _, h => by have h : _ = [] := h; subst h; exact .nil
  | d :: ds, _, ⟨v, r, h1, h2, h3⟩ => by subst h1; exact .cons h2 (vals_slrs' h3)
theorem runI_inv {sl : Bool} {c : Nat} {rs : List Sl} {M1 : List C} {u : Unit} (h : runI env bx np n sl c rs = .ok u M1) : rs.length + 1 = np ∧ ∃ r, evSs env bx (rhoN n (.own 0 :: rs)) [if sl then .sob0 c 1 else .ins c 1 [], .dxo 0] = .ok r M1 ∧ initR r M1 = .ok () M1 := by
  unfold runI at h
  split at h
  · rename_i e
    obtain ⟨r, Mx, h1, h2⟩ := bd_inv h
    have e2 : M1 = Mx := by
      unfold initR at h2
      split at h2
      · cases h2; rfl
      · cases h2; rfl
      · cases h2
    subst e2
    exact ⟨Nat.eq_of_beq_eq_true e, r, h1, by cases u; exact h2⟩
  · cases h
theorem fnXI {sl : Bool} {c : Nat} (Fn : Fun K x qual st f fd) (S : FnScope N ps (defScope st)) (tr : TrS (ctxOf P w K mg base N st k) (defBody st) bx) (al : Al (gOf P w K mg base k) env (siSs bx)) (hp : np = ps.length) (hn : n = N.length) (hc : if sl then SlOk K c else ObOk K c) : FnOk P w K mg base CX0 (k + 1) f fd ps (spI K c (runI env bx np n sl c)) := by
  refine Fn.ok S (fun vs H Q E ⟨a, dx, us, ds, F, M1, e, _, _, _, _, h1, h2, _⟩ => by
    subst e
    have := (runI_inv h2).1
    rw [List.length_map] at this
    rw [← hp, ← this, h1.length]; rfl) fun cdv A outer s H vs Q E hr ⟨a, dx, us, ds, F, M1, ev, ha, hdx, ne, eH, hds, h2, kk⟩ => ?_
  subst ev; subst eH
  obtain ⟨_, r, h3, h4⟩ := runI_inv h2
  rw [rhoN_eq hn] at h3
  have hm0 : HM K F [a, dx] [if sl then .sob0 c 1 else .ins c 1 [], .dxo 0] (upd (upd F dx (.own a)) a (.ins (clsAt K c) dx [])) := ⟨by simp [Ne.symm ne], rfl, fun i b c' e1 e2 => by
      match i with
      | 0 =>
        simp at e1 e2
        subst e1; subst e2
        cases sl with
        | true => exact ⟨_, upd_same, dx, rfl, rfl, hc⟩
        | false => exact ⟨_, upd_same, dx, [], [], rfl, rfl, ⟨rfl, fun _ _ e => by simp at e⟩, ⟨fun _ _ _ _ e => by simp at e, fun _ h => (nomatch h), .nil⟩, hc⟩
      | 1 =>
        simp at e1 e2
        subst e1; subst e2
        exact ⟨_, by rw [upd_ne ne]; exact upd_same, a, rfl, rfl⟩
      | i + 2 => simp at e1, fun b hb => by
      rcases List.mem_cons.mp hb with rfl | hb
      · exact ha
      · have : b = dx := by simpa using hb
        subst this; exact hdx, fun b hb => by
      have h1 : b ≠ a := fun z => hb (by simp [z])
      have h2 : b ≠ dx := fun z => hb (by simp [z])
      rw [upd_ne h1, upd_ne h2]⟩
  have hb : doR (endX r M1) r M1 := by
    unfold initR at h4
    split at h4
    · exact ⟨rfl, rfl⟩
    · exact ⟨rfl, rfl⟩
    · cases h4
  have hends : EndsR K 2 (endX r M1) { nx := fun _ H' => Q .non H', rt := Q } F [a, dx] := by
    refine ⟨fun F' As' ρ' M' σ' H' s' p' sr' hm' ⟨e1, e2⟩ => by subst e2; exact kk F' As' H' s' p' hm', fun F' As' z' r' v M' Mz H' s' p' hr hm' hz _ ⟨e1, e2⟩ => ?_, fun _ _ _ _ _ _ _ _ _ _ z => z.elim, fun _ _ _ _ _ _ _ _ _ _ z => z.elim⟩
    subst e1; subst e2
    unfold initR at h4
    split at h4
    · rename_i e; cases e
    · rename_i e
      cases e
      obtain ⟨q1, q2⟩ := hz
      subst q1; subst q2
      have : v = .non := hr
      subst this
      exact kk F' As' H' s' p' hm'
    · cases h4
  exact tr _ _ _ (evSs_wp bx _ _ r M1 al h3 (endX r M1) hb) _ (.mk (cxOf CX0 P w K mg base N qual (defScope st) f cdv A outer s _ E).nox k S.nd rfl hr PassesOwn.never) F [a, dx] [a, dx] (L2.start N (.ref a :: us)) _ { nx := fun _ H' => Q .non H', rt := Q } (sr_start (.cons ⟨a, rfl, rfl⟩ (vals_slrs' hds))) hm0 (List.prefix_refl _) hends
end
end Dl
/-! Y6: objects that are made -/
namespace Dl
open PySem L2
theorem restA_nil {As : List Addr} : restA As [] = As := by
  unfold restA
  rw [List.filter_eq_self]
  intro a _
  rfl
theorem restC_nil : ∀ {M : List C} {n : Nat}, restC [] n M = true
  | [], _ => rfl
  | c :: M, n => by
    show ((false || rest1 [] c) && restC [] (n + 1) M) = true
    rw [restC_nil]
    cases c <;> rfl
theorem okSel_nil {M : List C} : OkSel M [] := ⟨.nil, fun _ h => (nomatch h), fun _ h => (nomatch h), restC_nil⟩
theorem reach_vals {M : List C} (ds : List D) : reach M (ds.map .val) = [] := by
  unfold reach
  have : (ds.map Sl.val).flatMap Sl.refs = [] := by
    rw [List.flatMap_eq_nil_iff]
    intro x hx
    obtain ⟨d, _, rfl⟩ := List.mem_map.mp hx
    rfl
  rw [this]; rfl
theorem mp_vals {φ : Nat → Nat} (ds : List D) : (ds.map Sl.val).map (Sl.mp φ) = ds.map .val := by
  rw [List.map_map]; rfl
section
variable {K : PySem.W.Frag} {F F' : Hp} {As : List Addr} {M : List C} {H H' : Hp}
theorem viewO_dv {a : Addr} {d : D} (hm : HM K F As M H) (ha : As[0]? = some a) (h : viewO M = some d) : DV K H d (.ref a) := by
  unfold viewO at h
  split at h
  · rename_i c vs rest
    split at h
    · rename_i fs e
      cases h
      obtain ⟨dx, us, g0, g1, g2, g3, g4⟩ := slt_of (n := 0) (j := 1) hm ha rfl rfl
      obtain ⟨ws, e1, hw⟩ := viewF_dvs hm g3 e
      subst e1
      exact ⟨a, dx, ws, rfl, g2, hw, g4⟩
    · cases h
  · rename_i c j vs rest
    split at h
    · rename_i fs e
      cases h
      obtain ⟨o, ho, dx, kvs, us, h0, rfl, g3, g4, g5⟩ := hm.cell 0 a _ ha rfl
      obtain ⟨ws, e1, hw⟩ := viewF_dvs hm g3 e
      subst e1
      exact ⟨a, dx, kvs, ws, rfl, ho, hw, g4, g5⟩
    · cases h
  · cases h
theorem new_ob {a dx C0 : Addr} (hm : HM K F As M H) (ha : H a = none) (hdx : H dx = none) (ne : dx ≠ a) : a ∉ As ∧ dx ∉ As ∧ F a = none ∧ F dx = none ∧ (∀ b ∈ As, upd (upd H dx (.own a)) a (.ins C0 dx []) b = H b) ∧ dels (upd (upd H dx (.own a)) a (.ins C0 dx [])) As = upd (upd F dx (.own a)) a (.ins C0 dx []) ∧ FrSet (upd (upd H dx (.own a)) a (.ins C0 dx [])) As := by
  obtain ⟨na, fa⟩ := hm.fresh ha
  obtain ⟨nx, fx⟩ := hm.fresh hdx
  have H0in : ∀ b ∈ As, upd (upd H dx (.own a)) a (.ins C0 dx []) b = H b := fun b hb => by
    have h1 : b ≠ a := fun z => na (z ▸ hb)
    have h2 : b ≠ dx := fun z => nx (z ▸ hb)
    rw [upd_ne h1, upd_ne h2]
  refine ⟨na, nx, fa, fx, H0in, ?_, fun b hb => ?_⟩
  · funext b
    by_cases hb : b ∈ As
    · have h1 : b ≠ a := fun z => na (z ▸ hb)
      have h2 : b ≠ dx := fun z => nx (z ▸ hb)
      rw [dels_in hb, upd_ne h1, upd_ne h2]; exact (hm.off b hb).symm
    · rw [dels_ne hb]
      by_cases h1 : b = a
      · subst h1; rw [upd_same, upd_same]
      · rw [upd_ne h1, upd_ne h1]
        by_cases h2 : b = dx
        · subst h2; rw [upd_same, upd_same]
        · rw [upd_ne h2, upd_ne h2]; exact hm.out b hb
  · obtain ⟨o, h1, h2⟩ := hm.frs b hb
    refine ⟨o, by rw [H0in b hb]; exact h1, ?_⟩
    cases h2 with
    | lst xs => exact .lst xs
    | dK xs => exact .dK xs
    | @ins C1 d1 fs h =>
      refine .ins fun e => ?_
      by_cases q1 : d1 = a
      · subst q1; rw [upd_same] at e; cases e
      · rw [upd_ne q1] at e
        by_cases q2 : d1 = dx
        · subst q2
          rw [upd_same] at e
          cases e
          exact absurd hb na
        · rw [upd_ne q2] at e; exact h e
    | own h => exact .own h
    | ext φ => exact .ext φ
    | xd fs => exact .xd fs
end
section
variable {g : Gx} {x : Str} {c k : Nat} {f : List Sl → Ev Unit}
theorem callV {h : Den} {ds : List D} {M M1 : List C} {z : Z} (e : doCall (some h) (ds.map .val) M = .ok z M1) : ∃ z0 N, h (ds.map .val) [] = .ok z0 N ∧ z = z0.mp (bk [] M.length) ∧ M1 = backM M [] N := by
  have e : doCallAt h (reach M (ds.map .val)) (ds.map .val) M = .ok z M1 := e
  rw [reach_vals] at e
  obtain ⟨z0, N, _, _, h1, _, h2, h3⟩ := callAt_inv e
  rw [mp_vals] at h1
  exact ⟨z0, N, h1, h2, h3⟩
theorem mk_core {rs : List Sl} {M : List C} {Q : Z → List C → Prop} (df : DefI g x (clsAt g.K c) k (spI g.K c f)) (hk : k + 1 ≤ g.k) {ds : List D} {N : List C} (hf : f (ds.map .val) = .ok () N) (e : rs = ds.map .val)
    (q : ∀ F As H G, HM g.K F As M H → Aft g.K F As (zq M.length Q) G → ∀ a F' As' H', Same F F' → As'[0]? = some a → HM g.K F' As' N H' → (∀ b ∈ As, H' b = none) → G (.ref a) (puts H' H As)) : MakeZ g x rs M Q := by
  subst e
  refine ⟨_, k, _, df, hk, fun F As H vs hm hrs G kk a dx ha hdx ne => ?_⟩
  obtain ⟨na, nx, fa, fx, h0, h1, h2⟩ := new_ob (C0 := clsAt g.K c) hm ha hdx ne
  refine ⟨As, h2, a, dx, vs, ds, F, N, rfl, fa, fx, ne, h1, slrs_vals' hrs, hf, fun F' As' H' s p hm' hn => ⟨rfl, ?_⟩⟩
  have ha' : As'[0]? = some a := by obtain ⟨t, rfl⟩ := p; rfl
  have := q F As H G hm kk a F' As' H' s ha' hm' hn
  have e : puts H' (upd (upd H dx (.own a)) a (.ins (clsAt g.K c) dx [])) As = puts H' H As := by
    funext b
    by_cases hb : b ∈ As
    · rw [puts_in hb, puts_in hb]; exact h0 b hb
    · rw [puts_ne hb, puts_ne hb]
  rw [e]; exact this
theorem mkO_ok (df : DefI g x (clsAt g.K c) k (spI g.K c f)) (hk : k + 1 ≤ g.k) : ∀ rs M z M1 Q, valsOf rs ≠ none → doCall (some (mkO f)) rs M = .ok z M1 → Q z M1 → MakeZ g x rs M Q := fun rs M z M1 Q hv h q => by
  cases e : valsOf rs with
  | none => exact absurd e hv
  | some ds =>
    have e := valsOf_eq e
    subst e
    obtain ⟨z0, N, h1, h2, h3⟩ := callV h
    obtain ⟨u, N', h4, h5⟩ := bd_inv h1
    cases h5
    subst h2; subst h3
    refine mk_core df hk h4 rfl fun F As H G hm kk a F' As' H' s ha hm' hn => ?_
    have := back_z (z0 := .s (.own 0)) (r := .own 0) (Bs := As') hm okSel_nil (Nat.zero_le _) s ⟨a, ha, rfl⟩ hm' ⟨rfl, rfl⟩ (by rw [restA_nil]; exact hn) kk q
    rw [restA_nil] at this
    exact this
theorem mkF_ok (df : DefI g x (clsAt g.K c) k (spI g.K c f)) (hk : k + 1 ≤ g.k) : ∀ rs M z M1 Q, valsOf rs ≠ none → doCall (some (mkF f)) rs M = .ok z M1 → Q z M1 → MakeZ g x rs M Q := fun rs M z M1 Q hv h q => by
  cases e : valsOf rs with
  | none => exact absurd e hv
  | some ds =>
    have e := valsOf_eq e
    subst e
    obtain ⟨z0, N, h1, h2, h3⟩ := callV h
    obtain ⟨u, N', h4, h5⟩ := bd_inv h1
    obtain ⟨h6, h7⟩ := opt_inv h5
    subst h2; subst h3; subst h7
    cases ev : viewO N' with
    | none => rw [ev] at h6; cases h6
    | some d =>
      rw [ev] at h6
      cases h6
      refine mk_core df hk h4 rfl fun F As H G hm kk a F' As' H' s ha hm' hn => ?_
      have hd := viewO_dv hm' ha ev
      have := back_z (z0 := .s (.val d)) (r := .val d) (Bs := []) (v := .ref a) (F' := H') (H' := H') (Mx := []) hm okSel_nil (Nat.zero_le _) (s.trans hm'.same) hd (hm_nil H') ⟨rfl, rfl⟩ (by rw [restA_nil]; exact hn) kk q
      rw [restA_nil] at this
      exact this
end
/-! ### promises bundled -/
section
variable {P : Program} {w : World} {K : PySem.W.Frag} {mg : Str → Option Value} {base : Heap} {x : Str} {m : Str} {k i j c : Nat} {sp : Sp} {ks : List Str} {idx : List Nat} {C0 : Addr}
theorem Def.up (h : Def (gOf P w K mg base i) x k sp) : Def (gOf P w K mg base j) x k sp := ⟨h.ok⟩
theorem DefK.up (h : DefK (gOf P w K mg base i) x k ks idx sp) : DefK (gOf P w K mg base j) x k ks idx sp := ⟨h.ok⟩
theorem DefM.up (h : DefM (gOf P w K mg base i) c m k sp) : DefM (gOf P w K mg base j) c m k sp := ⟨h.nf, h.ok⟩
theorem DefI.up (h : DefI (gOf P w K mg base i) x C0 k sp) : DefI (gOf P w K mg base j) x C0 k sp := ⟨h.ok⟩
theorem DefL.up (h : DefL (gOf P w K mg base i) c k sp) : DefL (gOf P w K mg base j) c k sp := ⟨h.ok⟩
abbrev gN (P : Program) (w : World) (K : PySem.W.Frag) (mg : Str → Option Value) (base : Heap) : Gx := gOf P w K mg base 0
variable {env : List Den} {n : Nat} {f : Den}
theorem st_call (h : Def (gN P w K mg base) x k (spX K f)) (e : lkA env n = some f) (hk : k ≤ j) : SiteOk (gOf P w K mg base j) env (.call n x) := fun f' e' => by
  rw [e] at e'; cases e'
  exact ⟨k, h.up, hk⟩
theorem st_callk (h : DefK (gN P w K mg base) x k ks idx (spX K f)) (e : lkA env n = some f) (hk : k ≤ j) : SiteOk (gOf P w K mg base j) env (.callk n x ks idx) := fun f' e' => by
  rw [e] at e'; cases e'
  exact ⟨k, h.up, hk⟩
theorem st_meth (h : DefM (gN P w K mg base) c m k (spX K f)) (e : lkA env n = some f) (hk : k ≤ j) : SiteOk (gOf P w K mg base j) env (.meth n c m) := fun f' e' => by
  rw [e] at e'; cases e'
  exact ⟨k, h.up, hk⟩
theorem st_len (h : DefL (gN P w K mg base) 1 k (spX K f)) (e : lkA env n = some f) (hk : k + 1 ≤ j) : SiteOk (gOf P w K mg base j) env (.lenO n) := fun f' e' => by
  rw [e] at e'; cases e'
  exact ⟨k, h.up, hk⟩
theorem st_mkO {fi : List Sl → Ev Unit} (h : DefI (gN P w K mg base) x C0 k (spI K c fi)) (hc : C0 = clsAt K c) (e : lkA env n = some (mkO fi)) (hk : k + 1 ≤ j) : SiteOk (gOf P w K mg base j) env (.make n x) := fun f' e' => by
  rw [e] at e'; cases e'
  subst hc
  exact ⟨(h.up (j := j)).has, mkO_ok (h.up (j := j)) hk⟩
theorem st_mkF {fi : List Sl → Ev Unit} (h : DefI (gN P w K mg base) x C0 k (spI K c fi)) (hc : C0 = clsAt K c) (e : lkA env n = some (mkF fi)) (hk : k + 1 ≤ j) : SiteOk (gOf P w K mg base j) env (.make n x) := fun f' e' => by
  rw [e] at e'; cases e'
  subst hc
  exact ⟨(h.up (j := j)).has, mkF_ok (h.up (j := j)) hk⟩
/-- a def that calls itself: nothing yet -/
theorem fnr_bad {f0 : Addr} : FnR P w K mg base CX0 k f0 (spX K fun _ _ => .bad) := fun A outer s H us vs Q E hr e0 hv ⟨F, As, rs, M, z, M1, _, _, h, _⟩ => by cases h
end
end Dl
/-! CP: codes and what they denote (printed by g3.py) -/
namespace Dl
open PySem L2
--@ tupled  slots: thing part
def c_tupled : Ss :=
  (.cons (.ret (.ife (.e (.isi (.v 0) ["list", "tuple"])) (.bi .tuple (.cons (.lc (.last (.n 1) (.e (.v 0)) .nil (.call 0 "tupled" (.cons (.v 1) .nil))) [1]) .nil)) (.v 0)))
  .nil)
def f_tupled : Nat → Den
  | 0 => fun _ _ => .bad
  | n + 1 => run [(f_tupled n)] c_tupled 1 2
--@ Graph.__init__  slots: self graph row
def c_Graph_init : Ss :=
  (.cons (.setfld (.v 0) 1 0 (.lc (.last (.n 2) (.e (.v 1)) .nil (.ix (.v 2) (.k (.int 0)))) [2]))
  (.cons (.setfld (.v 0) 1 1 (.lc (.last (.n 2) (.e (.v 1)) .nil (.call 0 "tupled" (.cons (.ix (.v 2) (.k (.int 1))) .nil))) [2]))
  (.cons (.setfld (.v 0) 1 2 (.own (.dct .nil)))
  .nil)))
def i_Graph_init : List Sl → Ev Unit := runI [(f_tupled 20)] c_Graph_init 2 3 true 1
--@ Graph.check  slots: self commits commit
def c_Graph_check : Ss :=
  (.cons (.for (.n 2) (.e (.v 1))
      (.cons (.ite (.not (.e (.cmp2 .LtE .Lt (.k (.int 0)) (.v 2) (.bi .len (.cons (.fld (.v 0) 1 0) .nil)))))
          (.cons (.bad)
          .nil)
          .nil)
      .nil) [2])
  .nil)
def f_Graph_check : Den := run [] c_Graph_check 2 3
--@ graph_at  slots: graph groups found commits
def c_graph_at : Ss :=
  (.cons (.asg 2 (.make 0 "Graph" (.cons (.v 0) .nil)))
  (.cons (.for (.n 3) (.e (.v 1))
      (.cons (.ex (.meth 1 (.v 2) 1 "check" (.cons (.v 3) .nil)))
      .nil) [3])
  (.cons (.ret (.v 2))
  .nil)))
def f_graph_at : Den := runS [(mkF i_Graph_init), f_Graph_check] c_graph_at 1 4
--@ Graph.had  slots: self commits found commit here parent
def c_Graph_had : Ss :=
  (.cons (.asg 2 (.own (.dc (.dlast (.n 3) (.e (.v 1)) .nil (.v 3) (.k (.bl true))) [3])))
  (.cons (.for (.n 4) (.rd (.bin .Sub (.bi .len (.cons (.fld (.v 0) 1 0) .nil)) (.k (.int 1))) (.neg (.k (.int 1))))
      (.cons (.for (.n 5) (.e (.ife (.cmp .In (.v 4) (.v 2)) (.ix (.fld (.v 0) 1 1) (.v 4)) (.tup .nil)))
          (.cons (.setix (.v 2) (.v 5) (.k (.bl true)))
          .nil) [5])
      .nil) [4, 5])
  (.cons (.ret (.bi .sorted (.cons (.v 2) .nil)))
  .nil)))
def f_Graph_had : Den := run [] c_Graph_had 2 6
--@ Graph.parents  slots: self commit
def c_Graph_parents : Ss :=
  (.cons (.ret (.ix (.fld (.v 0) 1 1) (.v 1)))
  .nil)
def f_Graph_parents : Den := run [] c_Graph_parents 2 2
--@ nearest  slots: graph one other own known both commit below parent
def c_nearest : Ss :=
  (.cons (.asg 3 (.call 0 "graph_at" (.cons (.v 0) (.cons (.lst (.cons (.v 1) (.cons (.v 2) .nil))) .nil))))
  (.cons (.asg 4 (.meth 1 (.v 3) 1 "had" (.cons (.lst (.cons (.v 2) .nil)) .nil)))
  (.cons (.asg 5 (.lc (.last (.n 6) (.e (.meth 1 (.v 3) 1 "had" (.cons (.lst (.cons (.v 1) .nil)) .nil))) (.one (.cmp .In (.v 6) (.v 4))) (.v 6)) [6]))
  (.cons (.asg 7 (.meth 1 (.v 3) 1 "had" (.cons (.lc (.cons (.n 6) (.e (.v 5)) .nil (.last (.n 8) (.e (.meth 2 (.v 3) 1 "parents" (.cons (.v 6) .nil))) .nil (.v 8))) [6, 8]) .nil)))
  (.cons (.ret (.lc (.last (.n 6) (.e (.v 5)) (.one (.cmp .NotIn (.v 6) (.v 7))) (.v 6)) [6]))
  .nil)))))
def f_nearest : Den := run [f_graph_at, f_Graph_had, f_Graph_parents] c_nearest 3 9
--@ graph_at  slots: graph groups found commits
def c_graph_atO : Ss :=
  (.cons (.asg 2 (.make 0 "Graph" (.cons (.v 0) .nil)))
  (.cons (.for (.n 3) (.e (.v 1))
      (.cons (.ex (.meth 1 (.v 2) 1 "check" (.cons (.v 3) .nil)))
      .nil) [3])
  (.cons (.ret (.v 2))
  .nil)))
def f_graph_atO : Den := runS [(mkO i_Graph_init), f_Graph_check] c_graph_atO 1 4
--@ Graph.ways  slots: self commit found here parent
def c_Graph_ways : Ss :=
  (.cons (.asg 2 (.own (.dct (.cons (.v 1) (.cons (.k (.int 0)) .nil)))))
  (.cons (.for (.n 3) (.rd (.v 1) (.neg (.k (.int 1))))
      (.cons (.for (.n 4) (.e (.ife (.cmp .In (.v 3) (.v 2)) (.ix (.fld (.v 0) 1 1) (.v 3)) (.tup .nil)))
          (.cons (.setix (.v 2) (.v 4) (.bi .max (.cons (.mt (.v 2) .get2 (.cons (.v 4) (.cons (.k (.int 0)) .nil))) (.cons (.bin .Add (.ix (.v 2) (.v 3)) (.k (.int 1))) .nil))))
          .nil) [4])
      .nil) [3, 4])
  (.cons (.ret (.v 2))
  .nil)))
def f_Graph_ways : Den := run [] c_Graph_ways 2 5
--@ Graph.way  slots: self one other
def c_Graph_way : Ss :=
  (.cons (.ite (.cmp .NotIn (.v 1) (.fld (.v 0) 1 2))
      (.cons (.setix (.fld (.v 0) 1 2) (.v 1) (.meth 0 (.v 0) 1 "ways" (.cons (.v 1) .nil)))
      .nil)
      .nil)
  (.cons (.ret (.mt (.ix (.fld (.v 0) 1 2) (.v 1)) .get1 (.cons (.v 2) .nil)))
  .nil))
def f_Graph_way : Den := run [f_Graph_ways] c_Graph_way 3 3
--@ way  slots: graph one other
def c_way : Ss :=
  (.cons (.ret (.meth 1 (.call 0 "graph_at" (.cons (.v 0) (.cons (.lst (.cons (.v 1) (.cons (.v 2) .nil))) .nil))) 1 "way" (.cons (.v 1) (.cons (.v 2) .nil))))
  .nil)
def f_way : Den := run [f_graph_atO, f_Graph_way] c_way 3 3
--@ had  slots: graph commit
def c_had : Ss :=
  (.cons (.ret (.meth 1 (.call 0 "graph_at" (.cons (.v 0) (.cons (.lst (.cons (.v 1) .nil)) .nil))) 1 "had" (.cons (.lst (.cons (.v 1) .nil)) .nil)))
  .nil)
def f_had : Den := run [f_graph_at, f_Graph_had] c_had 2 2
--@ Graph.__len__  slots: self
def c_Graph_len : Ss :=
  (.cons (.ret (.bi .len (.cons (.fld (.v 0) 1 0) .nil)))
  .nil)
def f_Graph_len : Den := run [] c_Graph_len 1 1
--@ rising  slots: own lows found commit low parent
def c_rising : Ss :=
  (.cons (.asg 2 (.own (.lst .nil)))
  (.cons (.for (.t [3, 4]) (.en (.v 1))
      (.cons (.ex (.mt (.v 2) .append (.cons (.bi .max (.cons (.bin .Add (.lst (.cons (.v 4) .nil)) (.lc (.last (.n 5) (.e (.meth 0 (.v 0) 1 "parents" (.cons (.v 3) .nil))) .nil (.bin .Add (.ix (.v 2) (.v 5)) (.k (.int 1)))) [5])) .nil)) .nil)))
      .nil) [3, 4, 5])
  (.cons (.ret (.bi .tuple (.cons (.v 2) .nil)))
  .nil)))
def f_rising : Den := run [f_Graph_parents] c_rising 2 6
--@ levels  slots: graph own
def c_levels : Ss :=
  (.cons (.asg 1 (.make 0 "Graph" (.cons (.v 0) .nil)))
  (.cons (.ret (.call 2 "rising" (.cons (.v 1) (.cons (.bin .Mult (.lst (.cons (.k (.int 1)) .nil)) (.lenO 1 (.v 1))) .nil))))
  .nil))
def f_levels : Den := run [(mkF i_Graph_init), f_Graph_len, f_rising] c_levels 1 2
--@ closed  slots: graph commits
def c_closed : Ss :=
  (.cons (.ret (.bi .tuple (.cons (.meth 1 (.call 0 "graph_at" (.cons (.v 0) (.cons (.v 1) .nil))) 1 "had" (.cons (.v 1) .nil)) .nil)))
  .nil)
def f_closed : Den := run [f_graph_at, f_Graph_had] c_closed 2 2
--@ is_number  slots: thing bottom
def c_is_number : Ss :=
  (.cons (.ret (.and (.isi (.v 0) ["int"]) (.and (.not (.isi (.v 0) ["bool"])) (.cmp .GtE (.v 0) (.v 1)))))
  .nil)
def f_is_number : Den := run [] c_is_number 2 2
--@ are_commits  slots: thing many part
def c_are_commits : Ss :=
  (.cons (.ite (.or (.not (.e (.isi (.v 0) ["tuple"]))) (.not (.e (.bi .all (.cons (.lc (.last (.n 2) (.e (.v 0)) .nil (.and (.call 0 "is_number" (.cons (.v 2) (.cons (.k (.int 0)) .nil))) (.cmp .Lt (.v 2) (.v 1)))) [2]) .nil)))))
      (.cons (.ret (.k (.bl false)))
      .nil)
      .nil)
  (.cons (.ret (.cmp .Eq (.bi .list (.cons (.v 0) .nil)) (.bi .sset (.cons (.v 0) .nil))))
  .nil))
def f_are_commits : Den := run [f_is_number] c_are_commits 2 3
--@ is_table  slots: graph thing own
def c_is_table : Ss :=
  (.cons (.asg 2 (.make 0 "Graph" (.cons (.v 0) .nil)))
  (.cons (.ite (.not (.e (.call 2 "are_commits" (.cons (.v 1) (.cons (.lenO 1 (.v 2)) .nil)))))
      (.cons (.ret (.k (.bl false)))
      .nil)
      .nil)
  (.cons (.ret (.cmp .Eq (.meth 3 (.v 2) 1 "had" (.cons (.v 1) .nil)) (.bi .list (.cons (.v 1) .nil))))
  .nil)))
def f_is_table : Den := run [(mkF i_Graph_init), f_Graph_len, f_are_commits, f_Graph_had] c_is_table 2 3
--@ truth  slots: graph wants nots own known commit
def c_truth : Ss :=
  (.cons (.asg 3 (.call 0 "graph_at" (.cons (.v 0) (.cons (.v 1) (.cons (.v 2) .nil)))))
  (.cons (.asg 4 (.meth 1 (.v 3) 1 "had" (.cons (.v 2) .nil)))
  (.cons (.ret (.lc (.last (.n 5) (.e (.meth 1 (.v 3) 1 "had" (.cons (.v 1) .nil))) (.one (.cmp .NotIn (.v 5) (.v 4))) (.v 5)) [5]))
  .nil)))
def f_truth : Den := run [f_graph_at, f_Graph_had] c_truth 3 6
--@ Graph.dates  slots: self
def c_Graph_dates : Ss :=
  (.cons (.ret (.bi .list (.cons (.fld (.v 0) 1 0) .nil)))
  .nil)
def f_Graph_dates : Den := run [] c_Graph_dates 1 1
--@ mended  slots: graph own
def c_mended : Ss :=
  (.cons (.asg 1 (.make 0 "Graph" (.cons (.v 0) .nil)))
  (.cons (.ret (.call 2 "rising" (.cons (.v 1) (.cons (.meth 1 (.v 1) 1 "dates" .nil) .nil))))
  .nil))
def f_mended : Den := run [(mkF i_Graph_init), f_Graph_dates, f_rising] c_mended 1 2
end Dl
/-! CH: codes and what they denote (printed by g3.py) -/
namespace Dl
open PySem L2
--@ _law_cells  slots: _law_script _law_most _law_cells_here _law_k _law_cell _law_at_so
def c__law_cells : Ss :=
  (.cons (.asg 2 (.own (.orl (.bi .list (.cons (.cut (.v 0) .none (.some (.v 1))) .nil)) (.lst (.cons (.k (.int 0)) .nil)))))
  (.cons (.for (.t [3, 4]) (.en (.cut (.v 0) (.some (.v 1)) (.some (.k (.int 63)))))
      (.cons (.asg 5 (.bin .Mod (.bi .int (.cons (.v 3) .nil)) (.v 1)))
      (.cons (.setix (.v 2) (.v 5) (.bin .Add (.ix (.v 2) (.v 5)) (.bin .Mult (.v 4) (.bin .Add (.v 3) (.k (.int 2))))))
      .nil)) [3, 4, 5])
  (.cons (.ret (.v 2))
  .nil)))
def f__law_cells : Den := run [] c__law_cells 2 6
--@ _law_box  slots: _law_script _law_k _law_cell
def c__law_box : Ss :=
  (.cons (.asg 2 (.ife (.cmp .Lt (.v 1) (.bi .len (.cons (.v 0) .nil))) (.ix (.v 0) (.v 1)) (.k (.int 0))))
  (.cons (.ret (.lst (.cons (.bin .Mult (.bi .abs (.cons (.v 2) .nil)) (.bi .int (.cons (.cmp .GtE (.bi .abs (.cons (.v 2) .nil)) (.bin .Pow (.k (.int 10)) (.k (.int 18)))) .nil))) (.cons (.bin .Add (.bin .Add (.bin .Mod (.bi .int (.cons (.v 2) .nil)) (.k (.int 2305843009213693951))) (.bin .Mult (.k (.int 39373)) (.v 1))) (.k (.int 197))) (.cons (.k (.int 0)) .nil)))))
  .nil))
def f__law_box : Den := run [] c__law_box 2 3
--@ _law_same  slots: _law_got _law_due _law_mine _law_its _law_own
def c__law_same : Ss :=
  (.cons (.ite (.e (.isi (.v 1) ["list", "tuple"]))
      (.cons (.ite (.or (.cmp .NotEq (.isi (.v 0) ["list"]) (.isi (.v 1) ["list"])) (.cmp .NotEq (.isi (.v 0) ["tuple"]) (.isi (.v 1) ["tuple"])))
          (.cons (.ret (.k (.bl false)))
          .nil)
          .nil)
      (.cons (.ret (.and (.cmp .Eq (.bi .len (.cons (.v 0) .nil)) (.bi .len (.cons (.v 1) .nil))) (.bi .all (.cons (.lc (.last (.t [2, 3]) (.zp (.v 0) (.v 1)) .nil (.call 0 "_law_same" (.cons (.v 2) (.cons (.v 3) .nil)))) [2, 3]) .nil))))
      .nil))
      .nil)
  (.cons (.ite (.e (.isi (.v 1) ["dict"]))
      (.cons (.ite (.or (.not (.e (.isi (.v 0) ["dict"]))) (.or (.cmp .NotEq (.bi .len (.cons (.v 0) .nil)) (.bi .len (.cons (.v 1) .nil))) (.cmp .NotEq (.lc (.last (.n 4) (.e (.v 1)) (.one (.cmp .NotIn (.v 4) (.v 0))) (.v 4)) [4]) (.lst .nil))))
          (.cons (.ret (.k (.bl false)))
          .nil)
          .nil)
      (.cons (.ret (.bi .all (.cons (.lc (.last (.n 4) (.e (.v 1)) .nil (.call 0 "_law_same" (.cons (.ix (.v 0) (.v 4)) (.cons (.ix (.v 1) (.v 4)) .nil)))) [4]) .nil)))
      .nil))
      .nil)
  (.cons (.ite (.or (.cmp .Is (.v 1) (.k .non)) (.e (.isi (.v 1) ["bool", "str"])))
      (.cons (.ret (.and (.cmp .Eq (.v 0) (.v 1)) (.and (.cmp .Eq (.isi (.v 0) ["bool"]) (.isi (.v 1) ["bool"])) (.cmp .Eq (.cmp .Is (.v 0) (.k .non)) (.cmp .Is (.v 1) (.k .non))))))
      .nil)
      .nil)
  (.cons (.ret (.and (.isi (.v 0) ["int"]) (.and (.not (.isi (.v 0) ["bool"])) (.cmp .Eq (.v 0) (.v 1)))))
  .nil))))
def f__law_same : Nat → Den
  | 0 => fun _ _ => .bad
  | n + 1 => run [(f__law_same n)] c__law_same 2 5
--@ _law_take  slots: _law_box_here _law_below_so _law_drawn _law_once _law_far _law_twice
def c__law_take : Ss :=
  (.cons (.ite (.cmp .Gt (.ix (.v 0) (.k (.int 0))) (.k (.int 0)))
      (.cons (.asg 2 (.bin .Mod (.bi .int (.cons (.ix (.v 0) (.k (.int 0))) .nil)) (.v 1)))
      (.cons (.setix (.v 0) (.k (.int 0)) (.bin .FloorDiv (.ix (.v 0) (.k (.int 0))) (.v 1)))
      (.cons (.ret (.v 2))
      .nil)))
      .nil)
  (.cons (.setix (.v 0) (.k (.int 2)) (.bin .Add (.ix (.v 0) (.k (.int 2))) (.k (.int 1))))
  (.cons (.asg 3 (.bin .Mod (.bi .int (.cons (.bin .Mult (.bin .Add (.ix (.v 0) (.k (.int 1))) (.bin .Mult (.k (.int 48271)) (.ix (.v 0) (.k (.int 2))))) (.bin .Add (.k (.int 39373)) (.ix (.v 0) (.k (.int 2))))) .nil)) (.k (.int 2147483647))))
  (.cons (.asg 4 (.bin .Add (.bin .Mod (.bi .int (.cons (.v 3) .nil)) (.k (.int 40009))) (.k (.int 7))))
  (.cons (.asg 5 (.bin .Mod (.bi .int (.cons (.bin .Mult (.bin .Add (.bin .Add (.v 3) (.ix (.v 0) (.k (.int 2)))) (.bin .FloorDiv (.ix (.v 0) (.k (.int 1))) (.k (.int 1000003)))) (.v 4)) .nil)) (.k (.int 2147483629))))
  (.cons (.ret (.bin .Mod (.bi .int (.cons (.bin .FloorDiv (.bin .Mod (.bi .int (.cons (.bin .Add (.bin .Mult (.v 5) (.k (.int 48271))) (.v 3)) .nil)) (.k (.int 2147483587))) (.k (.int 64))) .nil)) (.v 1)))
  .nil))))))
def f__law_take : Den := run [] c__law_take 2 6
--@ _law_of  slots: _law_box_here _law_some
def c__law_of : Ss :=
  (.cons (.ret (.ix (.v 1) (.call 0 "_law_take" (.cons (.v 0) (.cons (.bi .len (.cons (.v 1) .nil)) .nil)))))
  .nil)
def f__law_of : Den := run [f__law_take] c__law_of 2 2
--@ _law_graph  slots: _law_box_here _law_many_so _law_rows_so _law_here _law_low _law_k _law_far _law_date_so _law_near _law_many_here _law_some _law_turn
def c__law_graph : Ss :=
  (.cons (.par [2, 3, 4] (.cons (.own (.lst .nil)) (.cons (.k (.int 10)) (.cons (.k (.bl false)) .nil))))
  (.cons (.for (.n 5) (.r1 (.v 1))
      (.cons (.par [3, 4] (.cons (.bin .Add (.v 3) (.call 1 "_law_of" (.cons (.v 0) (.cons (.lst (.cons (.k (.int 0)) (.cons (.k (.int 1)) (.cons (.k (.int 1)) (.cons (.k (.int 2)) (.cons (.k (.int 5)) .nil)))))) .nil)))) (.cons (.cmp .Lt (.call 0 "_law_take" (.cons (.v 0) (.cons (.k (.int 4)) .nil))) (.bin .Add (.k (.int 1)) (.bi .int (.cons (.v 4) .nil)))) .nil)))
      (.cons (.asg 6 (.call 1 "_law_of" (.cons (.v 0) (.cons (.lst (.cons (.k (.int 0)) (.cons (.k (.int 0)) (.cons (.k (.int 0)) (.cons (.call 0 "_law_take" (.cons (.v 0) (.cons (.k (.int 9)) .nil))) (.cons (.neg (.k (.int 3))) .nil)))))) .nil))))
      (.cons (.asg 7 (.ife (.e (.v 4)) (.call 0 "_law_take" (.cons (.v 0) (.cons (.k (.int 10)) .nil))) (.bin .Add (.v 3) (.v 6))))
      (.cons (.asg 8 (.ife (.cmp .Eq (.call 0 "_law_take" (.cons (.v 0) (.cons (.k (.int 6)) .nil))) (.k (.int 0))) (.bi .lrange (.cons (.v 5) .nil)) (.bi .lrange (.cons (.bi .max (.cons (.k (.int 0)) (.cons (.bin .Sub (.v 5) (.k (.int 4))) .nil))) (.cons (.v 5) .nil)))))
      (.cons (.asg 9 (.bin .Mult (.call 1 "_law_of" (.cons (.v 0) (.cons (.lst (.cons (.k (.int 0)) (.cons (.k (.int 1)) (.cons (.k (.int 1)) (.cons (.k (.int 1)) (.cons (.k (.int 2)) (.cons (.k (.int 3)) .nil))))))) .nil))) (.bi .int (.cons (.cmp .NotEq (.v 8) (.lst .nil)) .nil))))
      (.cons (.asg 10 (.bin .Add (.bin .Mult (.lst (.cons (.bin .Sub (.v 5) (.k (.int 1))) .nil)) (.bi .int (.cons (.and (.v 4) (.cmp .Gt (.v 5) (.k (.int 0)))) .nil))) (.lc (.last (.n 11) (.r1 (.v 9)) .nil (.call 1 "_law_of" (.cons (.v 0) (.cons (.v 8) .nil)))) [11])))
      (.cons (.ex (.mt (.v 2) .append (.cons (.tup (.cons (.bi .max (.cons (.k (.int 0)) (.cons (.v 7) .nil))) (.cons (.bi .tuple (.cons (.bi .sset (.cons (.v 10) .nil)) .nil)) .nil))) .nil)))
      .nil))))))) [5, 6, 7, 8, 9, 10, 11])
  (.cons (.ret (.bi .tuple (.cons (.v 2) .nil)))
  .nil)))
def f__law_graph : Den := run [f__law_take, f__law_of] c__law_graph 2 12
--@ _law_lists  slots: _law_matter _law_bit
def c__law_lists : Ss :=
  (.cons (.ret (.ife (.e (.isi (.v 0) ["list", "tuple"])) (.lc (.last (.n 1) (.e (.v 0)) .nil (.call 0 "_law_lists" (.cons (.v 1) .nil))) [1]) (.v 0)))
  .nil)
def f__law_lists : Nat → Den
  | 0 => fun _ _ => .bad
  | n + 1 => run [(f__law_lists n)] c__law_lists 1 2
--@ _law_had  slots: _law_graph_so _law_some _law_found_so _law_k _law_own
def c__law_had : Ss :=
  (.cons (.asg 2 (.bi .sset (.cons (.v 1) .nil)))
  (.cons (.for (.n 3) (.rd (.bin .Sub (.bi .len (.cons (.v 0) .nil)) (.k (.int 1))) (.neg (.k (.int 1))))
      (.cons (.ite (.cmp .In (.v 3) (.v 2))
          (.cons (.asg 2 (.bin .Add (.v 2) (.lc (.last (.n 4) (.e (.ix (.ix (.v 0) (.v 3)) (.k (.int 1)))) (.one (.cmp .NotIn (.v 4) (.v 2))) (.v 4)) [4])))
          .nil)
          .nil)
      .nil) [3, 4])
  (.cons (.ret (.bi .sorted (.cons (.v 2) .nil)))
  .nil)))
def f__law_had : Den := run [] c__law_had 2 5
end Dl
/-! PG: graphs as data, in plain Lean -/
namespace Dl
open PySem L2
def IsSeq (d : D) (ds : List D) : Prop := d = .lst ds ∨ d = .tup ds
theorem sq_seq {d : D} {ds : List D} (h : IsSeq d ds) : ∃ t, ∀ M, sq M (.val d) = some (t, ds) := by
  rcases h with rfl | rfl
  · exact ⟨_, fun _ => rfl⟩
  · exact ⟨_, fun _ => rfl⟩
theorem rf_seq {d : D} : (Sl.val d).refs = [] := rfl
theorem atI_of {α : Type} {xs : List α} {i : Int} {x : α} (h0 : 0 ≤ i) (h : xs[i.toNat]? = some x) : atI xs i = some x := by
  have := atI_nat h
  rwa [Int.toNat_of_nonneg h0] at this
theorem atI_getD {α : Type} {xs : List α} {i : Int} {z : α} (h0 : 0 ≤ i) (h1 : i < xs.length) : atI xs i = some (xs.getD i.toNat z) := by
  refine atI_of h0 ?_
  have : i.toNat < xs.length := by omega
  rw [List.getElem?_eq_getElem this, List.getD_eq_getElem?_getD, List.getElem?_eq_getElem this]; rfl
theorem atI_map {α : Type} {f : α → D} {xs : List α} {i : Int} {z : α} (h0 : 0 ≤ i) (h1 : i < xs.length) : atI (xs.map f) i = some (f (xs.getD i.toNat z)) := by
  refine atI_of h0 ?_
  have : i.toNat < xs.length := by omega
  rw [List.getElem?_map, List.getElem?_eq_getElem this, List.getD_eq_getElem?_getD, List.getElem?_eq_getElem this]; rfl
theorem ixN_of {n : Nat} {i : Int} (h0 : 0 ≤ i) (h1 : i < n) : ixN n i = some i.toNat := by
  have h : atI (List.range n) i = some i.toNat := atI_of h0 (List.getElem?_range (by omega))
  unfold atI at h
  rw [List.length_range] at h
  cases e : ixN n i with
  | none => rw [e] at h; cases h
  | some j =>
    rw [e] at h
    have h : (List.range n)[j]? = some i.toNat := h
    obtain ⟨q1, q2⟩ := List.getElem?_eq_some_iff.mp h
    rw [List.getElem_range] at q2
    rw [q2]

/-! ### graphs -/
abbrev Gr := List (Int × List Int)
def rowT (r : Int × List Int) : D := .tup [.int r.1, .tup (r.2.map D.int)]
def rowL (r : Int × List Int) : D := .lst [.int r.1, .lst (r.2.map D.int)]
def gT (g : Gr) : D := .tup (g.map rowT)
def gL (g : Gr) : D := .lst (g.map rowL)
def IsRow (r : Int × List Int) (d : D) : Prop := ∃ pd, IsSeq d [.int r.1, pd] ∧ IsSeq pd (r.2.map D.int)
def IsG (g : Gr) (d : D) : Prop := ∃ ps : List ((Int × List Int) × D), ps.map (·.1) = g ∧ IsSeq d (ps.map (·.2)) ∧ ∀ p ∈ ps, IsRow p.1 p.2
theorem isG_T (g : Gr) : IsG g (gT g) := ⟨g.map fun r => (r, rowT r), by rw [List.map_map]; exact List.map_id'' (fun _ => rfl) _, .inr (by unfold gT; rw [List.map_map]; rfl), fun p hp => by
  obtain ⟨r, _, rfl⟩ := List.mem_map.mp hp
  exact ⟨_, .inr rfl, .inr rfl⟩⟩
theorem isG_L (g : Gr) : IsG g (gL g) := ⟨g.map fun r => (r, rowL r), by rw [List.map_map]; exact List.map_id'' (fun _ => rfl) _, .inl (by unfold gL; rw [List.map_map]; rfl), fun p hp => by
  obtain ⟨r, _, rfl⟩ := List.mem_map.mp hp
  exact ⟨_, .inl rfl, .inl rfl⟩⟩
/-- a graph as [4] has it, small -/
structure WF (g : Gr) : Prop where
  len : g.length ≤ 24
  row : ∀ (i : Nat) (r : Int × List Int), g[i]? = some r → 0 ≤ r.1 ∧ r.1 ≤ 1000000 ∧ r.2.Pairwise (· < ·) ∧ ∀ p ∈ r.2, 0 ≤ p ∧ p < (i : Int)
def gdate (g : Gr) (i : Int) : Int := (g.getD i.toNat (0, [])).1
def gpar (g : Gr) (i : Int) : List Int := (g.getD i.toNat (0, [])).2
theorem asc_len : ∀ (l : List Int) (n : Nat), l.Pairwise (· < ·) → (∀ p ∈ l, 0 ≤ p ∧ p < (n : Int)) → l.length ≤ n
  | [], _, _, _ => Nat.zero_le _
  | x :: l, n, h, b => by
    have h' := List.pairwise_cons.mp h
    have hx := b x List.mem_cons_self
    have key : ∀ (l : List Int) (lo : Int), l.Pairwise (· < ·) → (∀ p ∈ l, lo < p ∧ p < (n : Int)) → (l.length : Int) ≤ n - lo - 1 ∨ l = [] := by
      intro l
      induction l with
      | nil => exact fun _ _ _ => .inr rfl
      | cons y r ih =>
        intro lo h b
        have h' := List.pairwise_cons.mp h
        have hy := b y List.mem_cons_self
        left
        rcases ih y h'.2 (fun p hp => ⟨h'.1 p hp, (b p (List.mem_cons_of_mem _ hp)).2⟩) with z | z
        · simp; omega
        · subst z; simp; omega
    rcases key l x h'.2 (fun p hp => ⟨h'.1 p hp, (b p (List.mem_cons_of_mem _ hp)).2⟩) with z | z
    · simp; omega
    · subst z; simp; omega
theorem getD_some {α : Type} {xs : List α} {i : Int} {z : α} (h0 : 0 ≤ i) (h1 : i < xs.length) : xs[i.toNat]? = some (xs.getD i.toNat z) := by
  have : i.toNat < xs.length := by omega
  rw [List.getElem?_eq_getElem this, List.getD_eq_getElem?_getD, List.getElem?_eq_getElem this]; rfl
section
variable {g : Gr} {i : Int}
theorem WF.at (h : WF g) (h0 : 0 ≤ i) (h1 : i < g.length) : 0 ≤ gdate g i ∧ gdate g i ≤ 1000000 ∧ (gpar g i).Pairwise (· < ·) ∧ ∀ p ∈ gpar g i, 0 ≤ p ∧ p < i := by
  have := h.row i.toNat _ (getD_some (z := (0, [])) h0 h1)
  refine ⟨this.1, this.2.1, this.2.2.1, fun p hp => ?_⟩
  have := this.2.2.2 p hp
  omega
theorem WF.parlen (h : WF g) (h0 : 0 ≤ i) (h1 : i < g.length) : (gpar g i).length ≤ 24 := by
  have w := h.at h0 h1
  have := asc_len (gpar g i) i.toNat w.2.2.1 fun p hp => ⟨(w.2.2.2 p hp).1, by have := (w.2.2.2 p hp).2; omega⟩
  have := h.len
  omega
end
/-- the object that Graph(graph) makes -/
def grO (g : Gr) : D := .slo 1 [.lst ((g.map (·.1)).map D.int), .lst (g.map fun r => .tup (r.2.map D.int)), .dic [] []]
theorem filt_true {α : Type} (xs : List α) : xs.filter (fun _ => true) = xs := List.filter_eq_self.mpr fun _ _ => rfl
theorem rng_mem {lo x : Int} {n : Nat} : x ∈ rng lo n ↔ lo ≤ x ∧ x < lo + n := by
  unfold rng
  rw [List.mem_map]
  constructor
  · rintro ⟨i, hi, rfl⟩
    have := List.mem_range.mp hi
    omega
  · intro h
    exact ⟨(x - lo).toNat, List.mem_range.mpr (by omega), by omega⟩

/-- x is one of ns, or a parent of one that is had -/
inductive Anc (g : Gr) (ns : List Int) : Int → Prop
  | base {x : Int} : x ∈ ns → Anc g ns x
  | step {y p : Int} : Anc g ns y → 0 ≤ y → y < g.length → p ∈ gpar g y → Anc g ns p
def sweepL (st : Nat → List Int → List Int) : Nat → List Int → List Int
  | 0, ks => ks
  | n + 1, ks => sweepL st n (st n ks)
theorem Anc.in_ {g : Gr} (hw : WF g) {ns : List Int} (h : ∀ x ∈ ns, 0 ≤ x ∧ x < g.length) {x : Int} (a : Anc g ns x) : 0 ≤ x ∧ x < g.length := by
  induction a with
  | base hx => exact h _ hx
  | step _ h0 h1 hp _ => have := (hw.at h0 h1).2.2.2 _ hp; omega
theorem sweep_sound {g : Gr} {st : Nat → List Int → List Int} (hst : ∀ i ks, i < g.length → ∀ x, x ∈ st i ks ↔ x ∈ ks ∨ ((i : Int) ∈ ks ∧ x ∈ gpar g i)) {ns : List Int} : ∀ (n : Nat) (ks : List Int), n ≤ g.length → (∀ x ∈ ks, Anc g ns x) → ∀ x ∈ sweepL st n ks, Anc g ns x
  | 0, ks, _, h => h
  | n + 1, ks, hn, h => sweep_sound hst n (st n ks) (by omega) fun x hx => by
    rcases (hst n ks (by omega) x).mp hx with z | ⟨z1, z2⟩
    · exact h x z
    · exact .step (h _ z1) (by omega) (by omega) z2
theorem sweep_sub {g : Gr} {st : Nat → List Int → List Int} (hst : ∀ i ks, i < g.length → ∀ x, x ∈ st i ks ↔ x ∈ ks ∨ ((i : Int) ∈ ks ∧ x ∈ gpar g i)) : ∀ (n : Nat) (ks : List Int), n ≤ g.length → ∀ x ∈ ks, x ∈ sweepL st n ks
  | 0, ks, _, x, h => h
  | n + 1, ks, hn, x, h => sweep_sub hst n (st n ks) (by omega) x ((hst n ks (by omega) x).mpr (.inl h))
/-- those at n and above are closed already, and what comes lies below -/
theorem sweep_closed {g : Gr} (hw : WF g) {st : Nat → List Int → List Int} (hst : ∀ i ks, i < g.length → ∀ x, x ∈ st i ks ↔ x ∈ ks ∨ ((i : Int) ∈ ks ∧ x ∈ gpar g i)) : ∀ (n : Nat) (ks : List Int), n ≤ g.length → (∀ y ∈ ks, (n : Int) ≤ y → y < g.length → ∀ p ∈ gpar g y, p ∈ ks) →
    ∀ y ∈ sweepL st n ks, 0 ≤ y → y < g.length → ∀ p ∈ gpar g y, p ∈ sweepL st n ks
  | 0, ks, _, h => fun y hy h0 h1 p hp => h y hy h0 h1 p hp
  | n + 1, ks, hn, h => sweep_closed hw hst n (st n ks) (by omega) fun y hy h0 h1 p hp => by
    have hnl : n < g.length := by omega
    refine (hst n ks hnl p).mpr ?_
    rcases (hst n ks hnl y).mp hy with z | ⟨z1, z2⟩
    · by_cases e : y = (n : Int)
      · subst e; exact .inr ⟨z, hp⟩
      · exact .inl (h y z (by omega) h1 p hp)
    · have := (hw.at (i := (n : Int)) (by omega) (by omega)).2.2.2 _ z2
      omega
theorem sweep_mem {g : Gr} (hw : WF g) {st : Nat → List Int → List Int} (hst : ∀ i ks, i < g.length → ∀ x, x ∈ st i ks ↔ x ∈ ks ∨ ((i : Int) ∈ ks ∧ x ∈ gpar g i)) {ns : List Int} (h : ∀ x ∈ ns, 0 ≤ x ∧ x < g.length) (ks : List Int) (hks : ∀ x, x ∈ ks ↔ x ∈ ns) (x : Int) :
    x ∈ sweepL st g.length ks ↔ Anc g ns x := by
  constructor
  · exact sweep_sound hst g.length ks (Nat.le_refl _) (fun x hx => .base ((hks x).mp hx)) x
  · intro a
    induction a with
    | base hx => exact sweep_sub hst _ _ (Nat.le_refl _) _ ((hks _).mpr hx)
    | step ha h0 h1 hp ih => exact sweep_closed hw hst g.length ks (Nat.le_refl _) (fun y hy z0 z1 => by omega) _ ih h0 h1 _ hp
/-- a parent's ancestors lie below -/
theorem Anc.of_one {g : Gr} (hw : WF g) {b x : Int} (hb : 0 ≤ b ∧ b < g.length) (a : Anc g [b] x) : x = b ∨ Anc g (gpar g b) x := by
  induction a with
  | base hx => exact .inl (List.mem_singleton.mp hx)
  | step ha h0 h1 hp ih =>
    rcases ih with rfl | ih
    · exact .inr (.base hp)
    · exact .inr (.step ih h0 h1 hp)
theorem Anc.le {g : Gr} (hw : WF g) {ns : List Int} {x m : Int} (hm : ∀ y ∈ ns, y ≤ m) (a : Anc g ns x) : x ≤ m := by
  induction a with
  | base hx => exact hm _ hx
  | step _ h0 h1 hp ih => have := (hw.at h0 h1).2.2.2 _ hp; omega
theorem Anc.mono {g : Gr} {ns ms : List Int} (h : ∀ y ∈ ns, Anc g ms y) {x : Int} (a : Anc g ns x) : Anc g ms x := by
  induction a with
  | base hx => exact h _ hx
  | step _ h0 h1 hp ih => exact .step ih h0 h1 hp
theorem Anc.some {g : Gr} {ns : List Int} {x : Int} (a : Anc g ns x) : ∃ y ∈ ns, Anc g [y] x := by
  induction a with
  | base hx => exact ⟨_, hx, .base (by simp)⟩
  | step _ h0 h1 hp ih => obtain ⟨y, h, a⟩ := ih; exact ⟨y, h, .step a h0 h1 hp⟩
/-- below the common ones: had by parents of theirs, or by another of them -/
theorem below_iff {g : Gr} (hw : WF g) {both : List Int} (hb : ∀ y ∈ both, 0 ≤ y ∧ y < g.length) {x : Int} : Anc g (both.flatMap (gpar g)) x ↔ ∃ y ∈ both, y ≠ x ∧ Anc g [y] x := by
  constructor
  · intro a
    obtain ⟨p, hp, a⟩ := a.some
    obtain ⟨y, hy, hp⟩ := List.mem_flatMap.mp hp
    have hy' := hb y hy
    have hlt := (hw.at hy'.1 hy'.2).2.2.2 _ hp
    have := a.le hw (m := p) (fun z hz => by rw [List.mem_singleton] at hz; omega)
    exact ⟨y, hy, by omega, a.mono fun z hz => by rw [List.mem_singleton] at hz; subst hz; exact .step (.base (by simp)) hy'.1 hy'.2 hp⟩
  · rintro ⟨y, hy, ne, a⟩
    rcases a.of_one hw (hb y hy) with e | a
    · exact absurd e.symm ne
    · exact a.mono fun z hz => .base (List.mem_flatMap.mpr ⟨y, hy, hz⟩)

def addI (ks : List Int) (p : Int) : List Int := if p ∈ ks then ks else ks ++ [p]
def dT (ks : List Int) : List (Key × D) := ks.map fun n => (.inl n, .bl true)
theorem dT_any (ks : List Int) (p : Int) : ((dT ks).any fun q => decide (q.1 = (Sum.inl p : Key))) = decide (p ∈ ks) := by
  induction ks with
  | nil => rfl
  | cons k ks ih =>
    show (decide ((Sum.inl k : Key) = Sum.inl p) || (dT ks).any _) = _
    rw [ih]
    by_cases e : k = p
    · subst e; simp
    · have : ¬ (Sum.inl k : Key) = Sum.inl p := fun z => e (by injection z)
      simp [this, Ne.symm e]
theorem put_dT (ks : List Int) (p : Int) : putD (dT ks) (.inl p) (.bl true) = dT (addI ks p) := by
  unfold putD addI
  rw [dT_any]
  by_cases h : p ∈ ks
  · rw [if_pos (decide_eq_true h), if_pos h]
    unfold dT
    rw [List.map_map]
    refine List.map_congr_left fun n _ => ?_
    show (if (Sum.inl n : Key) = Sum.inl p then ((Sum.inl n : Key), D.bl true) else (Sum.inl n, D.bl true)) = _
    split <;> rfl
  · rw [if_neg (by simpa using h), if_neg h]
    unfold dT
    rw [List.map_append]; rfl
theorem find_any {α : Type} (f : α → Bool) : ∀ l : List α, (l.find? f).isSome = l.any f
  | [] => rfl
  | x :: l => by
    rw [List.find?_cons, List.any_cons]
    cases e : f x with
    | true => rfl
    | false => simpa using find_any f l
theorem get_dT (ks : List Int) (p : Int) : (getK (dT ks) (.inl p)).isSome = decide (p ∈ ks) := by
  rw [← dT_any]
  unfold getK
  rw [Option.isSome_map]
  exact find_any _ _
theorem all_dT (ns : List Int) : mergeD [] (ns.map fun x => ((Sum.inl x : Key), D.bl true)) = dT (ns.foldl addI []) := by
  have key : ∀ (l : List Int) (acc : List Int), mergeD (dT acc) (l.map fun x => ((Sum.inl x : Key), D.bl true)) = dT (l.foldl addI acc) := by
    intro l
    induction l with
    | nil => exact fun _ => rfl
    | cons x l ih =>
      intro acc
      show mergeD (putD (dT acc) (.inl x) (.bl true)) (l.map _) = _
      rw [put_dT, ih]; rfl
  exact key ns []
theorem mem_addI {ks : List Int} {p x : Int} : x ∈ addI ks p ↔ x ∈ ks ∨ x = p := by
  unfold addI
  split
  · rename_i h
    constructor
    · exact .inl
    · rintro (z | rfl)
      · exact z
      · exact h
  · simp
theorem mem_addAll {x : Int} : ∀ {l ks : List Int}, x ∈ l.foldl addI ks ↔ x ∈ ks ∨ x ∈ l
  | [], ks => by simp
  | p :: l, ks => by rw [List.foldl_cons, mem_addAll, mem_addI, List.mem_cons, or_assoc]
theorem nd_addI {ks : List Int} {p : Int} (h : ks.Nodup) : (addI ks p).Nodup := by
  unfold addI
  split
  · exact h
  · rename_i z
    rw [List.nodup_append]
    exact ⟨h, by simp, fun a ha b hb => by rw [List.mem_singleton] at hb; subst hb; exact fun e => z (e ▸ ha)⟩
theorem nd_addAll : ∀ {l ks : List Int}, ks.Nodup → (l.foldl addI ks).Nodup
  | [], _, h => h
  | _ :: l, _, h => nd_addAll (l := l) (nd_addI h)
theorem asc_isort {l : List Int} (h : l.Nodup) : (isort l).Pairwise (· < ·) := by
  have h1 := isort_sorted l
  have h2 : (isort l).Nodup := (isort_perm l).symm.nodup h
  exact (h1.and h2).imp fun ⟨a, b⟩ => by omega
theorem nd_len {l : List Int} {n : Nat} (h : l.Nodup) (hb : ∀ x ∈ l, 0 ≤ x ∧ x < (n : Int)) : l.length ≤ n := by
  rw [← (isort_perm l).length_eq]
  exact asc_len _ n (asc_isort h) fun p hp => hb p ((isort_perm l).mem_iff.mp hp)
def hadSt (g : Gr) (i : Nat) (ks : List Int) : List Int := if (i : Int) ∈ ks then (gpar g i).foldl addI ks else ks
theorem hadSt_mem (g : Gr) (i : Nat) (ks : List Int) (_ : i < g.length) (x : Int) : x ∈ hadSt g i ks ↔ x ∈ ks ∨ ((i : Int) ∈ ks ∧ x ∈ gpar g i) := by
  unfold hadSt
  split
  · rename_i h; rw [mem_addAll]; simp [h]
  · rename_i h; simp [h]
theorem nd_hadSt {g : Gr} {i : Nat} {ks : List Int} (h : ks.Nodup) : (hadSt g i ks).Nodup := by
  unfold hadSt
  split
  · exact nd_addAll h
  · exact h
def hadL (g : Gr) (ns : List Int) : List Int := isort (sweepL (hadSt g) g.length (ns.foldl addI []))
theorem mem_hadL {g : Gr} (hw : WF g) {ns : List Int} (h : ∀ x ∈ ns, 0 ≤ x ∧ x < g.length) (x : Int) : x ∈ hadL g ns ↔ Anc g ns x := by
  unfold hadL
  rw [(isort_perm _).mem_iff]
  exact sweep_mem hw (hadSt_mem g) h _ (fun y => by rw [mem_addAll]; simp) x

def bothL (g : Gr) (a b : Int) : List Int := (hadL g [a]).filter fun x => decide (x ∈ hadL g [b])
def nearL (g : Gr) (a b : Int) : List Int := (bothL g a b).filter fun x => !decide (x ∈ hadL g ((bothL g a b).flatMap (gpar g)))
theorem one_in {g : Gr} {a : Int} (h : 0 ≤ a ∧ a < g.length) : ∀ x ∈ [a], 0 ≤ x ∧ x < (g.length : Int) := fun x hx => by rw [List.mem_singleton] at hx; subst hx; exact h
theorem hadL_in {g : Gr} (hw : WF g) {ns : List Int} (h : ∀ x ∈ ns, 0 ≤ x ∧ x < g.length) {x : Int} (hx : x ∈ hadL g ns) : 0 ≤ x ∧ x < g.length := ((mem_hadL hw h x).mp hx).in_ hw h
theorem nd_sweep {g : Gr} {st : Nat → List Int → List Int} (h : ∀ i ks, i < g.length → ks.Nodup → (st i ks).Nodup) : ∀ (n : Nat) (ks : List Int), n ≤ g.length → ks.Nodup → (sweepL st n ks).Nodup
  | 0, _, _, z => z
  | n + 1, ks, hn, z => nd_sweep h n _ (by omega) (h n ks (by omega) z)
theorem asc_hadL (g : Gr) (ns : List Int) : (hadL g ns).Pairwise (· < ·) := asc_isort (nd_sweep (fun _ _ _ z => nd_hadSt z) _ _ (Nat.le_refl _) (nd_addAll List.nodup_nil))
theorem hadL_len {g : Gr} (hw : WF g) {ns : List Int} (h : ∀ x ∈ ns, 0 ≤ x ∧ x < g.length) : (hadL g ns).length ≤ 24 := Nat.le_trans (asc_len _ g.length (asc_hadL g ns) fun p hp => hadL_in hw h hp) hw.len
theorem bothL_in {g : Gr} (hw : WF g) {a b : Int} (ha : 0 ≤ a ∧ a < g.length) : ∀ x ∈ bothL g a b, 0 ≤ x ∧ x < g.length := fun x hx => hadL_in hw (one_in ha) (List.mem_filter.mp hx).1
theorem bothL_len {g : Gr} (hw : WF g) {a b : Int} (ha : 0 ≤ a ∧ a < g.length) : (bothL g a b).length ≤ 24 := Nat.le_trans (List.length_filter_le _ _) (hadL_len hw (one_in ha))
theorem flat_in {g : Gr} (hw : WF g) {l : List Int} (h : ∀ x ∈ l, 0 ≤ x ∧ x < g.length) : ∀ x ∈ l.flatMap (gpar g), 0 ≤ x ∧ x < g.length := fun x hx => by
  obtain ⟨y, hy, hp⟩ := List.mem_flatMap.mp hx
  have hy := h y hy
  have := (hw.at hy.1 hy.2).2.2.2 x hp
  omega
theorem flat_len {g : Gr} (hw : WF g) : ∀ {l : List Int}, (∀ x ∈ l, 0 ≤ x ∧ x < g.length) → (l.flatMap (gpar g)).length ≤ 24 * l.length
  | [], _ => by simp
  | x :: l, h => by
    have h1 := hw.parlen (h x (by simp)).1 (h x (by simp)).2
    have h2 := flat_len hw (l := l) fun y hy => h y (List.mem_cons_of_mem _ hy)
    rw [List.flatMap_cons, List.length_append, List.length_cons]; omega

end Dl
/-! PG2: longest ways, levels, ascending lists, in plain Lean -/
namespace Dl
open PySem L2
/-! ### ascending lists -/
abbrev Asc (l : List Int) : Prop := l.Pairwise (· < ·)
theorem asc_ext : ∀ {l r : List Int}, Asc l → Asc r → (∀ x, x ∈ l ↔ x ∈ r) → l = r
  | [], [], _, _, _ => rfl
  | [], y :: r, _, _, h => absurd ((h y).mpr List.mem_cons_self) (by simp)
  | x :: l, [], _, _, h => absurd ((h x).mp List.mem_cons_self) (by simp)
  | x :: l, y :: r, hl, hr, h => by
    have hl' := List.pairwise_cons.mp hl
    have hr' := List.pairwise_cons.mp hr
    have e : x = y := by
      rcases List.mem_cons.mp ((h x).mp List.mem_cons_self) with e | hx
      · exact e
      rcases List.mem_cons.mp ((h y).mpr List.mem_cons_self) with e | hy
      · exact e.symm
      have := hr'.1 x hx
      have := hl'.1 y hy
      omega
    subst e
    rw [asc_ext hl'.2 hr'.2 fun z => ?_]
    have := h z
    rw [List.mem_cons, List.mem_cons] at this
    constructor
    · intro hz
      rcases this.mp (.inr hz) with e | e
      · subst e; have := hl'.1 z hz; omega
      · exact e
    · intro hz
      rcases this.mpr (.inr hz) with e | e
      · subst e; have := hr'.1 z hz; omega
      · exact e
theorem asc_insU {x : Int} : ∀ {l : List Int}, Asc l → Asc (insU x l)
  | [], _ => by simp [insU]
  | z :: l, h => by
    have h' := List.pairwise_cons.mp h
    unfold insU
    split
    · rename_i hx
      exact List.pairwise_cons.mpr ⟨fun y hy => by rcases List.mem_cons.mp hy with e | hy; · omega
                                                   · have := h'.1 y hy; omega, h⟩
    · split
      · exact h
      · exact List.pairwise_cons.mpr ⟨fun y hy => by rcases mem_insU.mp hy with e | hy; · omega
                                                     · exact h'.1 y hy, asc_insU h'.2⟩
theorem asc_sset : ∀ l : List Int, Asc (sset l)
  | [] => .nil
  | x :: l => asc_insU (asc_sset l)
theorem asc_filter {l : List Int} (p : Int → Bool) (h : Asc l) : Asc (l.filter p) := h.sublist List.filter_sublist
theorem sset_asc {l : List Int} (h : Asc l) : sset l = l := asc_ext (asc_sset l) h fun _ => mem_sset
abbrev tI (l : List Int) : D := .tup (l.map D.int)
abbrev lI (l : List Int) : D := .lst (l.map D.int)
abbrev In (g : Gr) (ns : List Int) : Prop := ∀ n ∈ ns, 0 ≤ n ∧ n < (g.length : Int)
theorem len_sset : ∀ l : List Int, (sset l).length ≤ l.length
  | [] => by simp [sset]
  | x :: l => by
    have h : ∀ (r : List Int), (insU x r).length ≤ r.length + 1 := by
      intro r
      induction r with
      | nil => simp [insU]
      | cons z r ih => unfold insU; split; · simp
                       · split <;> simp; omega
    have := h (sset l)
    have := len_sset l
    rw [sset, List.length_cons]; omega
theorem In.sset {g : Gr} {a : List Int} (h : In g a) : In g (sset a) := fun n hn => h n (mem_sset.mp hn)
theorem In.app {g : Gr} {a b : List Int} (h : In g a) (h' : In g b) : In g (a ++ b) := fun n hn => by
  rcases List.mem_append.mp hn with z | z
  · exact h n z
  · exact h' n z
theorem In.had {g : Gr} (hw : WF g) {a : List Int} (h : In g a) : In g (hadL g a) := fun n hn => hadL_in hw h hn
theorem In.nil {g : Gr} : In g [] := fun _ h => nomatch h
theorem In.filter {g : Gr} {a : List Int} (p : Int → Bool) (h : In g a) : In g (a.filter p) := fun n hn => h n (List.mem_filter.mp hn).1
theorem In.drop {g : Gr} {a : List Int} (n : Nat) (h : In g a) : In g (a.drop n) := fun m hm => h m (List.mem_of_mem_drop hm)
theorem In.take {g : Gr} {a : List Int} (n : Nat) (h : In g a) : In g (a.take n) := fun m hm => h m (List.mem_of_mem_take hm)
theorem In.len {g : Gr} (hw : WF g) {a : List Int} (ha : Asc a) (h : In g a) : a.length ≤ 24 := Nat.le_trans (asc_len a g.length ha h) hw.len
theorem Anc.app {g : Gr} {a b : List Int} {x : Int} : Anc g (a ++ b) x ↔ Anc g a x ∨ Anc g b x := by
  constructor
  · intro h
    induction h with
    | base hx =>
      rcases List.mem_append.mp hx with z | z
      · exact .inl (.base z)
      · exact .inr (.base z)
    | step _ h0 h1 hp ih =>
      rcases ih with z | z
      · exact .inl (.step z h0 h1 hp)
      · exact .inr (.step z h0 h1 hp)
  · rintro (h | h)
    · exact h.mono fun y hy => .base (List.mem_append_left _ hy)
    · exact h.mono fun y hy => .base (List.mem_append_right _ hy)
theorem Anc.sset {g : Gr} {a : List Int} {x : Int} : Anc g (sset a) x ↔ Anc g a x := ⟨fun h => h.mono fun y hy => .base (mem_sset.mp hy), fun h => h.mono fun y hy => .base (mem_sset.mpr hy)⟩
theorem Anc.nil {g : Gr} {x : Int} : ¬ Anc g [] x := fun h => by obtain ⟨y, hy, _⟩ := h.some; cases hy
/-- closed under what is had -/
def Clo (g : Gr) (l : List Int) : Prop := ∀ x, Anc g l x → x ∈ l
theorem had_clo {g : Gr} (hw : WF g) {l : List Int} (hi : In g l) (ha : Asc l) (hc : Clo g l) : hadL g l = l := asc_ext (asc_hadL g l) ha fun x => by
  rw [mem_hadL hw hi]
  exact ⟨hc x, .base⟩
theorem clo_had {g : Gr} (hw : WF g) {l : List Int} (hi : In g l) : Clo g (hadL g l) := fun x hx => (mem_hadL hw hi x).mpr (hx.mono fun y hy => (mem_hadL hw hi y).mp hy)
theorem clo_inter {g : Gr} {l r : List Int} (hl : Clo g l) (hr : Clo g r) : Clo g (l.filter fun x => decide (x ∈ r)) := fun x hx => List.mem_filter.mpr ⟨hl x (hx.mono fun y hy => .base (List.mem_filter.mp hy).1), decide_eq_true (hr x (hx.mono fun y hy => .base (of_decide_eq_true (List.mem_filter.mp hy).2)))⟩
theorem clo_union {g : Gr} {l r : List Int} (hl : Clo g l) (hr : Clo g r) : Clo g (sset (l ++ r)) := fun x hx => mem_sset.mpr (List.mem_append.mpr ((Anc.app.mp (Anc.sset.mp hx)).imp (hl x) (hr x)))
def truthL (g : Gr) (a b : List Int) : List Int := (hadL g a).filter fun x => !decide (x ∈ hadL g b)
theorem asc_truth (g : Gr) (a b : List Int) : Asc (truthL g a b) := asc_filter _ (asc_hadL g a)
theorem In.truth {g : Gr} (hw : WF g) {a b : List Int} (h : In g a) : In g (truthL g a b) := (In.had hw h).filter _
theorem mem_truth {g : Gr} (hw : WF g) {a b : List Int} (ha : In g a) (hb : In g b) {x : Int} : x ∈ truthL g a b ↔ Anc g a x ∧ ¬ Anc g b x := by
  unfold truthL
  rw [List.mem_filter, mem_hadL hw ha, Bool.not_eq_true', decide_eq_false_iff_not, mem_hadL hw hb]
theorem had_both {g : Gr} (hw : WF g) {a b : List Int} (ha : In g a) (hb : In g b) : hadL g (sset (a ++ b)) = sset (hadL g a ++ hadL g b) := asc_ext (asc_hadL _ _) (asc_sset _) fun x => by
  rw [mem_hadL hw (ha.app hb).sset, mem_sset, List.mem_append, mem_hadL hw ha, mem_hadL hw hb, Anc.sset, Anc.app]
theorem truth_nil {g : Gr} (a : List Int) (hw : WF g) : truthL g a [] = hadL g a := by
  unfold truthL
  refine List.filter_eq_self.mpr fun x _ => ?_
  rw [Bool.not_eq_true', decide_eq_false_iff_not, mem_hadL hw In.nil]
  exact Anc.nil
theorem truth_wants {g : Gr} (hw : WF g) {a b c : List Int} (ha : In g a) (hb : In g b) (hc : In g c) : truthL g (sset (a ++ b)) c = sset (truthL g a c ++ truthL g b c) := asc_ext (asc_truth _ _ _) (asc_sset _) fun x => by
  rw [mem_truth hw (ha.app hb).sset hc, mem_sset, List.mem_append, mem_truth hw ha hc, mem_truth hw hb hc, Anc.sset, Anc.app]
  constructor
  · rintro ⟨h | h, n⟩
    · exact .inl ⟨h, n⟩
    · exact .inr ⟨h, n⟩
  · rintro (⟨h, n⟩ | ⟨h, n⟩)
    · exact ⟨.inl h, n⟩
    · exact ⟨.inr h, n⟩
theorem truth_nots {g : Gr} (hw : WF g) {a b c : List Int} (ha : In g a) (hb : In g b) (hc : In g c) : truthL g a (sset (b ++ c)) = (truthL g a b).filter fun x => decide (x ∈ truthL g a c) := asc_ext (asc_truth _ _ _) (asc_filter _ (asc_truth _ _ _)) fun x => by
  rw [mem_truth hw ha (hb.app hc).sset, List.mem_filter, decide_eq_true_iff, mem_truth hw ha hb, mem_truth hw ha hc, Anc.sset, Anc.app]
  constructor
  · rintro ⟨h, n⟩
    exact ⟨⟨h, fun z => n (.inl z)⟩, h, fun z => n (.inr z)⟩
  · rintro ⟨⟨h, n⟩, _, n'⟩
    exact ⟨h, fun z => z.elim n n'⟩
/-! ### dicts of numbers -/
def dN (kvs : List (Int × Int)) : List (Key × D) := kvs.map fun p => (.inl p.1, .int p.2)
def getI (kvs : List (Int × Int)) (k : Int) : Option Int := (kvs.find? fun p => decide (p.1 = k)).map (·.2)
def putI (kvs : List (Int × Int)) (k v : Int) : List (Int × Int) := if kvs.any (fun p => decide (p.1 = k)) then kvs.map (fun p => if p.1 = k then (p.1, v) else p) else kvs ++ [(k, v)]
theorem inl_dec (a b : Int) : decide ((Sum.inl a : Key) = Sum.inl b) = decide (a = b) := by
  by_cases h : a = b
  · subst h; simp
  · have : ¬ (Sum.inl a : Key) = Sum.inl b := fun z => h (by injection z)
    simp [this, h]
theorem get_dN (kvs : List (Int × Int)) (k : Int) : getK (dN kvs) (.inl k) = (getI kvs k).map D.int := by
  induction kvs with
  | nil => rfl
  | cons p kvs ih =>
    unfold getK getI dN at *
    rw [List.map_cons, List.find?_cons, List.find?_cons]
    show (match decide ((Sum.inl p.1 : Key) = Sum.inl k) with | true => _ | false => _ : Option _).map _ = _
    rw [inl_dec]
    cases decide (p.1 = k) with
    | true => rfl
    | false => exact ih
theorem put_dN (kvs : List (Int × Int)) (k v : Int) : putD (dN kvs) (.inl k) (.int v) = dN (putI kvs k v) := by
  have h1 : ((dN kvs).any fun p => decide (p.1 = (Sum.inl k : Key))) = kvs.any fun p => decide (p.1 = k) := by
    unfold dN
    rw [List.any_map]
    exact congrArg (fun f => kvs.any f) (funext fun p => inl_dec _ _)
  unfold putD putI
  rw [h1]
  split
  · unfold dN
    rw [List.map_map, List.map_map]
    refine List.map_congr_left fun p _ => ?_
    show (if (Sum.inl p.1 : Key) = Sum.inl k then _ else _) = _
    by_cases h : p.1 = k
    · subst h
      simp
    · have h' : ¬ (Sum.inl p.1 : Key) = Sum.inl k := fun z => h (by injection z)
      simp [h, h']
  · unfold dN
    rw [List.map_append]; rfl
theorem dN_len (kvs : List (Int × Int)) : (dN kvs).length = kvs.length := List.length_map _
theorem find_map_if (kvs : List (Int × Int)) (k v j : Int) : ((kvs.map (fun p => if p.1 = k then (p.1, v) else p)).find? fun p => decide (p.1 = j)).map (·.2) = if j = k then (if kvs.any (fun p => decide (p.1 = k)) then some v else none) else (kvs.find? fun p => decide (p.1 = j)).map (·.2) := by
  induction kvs with
  | nil => simp
  | cons p kvs ih =>
    rw [List.map_cons, List.find?_cons, List.any_cons, List.find?_cons]
    by_cases h : p.1 = k
    · rw [if_pos h]
      by_cases hj : j = k
      · subst hj; simp [h]
      · have : ¬ p.1 = j := fun z => hj (z.symm.trans h)
        simp only [this, decide_false]
        rw [ih, if_neg hj, if_neg hj]
    · rw [if_neg h]
      by_cases hj : p.1 = j
      · have : ¬ j = k := fun z => h (hj.trans z)
        simp [hj, this]
      · simp only [hj, decide_false, h, Bool.false_or]
        exact ih
theorem getI_putI (kvs : List (Int × Int)) (k v j : Int) : getI (putI kvs k v) j = if j = k then some v else getI kvs j := by
  unfold putI
  split
  · rename_i h
    unfold getI
    rw [find_map_if, h]; simp
  · rename_i h
    unfold getI
    rw [List.find?_append, Option.map_or]
    by_cases hj : j = k
    · subst hj
      have : kvs.find? (fun p => decide (p.1 = j)) = none := by
        rw [List.find?_eq_none]
        intro p hp hq
        exact h (List.any_eq_true.mpr ⟨p, hp, hq⟩)
      simp [this]
    · have : ¬ k = j := fun z => hj z.symm
      simp [hj, this]
theorem getI_some_mem {kvs : List (Int × Int)} {k v : Int} (h : getI kvs k = some v) : k ∈ kvs.map (·.1) := by
  unfold getI at h
  rw [Option.map_eq_some_iff] at h
  obtain ⟨p, hp, _⟩ := h
  have h1 := List.find?_some hp
  have h2 := List.mem_of_find?_eq_some hp
  exact List.mem_map.mpr ⟨p, h2, of_decide_eq_true h1⟩
theorem putI_keys (kvs : List (Int × Int)) (k v : Int) : (putI kvs k v).map (·.1) = addI (kvs.map (·.1)) k := by
  have e : (kvs.any fun p => decide (p.1 = k)) = decide (k ∈ kvs.map (·.1)) := by
    rw [Bool.eq_iff_iff, List.any_eq_true, decide_eq_true_iff, List.mem_map]
    constructor
    · rintro ⟨p, hp, h⟩; exact ⟨p, hp, of_decide_eq_true h⟩
    · rintro ⟨p, hp, h⟩; exact ⟨p, hp, decide_eq_true h⟩
  unfold putI addI
  rw [e]
  by_cases h : k ∈ kvs.map (·.1)
  · rw [if_pos (decide_eq_true h), if_pos h, List.map_map]
    refine List.map_congr_left fun p _ => ?_
    show (if p.1 = k then (p.1, v) else p).1 = p.1
    split <;> rfl
  · rw [if_neg (by simpa using h), if_neg h, List.map_append]; rfl
/-! ### ways -/
inductive Path (g : Gr) (a : Int) : Int → Int → Prop
  | nil : Path g a a 0
  | step {y p m : Int} : Path g a y m → 0 ≤ y → y < g.length → p ∈ gpar g y → Path g a p (m + 1)
theorem Path.nn {g : Gr} {a b m : Int} (h : Path g a b m) : 0 ≤ m := by induction h <;> omega
theorem Path.anc {g : Gr} {a b m : Int} (h : Path g a b m) : Anc g [a] b := by
  induction h with
  | nil => exact .base (by simp)
  | step _ h0 h1 hp ih => exact .step ih h0 h1 hp
theorem Anc.path {g : Gr} {a b : Int} (h : Anc g [a] b) : ∃ m, Path g a b m := by
  induction h with
  | base hx => rw [List.mem_singleton] at hx; subst hx; exact ⟨0, .nil⟩
  | step _ h0 h1 hp ih => obtain ⟨m, hm⟩ := ih; exact ⟨m + 1, .step hm h0 h1 hp⟩
theorem Path.trans {g : Gr} {a b c m n : Int} (h : Path g a b m) (h' : Path g b c n) : Path g a c (m + n) := by
  induction h' with
  | nil => rw [Int.add_zero]; exact h
  | step _ h0 h1 hp ih => rw [← Int.add_assoc]; exact .step ih h0 h1 hp
theorem Path.zero {g : Gr} {a b : Int} (h : Path g a b 0) : b = a := by
  generalize e : (0 : Int) = m at h
  cases h with
  | nil => rfl
  | step h' _ _ _ => have := h'.nn; omega
theorem Path.one {g : Gr} {a b : Int} (h : Path g a b 1) : b ∈ gpar g a := by
  generalize e : (1 : Int) = m at h
  cases h with
  | nil => omega
  | @step y p m h' _ _ hp =>
    have : m = 0 := by omega
    subst this
    rw [h'.zero] at hp; exact hp
theorem Path.le {g : Gr} (hw : WF g) {a b m : Int} (h : Path g a b m) : b + m ≤ a := by
  induction h with
  | nil => omega
  | step _ h0 h1 hp ih => have := (hw.at h0 h1).2.2.2 _ hp; omega
def wayIn (here : Int) (kvs : List (Int × Int)) (p : Int) : List (Int × Int) := putI kvs p (max ((getI kvs p).getD 0) ((getI kvs here).getD 0 + 1))
def waySt (g : Gr) (i : Nat) (kvs : List (Int × Int)) : List (Int × Int) := if (getI kvs (i : Int)).isSome then (gpar g i).foldl (wayIn i) kvs else kvs
def wayFrom (g : Gr) : Nat → List (Int × Int) → List (Int × Int)
  | 0, kvs => kvs
  | n + 1, kvs => wayFrom g n (waySt g n kvs)
def waysL (g : Gr) (a : Int) : List (Int × Int) := wayFrom g (a.toNat + 1) [(a, 0)]
def wayL (g : Gr) (a b : Int) : Option Int := getI (waysL g a) b
theorem wayIn_other {here p x : Int} {kvs : List (Int × Int)} (h : x ≠ p) : getI (wayIn here kvs p) x = getI kvs x := by
  unfold wayIn; rw [getI_putI, if_neg h]
theorem fold_way {here v : Int} : ∀ (ps : List Int) (kvs : List (Int × Int)), (∀ p ∈ ps, p ≠ here) → getI kvs here = some v →
    ∀ x, (x ∉ ps → getI (ps.foldl (wayIn here) kvs) x = getI kvs x) ∧ (x ∈ ps → ∃ u, getI (ps.foldl (wayIn here) kvs) x = some u ∧ v + 1 ≤ u ∧ (getI kvs x).getD 0 ≤ u ∧ (u = v + 1 ∨ getI kvs x = some u ∨ (u = 0 ∧ v + 1 ≤ 0)))
  | [], kvs, _, _, x => ⟨fun _ => rfl, fun h => nomatch h⟩
  | p :: ps, kvs, hp, hv, x => by
    have hph := hp p List.mem_cons_self
    have hv' : getI (wayIn here kvs p) here = some v := by rw [wayIn_other (Ne.symm hph)]; exact hv
    have ih := fold_way ps (wayIn here kvs p) (fun q hq => hp q (List.mem_cons_of_mem _ hq)) hv' x
    have hx : getI (wayIn here kvs p) p = some (max ((getI kvs p).getD 0) (v + 1)) := by
      unfold wayIn; rw [getI_putI, if_pos rfl, hv]; rfl
    constructor
    · intro h
      have h1 : x ≠ p := fun z => h (by simp [z])
      have h2 : x ∉ ps := fun z => h (by simp [z])
      rw [List.foldl_cons, ih.1 h2, wayIn_other h1]
    · intro h
      rw [List.foldl_cons]
      by_cases h2 : x ∈ ps
      · obtain ⟨u, e, h3, h4, h5⟩ := ih.2 h2
        by_cases h1 : x = p
        · subst h1
          rw [hx] at h4 h5
          have h4 : max ((getI kvs x).getD 0) (v + 1) ≤ u := h4
          refine ⟨u, e, h3, by omega, ?_⟩
          rcases h5 with h5 | h5 | h5
          · exact .inl h5
          · have h5 : max ((getI kvs x).getD 0) (v + 1) = u := Option.some.inj h5
            cases eg : getI kvs x with
            | none =>
              rw [eg] at h5
              have h5 : max 0 (v + 1) = u := h5
              by_cases hz : 0 ≤ v + 1
              · left; omega
              · right; right; omega
            | some w =>
              rw [eg] at h5
              have h5 : max w (v + 1) = u := h5
              by_cases hz : w ≤ v + 1
              · left; omega
              · right; left; congr 1; omega
          · exact .inr (.inr h5)
        · rw [wayIn_other h1] at h4 h5
          exact ⟨u, e, h3, h4, h5⟩
      · have h1 : x = p := by
          rcases List.mem_cons.mp h with z | z
          · exact z
          · exact absurd z h2
        subst h1
        rw [ih.1 h2, hx]
        refine ⟨_, rfl, by omega, by omega, ?_⟩
        cases eg : getI kvs x with
        | none =>
          show max 0 (v + 1) = v + 1 ∨ _
          by_cases hz : 0 ≤ v + 1
          · left; omega
          · right; right; show max 0 (v + 1) = 0 ∧ _; omega
        | some w =>
          show max w (v + 1) = v + 1 ∨ some w = some (max w (v + 1)) ∨ _
          by_cases hz : w ≤ v + 1
          · left; omega
          · right; left; congr 1; omega
structure WayI (g : Gr) (a : Int) (n : Nat) (kvs : List (Int × Int)) : Prop where
  sound : ∀ x v, getI kvs x = some v → Path g a x v
  own : ∃ u, getI kvs a = some u
  done : ∀ y v, (n : Int) ≤ y → getI kvs y = some v → ∀ p ∈ gpar g y, ∃ u, getI kvs p = some u ∧ v + 1 ≤ u
theorem wayI_step {g : Gr} (hw : WF g) {a : Int} {n : Nat} {kvs : List (Int × Int)} (hn : n < g.length) (h : WayI g a (n + 1) kvs) : WayI g a n (waySt g n kvs) := by
  unfold waySt
  have hat := hw.at (i := (n : Int)) (by omega) (by omega)
  cases e : getI kvs (n : Int) with
  | none =>
    simp only [Option.isSome_none, Bool.false_eq_true, if_false]
    refine ⟨h.sound, h.own, fun y v hy hv p hp => ?_⟩
    by_cases hyn : y = n
    · subst hyn; rw [e] at hv; cases hv
    · exact h.done y v (by omega) hv p hp
  | some v0 =>
    simp only [Option.isSome_some, if_true]
    have hne : ∀ p ∈ gpar g (n : Int), p ≠ (n : Int) := fun p hp => by have := (hat.2.2.2 p hp).2; omega
    have F := fold_way (gpar g (n : Int)) kvs hne e
    have hp0 := h.sound _ _ e
    have hv0 := hp0.nn
    refine ⟨fun x v hv => ?_, ?_, fun y v hy hv p hp => ?_⟩
    · by_cases hx : x ∈ gpar g (n : Int)
      · obtain ⟨u, e1, h1, h2, h3⟩ := (F x).2 hx
        rw [e1] at hv
        have : u = v := Option.some.inj hv
        subst this
        rcases h3 with h3 | h3 | h3
        · subst h3; exact .step hp0 (by omega) (by omega) hx
        · exact h.sound x u h3
        · omega
      · rw [(F x).1 hx] at hv
        exact h.sound x v hv
    · by_cases hx : a ∈ gpar g (n : Int)
      · obtain ⟨u, e1, _⟩ := (F a).2 hx
        exact ⟨u, e1⟩
      · rw [(F a).1 hx]; exact h.own
    · have hyp : y ∉ gpar g (n : Int) := fun z => by have := (hat.2.2.2 y z).2; omega
      rw [(F y).1 hyp] at hv
      by_cases hyn : y = n
      · subst hyn
        rw [e] at hv
        have : v0 = v := Option.some.inj hv
        subst this
        obtain ⟨u, e1, h1, _⟩ := (F p).2 hp
        exact ⟨u, e1, h1⟩
      · obtain ⟨u, e1, h1⟩ := h.done y v (by omega) hv p hp
        by_cases hpx : p ∈ gpar g (n : Int)
        · obtain ⟨u', e2, _, h2, _⟩ := (F p).2 hpx
          rw [e1] at h2
          have h2 : u ≤ u' := h2
          exact ⟨u', e2, by omega⟩
        · exact ⟨u, by rw [(F p).1 hpx]; exact e1, h1⟩
theorem wayI_all {g : Gr} (hw : WF g) {a : Int} : ∀ (n : Nat) (kvs : List (Int × Int)), n ≤ g.length → WayI g a n kvs → WayI g a 0 (wayFrom g n kvs)
  | 0, kvs, _, h => h
  | n + 1, kvs, hn, h => wayI_all hw n _ (by omega) (wayI_step hw (by omega) h)
theorem waysI {g : Gr} (hw : WF g) {a : Int} (ha : 0 ≤ a ∧ a < g.length) : WayI g a 0 (waysL g a) := by
  refine wayI_all hw _ _ (by omega) ⟨fun x v h => ?_, ⟨0, by simp [getI]⟩, fun y v hy hv => ?_⟩
  · have : x = a := by have := getI_some_mem h; simpa using this
    subst this
    have : v = 0 := by simpa [getI] using h.symm
    subst this; exact .nil
  · exfalso
    have : y = a := by have := getI_some_mem hv; simpa using this
    omega
theorem way_ge {g : Gr} (hw : WF g) {a b m : Int} (ha : 0 ≤ a ∧ a < g.length) (h : Path g a b m) : ∃ u, wayL g a b = some u ∧ m ≤ u := by
  have I := waysI hw ha
  induction h with
  | nil =>
    obtain ⟨u, e⟩ := I.own
    exact ⟨u, e, (I.sound _ _ e).nn⟩
  | step _ h0 h1 hp ih =>
    obtain ⟨u, e, hu⟩ := ih
    obtain ⟨u', e', hu'⟩ := I.done _ u (by omega) e _ hp
    exact ⟨u', e', by omega⟩
theorem way_path {g : Gr} (hw : WF g) {a b v : Int} (ha : 0 ≤ a ∧ a < g.length) (h : wayL g a b = some v) : Path g a b v := (waysI hw ha).sound b v h
theorem way_max {g : Gr} (hw : WF g) {a b v m : Int} (ha : 0 ≤ a ∧ a < g.length) (h : wayL g a b = some v) (p : Path g a b m) : m ≤ v := by
  obtain ⟨u, e, hu⟩ := way_ge hw ha p
  rw [h] at e; cases e; exact hu
theorem way_isSome {g : Gr} (hw : WF g) {a b : Int} (ha : 0 ≤ a ∧ a < g.length) : (wayL g a b).isSome = decide (b ∈ hadL g [a]) := by
  rw [Bool.eq_iff_iff, decide_eq_true_iff, mem_hadL hw (one_in ha)]
  constructor
  · intro h
    obtain ⟨v, e⟩ := Option.isSome_iff_exists.mp h
    exact (way_path hw ha e).anc
  · intro h
    obtain ⟨m, p⟩ := h.path
    obtain ⟨u, e, _⟩ := way_ge hw ha p
    rw [e]; rfl
theorem way_keys {g : Gr} : ∀ (n : Nat) (kvs : List (Int × Int)), ((wayFrom g n kvs).map (·.1)).Nodup ↔ ((wayFrom g n kvs).map (·.1)).Nodup := fun _ _ => Iff.rfl
theorem nd_wayIn {here p : Int} {kvs : List (Int × Int)} (h : (kvs.map (·.1)).Nodup) : ((wayIn here kvs p).map (·.1)).Nodup := by
  unfold wayIn; rw [putI_keys]; exact nd_addI h
theorem nd_wayFold {here : Int} : ∀ (ps : List Int) (kvs : List (Int × Int)), (kvs.map (·.1)).Nodup → ((ps.foldl (wayIn here) kvs).map (·.1)).Nodup
  | [], _, h => h
  | _ :: ps, _, h => nd_wayFold ps _ (nd_wayIn h)
theorem nd_waySt {g : Gr} {i : Nat} {kvs : List (Int × Int)} (h : (kvs.map (·.1)).Nodup) : ((waySt g i kvs).map (·.1)).Nodup := by
  unfold waySt
  split
  · exact nd_wayFold _ _ h
  · exact h
theorem nd_wayFrom {g : Gr} : ∀ (n : Nat) (kvs : List (Int × Int)), (kvs.map (·.1)).Nodup → ((wayFrom g n kvs).map (·.1)).Nodup
  | 0, _, h => h
  | n + 1, _, h => nd_wayFrom n _ (nd_waySt h)
/-! ### numbers that rise along the parents -/
def risSt (g : Gr) (acc : List Int) (low : Int) : List Int := acc ++ [maxL (low :: (gpar g acc.length).map fun p => acc.getD p.toNat 0 + 1)]
def risL (g : Gr) (lows : List Int) : List Int := lows.foldl (risSt g) []
theorem ris_len (g : Gr) : ∀ (lows acc : List Int), (lows.foldl (risSt g) acc).length = acc.length + lows.length
  | [], _ => rfl
  | x :: l, acc => by rw [List.foldl_cons, ris_len g l]; simp [risSt]; omega
theorem ris_pfx (g : Gr) : ∀ (lows acc : List Int), acc <+: lows.foldl (risSt g) acc
  | [], acc => List.prefix_refl _
  | x :: l, acc => (List.prefix_append acc _).trans (ris_pfx g l (risSt g acc x))
theorem pfx_getD {a b : List Int} (h : a <+: b) {i : Nat} (hi : i < a.length) : b.getD i 0 = a.getD i 0 := by
  obtain ⟨t, rfl⟩ := h
  rw [List.getD_eq_getElem?_getD, List.getElem?_append_left hi, ← List.getD_eq_getElem?_getD]
theorem ris_eq {g : Gr} (hw : WF g) (lows : List Int) (hl : lows.length = g.length) (i : Nat) (hi : i < lows.length) : (risL g lows).getD i 0 = maxL (lows.getD i 0 :: (gpar g (i : Int)).map fun p => (risL g lows).getD p.toNat 0 + 1) := by
  have key : ∀ (k : Nat) (rest acc : List Int), lows = lows.take acc.length ++ rest → acc.length + rest.length = lows.length → k < rest.length → (rest.foldl (risSt g) acc).getD (acc.length + k) 0 = maxL (lows.getD (acc.length + k) 0 :: (gpar g ((acc.length + k : Nat) : Int)).map fun p => (rest.foldl (risSt g) acc).getD p.toNat 0 + 1) := by
    intro k
    induction k with
    | zero =>
      intro rest acc h1 h2 h3
      match rest, h3 with
      | x :: r, _ =>
        have hx : lows.getD acc.length 0 = x := by
          rw [h1, List.getD_eq_getElem?_getD, List.getElem?_append_right (by simp; omega)]
          simp at h2 ⊢
          rw [Nat.min_eq_left (by omega), Nat.sub_self]; rfl
        rw [List.foldl_cons, Nat.add_zero, hx]
        have hp := ris_pfx g r (risSt g acc x)
        rw [pfx_getD hp (by simp [risSt])]
        have e1 : (risSt g acc x).getD acc.length 0 = maxL (x :: (gpar g acc.length).map fun p => acc.getD p.toNat 0 + 1) := by
          unfold risSt; simp [List.getD_eq_getElem?_getD]
        rw [e1]
        congr 2
        refine List.map_congr_left fun p hpp => ?_
        have := (hw.at (i := (acc.length : Int)) (by omega) (by simp at h2; omega)).2.2.2 p hpp
        have hp2 := (List.prefix_append acc _).trans hp
        rw [pfx_getD hp2 (by omega)]
    | succ k ih =>
      intro rest acc h1 h2 h3
      match rest, h3 with
      | x :: r, h3 =>
        simp at h2 h3
        have hl' : (risSt g acc x).length = acc.length + 1 := by simp [risSt]
        have h1' : lows = lows.take (acc.length + 1) ++ r := by
          have : lows.take (acc.length + 1) = lows.take acc.length ++ [x] := by
            conv => lhs; rw [h1]
            rw [List.take_append]
            simp
            rw [Nat.min_eq_left (by omega)]
            have : acc.length + 1 - acc.length = 1 := by omega
            rw [this]; simp
            rw [List.take_take, Nat.min_eq_right (by omega)]
          rw [this, List.append_assoc]; exact h1
        have := ih r (risSt g acc x) (by rw [hl']; exact h1') (by rw [hl']; omega) h3
        rw [hl'] at this
        rw [List.foldl_cons]
        have e : acc.length + (k + 1) = acc.length + 1 + k := by omega
        rw [e]; exact this
  have := key i lows [] (by simp) (by simp) hi
  rw [show ([] : List Int).length + i = i by simp] at this
  exact this
theorem maxL_ge : ∀ {l : List Int} {x : Int}, x ∈ l → x ≤ maxL l
  | [y], x, h => by simp at h; subst h; exact Int.le_refl _
  | y :: z :: r, x, h => by
    rw [maxL]
    rcases List.mem_cons.mp h with rfl | h
    · omega
    · have := maxL_ge (l := z :: r) h; omega
theorem maxL_mem : ∀ {l : List Int}, l ≠ [] → maxL l ∈ l
  | [y], _ => by simp [maxL]
  | y :: z :: r, _ => by
    rw [maxL]
    have := maxL_mem (l := z :: r) (by simp)
    by_cases h : maxL (z :: r) ≤ y
    · rw [Int.max_eq_left h]; simp
    · rw [Int.max_eq_right (by omega)]; exact List.mem_cons_of_mem _ this
def levL (g : Gr) : List Int := risL g (List.replicate g.length 1)
def menL (g : Gr) : List Int := risL g (g.map (·.1))
theorem risL_len (g : Gr) (l : List Int) : (risL g l).length = l.length := by unfold risL; rw [ris_len]; simp
theorem ris_par {g : Gr} (hw : WF g) {lows : List Int} (hl : lows.length = g.length) {y p : Int} (h0 : 0 ≤ y) (h1 : y < g.length) (hp : p ∈ gpar g y) : (risL g lows).getD p.toNat 0 + 1 ≤ (risL g lows).getD y.toNat 0 := by
  rw [ris_eq hw lows hl y.toNat (by omega)]
  rw [show ((y.toNat : Nat) : Int) = y by omega]
  exact maxL_ge (List.mem_cons_of_mem _ (List.mem_map.mpr ⟨p, hp, rfl⟩))
theorem ris_path {g : Gr} (hw : WF g) {lows : List Int} (hl : lows.length = g.length) {a b m : Int} (h : Path g a b m) : (risL g lows).getD b.toNat 0 + m ≤ (risL g lows).getD a.toNat 0 := by
  induction h with
  | nil => omega
  | step _ h0 h1 hp ih => have := ris_par hw hl h0 h1 hp; omega
end Dl
/-! Z0: evaluation by rewriting: no continuation is unfolded ahead of its time -/
namespace Dl
open PySem L2
section
variable {α β : Type} {env : List Den} {ρ : List Sl} {M M1 : List C} {a b c : E} {o o' : CmpOp} {r r1 r2 r3 : Sl} {t : Bool}
theorem opt_some {x : α} : opt (some x) M = .ok x M := rfl
theorem opt_none : opt (none : Option α) M = .bad := rfl
theorem vz_s : vz (.ok (.s r) M) = .ok r M := rfl
theorem vz_l {xs : List D} : vz (.ok (.n (.lst xs)) M) = .ok (.val (.lst xs)) M := rfl
theorem vz_d {xs : List (Key × D)} : vz (.ok (.n (.dic xs)) M) = .ok (.val (.dic (xs.map (·.1)) (xs.map (·.2)))) M := rfl
theorem gd_t {x : α} : gd true x = some x := rfl
theorem gd_f {x : α} : gd false x = none := rfl
/-! expressions -/
theorem ev_v {i : Nat} : evR env (.v i) ρ M = (match lk ρ i with | .val d => .ok (.s (.val d)) M | .own k => .ok (.s (.own k)) M | .un => .bad) := by rw [evR] <;> rfl
theorem ev_k {d : D} : evR env (.k d) ρ M = .ok (.s (.val d)) M := by rw [evR]
theorem ev_g {x : Str} {d : D} : evR env (.g x d) ρ M = .ok (.s (.val d)) M := by rw [evR]
def kBin1 (o : Operator) (env : List Den) (b : E) (ρ : List Sl) (x : Ev Sl) : Ev Z := x.bd fun r1 M1 => (vz (evR env b ρ M1)).bd fun r2 M2 => opt (binE o r1 r2 M2) M2
def kBin2 (o : Operator) (r1 : Sl) (x : Ev Sl) : Ev Z := x.bd fun r2 M2 => opt (binE o r1 r2 M2) M2
theorem ev_bin {o : Operator} : evR env (.bin o a b) ρ M = kBin1 o env b ρ (vz (evR env a ρ M)) := by rw [evR]; rfl
theorem kBin1_ok {o : Operator} : kBin1 o env b ρ (.ok r M) = kBin2 o r (vz (evR env b ρ M)) := rfl
theorem kBin2_ok {o : Operator} : kBin2 o r1 (.ok r M) = opt (binE o r1 r M) M := rfl
def kNeg (x : Ev Sl) : Ev Z := x.bd fun r M1 => match r with
    | .val (.int i) => .ok (.s (.val (.int (-i)))) M1
    | _ => .bad
theorem ev_neg : evR env (.neg a) ρ M = kNeg (vz (evR env a ρ M)) := by rw [evR]; rfl
theorem kNeg_ok {i : Int} : kNeg (.ok (.val (.int i)) M) = .ok (.s (.val (.int (-i)))) M := rfl
def kB (x : Ev Bool) : Ev Z := x.bd fun t M3 => .ok (.s (.val (.bl t))) M3
theorem kB_ok : kB (.ok t M) = .ok (.s (.val (.bl t))) M := rfl
def kCmp1 (o : CmpOp) (env : List Den) (b : E) (ρ : List Sl) (x : Ev Sl) : Ev Bool := x.bd fun r1 M1 => (vz (evR env b ρ M1)).bd fun r2 M2 => opt (cmpE o r1 r2 M2) M2
def kCmp2 (o : CmpOp) (r1 : Sl) (x : Ev Sl) : Ev Bool := x.bd fun r2 M2 => opt (cmpE o r1 r2 M2) M2
theorem bd_assoc {γ : Type} {x : Ev α} {f : α → List C → Ev β} {g : β → List C → Ev γ} : (x.bd f).bd g = x.bd fun a M => (f a M).bd g := by cases x <;> rfl
theorem ev_cmp : evR env (.cmp o a b) ρ M = kB (kCmp1 o env b ρ (vz (evR env a ρ M))) := by
  rw [evR]
  unfold kB kCmp1
  rw [bd_assoc]
  congr 1; funext r1 M1
  rw [bd_assoc]
theorem kCmp1_ok : kCmp1 o env b ρ (.ok r M) = kCmp2 o r (vz (evR env b ρ M)) := rfl
theorem kCmp2_ok : kCmp2 o r1 (.ok r M) = opt (cmpE o r1 r M) M := rfl
def kCC1 (o o' : CmpOp) (env : List Den) (b c : E) (ρ : List Sl) (x : Ev Sl) : Ev Z := x.bd fun r1 M1 => (vz (evR env b ρ M1)).bd fun r2 M2 => (opt (cmpE o r1 r2 M2) M2).bd fun t M2 => match t with
    | true => (vz (evR env c ρ M2)).bd fun r3 M3 => (opt (cmpE o' r2 r3 M3) M3).bd fun t M3 => .ok (.s (.val (.bl t))) M3
    | false => .ok (.s (.val (.bl false))) M2
def kCC2 (o o' : CmpOp) (r1 : Sl) (env : List Den) (c : E) (ρ : List Sl) (x : Ev Sl) : Ev Z := x.bd fun r2 M2 => (opt (cmpE o r1 r2 M2) M2).bd fun t M2 => match t with
    | true => (vz (evR env c ρ M2)).bd fun r3 M3 => (opt (cmpE o' r2 r3 M3) M3).bd fun t M3 => .ok (.s (.val (.bl t))) M3
    | false => .ok (.s (.val (.bl false))) M2
def kCC3 (o' : CmpOp) (r2 : Sl) (env : List Den) (c : E) (ρ : List Sl) (x : Ev Bool) : Ev Z := x.bd fun t M2 => match t with
    | true => (vz (evR env c ρ M2)).bd fun r3 M3 => (opt (cmpE o' r2 r3 M3) M3).bd fun t M3 => .ok (.s (.val (.bl t))) M3
    | false => .ok (.s (.val (.bl false))) M2
theorem ev_cmp2 : evR env (.cmp2 o o' a b c) ρ M = kCC1 o o' env b c ρ (vz (evR env a ρ M)) := by rw [evR]; rfl
theorem kCC1_ok : kCC1 o o' env b c ρ (.ok r M) = kCC2 o o' r env c ρ (vz (evR env b ρ M)) := rfl
theorem kCC2_ok : kCC2 o o' r1 env c ρ (.ok r M) = kCC3 o' r env c ρ (opt (cmpE o r1 r M) M) := rfl
theorem kCC3_ok : kCC3 o' r env c ρ (.ok t M) = bif t then kB (kCmp2 o' r (vz (evR env c ρ M))) else .ok (.s (.val (.bl false))) M := by
  cases t with
  | true =>
    show (vz (evR env c ρ M)).bd (fun r3 M3 => (opt (cmpE o' r r3 M3) M3).bd fun t M3 => .ok (.s (.val (.bl t))) M3) = kB (kCmp2 o' r (vz (evR env c ρ M)))
    unfold kB kCmp2
    rw [bd_assoc]
  | false => rfl
def kNot (x : Ev Sl) : Ev Z := x.bd fun r M1 => match r with
    | .val (.bl t) => .ok (.s (.val (.bl (!t)))) M1
    | _ => .bad
theorem ev_not : evR env (.not a) ρ M = kNot (vz (evR env a ρ M)) := by rw [evR]; rfl
theorem kNot_ok : kNot (.ok (.val (.bl t)) M) = .ok (.s (.val (.bl (!t)))) M := rfl
def kAnd (env : List Den) (b : E) (ρ : List Sl) (x : Ev Sl) : Ev Z := x.bd fun r M1 => match r with
    | .val (.bl t) => match t with
      | true => evR env b ρ M1
      | false => .ok (.s (.val (.bl false))) M1
    | _ => .bad
theorem ev_and : evR env (.and a b) ρ M = kAnd env b ρ (vz (evR env a ρ M)) := by rw [evR]; rfl
theorem kAnd_ok : kAnd env b ρ (.ok (.val (.bl t)) M) = bif t then evR env b ρ M else .ok (.s (.val (.bl false))) M := by cases t <;> rfl
def kOr (env : List Den) (b : E) (ρ : List Sl) (x : Ev Sl) : Ev Z := x.bd fun r M1 => match r with
    | .val (.bl t) => match t with
      | false => evR env b ρ M1
      | true => .ok (.s (.val (.bl true))) M1
    | _ => .bad
theorem ev_or : evR env (.or a b) ρ M = kOr env b ρ (vz (evR env a ρ M)) := by rw [evR]; rfl
theorem kOr_ok : kOr env b ρ (.ok (.val (.bl t)) M) = bif t then .ok (.s (.val (.bl true))) M else evR env b ρ M := by cases t <;> rfl
def kIfe (env : List Den) (a b : E) (ρ : List Sl) (x : Ev Bool) : Ev Z := x.bd fun t M1 => match t with
    | true => evR env a ρ M1
    | false => evR env b ρ M1
theorem ev_ife {u : Te} : evR env (.ife u a b) ρ M = kIfe env a b ρ (evT env u ρ M) := by rw [evR]; rfl
theorem kIfe_ok : kIfe env a b ρ (.ok t M) = bif t then evR env a ρ M else evR env b ρ M := by cases t <;> rfl
def kTup (x : Ev (List Sl)) : Ev Z := x.bd fun rs M1 => match valsOf rs with
    | some ds => match Nat.ble ds.length 100000 with
      | true => .ok (.s (.val (.tup ds))) M1
      | false => .bad
    | none => .bad
theorem ev_tup {as : Es} : evR env (.tup as) ρ M = kTup (evA env as ρ M) := by rw [evR]; rfl
theorem kTup_ok {ds : List D} (h : Nat.ble ds.length 100000 = true) : kTup (.ok (ds.map .val) M) = .ok (.s (.val (.tup ds))) M := by
  show (match valsOf (ds.map Sl.val) with
    | some ds => (match Nat.ble ds.length 100000 with
      | true => Ev.ok (Z.s (.val (.tup ds))) M
      | false => .bad)
    | none => .bad) = _
  rw [valsOf_map]
  simp only [h]
theorem kTup0 : kTup (.ok [] M) = .ok (.s (.val (.tup []))) M := rfl
theorem kTup1 {d1 : D} : kTup (.ok [.val d1] M) = .ok (.s (.val (.tup [d1]))) M := rfl
theorem kTup2 {d1 d2 : D} : kTup (.ok [.val d1, .val d2] M) = .ok (.s (.val (.tup [d1, d2]))) M := rfl
theorem kTup3 {d1 d2 d3 : D} : kTup (.ok [.val d1, .val d2, .val d3] M) = .ok (.s (.val (.tup [d1, d2, d3]))) M := rfl
theorem kTup4 {d1 d2 d3 d4 : D} : kTup (.ok [.val d1, .val d2, .val d3, .val d4] M) = .ok (.s (.val (.tup [d1, d2, d3, d4]))) M := rfl
theorem kTup5 {d1 d2 d3 d4 d5 : D} : kTup (.ok [.val d1, .val d2, .val d3, .val d4, .val d5] M) = .ok (.s (.val (.tup [d1, d2, d3, d4, d5]))) M := rfl
theorem kTup6 {d1 d2 d3 d4 d5 d6 : D} : kTup (.ok [.val d1, .val d2, .val d3, .val d4, .val d5, .val d6] M) = .ok (.s (.val (.tup [d1, d2, d3, d4, d5, d6]))) M := rfl
theorem kTup7 {d1 d2 d3 d4 d5 d6 d7 : D} : kTup (.ok [.val d1, .val d2, .val d3, .val d4, .val d5, .val d6, .val d7] M) = .ok (.s (.val (.tup [d1, d2, d3, d4, d5, d6, d7]))) M := rfl
theorem kTup8 {d1 d2 d3 d4 d5 d6 d7 d8 : D} : kTup (.ok [.val d1, .val d2, .val d3, .val d4, .val d5, .val d6, .val d7, .val d8] M) = .ok (.s (.val (.tup [d1, d2, d3, d4, d5, d6, d7, d8]))) M := rfl
def kLst (x : Ev (List Sl)) : Ev Z := x.bd fun rs M1 => match valsOf rs with
    | some ds => match Nat.ble ds.length 100000 with
      | true => .ok (.n (.lst ds)) M1
      | false => .bad
    | none => .bad
theorem ev_lst {as : Es} : evR env (.lst as) ρ M = kLst (evA env as ρ M) := by rw [evR]; rfl
theorem kLst0 : kLst (.ok [] M) = .ok (.n (.lst [])) M := rfl
theorem kLst1 {d1 : D} : kLst (.ok [.val d1] M) = .ok (.n (.lst [d1])) M := rfl
theorem kLst2 {d1 d2 : D} : kLst (.ok [.val d1, .val d2] M) = .ok (.n (.lst [d1, d2])) M := rfl
theorem kLst3 {d1 d2 d3 : D} : kLst (.ok [.val d1, .val d2, .val d3] M) = .ok (.n (.lst [d1, d2, d3])) M := rfl
theorem kLst4 {d1 d2 d3 d4 : D} : kLst (.ok [.val d1, .val d2, .val d3, .val d4] M) = .ok (.n (.lst [d1, d2, d3, d4])) M := rfl
theorem kLst5 {d1 d2 d3 d4 d5 : D} : kLst (.ok [.val d1, .val d2, .val d3, .val d4, .val d5] M) = .ok (.n (.lst [d1, d2, d3, d4, d5])) M := rfl
theorem kLst6 {d1 d2 d3 d4 d5 d6 : D} : kLst (.ok [.val d1, .val d2, .val d3, .val d4, .val d5, .val d6] M) = .ok (.n (.lst [d1, d2, d3, d4, d5, d6])) M := rfl
theorem kLst7 {d1 d2 d3 d4 d5 d6 d7 : D} : kLst (.ok [.val d1, .val d2, .val d3, .val d4, .val d5, .val d6, .val d7] M) = .ok (.n (.lst [d1, d2, d3, d4, d5, d6, d7])) M := rfl
theorem kLst8 {d1 d2 d3 d4 d5 d6 d7 d8 : D} : kLst (.ok [.val d1, .val d2, .val d3, .val d4, .val d5, .val d6, .val d7, .val d8] M) = .ok (.n (.lst [d1, d2, d3, d4, d5, d6, d7, d8])) M := rfl
def kDct (x : Ev (List Sl)) : Ev Z := x.bd fun rs M1 => match pairsR rs with
    | some kvs => match Nat.ble kvs.length 15 with
      | true => .ok (.n (kvC kvs)) M1
      | false => .bad
    | none => .bad
theorem ev_dct {as : Es} : evR env (.dct as) ρ M = kDct (evA env as ρ M) := by rw [evR]; rfl
theorem kDct0 : kDct (.ok [] M) = .ok (.n (.dic [])) M := rfl
theorem kDct1i {i : Int} {d : D} : kDct (.ok [.val (.int i), .val d] M) = .ok (.n (.dic [(.inl i, d)])) M := rfl
def kLstM (x : Ev (List Sl)) : Ev Z := x.bd fun rs M1 => match Nat.ble rs.length 100000 && rs.all slOk with
    | true => .ok (.n (.mls rs)) M1
    | false => .bad
theorem ev_lstM {as : Es} : evR env (.lstM as) ρ M = kLstM (evA env as ρ M) := by rw [evR]; rfl
def kOrl (env : List Den) (b : E) (ρ : List Sl) (x : Ev Z) : Ev Z := x.bd fun z M1 => match z with
    | .n (.lst (d :: ds)) => .ok (.n (.lst (d :: ds))) M1
    | .n (.lst []) => evR env b ρ M1
    | _ => .bad
theorem ev_orl : evR env (.orl a b) ρ M = kOrl env b ρ (evR env a ρ M) := by rw [evR]; rfl
theorem kOrl_c {d : D} {ds : List D} : kOrl env b ρ (.ok (.n (.lst (d :: ds))) M) = .ok (.n (.lst (d :: ds))) M := rfl
theorem kOrl_n : kOrl env b ρ (.ok (.n (.lst [])) M) = evR env b ρ M := rfl
theorem ev_bad : evR env .bad ρ M = .bad := by rw [evR]
def kIx1 (env : List Den) (b : E) (ρ : List Sl) (x : Ev Sl) : Ev Z := x.bd fun r1 M1 => (vz (evR env b ρ M1)).bd fun r2 M2 => (opt (ixE r1 r2 M2) M2).bd fun r M2 => .ok (.s r) M2
def kIx2 (r1 : Sl) (x : Ev Sl) : Ev Z := x.bd fun r2 M2 => (opt (ixE r1 r2 M2) M2).bd fun r M2 => .ok (.s r) M2
def kS (x : Ev Sl) : Ev Z := x.bd fun r M2 => .ok (.s r) M2
theorem kS_ok : kS (.ok r M) = .ok (.s r) M := rfl
theorem ev_ix : evR env (.ix a b) ρ M = kIx1 env b ρ (vz (evR env a ρ M)) := by rw [evR]; rfl
theorem kIx1_ok : kIx1 env b ρ (.ok r M) = kIx2 r (vz (evR env b ρ M)) := rfl
theorem kIx2_ok : kIx2 r1 (.ok r M) = kS (opt (ixE r1 r M) M) := rfl
def cutE (r : Sl) (lo hi : Option Int) (M3 : List C) : Ev Z := match sq M3 r with
    | some (true, ds) => .ok (.n (.lst (cutL ds lo hi))) M3
    | some (false, ds) => .ok (.s (.val (.tup (cutL ds lo hi)))) M3
    | none => match r with
      | .val (.scr ns) => .ok (.n (.lst ((cutL ns lo hi).map D.int))) M3
      | _ => .bad
def kCut1 (env : List Den) (lo hi : Eo) (ρ : List Sl) (x : Ev Sl) : Ev Z := x.bd fun r M1 => (evO env lo ρ M1).bd fun lo M2 => (evO env hi ρ M2).bd fun hi M3 => cutE r lo hi M3
def kCut2 (r : Sl) (env : List Den) (hi : Eo) (ρ : List Sl) (x : Ev (Option Int)) : Ev Z := x.bd fun lo M2 => (evO env hi ρ M2).bd fun hi M3 => cutE r lo hi M3
def kCut3 (r : Sl) (lo : Option Int) (x : Ev (Option Int)) : Ev Z := x.bd fun hi M3 => cutE r lo hi M3
theorem ev_cut {lo hi : Eo} : evR env (.cut a lo hi) ρ M = kCut1 env lo hi ρ (vz (evR env a ρ M)) := by rw [evR]; rfl
theorem kCut1_ok {lo hi : Eo} : kCut1 env lo hi ρ (.ok r M) = kCut2 r env hi ρ (evO env lo ρ M) := rfl
theorem kCut2_ok {lo : Option Int} {hi : Eo} : kCut2 r env hi ρ (.ok lo M) = kCut3 r lo (evO env hi ρ M) := rfl
theorem kCut3_ok {lo hi : Option Int} : kCut3 r lo (.ok hi M) = cutE r lo hi M := rfl
theorem cutE_l {ds : List D} {lo hi : Option Int} : cutE (.val (.lst ds)) lo hi M = .ok (.n (.lst (cutL ds lo hi))) M := rfl
theorem cutE_t {ds : List D} {lo hi : Option Int} : cutE (.val (.tup ds)) lo hi M = .ok (.s (.val (.tup (cutL ds lo hi)))) M := rfl
theorem cutE_s {ns : List Int} {lo hi : Option Int} : cutE (.val (.scr ns)) lo hi M = .ok (.n (.lst ((cutL ns lo hi).map D.int))) M := rfl
theorem cutE_o {k : Nat} {lo hi : Option Int} : cutE (.own k) lo hi M = (match sq M (.own k) with
    | some (true, ds) => .ok (.n (.lst (cutL ds lo hi))) M
    | some (false, ds) => .ok (.s (.val (.tup (cutL ds lo hi)))) M
    | none => .bad) := by unfold cutE; split <;> simp_all
def kRev (x : Ev Sl) : Ev Z := x.bd fun r M1 => match sq M1 r with
    | some (true, ds) => .ok (.n (.lst ds.reverse)) M1
    | _ => .bad
theorem ev_rev : evR env (.rev a) ρ M = kRev (vz (evR env a ρ M)) := by rw [evR]; rfl
theorem kRev_l {ds : List D} : kRev (.ok (.val (.lst ds)) M) = .ok (.n (.lst ds.reverse)) M := rfl
theorem kRev_o {k : Nat} : kRev (.ok (.own k) M) = (match sq M (.own k) with | some (true, ds) => .ok (.n (.lst ds.reverse)) M | _ => .bad) := rfl
def kFld (c i : Nat) (x : Ev Sl) : Ev Z := x.bd fun r M1 => match fldR M1 c i r with
    | some (.val d) => .ok (.s (.val d)) M1
    | some (.own k) => .ok (.s (.own k)) M1
    | _ => .bad
theorem ev_fld {c i : Nat} : evR env (.fld a c i) ρ M = kFld c i (vz (evR env a ρ M)) := by rw [evR]; rfl
theorem kFld_ok {c i : Nat} : kFld c i (.ok r M) = (match fldR M c i r with | some (.val d) => .ok (.s (.val d)) M | some (.own k) => .ok (.s (.own k)) M | _ => .bad) := rfl
def kBi (b : Fb) (x : Ev (List Sl)) : Ev Z := x.bd fun rs M1 => opt (biE b rs M1) M1
theorem ev_bi {f : Fb} {as : Es} : evR env (.bi f as) ρ M = kBi f (evA env as ρ M) := by rw [evR]; rfl
theorem kBi_ok {f : Fb} {rs : List Sl} : kBi f (.ok rs M) = opt (biE f rs M) M := rfl
def kIsi (ts : List String) (x : Ev Sl) : Ev Z := x.bd fun r M1 => match vw M1 r with
    | some d => match kindD d == "?" with
      | false => .ok (.s (.val (.bl (ts.any fun t => isA (kindD d) t)))) M1
      | true => .bad
    | none => .bad
theorem ev_isi {ts : List String} : evR env (.isi a ts) ρ M = kIsi ts (vz (evR env a ρ M)) := by rw [evR]; rfl
/-- the kinds that are asked for -/
def isK (ts : List String) (k : String) : Bool := ts.any fun t => isA k t
theorem kIsi_l {ts : List String} {xs : List D} : kIsi ts (.ok (.val (.lst xs)) M) = .ok (.s (.val (.bl (isK ts "list")))) M := rfl
theorem kIsi_t {ts : List String} {xs : List D} : kIsi ts (.ok (.val (.tup xs)) M) = .ok (.s (.val (.bl (isK ts "tuple")))) M := rfl
theorem kIsi_i {ts : List String} {i : Int} : kIsi ts (.ok (.val (.int i)) M) = .ok (.s (.val (.bl (isK ts "int")))) M := rfl
theorem kIsi_b {ts : List String} : kIsi ts (.ok (.val (.bl t)) M) = .ok (.s (.val (.bl (isK ts "bool")))) M := rfl
theorem kIsi_s {ts : List String} {x : Str} : kIsi ts (.ok (.val (.str x)) M) = .ok (.s (.val (.bl (isK ts "str")))) M := rfl
theorem kIsi_n {ts : List String} : kIsi ts (.ok (.val .non) M) = .ok (.s (.val (.bl (isK ts "NoneType")))) M := rfl
theorem kIsi_d {ts : List String} {ks : List Key} {vs : List D} : kIsi ts (.ok (.val (.dic ks vs)) M) = .ok (.s (.val (.bl (isK ts "dict")))) M := rfl
def kLenO (env : List Den) (n : Nat) (x : Ev Sl) : Ev Z := x.bd fun r M1 => match r, lkA env n with
    | .val (.slo 1 ds), some f => match f [.val (.slo 1 ds)] [] with
      | .ok (.s (.val (.int i))) [] => match decide (0 ≤ i ∧ i < 9223372036854775808) with
        | true => .ok (.s (.val (.int i))) M1
        | false => .bad
      | _ => .bad
    | _, _ => .bad
theorem ev_lenO {n : Nat} : evR env (.lenO n a) ρ M = kLenO env n (vz (evR env a ρ M)) := by rw [evR]; rfl
theorem kLenO_ok {n : Nat} {ds : List D} {f : Den} {i : Int} (e : lkA env n = some f) (h : f [.val (.slo 1 ds)] [] = .ok (.s (.val (.int i))) []) (h0 : 0 ≤ i) (h1 : i < 9223372036854775808) : kLenO env n (.ok (.val (.slo 1 ds)) M) = .ok (.s (.val (.int i))) M := by
  show (match (Sl.val (.slo 1 ds)), lkA env n with
    | .val (.slo 1 ds), some f => (match f [.val (.slo 1 ds)] [] with
      | .ok (.s (.val (.int i))) [] => (match decide (0 ≤ i ∧ i < 9223372036854775808) with
        | true => Ev.ok (Z.s (.val (.int i))) M
        | false => .bad)
      | _ => .bad)
    | _, _ => .bad) = _
  simp only [e, h, decide_eq_true (And.intro h0 h1)]
def kCall (env : List Den) (n : Nat) (x : Ev (List Sl)) : Ev Z := x.bd fun rs M1 => doCall (lkA env n) rs M1
theorem ev_call {n : Nat} {x : Str} {as : Es} : evR env (.call n x as) ρ M = kCall env n (evA env as ρ M) := by rw [evR]; rfl
theorem kCall_ok {n : Nat} {rs : List Sl} : kCall env n (.ok rs M) = doCall (lkA env n) rs M := rfl
def kCallk (env : List Den) (n m : Nat) (idx : List Nat) (x : Ev (List Sl)) : Ev Z := x.bd fun rs M1 => match Nat.beq rs.length m with
    | true => doCall (lkA env n) (idx.map fun i => lk0 rs i) M1
    | false => .bad
theorem ev_callk {n : Nat} {x : Str} {ks : List Str} {idx : List Nat} {as : Es} : evR env (.callk n x ks idx as) ρ M = kCallk env n ks.length idx (evA env as ρ M) := by rw [evR]; rfl
theorem kCallk_ok {n m : Nat} {idx : List Nat} {rs : List Sl} : kCallk env n m idx (.ok rs M) = bif Nat.beq rs.length m then doCall (lkA env n) (idx.map fun i => lk0 rs i) M else .bad := by
  show (match Nat.beq rs.length m with
    | true => doCall (lkA env n) (idx.map fun i => lk0 rs i) M
    | false => .bad) = _
  cases Nat.beq rs.length m <;> rfl
def kMeth1 (env : List Den) (n c : Nat) (as : Es) (ρ : List Sl) (x : Ev Sl) : Ev Z := x.bd fun r M1 => match recvC M1 r with
    | some c' => match Nat.beq c' c with
      | true => (evA env as ρ M1).bd fun rs M2 => doCall (lkA env n) (r :: rs) M2
      | false => .bad
    | none => .bad
def kMeth2 (env : List Den) (n : Nat) (r : Sl) (x : Ev (List Sl)) : Ev Z := x.bd fun rs M2 => doCall (lkA env n) (r :: rs) M2
theorem ev_meth {n c : Nat} {m : Str} {as : Es} : evR env (.meth n a c m as) ρ M = kMeth1 env n c as ρ (vz (evR env a ρ M)) := by rw [evR]; rfl
theorem kMeth1_f {n c : Nat} {as : Es} {ds : List D} : kMeth1 env n c as ρ (.ok (.val (.slo c ds)) M) = kMeth2 env n (.val (.slo c ds)) (evA env as ρ M) := by
  show (match Nat.beq c c with
      | true => (evA env as ρ M).bd fun rs M2 => doCall (lkA env n) (.val (.slo c ds) :: rs) M2
      | false => .bad) = _
  rw [Nat.beq_refl]; rfl
theorem kMeth1_b {n c : Nat} {as : Es} {ds : List D} : kMeth1 env n c as ρ (.ok (.val (.obj c ds)) M) = kMeth2 env n (.val (.obj c ds)) (evA env as ρ M) := by
  show (match Nat.beq c c with
      | true => (evA env as ρ M).bd fun rs M2 => doCall (lkA env n) (.val (.obj c ds) :: rs) M2
      | false => .bad) = _
  rw [Nat.beq_refl]; rfl
theorem kMeth1_o {n c k : Nat} {as : Es} (h : recvC M (.own k) = some c) : kMeth1 env n c as ρ (.ok (.own k) M) = kMeth2 env n (.own k) (evA env as ρ M) := by
  show (match recvC M (.own k) with
    | some c' => (match Nat.beq c' c with
      | true => (evA env as ρ M).bd fun rs M2 => doCall (lkA env n) (.own k :: rs) M2
      | false => .bad)
    | none => .bad) = _
  simp only [h, Nat.beq_refl]; rfl
theorem kMeth2_ok {n : Nat} {rs : List Sl} : kMeth2 env n r (.ok rs M) = doCall (lkA env n) (r :: rs) M := rfl
def kMake (env : List Den) (n : Nat) (x : Ev (List Sl)) : Ev Z := x.bd fun rs M1 => match valsOf rs with
    | some _ => doCall (lkA env n) rs M1
    | none => .bad
theorem ev_make {n : Nat} {x : Str} {as : Es} : evR env (.make n x as) ρ M = kMake env n (evA env as ρ M) := by rw [evR]; rfl
theorem kMake1 {n : Nat} {d1 : D} : kMake env n (.ok [.val d1] M) = doCall (lkA env n) [.val d1] M := rfl
theorem kMake2 {n : Nat} {d1 d2 : D} : kMake env n (.ok [.val d1, .val d2] M) = doCall (lkA env n) [.val d1, .val d2] M := rfl
theorem kMake3 {n : Nat} {d1 d2 d3 : D} : kMake env n (.ok [.val d1, .val d2, .val d3] M) = doCall (lkA env n) [.val d1, .val d2, .val d3] M := rfl
theorem kMake4 {n : Nat} {d1 d2 d3 d4 : D} : kMake env n (.ok [.val d1, .val d2, .val d3, .val d4] M) = doCall (lkA env n) [.val d1, .val d2, .val d3, .val d4] M := rfl
theorem kMake5 {n : Nat} {d1 d2 d3 d4 d5 : D} : kMake env n (.ok [.val d1, .val d2, .val d3, .val d4, .val d5] M) = doCall (lkA env n) [.val d1, .val d2, .val d3, .val d4, .val d5] M := rfl
def mtX (m : Mth) (r : Sl) (rs : List Sl) (M : List C) : Ev Z := match mtE m r rs M with
      | some (z, M3) => .ok z M3
      | none => .bad
def kMt1 (env : List Den) (m : Mth) (as : Es) (ρ : List Sl) (x : Ev Sl) : Ev Z := x.bd fun r M1 => match mtOk m r M1 with
    | true => (evA env as ρ M1).bd fun rs M2 => mtX m r rs M2
    | false => .bad
def kMt2 (m : Mth) (r : Sl) (x : Ev (List Sl)) : Ev Z := x.bd fun rs M2 => mtX m r rs M2
theorem ev_mt {m : Mth} {as : Es} : evR env (.mt a m as) ρ M = kMt1 env m as ρ (vz (evR env a ρ M)) := by rw [evR]; rfl
theorem kMt1_ok {m : Mth} {as : Es} : kMt1 env m as ρ (.ok r M) = bif mtOk m r M then kMt2 m r (evA env as ρ M) else .bad := by
  show (match mtOk m r M with
    | true => (evA env as ρ M).bd fun rs M2 => mtX m r rs M2
    | false => .bad) = _
  cases mtOk m r M <;> rfl
theorem kMt2_ok {m : Mth} {rs : List Sl} : kMt2 m r (.ok rs M) = mtX m r rs M := rfl
def kLc (x : Ev (List D)) : Ev Z := x.bd fun out M1 => .ok (.n (.lst out)) M1
theorem kLc_ok {xs : List D} : kLc (.ok xs M) = .ok (.n (.lst xs)) M := rfl
theorem ev_lc {gs : Gs} {own : List Nat} : evR env (.lc gs own) ρ M = kLc (evG env gs (clr ρ own) M) := by rw [evR]; rfl
def kDc (x : Ev (List (Key × D))) : Ev Z := x.bd fun out M1 => .ok (.n (.dic out)) M1
theorem kDc_ok {xs : List (Key × D)} : kDc (.ok xs M) = .ok (.n (.dic xs)) M := rfl
theorem ev_dc {gs : Gs} {own : List Nat} : evR env (.dc gs own) ρ M = kDc (evD env gs (clr ρ own) M) := by rw [evR]; rfl
def kOwn (x : Ev Z) : Ev Z := x.bd fun z M1 => match z with
    | .n c => .ok (.s (.own M1.length)) (M1 ++ [c])
    | .s _ => .bad
theorem kOwn_ok {c : C} : kOwn (.ok (.n c) M) = .ok (.s (.own M.length)) (M ++ [c]) := rfl
theorem ev_own : evR env (.own a) ρ M = kOwn (evR env a ρ M) := by rw [evR]; rfl
def kLend (M : List C) (x : Ev Z) : Ev Z := x.bd fun z _ => match z with
    | .s (.val d) => match flatD d with
      | true => .ok (.s (.val d)) M
      | false => .bad
    | .n (.lst ds) => match flatDs ds with
      | true => .ok (.n (.lst ds)) M
      | false => .bad
    | _ => .bad
theorem ev_lend : evR env (.lend a) ρ M = kLend M (evR env a (ρ.map (lendS M)) []) := by rw [evR]; rfl
theorem kLend_b : kLend M (.ok (.s (.val (.bl t))) M1) = .ok (.s (.val (.bl t))) M := rfl
theorem kLend_i {i : Int} : kLend M (.ok (.s (.val (.int i))) M1) = .ok (.s (.val (.int i))) M := rfl
theorem kLend_v {d : D} (h : flatD d = true) : kLend M (.ok (.s (.val d)) M1) = .ok (.s (.val d)) M := by
  show (match flatD d with | true => Ev.ok (Z.s (.val d)) M | false => .bad) = _
  rw [h]
theorem kLend_l {ds : List D} (h : flatDs ds = true) : kLend M (.ok (.n (.lst ds)) M1) = .ok (.n (.lst ds)) M := by
  show (match flatDs ds with | true => Ev.ok (Z.n (.lst ds)) M | false => .bad) = _
  rw [h]
def kScope (n : Nat) (x : Ev Sl) : Ev Z := x.bd fun r M1 => match r, okTake n M1 with
    | .val d, true => .ok (.s (.val d)) (M1.take n)
    | _, _ => .bad
theorem ev_scope : evR env (.scope a) ρ M = kScope M.length (vz (evR env a ρ M)) := by rw [evR]; rfl
theorem kScope_ok {n : Nat} {d : D} (h : okTake n M = true) : kScope n (.ok (.val d) M) = .ok (.s (.val d)) (M.take n) := by
  show (match (Sl.val d), okTake n M with | .val d, true => Ev.ok (Z.s (.val d)) (M.take n) | _, _ => .bad) = _
  rw [h]
/-! tests -/
def kNg (x : Ev Bool) : Ev Bool := x.bd fun t M1 => .ok (!t) M1
theorem et_not {u : Te} : evT env (.not u) ρ M = kNg (evT env u ρ M) := by rw [evT]; rfl
theorem kNg_ok : kNg (.ok t M) = .ok (!t) M := rfl
def kTA (env : List Den) (v : Te) (ρ : List Sl) (x : Ev Bool) : Ev Bool := x.bd fun t M1 => match t with
    | true => evT env v ρ M1
    | false => .ok false M1
theorem et_and {u v : Te} : evT env (.and u v) ρ M = kTA env v ρ (evT env u ρ M) := by rw [evT]; rfl
theorem kTA_ok {v : Te} : kTA env v ρ (.ok t M) = bif t then evT env v ρ M else .ok false M := by cases t <;> rfl
def kTO (env : List Den) (v : Te) (ρ : List Sl) (x : Ev Bool) : Ev Bool := x.bd fun t M1 => match t with
    | false => evT env v ρ M1
    | true => .ok true M1
theorem et_or {u v : Te} : evT env (.or u v) ρ M = kTO env v ρ (evT env u ρ M) := by rw [evT]; rfl
theorem kTO_ok {v : Te} : kTO env v ρ (.ok t M) = bif t then .ok true M else evT env v ρ M := by cases t <;> rfl
theorem et_cmp : evT env (.cmp o a b) ρ M = kCmp1 o env b ρ (vz (evR env a ρ M)) := by rw [evT]; rfl
def kT (x : Ev Sl) : Ev Bool := x.bd fun r M1 => match r with
    | .val (.bl t) => .ok t M1
    | _ => .bad
theorem et_e : evT env (.e a) ρ M = kT (vz (evR env a ρ M)) := by rw [evT]; rfl
theorem kT_ok : kT (.ok (.val (.bl t)) M) = .ok t M := rfl
/-! arguments -/
theorem ea_nil : evA env .nil ρ M = .ok [] M := by rw [evA]
def kA1 (env : List Den) (es : Es) (ρ : List Sl) (x : Ev Sl) : Ev (List Sl) := x.bd fun r M1 => (evA env es ρ M1).bd fun rs M2 => .ok (r :: rs) M2
def kA2 (r : Sl) (x : Ev (List Sl)) : Ev (List Sl) := x.bd fun rs M2 => .ok (r :: rs) M2
theorem ea_cons {es : Es} : evA env (.cons a es) ρ M = kA1 env es ρ (vz (evR env a ρ M)) := by rw [evA]; rfl
theorem kA1_ok {es : Es} : kA1 env es ρ (.ok r M) = kA2 r (evA env es ρ M) := rfl
theorem kA2_ok {rs : List Sl} : kA2 r (.ok rs M) = .ok (r :: rs) M := rfl
def kSt1 (env : List Den) (es : Es) (ρ : List Sl) (x : Ev Sl) : Ev (List Sl) := x.bd fun r M1 => match sq M1 r with
    | some (_, ds) => (evA env es ρ M1).bd fun rs M2 => .ok (ds.map .val ++ rs) M2
    | none => .bad
def kSt2 (ds : List D) (x : Ev (List Sl)) : Ev (List Sl) := x.bd fun rs M2 => .ok (ds.map .val ++ rs) M2
theorem ea_star {es : Es} : evA env (.star a es) ρ M = kSt1 env es ρ (vz (evR env a ρ M)) := by rw [evA]; rfl
theorem kSt1_ok {es : Es} {u : Bool} {ds : List D} (h : sq M r = some (u, ds)) : kSt1 env es ρ (.ok r M) = kSt2 ds (evA env es ρ M) := by
  show (match sq M r with
    | some (_, ds) => (evA env es ρ M).bd fun rs M2 => .ok (ds.map Sl.val ++ rs) M2
    | none => .bad) = _
  rw [h]; rfl
theorem kSt2_ok {ds : List D} {rs : List Sl} : kSt2 ds (.ok rs M) = .ok (ds.map Sl.val ++ rs) M := rfl
theorem eo_n : evO env .none ρ M = .ok none M := by rw [evO]
def kO (x : Ev Sl) : Ev (Option Int) := x.bd fun r M1 => match r with
    | .val (.int i) => .ok (some i) M1
    | _ => .bad
theorem eo_s : evO env (.some a) ρ M = kO (vz (evR env a ρ M)) := by rw [evO]; rfl
theorem kO_ok {i : Int} : kO (.ok (.val (.int i)) M) = .ok (some i) M := rfl
/-! what is walked -/
def kI (x : Ev Sl) : Ev (List D × List Nat) := x.bd fun r M1 => match sq M1 r with
    | some (_, ds) => .ok (ds, r.refs) M1
    | none => .bad
theorem ei_e : evI env (.e a) ρ M = kI (vz (evR env a ρ M)) := by rw [evI]; rfl
theorem kI_l {ds : List D} : kI (.ok (.val (.lst ds)) M) = .ok (ds, []) M := rfl
theorem kI_t {ds : List D} : kI (.ok (.val (.tup ds)) M) = .ok (ds, []) M := rfl
theorem kI_o {k : Nat} : kI (.ok (.own k) M) = (match sq M (.own k) with | some (_, ds) => .ok (ds, [k]) M | none => .bad) := rfl
theorem kI_s {d : D} {u : Bool} {ds : List D} (h : sq M (.val d) = some (u, ds)) : kI (.ok (.val d) M) = .ok (ds, []) M := by
  show (match sq M (.val d) with | some (_, ds) => Ev.ok (ds, []) M | none => .bad) = _
  rw [h]
def okR1 (i : Int) : Bool := decide (-100000 ≤ i ∧ i ≤ 100000)
def kR1 (x : Ev Sl) : Ev (List D × List Nat) := x.bd fun r M1 => match r with
    | .val (.int i) => match okR1 i with
      | true => .ok ((rng 0 i.toNat).map D.int, []) M1
      | false => .bad
    | _ => .bad
theorem ei_r1 : evI env (.r1 a) ρ M = kR1 (vz (evR env a ρ M)) := by rw [evI]; rfl
theorem kR1_ok {i : Int} (h : -100000 ≤ i ∧ i ≤ 100000) : kR1 (.ok (.val (.int i)) M) = .ok ((rng 0 i.toNat).map D.int, []) M := by
  show (match okR1 i with | true => Ev.ok ((rng 0 i.toNat).map D.int, ([] : List Nat)) M | false => .bad) = _
  rw [show okR1 i = true from decide_eq_true h]
def okR2 (i j : Int) : Bool := decide (-100000 ≤ i ∧ i ≤ 100000 ∧ -100000 ≤ j ∧ j ≤ 100000)
def kR2a (env : List Den) (b : E) (ρ : List Sl) (x : Ev Sl) : Ev (List D × List Nat) := x.bd fun r1 M1 => (vz (evR env b ρ M1)).bd fun r2 M2 => match r1, r2 with
    | .val (.int i), .val (.int j) => match okR2 i j with
      | true => .ok ((rng i (j - i).toNat).map D.int, []) M2
      | false => .bad
    | _, _ => .bad
def kR2b (r1 : Sl) (x : Ev Sl) : Ev (List D × List Nat) := x.bd fun r2 M2 => match r1, r2 with
    | .val (.int i), .val (.int j) => match okR2 i j with
      | true => .ok ((rng i (j - i).toNat).map D.int, []) M2
      | false => .bad
    | _, _ => .bad
theorem ei_r2 : evI env (.r2 a b) ρ M = kR2a env b ρ (vz (evR env a ρ M)) := by rw [evI]; rfl
theorem kR2a_ok : kR2a env b ρ (.ok r M) = kR2b r (vz (evR env b ρ M)) := rfl
theorem kR2b_ok {i j : Int} (h : -100000 ≤ i ∧ i ≤ 100000 ∧ -100000 ≤ j ∧ j ≤ 100000) : kR2b (.val (.int i)) (.ok (.val (.int j)) M) = .ok ((rng i (j - i).toNat).map D.int, []) M := by
  show (match okR2 i j with | true => Ev.ok ((rng i (j - i).toNat).map D.int, ([] : List Nat)) M | false => .bad) = _
  rw [show okR2 i j = true from decide_eq_true h]
def kRda (env : List Den) (b : E) (ρ : List Sl) (x : Ev Sl) : Ev (List D × List Nat) := x.bd fun r1 M1 => (vz (evR env b ρ M1)).bd fun r2 M2 => match r1, r2 with
    | .val (.int i), .val (.int j) => match okR2 i j with
      | true => .ok ((rngD i (i - j).toNat).map D.int, []) M2
      | false => .bad
    | _, _ => .bad
def kRdb (r1 : Sl) (x : Ev Sl) : Ev (List D × List Nat) := x.bd fun r2 M2 => match r1, r2 with
    | .val (.int i), .val (.int j) => match okR2 i j with
      | true => .ok ((rngD i (i - j).toNat).map D.int, []) M2
      | false => .bad
    | _, _ => .bad
theorem ei_rd : evI env (.rd a b) ρ M = kRda env b ρ (vz (evR env a ρ M)) := by rw [evI]; rfl
theorem kRda_ok : kRda env b ρ (.ok r M) = kRdb r (vz (evR env b ρ M)) := rfl
theorem kRdb_ok {i j : Int} (h : -100000 ≤ i ∧ i ≤ 100000 ∧ -100000 ≤ j ∧ j ≤ 100000) : kRdb (.val (.int i)) (.ok (.val (.int j)) M) = .ok ((rngD i (i - j).toNat).map D.int, []) M := by
  show (match okR2 i j with | true => Ev.ok ((rngD i (i - j).toNat).map D.int, ([] : List Nat)) M | false => .bad) = _
  rw [show okR2 i j = true from decide_eq_true h]
def kEn (x : Ev Sl) : Ev (List D × List Nat) := x.bd fun r M1 => match sq M1 r with
    | some (true, ds) => .ok ((List.range ds.length).map fun (i : Nat) => .tup [.int i, ds.getD i .non], r.refs) M1
    | _ => .bad
theorem ei_en : evI env (.en a) ρ M = kEn (vz (evR env a ρ M)) := by rw [evI]; rfl
theorem kEn_l {ds : List D} : kEn (.ok (.val (.lst ds)) M) = .ok ((List.range ds.length).map fun (i : Nat) => .tup [.int i, ds.getD i .non], []) M := rfl
def kZpa (env : List Den) (b : E) (ρ : List Sl) (x : Ev Sl) : Ev (List D × List Nat) := x.bd fun r1 M1 => (vz (evR env b ρ M1)).bd fun r2 M2 => match sq M2 r1, sq M2 r2 with
    | some (true, xs), some (true, ys) => .ok ((List.range (min xs.length ys.length)).map fun (i : Nat) => .tup [xs.getD i .non, ys.getD i .non], r1.refs ++ r2.refs) M2
    | some (false, xs), some (false, ys) => .ok ((List.range (min xs.length ys.length)).map fun (i : Nat) => .tup [xs.getD i .non, ys.getD i .non], []) M2
    | _, _ => .bad
def kZpb (r1 : Sl) (x : Ev Sl) : Ev (List D × List Nat) := x.bd fun r2 M2 => match sq M2 r1, sq M2 r2 with
    | some (true, xs), some (true, ys) => .ok ((List.range (min xs.length ys.length)).map fun (i : Nat) => .tup [xs.getD i .non, ys.getD i .non], r1.refs ++ r2.refs) M2
    | some (false, xs), some (false, ys) => .ok ((List.range (min xs.length ys.length)).map fun (i : Nat) => .tup [xs.getD i .non, ys.getD i .non], []) M2
    | _, _ => .bad
theorem ei_zp : evI env (.zp a b) ρ M = kZpa env b ρ (vz (evR env a ρ M)) := by rw [evI]; rfl
theorem kZpa_ok : kZpa env b ρ (.ok r M) = kZpb r (vz (evR env b ρ M)) := rfl
theorem kZpb_l {xs ys : List D} : kZpb (.val (.lst xs)) (.ok (.val (.lst ys)) M) = .ok ((List.range (min xs.length ys.length)).map fun (i : Nat) => .tup [xs.getD i .non, ys.getD i .non], []) M := rfl
theorem kZpb_t {xs ys : List D} : kZpb (.val (.tup xs)) (.ok (.val (.tup ys)) M) = .ok ((List.range (min xs.length ys.length)).map fun (i : Nat) => .tup [xs.getD i .non, ys.getD i .non], []) M := rfl
/-! comprehensions -/
def kElt (x : Ev Sl) : Ev (List D) := x.bd fun r M3 => match r with
          | .val y => .ok [y] M3
          | _ => .bad
theorem kElt_ok {d : D} : kElt (.ok (.val d) M) = .ok [d] M := rfl
def lcB2 (env : List Den) (elt : E) (ρ2 : List Sl) (x : Ev Bool) : Ev (List D) := x.bd fun t M2 => match t with
        | true => kElt (vz (evR env elt ρ2 M2))
        | false => .ok [] M2
theorem lcB2_ok {elt : E} : lcB2 env elt ρ (.ok t M) = bif t then kElt (vz (evR env elt ρ M)) else .ok [] M := by cases t <;> rfl
def lcB1 (env : List Den) (ifs : Tl) (elt : E) (x : Ev (List Sl)) : Ev (List D) := x.bd fun ρ2 M' => lcB2 env elt ρ2 (evTs env ifs ρ2 M')
theorem lcB1_ok {ifs : Tl} {elt : E} : lcB1 env ifs elt (.ok ρ M) = lcB2 env elt ρ (evTs env ifs ρ M) := rfl
def lcB (env : List Den) (tg : Tg) (ifs : Tl) (elt : E) (ρ : List Sl) (d : D) (M' : List C) : Ev (List D) := lcB1 env ifs elt (opt (bindE tg d ρ) M')
def okLc (M1 : List C) (ks : List Nat) (M' : List C) : Bool := eqLen M1 M' && keepB M1 ks M'
def kLc1 (n : Nat) (f : D → List C → Ev (List D)) (x : Ev (List D × List Nat)) : Ev (List D) := x.bd fun p M1 => match Nat.ble p.1.length n with
    | true => lcE f (okLc M1 p.2) p.1 [] M1
    | false => .bad
theorem eg_last {tg : Tg} {it : It} {ifs : Tl} {elt : E} : evG env (.last tg it ifs elt) ρ M = kLc1 100000 (lcB env tg ifs elt ρ) (evI env it ρ M) := by rw [evG]; rfl
theorem kLc1_ok {n : Nat} {f : D → List C → Ev (List D)} {ds : List D} {ks : List Nat} (h : ds.length ≤ n) : kLc1 n f (.ok (ds, ks) M) = lcE f (okLc M ks) ds [] M := by
  show (match Nat.ble ds.length n with | true => lcE f (okLc M ks) ds [] M | false => .bad) = _
  rw [Nat.ble_eq_true_of_le h]
def kLen (x : Ev (List D)) : Ev (List D) := x.bd fun out M3 => match Nat.ble out.length 1000 with
          | true => .ok out M3
          | false => .bad
theorem kLen_ok {ds : List D} (h : ds.length ≤ 1000) : kLen (.ok ds M) = .ok ds M := by
  show (match Nat.ble ds.length 1000 with | true => Ev.ok ds M | false => .bad) = _
  rw [Nat.ble_eq_true_of_le h]
def lcC2 (env : List Den) (gs : Gs) (ρ2 : List Sl) (x : Ev Bool) : Ev (List D) := x.bd fun t M2 => match t with
        | true => kLen (evG env gs (clr ρ2 gs.ix1) M2)
        | false => .ok [] M2
theorem lcC2_ok {gs : Gs} : lcC2 env gs ρ (.ok t M) = bif t then kLen (evG env gs (clr ρ gs.ix1) M) else .ok [] M := by cases t <;> rfl
def lcC1 (env : List Den) (ifs : Tl) (gs : Gs) (x : Ev (List Sl)) : Ev (List D) := x.bd fun ρ2 M' => lcC2 env gs ρ2 (evTs env ifs ρ2 M')
theorem lcC1_ok {ifs : Tl} {gs : Gs} : lcC1 env ifs gs (.ok ρ M) = lcC2 env gs ρ (evTs env ifs ρ M) := rfl
def lcC (env : List Den) (tg : Tg) (ifs : Tl) (gs : Gs) (ρ : List Sl) (d : D) (M' : List C) : Ev (List D) := lcC1 env ifs gs (opt (bindE tg d ρ) M')
theorem eg_cons {tg : Tg} {it : It} {ifs : Tl} {gs : Gs} : evG env (.cons tg it ifs gs) ρ M = kLc1 1000 (lcC env tg ifs gs ρ) (evI env it ρ M) := by rw [evG]; rfl
theorem els_n : evTs env .nil ρ M = .ok true M := by rw [evTs]
theorem els_o {u : Te} : evTs env (.one u) ρ M = evT env u ρ M := by rw [evTs]
def dcB3 (r1 : Sl) (x : Ev Sl) : Ev (List (Key × D)) := x.bd fun r2 M4 => match r1, r2 with
          | .val x, .val y => match keyD x with
            | some kk => .ok [(kk, y)] M4
            | none => .bad
          | _, _ => .bad
theorem dcB3_i {i : Int} {y : D} : dcB3 (.val (.int i)) (.ok (.val y) M) = .ok [(.inl i, y)] M := rfl
theorem dcB3_s {x : Str} {y : D} : dcB3 (.val (.str x)) (.ok (.val y) M) = .ok [(.inr x, y)] M := rfl
def dcB2b (env : List Den) (ve : E) (ρ2 : List Sl) (x : Ev Sl) : Ev (List (Key × D)) := x.bd fun r1 M3 => dcB3 r1 (vz (evR env ve ρ2 M3))
theorem dcB2b_ok {ve : E} : dcB2b env ve ρ (.ok r M) = dcB3 r (vz (evR env ve ρ M)) := rfl
def dcB2 (env : List Den) (ke ve : E) (ρ2 : List Sl) (x : Ev Bool) : Ev (List (Key × D)) := x.bd fun t M2 => match t with
        | true => dcB2b env ve ρ2 (vz (evR env ke ρ2 M2))
        | false => .ok [] M2
theorem dcB2_ok {ke ve : E} : dcB2 env ke ve ρ (.ok t M) = bif t then dcB2b env ve ρ (vz (evR env ke ρ M)) else .ok [] M := by cases t <;> rfl
def dcB1 (env : List Den) (ifs : Tl) (ke ve : E) (x : Ev (List Sl)) : Ev (List (Key × D)) := x.bd fun ρ2 M' => dcB2 env ke ve ρ2 (evTs env ifs ρ2 M')
theorem dcB1_ok {ifs : Tl} {ke ve : E} : dcB1 env ifs ke ve (.ok ρ M) = dcB2 env ke ve ρ (evTs env ifs ρ M) := rfl
def dcB (env : List Den) (tg : Tg) (ifs : Tl) (ke ve : E) (ρ : List Sl) (d : D) (M' : List C) : Ev (List (Key × D)) := dcB1 env ifs ke ve (opt (bindE tg d ρ) M')
def kDc1 (n : Nat) (f : D → List C → Ev (List (Key × D))) (x : Ev (List D × List Nat)) : Ev (List (Key × D)) := x.bd fun p M1 => match Nat.ble p.1.length n with
    | true => dcE f (okLc M1 p.2) p.1 [] M1
    | false => .bad
theorem ed_dlast {tg : Tg} {it : It} {ifs : Tl} {ke ve : E} : evD env (.dlast tg it ifs ke ve) ρ M = kDc1 100000 (dcB env tg ifs ke ve ρ) (evI env it ρ M) := by rw [evD]; rfl
theorem kDc1_ok {n : Nat} {f : D → List C → Ev (List (Key × D))} {ds : List D} {ks : List Nat} (h : ds.length ≤ n) : kDc1 n f (.ok (ds, ks) M) = dcE f (okLc M ks) ds [] M := by
  show (match Nat.ble ds.length n with | true => dcE f (okLc M ks) ds [] M | false => .bad) = _
  rw [Nat.ble_eq_true_of_le h]
/-! statements -/
def seqE (env : List Den) (ss : Ss) (x : Ev Rs) : Ev Rs := x.bd fun r M1 => match r with
    | .nx ρ' => evSs env ss ρ' M1
    | .rt z => .ok (.rt z) M1
    | .bk ρ' => .ok (.bk ρ') M1
    | .ct ρ' => .ok (.ct ρ') M1
variable {s : S} {ss sa sb : Ss} {z : Z}
theorem es_nil : evSs env .nil ρ M = .ok (.nx ρ) M := by rw [evSs]
theorem es_cons : evSs env (.cons s ss) ρ M = seqE env ss (evS env s ρ M) := by rw [evSs]; rfl
theorem seqE_nx : seqE env ss (.ok (.nx ρ) M) = evSs env ss ρ M := rfl
theorem seqE_rt : seqE env ss (.ok (.rt z) M) = .ok (.rt z) M := rfl
theorem seqE_bk : seqE env ss (.ok (.bk ρ) M) = .ok (.bk ρ) M := rfl
theorem seqE_ct : seqE env ss (.ok (.ct ρ) M) = .ok (.ct ρ) M := rfl
def kAsg (i : Nat) (ρ : List Sl) (x : Ev Sl) : Ev Rs := x.bd fun r M1 => .ok (.nx (pt ρ i r)) M1
theorem s_asg {i : Nat} : evS env (.asg i a) ρ M = kAsg i ρ (vz (evR env a ρ M)) := by rw [evS]; rfl
theorem kAsg_ok {i : Nat} : kAsg i ρ (.ok r M) = .ok (.nx (pt ρ i r)) M := rfl
def kPar (is : List Nat) (ρ : List Sl) (x : Ev (List Sl)) : Ev Rs := x.bd fun rs M1 => match Nat.beq rs.length is.length with
    | true => .ok (.nx (pts ρ is rs)) M1
    | false => .bad
theorem s_par {is : List Nat} {as : Es} : evS env (.par is as) ρ M = kPar is ρ (evA env as ρ M) := by rw [evS]; rfl
theorem kPar_ok {is : List Nat} {rs : List Sl} : kPar is ρ (.ok rs M) = bif Nat.beq rs.length is.length then .ok (.nx (pts ρ is rs)) M else .bad := by
  show (match Nat.beq rs.length is.length with | true => Ev.ok (Rs.nx (pts ρ is rs)) M | false => .bad) = _
  cases Nat.beq rs.length is.length <;> rfl
def kNx (x : Ev (List Sl)) : Ev Rs := x.bd fun ρ' M1 => .ok (.nx ρ') M1
theorem kNx_ok : kNx (.ok ρ M) = .ok (.nx ρ) M := rfl
def kTgt (tg : Tg) (ρ : List Sl) (x : Ev Sl) : Ev Rs := x.bd fun r M1 => match r with
    | .val d => kNx (opt (bindE tg d ρ) M1)
    | _ => .bad
theorem s_tgt {tg : Tg} : evS env (.tgt tg a) ρ M = kTgt tg ρ (vz (evR env a ρ M)) := by rw [evS]; rfl
theorem kTgt_ok {tg : Tg} {d : D} : kTgt tg ρ (.ok (.val d) M) = kNx (opt (bindE tg d ρ) M) := rfl
def setX (r1 r2 r : Sl) (ρ : List Sl) (M3 : List C) : Ev Rs := match setE r1 r2 r M3 with
    | some M4 => .ok (.nx ρ) M4
    | none => .bad
def kSx1 (env : List Den) (o i : E) (ρ : List Sl) (x : Ev Sl) : Ev Rs := x.bd fun r M1 => (vz (evR env o ρ M1)).bd fun r1 M2 => (vz (evR env i ρ M2)).bd fun r2 M3 => setX r1 r2 r ρ M3
def kSx2 (r : Sl) (env : List Den) (i : E) (ρ : List Sl) (x : Ev Sl) : Ev Rs := x.bd fun r1 M2 => (vz (evR env i ρ M2)).bd fun r2 M3 => setX r1 r2 r ρ M3
def kSx3 (r r1 : Sl) (ρ : List Sl) (x : Ev Sl) : Ev Rs := x.bd fun r2 M3 => setX r1 r2 r ρ M3
theorem s_setix {x i e : E} : evS env (.setix x i e) ρ M = kSx1 env x i ρ (vz (evR env e ρ M)) := by rw [evS]; rfl
theorem kSx1_ok {x i : E} : kSx1 env x i ρ (.ok r M) = kSx2 r env i ρ (vz (evR env x ρ M)) := rfl
theorem kSx2_ok {i : E} : kSx2 r env i ρ (.ok r1 M) = kSx3 r r1 ρ (vz (evR env i ρ M)) := rfl
theorem kSx3_ok : kSx3 r r1 ρ (.ok r2 M) = setX r1 r2 r ρ M := rfl
def setFX (c i : Nat) (r r1 : Sl) (ρ : List Sl) (M2 : List C) : Ev Rs := match slOk r, setfM M2 c i r r1 with
    | true, some M3 => .ok (.nx ρ) M3
    | _, _ => .bad
def kSf1 (c i : Nat) (env : List Den) (o : E) (ρ : List Sl) (x : Ev Sl) : Ev Rs := x.bd fun r M1 => (vz (evR env o ρ M1)).bd fun r1 M2 => setFX c i r r1 ρ M2
def kSf2 (c i : Nat) (r : Sl) (ρ : List Sl) (x : Ev Sl) : Ev Rs := x.bd fun r1 M2 => setFX c i r r1 ρ M2
theorem s_setfld {x e : E} {c i : Nat} : evS env (.setfld x c i e) ρ M = kSf1 c i env x ρ (vz (evR env e ρ M)) := by rw [evS]; rfl
theorem kSf1_ok {x : E} {c i : Nat} : kSf1 c i env x ρ (.ok r M) = kSf2 c i r ρ (vz (evR env x ρ M)) := rfl
theorem kSf2_ok {c i : Nat} : kSf2 c i r ρ (.ok r1 M) = setFX c i r r1 ρ M := rfl
def kAug1 (i : Nat) (o : Operator) (r0 : Sl) (ρ : List Sl) (x : Ev Sl) : Ev Rs := x.bd fun r M1 => kAsg i ρ (vz (opt (binE o r0 r M1) M1))
theorem s_aug {i : Nat} {o : Operator} {e : E} : evS env (.aug i o e) ρ M = (match lk ρ i with
    | .val (.int x) => kAug1 i o (.val (.int x)) ρ (vz (evR env e ρ M))
    | _ => .bad) := by rw [evS]; rfl
theorem kAug1_ok {i : Nat} {o : Operator} {r0 : Sl} : kAug1 i o r0 ρ (.ok r M) = kAsg i ρ (vz (opt (binE o r0 r M) M)) := rfl
def kIte (env : List Den) (sa sb : Ss) (ρ : List Sl) (x : Ev Bool) : Ev Rs := x.bd fun t M1 => match t with
    | true => evSs env sa ρ M1
    | false => evSs env sb ρ M1
theorem s_ite {u : Te} : evS env (.ite u sa sb) ρ M = kIte env sa sb ρ (evT env u ρ M) := by rw [evS]; rfl
theorem kIte_ok : kIte env sa sb ρ (.ok t M) = bif t then evSs env sa ρ M else evSs env sb ρ M := by cases t <;> rfl
def forB1 (env : List Den) (b : Ss) (x : Ev (List Sl)) : Ev Rs := x.bd fun ρ' M => evSs env b ρ' M
theorem forB1_ok {b : Ss} : forB1 env b (.ok ρ M) = evSs env b ρ M := rfl
def forB (env : List Den) (tg : Tg) (b : Ss) (d : D) (ρ : List Sl) (M : List C) : Ev Rs := forB1 env b (opt (bindE tg d ρ) M)
def kFor (env : List Den) (tg : Tg) (b : Ss) (dead : List Nat) (ρ : List Sl) (x : Ev (List D × List Nat)) : Ev Rs := x.bd fun p M1 => forE (forB env tg b) (trimE M1.length dead) (keepB M1 p.2) p.1 ((clr ρ dead).map (Sl.trim M1.length)) M1
theorem s_for {tg : Tg} {it : It} {b : Ss} {dead : List Nat} : evS env (.for tg it b dead) ρ M = kFor env tg b dead ρ (evI env it ρ M) := by rw [evS]; rfl
theorem kFor_ok {tg : Tg} {b : Ss} {dead : List Nat} {ds : List D} {ks : List Nat} : kFor env tg b dead ρ (.ok (ds, ks) M) = forE (forB env tg b) (trimE M.length dead) (keepB M ks) ds ((clr ρ dead).map (Sl.trim M.length)) M := rfl
theorem s_while {u : Te} {b : Ss} {dead : List Nat} : evS env (.while u b dead) ρ M = whileE (evT env u) (evSs env b) (trimE M.length dead) fuelW ((clr ρ dead).map (Sl.trim M.length)) M := by rw [evS]
def kRet (x : Ev Z) : Ev Rs := x.bd fun z M1 => .ok (.rt z) M1
theorem s_ret : evS env (.ret a) ρ M = kRet (evR env a ρ M) := by rw [evS]; rfl
theorem kRet_ok : kRet (.ok z M) = .ok (.rt z) M := rfl
def kEx (ρ : List Sl) (x : Ev Sl) : Ev Rs := x.bd fun _ M1 => .ok (.nx ρ) M1
theorem s_ex : evS env (.ex a) ρ M = kEx ρ (vz (evR env a ρ M)) := by rw [evS]; rfl
theorem kEx_ok : kEx ρ (.ok r M) = .ok (.nx ρ) M := rfl
theorem s_pass : evS env .pass ρ M = .ok (.nx ρ) M := by rw [evS]
theorem s_bad : evS env .bad ρ M = .bad := by rw [evS]
/-! defs -/
def kFin (m : Nat) (x : Ev Rs) : Ev Z := x.bd (fin m)
theorem run_ok {code : Ss} {np n : Nat} {rs : List Sl} : run env code np n rs M = bif Nat.beq rs.length np then kFin M.length (evSs env code (rhoN n rs) M) else .bad := by
  unfold run
  cases Nat.beq rs.length np <;> rfl
theorem kFin_nx {m : Nat} : kFin m (.ok (.nx ρ) M) = finZ m (.s (.val .non)) M := rfl
theorem kFin_rt {m : Nat} : kFin m (.ok (.rt z) M) = finZ m z M := rfl
def kInit (x : Ev Rs) : Ev Unit := x.bd initR
theorem runI_ok {code : Ss} {np n : Nat} {rs : List Sl} {sl : Bool} {c : Nat} : runI env code np n sl c rs = bif Nat.beq (rs.length + 1) np then kInit (evSs env code (rhoN n (.own 0 :: rs)) [bif sl then .sob0 c 1 else .ins c 1 [], .dxo 0]) else .bad := by
  unfold runI
  cases sl <;> cases Nat.beq (rs.length + 1) np <;> rfl
theorem kInit_nx : kInit (.ok (.nx ρ) M) = .ok () M := rfl
def kStar (env : List Den) (code : Ss) (n : Nat) (rs : List Sl) (M : List C) (ds : List D) : Ev Z := kFin M.length (evSs env code (rhoN n (rs ++ [.val (.tup ds)])) M)
theorem runS1 {code : Ss} {n : Nat} {ds : List D} (h : ds.length < 1000) : runS env code 1 n (r :: ds.map .val) M = kFin M.length (evSs env code (rhoN n [r, .val (.tup ds)]) M) := by
  unfold runS
  have e1 : (Nat.ble 1 (r :: ds.map Sl.val).length && Nat.ble (r :: ds.map Sl.val).length 1000) = true := by
    rw [Bool.and_eq_true]
    exact ⟨Nat.ble_eq_true_of_le (by simp), Nat.ble_eq_true_of_le (by simp; omega)⟩
  have e2 : valsOf (List.drop 1 (r :: ds.map Sl.val)) = some ds := valsOf_map ds
  simp only [e1, e2]
  rfl
def kMkF (x : Ev Unit) : Ev Z := x.bd fun _ M1 => opt (match viewO M1 with
    | some d => some (.s (.val d))
    | none => none) []
theorem mkF_nil {f : List Sl → Ev Unit} {rs : List Sl} : mkF f rs [] = kMkF (f rs) := rfl
theorem kMkF_ok {d : D} (h : viewO M = some d) : kMkF (.ok () M) = .ok (.s (.val d)) [] := by
  show opt (match viewO M with | some d => some (Z.s (.val d)) | none => none) [] = _
  rw [h]; rfl
def kMkO (x : Ev Unit) : Ev Z := x.bd fun _ M1 => .ok (.s (.own 0)) M1
theorem mkO_nil {f : List Sl → Ev Unit} {rs : List Sl} : mkO f rs [] = kMkO (f rs) := rfl
theorem kMkO_ok : kMkO (.ok () M) = .ok (.s (.own 0)) M := rfl
/-! calls -/
theorem selM_nil : selM M [] = [] := rfl
theorem backM_nil2 : backM M [] [] = M := by rw [bk_nil]; simp
/-- values in, a value or something new out -/
theorem call_v {f : Den} {ds : List D} {d : D} (h : f (ds.map .val) [] = .ok (.s (.val d)) []) : doCall (some f) (ds.map .val) M = .ok (.s (.val d)) M := by
  show doCallAt f (reach M (ds.map .val)) (ds.map .val) M = _
  rw [reach_vals]
  unfold doCallAt
  have e1 : (okSel M [] && ((ds.map Sl.val).all fun r => r.refs.all fun k => memN k [])) = true := by
    rw [Bool.and_eq_true]
    refine ⟨?_, ?_⟩
    · show (true && true && restC [] 0 M) = true
      rw [restC_nil]; rfl
    · rw [List.all_eq_true]
      intro r hr
      obtain ⟨d, _, rfl⟩ := List.mem_map.mp hr
      rfl
  rw [e1, mp_vals]
  show (f (ds.map .val) []).bd _ = _
  rw [h]
  show Ev.ok _ (backM M [] []) = _
  rw [backM_nil2]; rfl
theorem call_n {f : Den} {ds : List D} {c : C} (h : f (ds.map .val) [] = .ok (.n c) []) (hc : c.mp (bk [] M.length) = c := by rfl) : doCall (some f) (ds.map .val) M = .ok (.n c) M := by
  show doCallAt f (reach M (ds.map .val)) (ds.map .val) M = _
  rw [reach_vals]
  unfold doCallAt
  have e1 : (okSel M [] && ((ds.map Sl.val).all fun r => r.refs.all fun k => memN k [])) = true := by
    rw [Bool.and_eq_true]
    refine ⟨?_, ?_⟩
    · show (true && true && restC [] 0 M) = true
      rw [restC_nil]; rfl
    · rw [List.all_eq_true]
      intro r hr
      obtain ⟨d, _, rfl⟩ := List.mem_map.mp hr
      rfl
  rw [e1, mp_vals]
  show (f (ds.map .val) []).bd _ = _
  rw [h]
  show Ev.ok (Z.n (c.mp (bk [] M.length))) (backM M [] []) = _
  rw [backM_nil2, hc]
end
end Dl
/-! Z1: calls and loops by rewriting -/
namespace Dl
open PySem L2
section
variable {M N : List C} {rs : List Sl} {z : Z}
def kBack (ks : List Nat) (M : List C) (x : Ev Z) : Ev Z := x.bd fun z N => match Nat.ble ks.length N.length with
    | true => .ok (z.mp (bk ks M.length)) (backM M ks N)
    | false => .bad
theorem kBack_ok {ks : List Nat} : kBack ks M (.ok z N) = bif Nat.ble ks.length N.length then .ok (z.mp (bk ks M.length)) (backM M ks N) else .bad := by
  show (match Nat.ble ks.length N.length with
    | true => Ev.ok (z.mp (bk ks M.length)) (backM M ks N)
    | false => .bad) = _
  cases Nat.ble ks.length N.length <;> rfl
def inKs (ks : List Nat) : List Sl → Bool
  | [] => true
  | .own k :: rs => memN k ks && inKs ks rs
  | _ :: rs => inKs ks rs
theorem inKs_eq {ks : List Nat} : ∀ rs : List Sl, (rs.all fun r => r.refs.all fun k => memN k ks) = inKs ks rs
  | [] => rfl
  | r :: rs => by
    rw [List.all_cons, inKs_eq rs]
    cases r with
    | un => rfl
    | val d => rfl
    | own k => show (memN k ks && true && inKs ks rs) = _; rw [Bool.and_true]; rfl
def kAt (f : Den) (rs : List Sl) (M : List C) (ks : List Nat) : Ev Z := bif okSel M ks && inKs ks rs then kBack ks M (f (rs.map (Sl.mp (plc ks))) (selM M ks)) else .bad
theorem doCall_some {f : Den} : doCall (some f) rs M = kAt f rs M (reach M rs) := by
  show doCallAt f (reach M rs) rs M = _
  unfold doCallAt kAt
  rw [inKs_eq]
  cases okSel M (reach M rs) && inKs (reach M rs) rs <;> rfl
def refsL : List Sl → List Nat
  | [] => []
  | .own k :: rs => k :: refsL rs
  | _ :: rs => refsL rs
theorem refsL_eq : ∀ rs : List Sl, rs.flatMap Sl.refs = refsL rs
  | [] => rfl
  | r :: rs => by rw [List.flatMap_cons, refsL_eq rs]; cases r <;> rfl
theorem reach_eq : reach M rs = clo M 100 (refsL rs) [] := by unfold reach; rw [refsL_eq]
theorem clo_nil {n : Nat} {seen : List Nat} : clo M n [] seen = seen := by cases n <;> rfl
theorem clo_cons {n k : Nat} {todo seen : List Nat} : clo M (n + 1) (k :: todo) seen = bif memN k seen then clo M n todo seen else clo M n (todo ++ refsAt M k) (seen ++ [k]) := by
  show (match memN k seen with
    | true => clo M n todo seen
    | false => clo M n (todo ++ refsAt M k) (seen ++ [k])) = _
  cases memN k seen <;> rfl
theorem scat_nil {N : List C} : scat M [] N = M := by cases N <;> rfl
end
/-! ### loops -/
section
variable {T α β : Type} {body : D → List Sl → List C → Ev Rs} {tr : List Sl → List C → Ev (List Sl)} {ok : List C → Bool}
/-- a turn: the body, then the trimming -/
def kOk (ok : List C → Bool) (x : Ev (List Sl)) : Ev (List Sl) := x.bd fun ρ M => match ok M with
    | true => .ok ρ M
    | false => .bad
theorem kOk_ok {ρ : List Sl} {M : List C} : kOk ok (.ok ρ M) = bif ok M then .ok ρ M else .bad := by
  show (match ok M with | true => Ev.ok ρ M | false => .bad) = _
  cases ok M <;> rfl
def kTurn (tr : List Sl → List C → Ev (List Sl)) (ok : List C → Bool) (x : Ev Rs) : Ev (List Sl) := x.bd fun r M => match r with
    | .nx ρ => kOk ok (tr ρ M)
    | .ct ρ => kOk ok (tr ρ M)
    | _ => .bad
theorem kTurn_nx {ρ : List Sl} {M : List C} : kTurn tr ok (.ok (.nx ρ) M) = kOk ok (tr ρ M) := rfl
theorem kTurn_ct {ρ : List Sl} {M : List C} : kTurn tr ok (.ok (.ct ρ) M) = kOk ok (tr ρ M) := rfl
theorem forE_step {d : D} {ds : List D} {ρ ρ' : List Sl} {M M' : List C} (h : kTurn tr ok (body d ρ M) = .ok ρ' M') : forE body tr ok (d :: ds) ρ M = forE body tr ok ds ρ' M' := by
  show (body d ρ M).bd _ = _
  obtain ⟨r, M1, h1, h2⟩ := bd_inv h
  rw [h1]
  cases r with
  | nx ρ1 =>
    obtain ⟨ρ2, M2, h3, h4⟩ := bd_inv h2
    show (tr ρ1 M1).bd _ = _
    rw [h3]
    split at h4
    · rename_i e
      cases h4
      show (match ok M' with | true => forE body tr ok ds ρ' M' | false => .bad) = _
      rw [e]
    · cases h4
  | ct ρ1 =>
    obtain ⟨ρ2, M2, h3, h4⟩ := bd_inv h2
    show (tr ρ1 M1).bd _ = _
    rw [h3]
    split at h4
    · rename_i e
      cases h4
      show (match ok M' with | true => forE body tr ok ds ρ' M' | false => .bad) = _
      rw [e]
    · cases h4
  | rt z => cases h2
  | bk ρ1 => cases h2
theorem forE_ret {d : D} {ds : List D} {ρ : List Sl} {M M' : List C} {z : Z} (h : body d ρ M = .ok (.rt z) M') : forE body tr ok (d :: ds) ρ M = .ok (.rt z) M' := by
  show (body d ρ M).bd _ = _
  rw [h]; rfl
theorem forE_nil {ρ : List Sl} {M : List C} : forE body tr ok [] ρ M = .ok (.nx ρ) M := rfl
/-- a loop that runs to its end: states t, invariant I -/
theorem for_to (R : T → List Sl) (Ms : T → List C) (I : Nat → T → Prop) {enc : α → D} : ∀ (xs : List α) (n : Nat) (t : T), I n t → (∀ i x t, xs[i]? = some x → I (n + i) t → ∃ t', kTurn tr ok (body (enc x) (R t) (Ms t)) = .ok (R t') (Ms t') ∧ I (n + i + 1) t') → ∃ t', I (n + xs.length) t' ∧ forE body tr ok (xs.map enc) (R t) (Ms t) = .ok (.nx (R t')) (Ms t')
  | [], n, t, h, _ => ⟨t, h, rfl⟩
  | x :: xs, n, t, h, st => by
    obtain ⟨t1, h1, h2⟩ := st 0 x t rfl h
    obtain ⟨t2, h3, h4⟩ := for_to R Ms I xs (n + 1) t1 h2 fun i y t e hi => by
      obtain ⟨t', a, b⟩ := st (i + 1) y t (by simpa using e) (by rw [show n + (i + 1) = n + 1 + i by omega]; exact hi)
      exact ⟨t', a, by rw [show n + 1 + i + 1 = n + (i + 1) + 1 by omega]; exact b⟩
    refine ⟨t2, by rw [show n + (x :: xs).length = n + 1 + xs.length by simp; omega]; exact h3, ?_⟩
    rw [List.map_cons, forE_step h1, h4]
/-- .. as a rule: what the loop came to is x -/
theorem for_gen {x : Ev Rs} {ρ : List Sl} {M : List C} {enc : α → D} {xs : List α} (hx : forE body tr ok (xs.map enc) ρ M = x) (R : T → List Sl) (Ms : T → List C) (I : Nat → T → Prop) (t : T) (hρ : ρ = R t) (hM : M = Ms t) (h0 : I 0 t) (st : ∀ i x t, xs[i]? = some x → I i t → ∃ t', kTurn tr ok (body (enc x) (R t) (Ms t)) = .ok (R t') (Ms t') ∧ I (i + 1) t') : ∃ t', I xs.length t' ∧ x = .ok (.nx (R t')) (Ms t') := by
  subst hρ; subst hM
  obtain ⟨t', h1, h2⟩ := for_to (body := body) (tr := tr) (ok := ok) (enc := enc) R Ms I xs 0 t h0 (fun i y t e h => by rw [Nat.zero_add] at h; obtain ⟨t', a, b⟩ := st i y t e h; exact ⟨t', a, by rw [Nat.zero_add]; exact b⟩)
  exact ⟨t', by rwa [Nat.zero_add] at h1, hx.symm.trans h2⟩
/-- .. that may return z0 meanwhile -/
theorem for_ret (R : T → List Sl) (Ms : T → List C) (I : Nat → T → Prop) (Rt : Z → List C → Prop) {enc : α → D} : ∀ (xs : List α) (n : Nat) (t : T), I n t → (∀ i x t, xs[i]? = some x → I (n + i) t → (∃ t', kTurn tr ok (body (enc x) (R t) (Ms t)) = .ok (R t') (Ms t') ∧ I (n + i + 1) t') ∨ (∃ z M', body (enc x) (R t) (Ms t) = .ok (.rt z) M' ∧ Rt z M')) → (∃ t', I (n + xs.length) t' ∧ forE body tr ok (xs.map enc) (R t) (Ms t) = .ok (.nx (R t')) (Ms t')) ∨ (∃ z M', forE body tr ok (xs.map enc) (R t) (Ms t) = .ok (.rt z) M' ∧ Rt z M')
  | [], n, t, h, _ => .inl ⟨t, h, rfl⟩
  | x :: xs, n, t, h, st => by
    rcases st 0 x t rfl h with ⟨t1, h1, h2⟩ | ⟨z, M', h1, h2⟩
    · rw [List.map_cons, forE_step h1]
      have := for_ret R Ms I Rt xs (n + 1) t1 h2 fun i y t e hi => by
        have := st (i + 1) y t (by simpa using e) (by rw [show n + (i + 1) = n + 1 + i by omega]; exact hi)
        rw [show n + (i + 1) + 1 = n + 1 + i + 1 by omega] at this
        exact this
      rw [show n + (x :: xs).length = n + 1 + xs.length by simp; omega]
      exact this
    · exact .inr ⟨z, M', by rw [List.map_cons, forE_ret h1], h2⟩
theorem for_rgen {x : Ev Rs} {ρ : List Sl} {M : List C} {enc : α → D} {xs : List α} (hx : forE body tr ok (xs.map enc) ρ M = x) (R : T → List Sl) (Ms : T → List C) (I : Nat → T → Prop) (Rt : Z → List C → Prop) (t : T) (hρ : ρ = R t) (hM : M = Ms t) (h0 : I 0 t) (st : ∀ i x t, xs[i]? = some x → I i t → (∃ t', kTurn tr ok (body (enc x) (R t) (Ms t)) = .ok (R t') (Ms t') ∧ I (i + 1) t') ∨ (∃ z M', body (enc x) (R t) (Ms t) = .ok (.rt z) M' ∧ Rt z M')) : (∃ t', I xs.length t' ∧ x = .ok (.nx (R t')) (Ms t')) ∨ (∃ z M', x = .ok (.rt z) M' ∧ Rt z M') := by
  subst hρ; subst hM; subst hx
  have := for_ret (body := body) (tr := tr) (ok := ok) (enc := enc) R Ms I Rt xs 0 t h0 (fun i y t e h => by rw [Nat.zero_add] at h; rw [Nat.zero_add]; exact st i y t e h)
  rw [Nat.zero_add] at this
  exact this
/-- .. the next state by a function -/
theorem for_fold (R : T → List Sl) (Ms : T → List C) (f : T → α → T) {enc : α → D} : ∀ (xs : List α) (t : T) (I : T → Prop), I t → (∀ x ∈ xs, ∀ t, I t → kTurn tr ok (body (enc x) (R t) (Ms t)) = .ok (R (f t x)) (Ms (f t x)) ∧ I (f t x)) → forE body tr ok (xs.map enc) (R t) (Ms t) = .ok (.nx (R (xs.foldl f t))) (Ms (xs.foldl f t)) ∧ I (xs.foldl f t)
  | [], t, I, h, _ => ⟨rfl, h⟩
  | x :: xs, t, I, h, st => by
    obtain ⟨h1, h2⟩ := st x List.mem_cons_self t h
    obtain ⟨h3, h4⟩ := for_fold R Ms f xs (f t x) I h2 fun y hy => st y (List.mem_cons_of_mem _ hy)
    refine ⟨?_, h4⟩
    rw [List.map_cons, forE_step h1, h3]; rfl
variable {F : D → List C → Ev (List D)} {ok' : List C → Bool} {M : List C}
/-- a comprehension that leaves the cells -/
theorem lc_flat {enc : α → D} {out : α → List D} (ho : ok' M = true) : ∀ (xs : List α) (acc : List D), (∀ x ∈ xs, F (enc x) M = .ok (out x) M) → lcE F ok' (xs.map enc) acc M = .ok (acc ++ xs.flatMap out) M
  | [], acc, _ => by simp [lcE]
  | x :: xs, acc, h => by
    show (F (enc x) M).bd _ = _
    rw [h x List.mem_cons_self]
    show (match ok' M with | true => lcE F ok' (xs.map enc) (acc ++ out x) M | false => .bad) = _
    rw [ho]
    show lcE F ok' (xs.map enc) (acc ++ out x) M = _
    rw [lc_flat ho xs _ fun y hy => h y (List.mem_cons_of_mem _ hy)]
    simp
theorem lc_map {enc : α → D} {f : α → D} {xs : List α} (ho : ok' M = true) (h : ∀ x ∈ xs, F (enc x) M = .ok [f x] M) : lcE F ok' (xs.map enc) [] M = .ok (xs.map f) M := by
  rw [lc_flat ho xs [] h, List.nil_append, List.map_eq_flatMap]
theorem lc_filt {enc : α → D} {p : α → Bool} {f : α → D} {xs : List α} (ho : ok' M = true) (h : ∀ x ∈ xs, F (enc x) M = bif p x then .ok [f x] M else .ok [] M) : lcE F ok' (xs.map enc) [] M = .ok ((xs.filter p).map f) M := by
  rw [lc_flat (out := fun x => if p x then [f x] else []) ho xs [] (fun x hx => by rw [h x hx]; cases p x <;> rfl), List.nil_append]
  congr 1
  clear h
  induction xs with
  | nil => rfl
  | cons x xs ih =>
    rw [List.flatMap_cons, ih, List.filter_cons]
    split <;> simp
/-- a comprehension with states -/
theorem lc_st (Ms : T → List C) {enc : α → D} (I : Nat → T → List D → Prop) : ∀ (xs : List α) (n : Nat) (t : T) (acc : List D), I n t acc → (∀ i x t acc, xs[i]? = some x → I (n + i) t acc → ∃ t' out, F (enc x) (Ms t) = .ok out (Ms t') ∧ ok' (Ms t') = true ∧ I (n + i + 1) t' (acc ++ out)) → ∃ t' out, I (n + xs.length) t' out ∧ lcE F ok' (xs.map enc) acc (Ms t) = .ok out (Ms t')
  | [], n, t, acc, h, _ => ⟨t, acc, h, rfl⟩
  | x :: xs, n, t, acc, h, st => by
    obtain ⟨t1, o1, h1, h2, h3⟩ := st 0 x t acc rfl h
    obtain ⟨t2, o2, h4, h5⟩ := lc_st Ms I xs (n + 1) t1 (acc ++ o1) h3 fun i y t acc e hi => by
      obtain ⟨t', o', a, b, c⟩ := st (i + 1) y t acc (by simpa using e) (by rw [show n + (i + 1) = n + 1 + i by omega]; exact hi)
      exact ⟨t', o', a, b, by rw [show n + 1 + i + 1 = n + (i + 1) + 1 by omega]; exact c⟩
    refine ⟨t2, o2, by rw [show n + (x :: xs).length = n + 1 + xs.length by simp; omega]; exact h4, ?_⟩
    show (F (enc x) (Ms t)).bd _ = _
    rw [h1]
    show (match ok' (Ms t1) with | true => lcE F ok' (xs.map enc) (acc ++ o1) (Ms t1) | false => .bad) = _
    rw [h2]
    exact h5
variable {Fd : D → List C → Ev (List (Key × D))}
theorem dc_flat {enc : α → D} {kf : α → Key} {vf : α → D} (ho : ok' M = true) : ∀ (xs : List α) (acc : List (Key × D)), (∀ x ∈ xs, Fd (enc x) M = .ok [(kf x, vf x)] M) → dcE Fd ok' (xs.map enc) acc M = .ok (mergeD acc (xs.map fun x => (kf x, vf x))) M
  | [], acc, _ => rfl
  | x :: xs, acc, h => by
    show (Fd (enc x) M).bd _ = _
    rw [h x List.mem_cons_self]
    show (match ok' M with | true => dcE Fd ok' (xs.map enc) (putD acc (kf x) (vf x)) M | false => .bad) = _
    rw [ho]
    show dcE Fd ok' (xs.map enc) (putD acc (kf x) (vf x)) M = _
    rw [dc_flat ho xs _ fun y hy => h y (List.mem_cons_of_mem _ hy)]
    rfl
end
theorem lc_gen {T α : Type} {F : D → List C → Ev (List D)} {ok' : List C → Bool} {x : Ev (List D)} {M : List C} {enc : α → D} {xs : List α} {acc : List D} (hx : lcE F ok' (xs.map enc) acc M = x) (Ms : T → List C) (I : Nat → T → List D → Prop) (t : T) (hM : M = Ms t) (h0 : I 0 t acc) (st : ∀ i x t acc, xs[i]? = some x → I i t acc → ∃ t' out, F (enc x) (Ms t) = .ok out (Ms t') ∧ ok' (Ms t') = true ∧ I (i + 1) t' (acc ++ out)) : ∃ t' out, I xs.length t' out ∧ x = .ok out (Ms t') := by
  subst hM; subst hx
  have := lc_st (F := F) (ok' := ok') (enc := enc) Ms I xs 0 t acc h0 (fun i y t acc e h => by rw [Nat.zero_add] at h; obtain ⟨t', o, a, b, c⟩ := st i y t acc e h; exact ⟨t', o, a, b, by rw [Nat.zero_add]; exact c⟩)
  rw [Nat.zero_add] at this
  exact this
theorem okLc_self {M : List C} : okLc M [] M = true := by
  unfold okLc eqLen keepB
  rw [Nat.beq_refl]; rfl
theorem okLc_nil {M M' : List C} (h : M'.length = M.length) : okLc M [] M' = true := by
  unfold okLc eqLen keepB
  rw [h, Nat.beq_refl]; rfl
theorem bif_t {α : Type} {a b : α} : (bif true then a else b) = a := rfl
theorem bif_f {α : Type} {a b : α} : (bif false then a else b) = b := rfl
theorem finZ_v {n : Nat} {d : D} {M : List C} : finZ n (.s (.val d)) M = bif okTake n M then .ok (.s (.val d)) (M.take n) else .bad := by
  show (match okTake n M with | true => Ev.ok (Z.s (.val d)) (M.take n) | false => .bad) = _
  cases okTake n M <;> rfl
theorem finZ_l {n : Nat} {xs : List D} {M : List C} : finZ n (.n (.lst xs)) M = bif okTake n M then .ok (.n (.lst xs)) (M.take n) else .bad := by
  show (match okTake n M with | true => Ev.ok (Z.n (.lst xs)) (M.take n) | false => .bad) = _
  cases okTake n M <;> rfl
theorem finZ_d {n : Nat} {xs : List (Key × D)} {M : List C} : finZ n (.n (.dic xs)) M = bif okTake n M then .ok (.n (.dic xs)) (M.take n) else .bad := by
  show (match okTake n M with | true => Ev.ok (Z.n (.dic xs)) (M.take n) | false => .bad) = _
  cases okTake n M <;> rfl
def finO (n k : Nat) (M : List C) (oc : Option C) : Ev Z := match oc with
      | some (.lst xs) => finZ n (.n (.lst xs)) M
      | some (.dic xs) => finZ n (.n (.dic xs)) M
      | _ => .ok (.s (.own k)) M
theorem finZ_o {n k : Nat} {M : List C} : finZ n (.s (.own k)) M = bif Nat.blt k n then (bif okTake n M then .ok (.s (.own k)) (M.take n) else .bad) else finO n k M (lkM M k) := by
  show (match Nat.blt k n with
    | true => (match okTake n M with
      | true => Ev.ok (Z.s (.own k)) (M.take n)
      | false => .bad)
    | false => (match lkM M k with
      | some (.lst xs) => (match okTake n M with
        | true => .ok (.n (.lst xs)) (M.take n)
        | false => .bad)
      | some (.dic xs) => (match okTake n M with
        | true => .ok (.n (.dic xs)) (M.take n)
        | false => .bad)
      | _ => .ok (.s (.own k)) M)) = _
  cases Nat.blt k n with
  | true => cases okTake n M <;> rfl
  | false => rfl
theorem finO_l {n k : Nat} {M : List C} {xs : List D} : finO n k M (some (.lst xs)) = finZ n (.n (.lst xs)) M := rfl
theorem finO_d {n k : Nat} {M : List C} {xs : List (Key × D)} : finO n k M (some (.dic xs)) = finZ n (.n (.dic xs)) M := rfl
theorem finO_s {n k c j : Nat} {M : List C} {vs : List Sl} : finO n k M (some (.sob c j vs)) = .ok (.s (.own k)) M := rfl
theorem finO_i {n k c j : Nat} {M : List C} {vs : List Sl} : finO n k M (some (.ins c j vs)) = .ok (.s (.own k)) M := rfl
theorem trimE_ok {n : Nat} {dead : List Nat} {ρ : List Sl} {M : List C} : trimE n dead ρ M = bif okTake n M then .ok ((clr ρ dead).map (Sl.trim n)) (M.take n) else .bad := by
  unfold trimE
  cases okTake n M <;> rfl
def trimN (n : Nat) : Sl → Sl
  | .own k => bif Nat.blt k n then .own k else .un
  | s => s
theorem trim_val {n : Nat} {d : D} : Sl.trim n (.val d) = .val d := rfl
theorem trim_un {n : Nat} : Sl.trim n .un = .un := rfl
theorem trim_own {n k : Nat} : Sl.trim n (.own k) = bif Nat.blt k n then .own k else .un := by
  show (if k < n then Sl.own k else .un) = _
  cases e : Nat.blt k n with
  | true => rw [if_pos (show k < n from Nat.le_of_ble_eq_true e)]; rfl
  | false => rw [if_neg fun z => by have : Nat.blt k n = true := Nat.ble_eq_true_of_le z; rw [e] at this; cases this]; rfl
theorem isK0_lis : isK ["list", "tuple"] "list" = true := by decide
theorem isK0_tup : isK ["list", "tuple"] "tuple" = true := by decide
theorem isK0_int : isK ["list", "tuple"] "int" = false := by decide
theorem isK0_boo : isK ["list", "tuple"] "bool" = false := by decide
theorem isK0_str : isK ["list", "tuple"] "str" = false := by decide
theorem isK0_Non : isK ["list", "tuple"] "NoneType" = false := by decide
theorem isK0_dic : isK ["list", "tuple"] "dict" = false := by decide
theorem isK1_lis : isK ["list"] "list" = true := by decide
theorem isK1_tup : isK ["list"] "tuple" = false := by decide
theorem isK1_int : isK ["list"] "int" = false := by decide
theorem isK1_boo : isK ["list"] "bool" = false := by decide
theorem isK1_str : isK ["list"] "str" = false := by decide
theorem isK1_Non : isK ["list"] "NoneType" = false := by decide
theorem isK1_dic : isK ["list"] "dict" = false := by decide
theorem isK2_lis : isK ["tuple"] "list" = false := by decide
theorem isK2_tup : isK ["tuple"] "tuple" = true := by decide
theorem isK2_int : isK ["tuple"] "int" = false := by decide
theorem isK2_boo : isK ["tuple"] "bool" = false := by decide
theorem isK2_str : isK ["tuple"] "str" = false := by decide
theorem isK2_Non : isK ["tuple"] "NoneType" = false := by decide
theorem isK2_dic : isK ["tuple"] "dict" = false := by decide
theorem isK3_lis : isK ["dict"] "list" = false := by decide
theorem isK3_tup : isK ["dict"] "tuple" = false := by decide
theorem isK3_int : isK ["dict"] "int" = false := by decide
theorem isK3_boo : isK ["dict"] "bool" = false := by decide
theorem isK3_str : isK ["dict"] "str" = false := by decide
theorem isK3_Non : isK ["dict"] "NoneType" = false := by decide
theorem isK3_dic : isK ["dict"] "dict" = true := by decide
theorem isK4_lis : isK ["bool", "str"] "list" = false := by decide
theorem isK4_tup : isK ["bool", "str"] "tuple" = false := by decide
theorem isK4_int : isK ["bool", "str"] "int" = false := by decide
theorem isK4_boo : isK ["bool", "str"] "bool" = true := by decide
theorem isK4_str : isK ["bool", "str"] "str" = true := by decide
theorem isK4_Non : isK ["bool", "str"] "NoneType" = false := by decide
theorem isK4_dic : isK ["bool", "str"] "dict" = false := by decide
theorem isK5_lis : isK ["int"] "list" = false := by decide
theorem isK5_tup : isK ["int"] "tuple" = false := by decide
theorem isK5_int : isK ["int"] "int" = true := by decide
theorem isK5_boo : isK ["int"] "bool" = true := by decide
theorem isK5_str : isK ["int"] "str" = false := by decide
theorem isK5_Non : isK ["int"] "NoneType" = false := by decide
theorem isK5_dic : isK ["int"] "dict" = false := by decide
theorem isK6_lis : isK ["bool"] "list" = false := by decide
theorem isK6_tup : isK ["bool"] "tuple" = false := by decide
theorem isK6_int : isK ["bool"] "int" = false := by decide
theorem isK6_boo : isK ["bool"] "bool" = true := by decide
theorem isK6_str : isK ["bool"] "str" = false := by decide
theorem isK6_Non : isK ["bool"] "NoneType" = false := by decide
theorem isK6_dic : isK ["bool"] "dict" = false := by decide
theorem isK7_lis : isK ["str"] "list" = false := by decide
theorem isK7_tup : isK ["str"] "tuple" = false := by decide
theorem isK7_int : isK ["str"] "int" = false := by decide
theorem isK7_boo : isK ["str"] "bool" = false := by decide
theorem isK7_str : isK ["str"] "str" = true := by decide
theorem isK7_Non : isK ["str"] "NoneType" = false := by decide
theorem isK7_dic : isK ["str"] "dict" = false := by decide
section
variable {α : Type} {F : D → List C → Ev (List D)} {ok' : List C → Bool} {M : List C}
theorem lc_mapD {f : D → D} {xs : List D} (ho : ok' M = true) (h : ∀ x ∈ xs, F x M = .ok [f x] M) : lcE F ok' xs [] M = .ok (xs.map f) M := by
  have := lc_map (enc := id) (f := f) (xs := xs) ho h
  rwa [List.map_id] at this
theorem lc_filtD {p : D → Bool} {f : D → D} {xs : List D} (ho : ok' M = true) (h : ∀ x ∈ xs, F x M = bif p x then .ok [f x] M else .ok [] M) : lcE F ok' xs [] M = .ok ((xs.filter p).map f) M := by
  have := lc_filt (enc := id) (p := p) (f := f) (xs := xs) ho h
  rwa [List.map_id] at this
end
section
variable {φ : Nat → Nat} {d : D} {k c j : Nat} {xs : List D} {kvs : List (Key × D)} {vs : List Sl}
theorem Zmp_v : Z.mp φ (.s (.val d)) = .s (.val d) := rfl
theorem Zmp_o : Z.mp φ (.s (.own k)) = .s (.own (φ k)) := rfl
theorem Zmp_l : Z.mp φ (.n (.lst xs)) = .n (.lst xs) := rfl
theorem Zmp_d : Z.mp φ (.n (.dic kvs)) = .n (.dic kvs) := rfl
theorem Smp_v : Sl.mp φ (.val d) = .val d := rfl
theorem Smp_o : Sl.mp φ (.own k) = .own (φ k) := rfl
theorem Smp_u : Sl.mp φ .un = .un := rfl
theorem Cmp_l : C.mp φ (.lst xs) = .lst xs := rfl
theorem Cmp_d : C.mp φ (.dic kvs) = .dic kvs := rfl
theorem Cmp_m : C.mp φ (.mls vs) = .mls (vs.map (Sl.mp φ)) := rfl
theorem Cmp_i : C.mp φ (.ins c j vs) = .ins c (φ j) (vs.map (Sl.mp φ)) := rfl
theorem Cmp_s : C.mp φ (.sob c j vs) = .sob c (φ j) (vs.map (Sl.mp φ)) := rfl
theorem Cmp_x : C.mp φ .dxx = .dxx := rfl
theorem Cmp_o : C.mp φ (.dxo k) = .dxo (φ k) := rfl
end
/-! ### data of ints -/
theorem all_isI (ns : List Int) : (ns.map D.int).all isI = true := by simp [isI]
theorem map_intD (ns : List Int) : (ns.map D.int).map intD = ns := by
  rw [List.map_map]
  conv => rhs; rw [← List.map_id ns]
  rfl
theorem all_atom (ns : List Int) : (ns.map D.int).all atomD = true := by simp [atomD]
theorem inD_int (x : Int) (ns : List Int) : inD (.int x) (ns.map D.int) = decide (x ∈ ns) := by
  unfold inD
  rw [List.any_map, Bool.eq_iff_iff, List.any_eq_true, decide_eq_true_iff]
  constructor
  · rintro ⟨y, hy, e⟩
    have : (y == x) = true := e
    rw [beq_iff_eq] at this
    exact this ▸ hy
  · exact fun h => ⟨x, h, by show (x == x) = true; simp⟩
end Dl
/-! Z2: operators, readings, built-ins by cases (printed by gz2.py) -/
namespace Dl
open PySem L2
section
variable {M : List C} {ds xs ys : List D} {i j : Int} {k : Nat} {b c : Bool} {x y : Str} {kvs : List (Key × D)} {ks : List Key} {vs : List D} {d e : D} {ns : List Int}
def sqC : Option C → Option (Bool × List D)
  | some (.lst ds) => some (true, ds)
  | _ => none
theorem sq_l : sq M (.val (.lst ds)) = some (true, ds) := rfl
theorem sq_t : sq M (.val (.tup ds)) = some (false, ds) := rfl
theorem sq_o : sq M (.own k) = sqC (lkM M k) := rfl
theorem sqC_l : sqC (some (.lst ds)) = some (true, ds) := rfl
theorem sq_i : sq M (.val (.int i)) = none := rfl
theorem sq_n : sq M (.val .non) = none := rfl
theorem sq_b : sq M (.val (.bl b)) = none := rfl
theorem sq_str : sq M (.val (.str x)) = none := rfl
theorem sq_d : sq M (.val (.dic ks vs)) = none := rfl
theorem sq_c : sq M (.val (.scr ns)) = none := rfl
def dqC : Option C → Option (List (Key × D))
  | some (.dic kvs) => some kvs
  | _ => none
theorem dq_d : dq M (.val (.dic ks vs)) = some (ks.zip vs) := rfl
theorem dq_o : dq M (.own k) = dqC (lkM M k) := rfl
theorem dqC_d : dqC (some (.dic kvs)) = some kvs := rfl
def vwC : Option C → Option D
  | some c => c.frz
  | none => none
theorem vw_v : vw M (.val d) = some d := rfl
theorem vw_o : vw M (.own k) = vwC (lkM M k) := rfl
theorem vwC_l : vwC (some (.lst ds)) = some (.lst ds) := rfl
theorem vwC_d : vwC (some (.dic kvs)) = some (.dic (kvs.map (·.1)) (kvs.map (·.2))) := rfl
def ixO : Option D → Option Sl
  | some x => some (.val x)
  | none => none
theorem ixO_s : ixO (some d) = some (.val d) := rfl
theorem ix_l : ixE (.val (.lst ds)) (.val (.int i)) M = ixO (atI ds i) := rfl
theorem ix_t : ixE (.val (.tup ds)) (.val (.int i)) M = ixO (atI ds i) := rfl
def ixC : Option C → D → Option Sl
  | some (.lst ds), .int i => ixO (atI ds i)
  | some (.dic kvs), .int i => ixO (getK kvs (.inl i))
  | some (.dic kvs), .str x => ixO (getK kvs (.inr x))
  | some (.mdc kvs), .int i => getK kvs (.inl i)
  | some (.mdc kvs), .str x => getK kvs (.inr x)
  | some (.mls xs), .int i => atI xs i
  | _, _ => none
theorem ix_oi : ixE (.own k) (.val (.int i)) M = ixC (lkM M k) (.int i) := by
  unfold ixE sq
  cases h : lkM M k with
  | none => simp only [h]; rfl
  | some c0 => cases c0 <;> (simp only [h]; rfl)
theorem ix_os : ixE (.own k) (.val (.str x)) M = ixC (lkM M k) (.str x) := by
  unfold ixE sq
  cases h : lkM M k with
  | none => simp only [h]; rfl
  | some c0 => cases c0 <;> (simp only [h]; rfl)
theorem ixC_l : ixC (some (.lst ds)) (.int i) = ixO (atI ds i) := rfl
theorem ixC_d : ixC (some (.dic kvs)) (.int i) = ixO (getK kvs (.inl i)) := rfl
theorem ixC_ds : ixC (some (.dic kvs)) (.str x) = ixO (getK kvs (.inr x)) := rfl
theorem ixC_m {kvs : List (Key × Sl)} : ixC (some (.mdc kvs)) (.int i) = getK kvs (.inl i) := rfl
theorem ixC_ms {kvs : List (Key × Sl)} : ixC (some (.mdc kvs)) (.str x) = getK kvs (.inr x) := rfl
theorem ixC_x {xs : List Sl} : ixC (some (.mls xs)) (.int i) = atI xs i := rfl
theorem ix_di : ixE (.val (.dic ks vs)) (.val (.int i)) M = ixO (getK (ks.zip vs) (.inl i)) := rfl
theorem ix_ds : ixE (.val (.dic ks vs)) (.val (.str x)) M = ixO (getK (ks.zip vs) (.inr x)) := rfl
theorem eq_i : eqE (.val (.int i)) (.val (.int j)) M = some (decide (i = j)) := rfl
theorem eq_b : eqE (.val (.bl b)) (.val (.bl c)) M = some (b == c) := rfl
theorem eq_str : eqE (.val (.str x)) (.val (.str y)) M = some (decide (x = y)) := rfl
theorem eq_l : eqE (.val (.lst ds)) (.val e) M = gd (plain 60 (.lst ds) && plain 60 e) (eqD (.lst ds) e) := rfl
theorem eq_t : eqE (.val (.tup ds)) (.val e) M = gd (plain 60 (.tup ds) && plain 60 e) (eqD (.tup ds) e) := rfl
theorem eq_n : eqE (.val .non) (.val e) M = gd (plain 60 .non && plain 60 e) (eqD .non e) := rfl
def eqO : Option D → Option D → Option Bool
  | some d, some d' => gd (plain 60 d && plain 60 d') (eqD d d')
  | _, _ => none
theorem eqO_s : eqO (some d) (some e) = gd (plain 60 d && plain 60 e) (eqD d e) := rfl
theorem eq_o {r : Sl} : eqE (.own k) r M = eqO (vwC (lkM M k)) (vw M r) := rfl
theorem eq_lo : eqE (.val (.lst ds)) (.own k) M = eqO (some (.lst ds)) (vwC (lkM M k)) := rfl
theorem eq_to : eqE (.val (.tup ds)) (.own k) M = eqO (some (.tup ds)) (vwC (lkM M k)) := rfl
theorem eq_in : eqE (.val (.int i)) (.val .non) M = gd (plain 60 (.int i) && plain 60 .non) (eqD (.int i) .non) := rfl
theorem in_l : inE (.val d) (.val (.lst ds)) M = gd (atomD d && ds.all atomD) (inD d ds) := rfl
theorem in_t : inE (.val d) (.val (.tup ds)) M = gd (atomD d && ds.all atomD) (inD d ds) := rfl
def inC : Option C → D → Option Bool
  | some (.lst ds), d => gd (atomD d && ds.all atomD) (inD d ds)
  | some (.dic kvs), .int i => some (getK kvs (.inl i)).isSome
  | some (.dic kvs), .str x => some (getK kvs (.inr x)).isSome
  | _, _ => none
theorem in_oi : inE (.val (.int i)) (.own k) M = inC (lkM M k) (.int i) := by
  unfold inE sq dq
  cases h : lkM M k with
  | none => simp only [h]; rfl
  | some c0 => cases c0 <;> (simp only [h]; rfl)
theorem in_os : inE (.val (.str x)) (.own k) M = inC (lkM M k) (.str x) := by
  unfold inE sq dq
  cases h : lkM M k with
  | none => simp only [h]; rfl
  | some c0 => cases c0 <;> (simp only [h]; rfl)
theorem inC_l : inC (some (.lst ds)) d = gd (atomD d && ds.all atomD) (inD d ds) := rfl
theorem inC_di : inC (some (.dic kvs)) (.int i) = some (getK kvs (.inl i)).isSome := rfl
theorem inC_ds : inC (some (.dic kvs)) (.str x) = some (getK kvs (.inr x)).isSome := rfl
theorem in_di : inE (.val (.int i)) (.val (.dic ks vs)) M = some (getK (ks.zip vs) (.inl i)).isSome := rfl
theorem in_ds : inE (.val (.str x)) (.val (.dic ks vs)) M = some (getK (ks.zip vs) (.inr x)).isSome := rfl
theorem len_l : biE .len [(.val (.lst ds))] M = some (.s (.val (.int ds.length))) := rfl
theorem len_t : biE .len [(.val (.tup ds))] M = some (.s (.val (.int ds.length))) := rfl
def lenC : Option C → Option Z
  | some (.lst ds) => some (.s (.val (.int ds.length)))
  | some (.dic kvs) => some (.s (.val (.int kvs.length)))
  | _ => none
theorem len_o : biE .len [.own k] M = lenC (lkM M k) := by
  unfold biE sq dq
  cases h : lkM M k with
  | none => simp only [h]; rfl
  | some c0 => cases c0 <;> (simp only [h]; rfl)
theorem lenC_l : lenC (some (.lst ds)) = some (.s (.val (.int ds.length))) := rfl
theorem lenC_d : lenC (some (.dic kvs)) = some (.s (.val (.int kvs.length))) := rfl
theorem len_d : biE .len [(.val (.dic ks vs))] M = some (.s (.val (.int (ks.zip vs).length))) := rfl
theorem len_c : biE .len [.val (.scr ns)] M = none := rfl
theorem abs_i : biE .abs [.val (.int i)] M = some (.s (.val (.int (if i < 0 then -i else i)))) := rfl
theorem int_i : biE .int [.val (.int i)] M = some (.s (.val (.int i))) := rfl
theorem int_b : biE .int [.val (.bl b)] M = some (.s (.val (.int (if b = true then 1 else 0)))) := rfl
def tupleC : Option (Bool × List D) → Option Z
  | some (true, ds) => some (.s (.val (.tup ds)))
  | some (false, ds) => some (.s (.val (.tup ds)))
  | none => none
theorem tuple_o : biE .tuple [.own k] M = tupleC (sqC (lkM M k)) := by
  unfold biE sq
  cases h : lkM M k with
  | none => simp only [h]; rfl
  | some c0 => cases c0 <;> (simp only [h]; rfl)
theorem tuple_l : biE .tuple [(.val (.lst ds))] M = some (.s (.val (.tup ds))) := rfl
theorem tupleC_l : tupleC (some (true, ds)) = some (.s (.val (.tup ds))) := rfl
theorem tuple_t : biE .tuple [(.val (.tup ds))] M = some (.s (.val (.tup ds))) := rfl
theorem tupleC_t : tupleC (some (false, ds)) = some (.s (.val (.tup ds))) := rfl
def allC : Option (Bool × List D) → Option Z
  | some (true, ds) => gd (ds.all isB) (.s (.val (.bl (ds.all blD))))
  | _ => none
theorem all_o : biE .all [.own k] M = allC (sqC (lkM M k)) := by
  unfold biE sq
  cases h : lkM M k with
  | none => simp only [h]; rfl
  | some c0 => cases c0 <;> (simp only [h]; rfl)
theorem all_l : biE .all [(.val (.lst ds))] M = gd (ds.all isB) (.s (.val (.bl (ds.all blD)))) := rfl
theorem allC_l : allC (some (true, ds)) = gd (ds.all isB) (.s (.val (.bl (ds.all blD)))) := rfl
def anyC : Option (Bool × List D) → Option Z
  | some (true, ds) => gd (ds.all isB) (.s (.val (.bl (ds.any blD))))
  | _ => none
theorem any_o : biE .any [.own k] M = anyC (sqC (lkM M k)) := by
  unfold biE sq
  cases h : lkM M k with
  | none => simp only [h]; rfl
  | some c0 => cases c0 <;> (simp only [h]; rfl)
theorem any_l : biE .any [(.val (.lst ds))] M = gd (ds.all isB) (.s (.val (.bl (ds.any blD)))) := rfl
theorem anyC_l : anyC (some (true, ds)) = gd (ds.all isB) (.s (.val (.bl (ds.any blD)))) := rfl
def sumC : Option (Bool × List D) → Option Z
  | some (true, ds) => gd (ds.all isI) (.s (.val (.int (ds.map intD).sum)))
  | _ => none
theorem sum_o : biE .sum [.own k] M = sumC (sqC (lkM M k)) := by
  unfold biE sq
  cases h : lkM M k with
  | none => simp only [h]; rfl
  | some c0 => cases c0 <;> (simp only [h]; rfl)
theorem sum_l : biE .sum [(.val (.lst ds))] M = gd (ds.all isI) (.s (.val (.int (ds.map intD).sum))) := rfl
theorem sumC_l : sumC (some (true, ds)) = gd (ds.all isI) (.s (.val (.int (ds.map intD).sum))) := rfl
def maxC : Option (Bool × List D) → Option Z
  | some (true, ds) => gd (ds.all isI && decide (0 < ds.length)) (.s (.val (.int (maxL (ds.map intD)))))
  | _ => none
theorem max_o : biE .max [.own k] M = maxC (sqC (lkM M k)) := by
  unfold biE sq
  cases h : lkM M k with
  | none => simp only [h]; rfl
  | some c0 => cases c0 <;> (simp only [h]; rfl)
theorem max_l : biE .max [(.val (.lst ds))] M = gd (ds.all isI && decide (0 < ds.length)) (.s (.val (.int (maxL (ds.map intD))))) := rfl
theorem maxC_l : maxC (some (true, ds)) = gd (ds.all isI && decide (0 < ds.length)) (.s (.val (.int (maxL (ds.map intD))))) := rfl
def minC : Option (Bool × List D) → Option Z
  | some (true, ds) => gd (ds.all isI && decide (0 < ds.length)) (.s (.val (.int (minL (ds.map intD)))))
  | _ => none
theorem min_o : biE .min [.own k] M = minC (sqC (lkM M k)) := by
  unfold biE sq
  cases h : lkM M k with
  | none => simp only [h]; rfl
  | some c0 => cases c0 <;> (simp only [h]; rfl)
theorem min_l : biE .min [(.val (.lst ds))] M = gd (ds.all isI && decide (0 < ds.length)) (.s (.val (.int (minL (ds.map intD))))) := rfl
theorem minC_l : minC (some (true, ds)) = gd (ds.all isI && decide (0 < ds.length)) (.s (.val (.int (minL (ds.map intD))))) := rfl
def ssetC : Option (Bool × List D) → Option Z
  | some (true, ds) => gd (ds.all isI && decide (ds.length < 64)) (.n (.lst ((sset (ds.map intD)).map D.int)))
  | some (false, ds) => gd (ds.all isI && decide (ds.length < 64)) (.n (.lst ((sset (ds.map intD)).map D.int)))
  | none => none
theorem sset_o : biE .sset [.own k] M = ssetC (sqC (lkM M k)) := by
  unfold biE sq
  cases h : lkM M k with
  | none => simp only [h]; rfl
  | some c0 => cases c0 <;> (simp only [h]; rfl)
theorem sset_l : biE .sset [(.val (.lst ds))] M = gd (ds.all isI && decide (ds.length < 64)) (.n (.lst ((sset (ds.map intD)).map D.int))) := rfl
theorem ssetC_l : ssetC (some (true, ds)) = gd (ds.all isI && decide (ds.length < 64)) (.n (.lst ((sset (ds.map intD)).map D.int))) := rfl
theorem sset_t : biE .sset [(.val (.tup ds))] M = gd (ds.all isI && decide (ds.length < 64)) (.n (.lst ((sset (ds.map intD)).map D.int))) := rfl
theorem ssetC_t : ssetC (some (false, ds)) = gd (ds.all isI && decide (ds.length < 64)) (.n (.lst ((sset (ds.map intD)).map D.int))) := rfl
theorem max_ii : biE .max [.val (.int i), .val (.int j)] M = some (.s (.val (.int (Max.max i j)))) := rfl
theorem min_ii : biE .min [.val (.int i), .val (.int j)] M = some (.s (.val (.int (Min.min i j)))) := rfl
theorem list_l : biE .list [(.val (.lst ds))] M = some (.n (.lst ds)) := rfl
theorem list_t : biE .list [(.val (.tup ds))] M = some (.n (.lst ds)) := rfl
def listC : Option C → Option Z
  | some (.lst ds) => some (.n (.lst ds))
  | some (.dic kvs) => gd (decide (kvs.length ≤ 1000)) (.n (.lst (kvs.map fun p => kD p.1)))
  | _ => none
theorem list_o : biE .list [.own k] M = listC (lkM M k) := by
  unfold biE sq dq
  cases h : lkM M k with
  | none => simp only [h]; rfl
  | some c0 => cases c0 <;> (simp only [h]; rfl)
theorem listC_l : listC (some (.lst ds)) = some (.n (.lst ds)) := rfl
theorem listC_d : listC (some (.dic kvs)) = gd (decide (kvs.length ≤ 1000)) (.n (.lst (kvs.map fun p => kD p.1))) := rfl
theorem list_d : biE .list [(.val (.dic ks vs))] M = gd (decide ((ks.zip vs).length ≤ 1000)) (.n (.lst ((ks.zip vs).map fun p => kD p.1))) := rfl
theorem sorted_l : biE .sorted [(.val (.lst ds))] M = gd (ds.all isI) (.n (.lst ((isort (ds.map intD)).map D.int))) := rfl
theorem sorted_d : biE .sorted [(.val (.dic ks vs))] M = gd (((ks.zip vs).map fun p => kD p.1).all isI && decide ((ks.zip vs).length < 64)) (.n (.lst ((isort ((ks.zip vs).map fun p => intD (kD p.1))).map D.int))) := rfl
def sortedC : Option C → Option Z
  | some (.lst ds) => gd (ds.all isI) (.n (.lst ((isort (ds.map intD)).map D.int)))
  | some (.dic kvs) => gd ((kvs.map fun p => kD p.1).all isI && decide (kvs.length < 64)) (.n (.lst ((isort (kvs.map fun p => intD (kD p.1))).map D.int)))
  | _ => none
theorem sorted_o : biE .sorted [.own k] M = sortedC (lkM M k) := by
  unfold biE sq dq
  cases h : lkM M k with
  | none => simp only [h]; rfl
  | some c0 => cases c0 <;> (simp only [h]; rfl)
theorem sortedC_l : sortedC (some (.lst ds)) = gd (ds.all isI) (.n (.lst ((isort (ds.map intD)).map D.int))) := rfl
theorem sortedC_d : sortedC (some (.dic kvs)) = gd ((kvs.map fun p => kD p.1).all isI && decide (kvs.length < 64)) (.n (.lst ((isort (kvs.map fun p => intD (kD p.1))).map D.int))) := rfl
theorem lrange1 : biE .lrange [.val (.int i)] M = gd (okR1 i) (.n (.lst ((rng 0 i.toNat).map D.int))) := rfl
theorem lrange2 : biE .lrange [.val (.int i), .val (.int j)] M = gd (okR2 i j) (.n (.lst ((rng i (j - i).toNat).map D.int))) := rfl
def repB (j : Int) (n : Nat) : Bool := decide (0 ≤ j ∧ j ≤ 1000 ∧ n ≤ 1000)
theorem repB_t {j : Int} {n : Nat} (h : 0 ≤ j ∧ j ≤ 1000 ∧ n ≤ 1000) : repB j n = true := decide_eq_true h
def divB (j : Int) : Bool := decide (0 < j ∧ j < 1073741824)
theorem divB_t {j : Int} (h : 0 < j ∧ j < 1073741824) : divB j = true := decide_eq_true h
def powB (i j : Int) : Bool := decide (0 ≤ j ∧ j ≤ 1000000 ∧ i.natAbs < 18446744073709551616)
theorem powB_t {i j : Int} (h : 0 ≤ j ∧ j ≤ 1000000 ∧ i.natAbs < 18446744073709551616) : powB i j = true := decide_eq_true h
theorem okR1_t {i : Int} (h : -100000 ≤ i ∧ i ≤ 100000) : okR1 i = true := decide_eq_true h
theorem okR2_t {i j : Int} (h : -100000 ≤ i ∧ i ≤ 100000 ∧ -100000 ≤ j ∧ j ≤ 100000) : okR2 i j = true := decide_eq_true h
theorem div1m : divB 1000003 = true := by decide
theorem div64 : divB 64 = true := by decide
theorem div2 : divB 2 = true := by decide
theorem pow18 : powB 10 18 = true := by decide
theorem pow6 : powB 10 6 = true := by decide
theorem add_i : binE .Add (.val (.int i)) (.val (.int j)) M = some (.s (.val (.int (i + j)))) := rfl
def addX : Option (Bool × List D) → Option (Bool × List D) → Option Z
  | some (true, xs), some (true, ys) => gd (decide (xs.length + ys.length ≤ 100000)) (.n (.lst (xs ++ ys)))
  | some (false, xs), some (false, ys) => gd (decide (xs.length + ys.length ≤ 100000)) (.s (.val (.tup (xs ++ ys))))
  | _, _ => none
theorem addX_l : addX (some (true, xs)) (some (true, ys)) = gd (decide (xs.length + ys.length ≤ 100000)) (.n (.lst (xs ++ ys))) := rfl
theorem addX_t : addX (some (false, xs)) (some (false, ys)) = gd (decide (xs.length + ys.length ≤ 100000)) (.s (.val (.tup (xs ++ ys)))) := rfl
theorem add_l {r : Sl} : binE .Add (.val (.lst ds)) r M = addX (some (true, ds)) (sq M r) := rfl
theorem add_t {r : Sl} : binE .Add (.val (.tup ds)) r M = addX (some (false, ds)) (sq M r) := rfl
theorem add_o {r : Sl} : binE .Add (.own k) r M = addX (sqC (lkM M k)) (sq M r) := rfl
theorem sub_i : binE .Sub (.val (.int i)) (.val (.int j)) M = some (.s (.val (.int (i - j)))) := rfl
theorem mul_i : binE .Mult (.val (.int i)) (.val (.int j)) M = gd (mulB i j) (.s (.val (.int (i * j)))) := rfl
theorem mul_l : binE .Mult (.val (.lst ds)) (.val (.int j)) M = gd (repB j ds.length) (.n (.lst (List.replicate j.toNat ds).flatten)) := rfl
theorem div_i : binE .FloorDiv (.val (.int i)) (.val (.int j)) M = gd (divB j) (.s (.val (.int (i / j)))) := rfl
theorem mod_i : binE .Mod (.val (.int i)) (.val (.int j)) M = gd (decide (0 < j)) (.s (.val (.int (i % j)))) := rfl
theorem pow_i : binE .Pow (.val (.int i)) (.val (.int j)) M = gd (powB i j) (.s (.val (.int (i ^ j.toNat)))) := rfl
theorem clt : cmpE .Lt (.val (.int i)) (.val (.int j)) M = some (decide (i < j)) := rfl
theorem cle : cmpE .LtE (.val (.int i)) (.val (.int j)) M = some (decide (i ≤ j)) := rfl
theorem cgt : cmpE .Gt (.val (.int i)) (.val (.int j)) M = some (decide (j < i)) := rfl
theorem cge : cmpE .GtE (.val (.int i)) (.val (.int j)) M = some (decide (j ≤ i)) := rfl
theorem c_eq {r s : Sl} : cmpE .Eq r s M = eqE r s M := rfl
theorem c_ne {r s : Sl} : cmpE .NotEq r s M = ngO (eqE r s M) := rfl
theorem c_in {r s : Sl} : cmpE .In r s M = inE r s M := rfl
theorem c_ni {r s : Sl} : cmpE .NotIn r s M = ngO (inE r s M) := rfl
theorem ngO_s : ngO (some b) = some (!b) := rfl
theorem c_is : cmpE .Is (.val d) (.val .non) M = some d.isNon := rfl
theorem c_isn : cmpE .IsNot (.val d) (.val .non) M = some (!d.isNon) := rfl
theorem c_iso : cmpE .Is (.own k) (.val .non) M = some false := rfl
theorem c_isno : cmpE .IsNot (.own k) (.val .non) M = some true := rfl
theorem non_n : D.isNon .non = true := rfl
theorem non_i : D.isNon (.int i) = false := rfl
theorem non_b : D.isNon (.bl b) = false := rfl
theorem non_s : D.isNon (.str x) = false := rfl
theorem non_l : D.isNon (.lst ds) = false := rfl
theorem non_t : D.isNon (.tup ds) = false := rfl
theorem non_d : D.isNon (.dic ks vs) = false := rfl
def fX (M : List C) : Option D → Ev Z
  | some d => .ok (.s (.val d)) M
  | none => .bad
theorem fX_s : fX M (some d) = .ok (.s (.val d)) M := rfl
theorem kFld_f {q n : Nat} : kFld q n (.ok (.val (.slo q ds)) M) = fX M (lkA ds n) := by
  unfold kFld fldR
  simp only [bd_ok, Nat.beq_refl]
  cases lkA ds n <;> rfl
theorem kFld_b {q n : Nat} : kFld q n (.ok (.val (.obj q ds)) M) = fX M (lkA ds n) := by
  unfold kFld fldR
  simp only [bd_ok, Nat.beq_refl]
  cases lkA ds n <;> rfl
def fY (M : List C) : Option Sl → Ev Z
  | some (.val d) => .ok (.s (.val d)) M
  | some (.own k) => .ok (.s (.own k)) M
  | _ => .bad
theorem fY_v : fY M (some (.val d)) = .ok (.s (.val d)) M := rfl
theorem fY_o : fY M (some (.own k)) = .ok (.s (.own k)) M := rfl
def fC (q n : Nat) (M : List C) : Option C → Ev Z
  | some (.sob q' j us) => bif Nat.beq q' q then (match lkM M j with | some .dxx => fY M (lkA us n) | _ => .bad) else .bad
  | some (.ins q' j us) => bif Nat.beq q' q then fY M (lkA us n) else .bad
  | _ => .bad
theorem kFld_o {q n : Nat} : kFld q n (.ok (.own k) M) = fC q n M (lkM M k) := by
  unfold kFld fldR
  simp only [bd_ok]
  cases lkM M k with
  | none => rfl
  | some c0 =>
    cases c0 <;> try rfl
    · rename_i q2 j us
      simp only [fC]
      cases Nat.beq q2 q with
      | false => rfl
      | true => rfl
    · rename_i q2 j us
      simp only [fC]
      cases Nat.beq q2 q with
      | false => rfl
      | true =>
        cases lkM M j with
        | none => rfl
        | some c1 => cases c1 <;> rfl
def fD (M : List C) (us : List Sl) (n : Nat) : Option C → Ev Z
  | some .dxx => fY M (lkA us n)
  | _ => .bad
theorem fC_s {q n j : Nat} {us : List Sl} : fC q n M (some (.sob q j us)) = fD M us n (lkM M j) := by
  unfold fC fD
  simp only [Nat.beq_refl, cond_true]
theorem fD_x {n : Nat} {us : List Sl} : fD M us n (some .dxx) = fY M (lkA us n) := rfl
theorem fC_i {q n j : Nat} {us : List Sl} : fC q n M (some (.ins q j us)) = fY M (lkA us n) := by
  unfold fC
  simp only [Nat.beq_refl, cond_true]
theorem atom_i : atomD (.int i) = true := rfl
theorem atom_b : atomD (.bl b) = true := rfl
theorem atom_s : atomD (.str x) = true := rfl
theorem atom_n : atomD .non = true := rfl
theorem isI_i : isI (.int i) = true := rfl
theorem intD_i : intD (.int i) = i := rfl
theorem isB_b : isB (.bl b) = true := rfl
theorem blD_b : blD (.bl b) = b := rfl
theorem all_isIf {α : Type} {f : α → Int} {l : List α} : (l.map fun p => D.int (f p)).all isI = true := by simp [isI]
theorem map_intDf {α : Type} {f : α → Int} {l : List α} : (l.map fun p => D.int (f p)).map intD = l.map f := by rw [List.map_map]; rfl
theorem all_isBf {α : Type} {f : α → Bool} {l : List α} : (l.map fun p => D.bl (f p)).all isB = true := by simp [isB]
theorem all_blDf {α : Type} {f : α → Bool} {l : List α} : (l.map fun p => D.bl (f p)).all blD = l.all f := by rw [List.all_map]; rfl
theorem any_blDf {α : Type} {f : α → Bool} {l : List α} : (l.map fun p => D.bl (f p)).any blD = l.any f := by rw [List.any_map]; rfl
theorem all_tt {α : Type} {l : List α} : (l.all fun _ => true) = true := by simp
def apC (k : Nat) (d : D) (M : List C) : Option C → Ev Z
  | some (.lst ds) => bif decide (ds.length < 100000) then .ok (.s (.val .non)) (ptM M k (.lst (ds ++ [d]))) else .bad
  | _ => .bad
theorem mt_app : mtX .append (.own k) [.val d] M = apC k d M (lkM M k) := by
  unfold mtX mtE apC
  cases h0 : lkM M k with
  | none => simp only [h0]
  | some c0 =>
    cases c0 with
    | lst ds => simp only [h0]; cases decide (ds.length < 100000) <;> rfl
    | _ => simp only [h0]
theorem apC_l : apC k d M (some (.lst ds)) = bif decide (ds.length < 100000) then .ok (.s (.val .non)) (ptM M k (.lst (ds ++ [d]))) else .bad := rfl
def exC (k : Nat) (M : List C) : Option C → Option (Bool × List D) → Ev Z
  | some (.lst ds), some (true, xs) => bif decide (ds.length + xs.length < 100000) then .ok (.s (.val .non)) (ptM M k (.lst (ds ++ xs))) else .bad
  | _, _ => .bad
theorem mt_ext {r : Sl} : mtX .extend (.own k) [r] M = exC k M (lkM M k) (sq M r) := by
  unfold mtX mtE exC
  cases h0 : lkM M k with
  | none => simp only [h0]
  | some c0 =>
    cases c0 with
    | lst ds =>
      cases h : sq M r with
      | none => simp only [h0, h]
      | some q =>
        obtain ⟨u, xs⟩ := q
        cases u with
        | false => simp only [h0, h]
        | true =>
          simp only [h0, h]
          cases decide (ds.length + xs.length < 100000) <;> rfl
    | _ => simp only [h0]
theorem exC_l : exC k M (some (.lst ds)) (some (true, xs)) = bif decide (ds.length + xs.length < 100000) then .ok (.s (.val .non)) (ptM M k (.lst (ds ++ xs))) else .bad := rfl
def popC (k : Nat) (M : List C) : Option C → Ev Z
  | some (.lst ds) => (match ds.getLast? with | some d => .ok (.s (.val d)) (ptM M k (.lst ds.dropLast)) | none => .bad)
  | _ => .bad
theorem mt_pop : mtX .pop (.own k) [] M = popC k M (lkM M k) := by
  unfold mtX mtE popC
  cases h0 : lkM M k with
  | none => simp only [h0]
  | some c0 =>
    cases c0 with
    | lst ds =>
      cases h : ds.getLast? with
      | none => simp only [h0, h]
      | some x => simp only [h0, h]
    | _ => simp only [h0]
def remC (k : Nat) (i : Int) (M : List C) : Option C → Ev Z
  | some (.lst ds) => bif ds.all isI && decide (i ∈ ds.map intD) then .ok (.s (.val .non)) (ptM M k (.lst (((ds.map intD).erase i).map D.int))) else .bad
  | _ => .bad
theorem mt_rem : mtX .remove (.own k) [.val (.int i)] M = remC k i M (lkM M k) := by
  unfold mtX mtE remC
  cases h0 : lkM M k with
  | none => simp only [h0]
  | some c0 =>
    cases c0 with
    | lst ds => simp only [h0]; cases ds.all isI && decide (i ∈ ds.map intD) <;> rfl
    | _ => simp only [h0]
theorem remC_l : remC k i M (some (.lst ds)) = bif ds.all isI && decide (i ∈ ds.map intD) then .ok (.s (.val .non)) (ptM M k (.lst (((ds.map intD).erase i).map D.int))) else .bad := rfl
def g1 (M : List C) : Option D → Ev Z
  | some x => .ok (.s (.val x)) M
  | none => .ok (.s (.val .non)) M
def g2 (M : List C) (z : D) : Option D → Ev Z
  | some x => .ok (.s (.val x)) M
  | none => .ok (.s (.val z)) M
theorem mt_g1di : mtX .get1 (.val (.dic ks vs)) [.val (.int i)] M = g1 M (getK (ks.zip vs) (.inl i)) := by
  unfold mtX mtE g1
  simp only [dq_d, keyD]
  cases getK (ks.zip vs) (.inl i : Key) <;> rfl
theorem mt_g2di : mtX .get2 (.val (.dic ks vs)) [.val (.int i), .val d] M = g2 M d (getK (ks.zip vs) (.inl i)) := by
  unfold mtX mtE g2
  simp only [dq_d, keyD]
  cases getK (ks.zip vs) (.inl i : Key) <;> rfl
def g1Ci (M : List C) (q : Int) : Option C → Ev Z
  | some (.dic kvs) => g1 M (getK kvs (.inl q))
  | _ => .bad
def g2Ci (M : List C) (z : D) (q : Int) : Option C → Ev Z
  | some (.dic kvs) => g2 M z (getK kvs (.inl q))
  | _ => .bad
theorem mt_g1oi : mtX .get1 (.own k) [.val (.int i)] M = g1Ci M i (lkM M k) := by
  unfold mtX mtE g1Ci g1
  simp only [dq_o]
  cases h0 : lkM M k with
  | none => simp only [h0, dqC]
  | some c0 =>
    cases c0 with
    | dic kvs =>
      simp only [h0, dqC_d, keyD]
      cases getK kvs (.inl i : Key) <;> rfl
    | _ => simp only [h0, dqC]
theorem mt_g2oi : mtX .get2 (.own k) [.val (.int i), .val d] M = g2Ci M d i (lkM M k) := by
  unfold mtX mtE g2Ci g2
  simp only [dq_o]
  cases h0 : lkM M k with
  | none => simp only [h0, dqC]
  | some c0 =>
    cases c0 with
    | dic kvs =>
      simp only [h0, dqC_d, keyD]
      cases getK kvs (.inl i : Key) <;> rfl
    | _ => simp only [h0, dqC]
theorem g1Ci_d : g1Ci M i (some (.dic kvs)) = g1 M (getK kvs (.inl i)) := rfl
theorem g2Ci_d : g2Ci M d i (some (.dic kvs)) = g2 M d (getK kvs (.inl i)) := rfl
theorem mt_g1ds : mtX .get1 (.val (.dic ks vs)) [.val (.str x)] M = g1 M (getK (ks.zip vs) (.inr x)) := by
  unfold mtX mtE g1
  simp only [dq_d, keyD]
  cases getK (ks.zip vs) (.inr x : Key) <;> rfl
theorem mt_g2ds : mtX .get2 (.val (.dic ks vs)) [.val (.str x), .val d] M = g2 M d (getK (ks.zip vs) (.inr x)) := by
  unfold mtX mtE g2
  simp only [dq_d, keyD]
  cases getK (ks.zip vs) (.inr x : Key) <;> rfl
def g1Cs (M : List C) (q : Str) : Option C → Ev Z
  | some (.dic kvs) => g1 M (getK kvs (.inr q))
  | _ => .bad
def g2Cs (M : List C) (z : D) (q : Str) : Option C → Ev Z
  | some (.dic kvs) => g2 M z (getK kvs (.inr q))
  | _ => .bad
theorem mt_g1os : mtX .get1 (.own k) [.val (.str x)] M = g1Cs M x (lkM M k) := by
  unfold mtX mtE g1Cs g1
  simp only [dq_o]
  cases h0 : lkM M k with
  | none => simp only [h0, dqC]
  | some c0 =>
    cases c0 with
    | dic kvs =>
      simp only [h0, dqC_d, keyD]
      cases getK kvs (.inr x : Key) <;> rfl
    | _ => simp only [h0, dqC]
theorem mt_g2os : mtX .get2 (.own k) [.val (.str x), .val d] M = g2Cs M d x (lkM M k) := by
  unfold mtX mtE g2Cs g2
  simp only [dq_o]
  cases h0 : lkM M k with
  | none => simp only [h0, dqC]
  | some c0 =>
    cases c0 with
    | dic kvs =>
      simp only [h0, dqC_d, keyD]
      cases getK kvs (.inr x : Key) <;> rfl
    | _ => simp only [h0, dqC]
theorem g1Cs_d : g1Cs M x (some (.dic kvs)) = g1 M (getK kvs (.inr x)) := rfl
theorem g2Cs_d : g2Cs M d x (some (.dic kvs)) = g2 M d (getK kvs (.inr x)) := rfl
theorem g1_s : g1 M (some d) = .ok (.s (.val d)) M := rfl
theorem g1_n : g1 M none = .ok (.s (.val .non)) M := rfl
theorem g2_s : g2 M e (some d) = .ok (.s (.val d)) M := rfl
theorem g2_n : g2 M e none = .ok (.s (.val e)) M := rfl
end
end Dl
/-! Z3: == of data -/
namespace Dl
open PySem L2
theorem eqv_l {a b : List PyData} : PyData.eqv (.list a) (.list b) = PyData.eqvAll a b := by rw [PyData.eqv]
theorem eqv_t {a b : List PyData} : PyData.eqv (.tuple a) (.tuple b) = PyData.eqvAll a b := by rw [PyData.eqv]
theorem eqv_i {a b : Int} : PyData.eqv (.int a) (.int b) = decide (a = b) := by
  rw [PyData.eqv]
  by_cases h : a = b
  · subst h; simp
  · simp [h]
theorem eqva_nil : PyData.eqvAll [] [] = true := by rw [PyData.eqvAll]
theorem eqva_cons {a b : PyData} {as bs : List PyData} : PyData.eqvAll (a :: as) (b :: bs) = (PyData.eqv a b && PyData.eqvAll as bs) := by rw [PyData.eqvAll]
theorem eqva_nc {b : PyData} {bs : List PyData} : PyData.eqvAll [] (b :: bs) = false := by simp [PyData.eqvAll]
theorem eqva_cn {b : PyData} {bs : List PyData} : PyData.eqvAll (b :: bs) [] = false := by simp [PyData.eqvAll]
mutual
/-- data without truth values in it -/
def nb : D → Bool
  | .non => true
  | .bl _ => false
  | .int _ => true
  | .str _ => true
  | .lst xs => nbs xs
  | .tup xs => nbs xs
  | _ => false
def nbs : List D → Bool
  | [] => true
  | x :: xs => nb x && nbs xs
end
theorem nbs_all : ∀ {xs : List D}, (∀ x ∈ xs, nb x = true) → nbs xs = true
  | [], _ => rfl
  | x :: xs, h => by rw [nbs, h x List.mem_cons_self, nbs_all fun y hy => h y (List.mem_cons_of_mem _ hy)]; rfl
theorem nbs_ints (a : List Int) : nbs (a.map D.int) = true := nbs_all fun x hx => by
  obtain ⟨i, _, rfl⟩ := List.mem_map.mp hx
  rfl
mutual
theorem eqv_nb : ∀ {d e : D}, nb d = true → nb e = true → (PyData.eqv (toPy d) (toPy e) = true ↔ d = e)
  | .non, e, _, he => by cases e <;> first | (cases he; done) | simp [toPy, PyData.eqv]
  | .int i, e, _, he => by cases e <;> first | (cases he; done) | simp [toPy, PyData.eqv]
  | .str i, e, _, he => by cases e <;> first | (cases he; done) | simp [toPy, PyData.eqv]
  | .lst xs, e, hd, he => by
    cases e with
    | lst ys => rw [toPy, toPy, eqv_l, eqva_nb hd he]; simp
    | tup ys => simp [toPy, PyData.eqv]
    | _ => first | (cases he; done) | simp [toPy, PyData.eqv]
  | .tup xs, e, hd, he => by
    cases e with
    | tup ys => rw [toPy, toPy, eqv_t, eqva_nb hd he]; simp
    | lst ys => simp [toPy, PyData.eqv]
    | _ => first | (cases he; done) | simp [toPy, PyData.eqv]
  | .bl _, _, h, _ => by cases h
  | .dic _ _, _, h, _ => by cases h
  | .slo _ _, _, h, _ => by cases h
  | .obj _ _, _, h, _ => by cases h
  | .scr _, _, h, _ => by cases h
theorem eqva_nb : ∀ {d e : List D}, nbs d = true → nbs e = true → (PyData.eqvAll (toPys d) (toPys e) = true ↔ d = e)
  | [], [], _, _ => by simp [toPys, PyData.eqvAll]
  | [], _ :: _, _, _ => by simp [toPys, PyData.eqvAll]
  | _ :: _, [], _, _ => by simp [toPys, PyData.eqvAll]
  | x :: xs, y :: ys, h, h' => by
    rw [nbs, Bool.and_eq_true] at h h'
    rw [toPys, toPys, eqva_cons, Bool.and_eq_true, eqv_nb h.1 h'.1, eqva_nb h.2 h'.2, List.cons.injEq]
end
theorem eqD_nb {d e : D} (h : nb d = true) (h' : nb e = true) : eqD d e = true ↔ d = e := eqv_nb h h'
theorem ints_inj {a b : List Int} (h : a.map D.int = b.map D.int) : a = b := by
  have := congrArg (List.map intD) h
  rwa [map_intD, map_intD] at this
theorem nb_li (a : List Int) : nb (.lst (a.map D.int)) = true := nbs_ints a
theorem nb_ti (a : List Int) : nb (.tup (a.map D.int)) = true := nbs_ints a
theorem eqD_ints (a b : List Int) : eqD (.lst (a.map D.int)) (.lst (b.map D.int)) = decide (a = b) := by
  rw [Bool.eq_iff_iff, eqD_nb (nb_li a) (nb_li b), decide_eq_true_iff]
  exact ⟨fun h => ints_inj (D.lst.inj h), fun h => by rw [h]⟩
theorem eqD_tints (a b : List Int) : eqD (.tup (a.map D.int)) (.tup (b.map D.int)) = decide (a = b) := by
  rw [Bool.eq_iff_iff, eqD_nb (nb_ti a) (nb_ti b), decide_eq_true_iff]
  exact ⟨fun h => ints_inj (D.tup.inj h), fun h => by rw [h]⟩
theorem eqD_self {d : D} (h : nb d = true) : eqD d d = true := (eqD_nb h h).mpr rfl
end Dl
/-! S1: the laws' own helpers: box, take, of -/
namespace Dl
open PySem L2
local macro_rules | `(tactic| simp? [$as,*]) => `(tactic| simp -implicitDefEqProofs only [bif_t, bif_f, Option.isSome_none, Option.isSome_some, List.length_map, List.length_range, rng_len, all_atom, inD_int, all_isI, map_intD, run_ok, runI_ok, rhoN, kFin_nx, kFin_rt, finZ_v, finZ_l, finZ_d, finZ_o, finO_l, finO_d, finO_s, finO_i, kInit_nx, es_nil, es_cons, seqE_nx, seqE_rt, seqE_bk, seqE_ct, s_asg, kAsg_ok, s_par, kPar_ok, s_tgt, kTgt_ok, kNx_ok, s_setix, kSx1_ok, kSx2_ok, kSx3_ok, setX, setE, s_setfld, kSf1_ok, kSf2_ok, setFX, setfM, slOk, putSl, s_aug, kAug1_ok, s_ite, kIte_ok, s_for, kFor_ok, s_while, s_ret, kRet_ok, s_ex, kEx_ok, s_pass, s_bad, ev_v, ev_k, ev_g, ev_bin, kBin1_ok, kBin2_ok, ev_neg, kNeg_ok, kB_ok, ev_cmp, kCmp1_ok, kCmp2_ok, ev_cmp2, kCC1_ok, kCC2_ok, kCC3_ok, ev_not, kNot_ok, ev_and, kAnd_ok, ev_or, kOr_ok, ev_ife, kIfe_ok, ev_tup, kTup0, kTup1, kTup2, kTup3, kTup4, kTup5, kTup6, kTup7, kTup8, ev_lst, kLst0, kLst1, kLst2, kLst3, kLst4, kLst5, kLst6, kLst7, kLst8, ev_dct, kDct0, kDct1i, ev_orl, kOrl_c, kOrl_n, ev_ix, kIx1_ok, kIx2_ok, kS_ok, ev_cut, kCut1_ok, kCut2_ok, kCut3_ok, cutE_l, cutE_t, cutE_s, cutE_o, ev_rev, kRev_l, kRev_o, ev_fld, ev_bi, kBi_ok, ev_isi, kIsi_l, kIsi_t, kIsi_i, kIsi_b, kIsi_s, kIsi_n, kIsi_d, ev_lenO, ev_call, kCall_ok, ev_callk, kCallk_ok, lk0, ev_meth, kMeth1_f, kMeth1_b, kMeth2_ok, ev_make, kMake1, kMake2, kMake3, kMake4, kMake5, ev_mt, kMt1_ok, kMt2_ok, mtOk, Mth.isL, ev_lc, kLc_ok, ev_dc, kDc_ok, ev_own, kOwn_ok, ev_lend, kLend_b, kLend_i, lendS, frz2, vws, ev_scope, et_not, kNg_ok, et_and, kTA_ok, et_or, kTO_ok, et_cmp, et_e, kT_ok, ea_nil, ea_cons, kA1_ok, kA2_ok, ea_star, kSt2_ok, eo_n, eo_s, kO_ok, ei_e, kI_l, kI_t, kI_o, ei_r1, kR1_ok, ei_r2, kR2b_ok, kR2a_ok, ei_rd, kRda_ok, ei_en, kEn_l, ei_zp, kZpa_ok, kZpb_l, kZpb_t, eg_last, eg_cons, lcB2_ok, lcB1_ok, lcC2_ok, lcC1_ok, kElt_ok, els_n, els_o, ed_dlast, dcB3_i, dcB3_s, dcB2b_ok, dcB2_ok, dcB1_ok, doCall_some, kAt, kBack_ok, inKs, refsL_eq, refsL, reach_eq, clo_nil, clo_cons, scat_nil, scat, backM, bk, selM, okSel, nodupB, chosB, restC, rest1, refsAt, memN, plc, Zmp_v, Zmp_o, Zmp_l, Zmp_d, Smp_v, Smp_o, Smp_u, Cmp_l, Cmp_d, Cmp_m, Cmp_i, Cmp_s, Cmp_x, Cmp_o, restC_nil, kMkO_ok, trim_val, trim_un, trim_own, trimE_ok, isK0_lis, isK0_tup, isK0_int, isK0_boo, isK0_str, isK0_Non, isK0_dic, isK1_lis, isK1_tup, isK1_int, isK1_boo, isK1_str, isK1_Non, isK1_dic, isK2_lis, isK2_tup, isK2_int, isK2_boo, isK2_str, isK2_Non, isK2_dic, isK3_lis, isK3_tup, isK3_int, isK3_boo, isK3_str, isK3_Non, isK3_dic, isK4_lis, isK4_tup, isK4_int, isK4_boo, isK4_str, isK4_Non, isK4_dic, isK5_lis, isK5_tup, isK5_int, isK5_boo, isK5_str, isK5_Non, isK5_dic, isK6_lis, isK6_tup, isK6_int, isK6_boo, isK6_str, isK6_Non, isK6_dic, isK7_lis, isK7_tup, isK7_int, isK7_boo, isK7_str, isK7_Non, isK7_dic, sq_l, sq_t, sq_o, sqC_l, sq_i, sq_n, sq_b, sq_str, sq_d, sq_c, dq_d, dq_o, dqC_d, vw_v, vw_o, vwC_l, vwC_d, ixO_s, ix_l, ix_t, ix_oi, ix_os, ixC_l, ixC_d, ixC_ds, ixC_m, ixC_ms, ixC_x, ix_di, ix_ds, eq_i, eq_b, eq_str, eq_l, eq_t, eq_n, eqO_s, eq_o, eq_lo, eq_to, eq_in, in_l, in_t, in_oi, in_os, inC_l, inC_di, inC_ds, in_di, in_ds, len_l, len_t, len_o, lenC_l, lenC_d, len_d, len_c, abs_i, int_i, int_b, tuple_o, tuple_l, tupleC_l, tuple_t, tupleC_t, all_o, all_l, allC_l, any_o, any_l, anyC_l, sum_o, sum_l, sumC_l, max_o, max_l, maxC_l, min_o, min_l, minC_l, sset_o, sset_l, ssetC_l, sset_t, ssetC_t, max_ii, min_ii, list_l, list_t, list_o, listC_l, listC_d, list_d, sorted_l, sorted_d, sorted_o, sortedC_l, sortedC_d, lrange1, lrange2, div1m, div64, div2, pow18, pow6, add_i, addX_l, addX_t, add_l, add_t, add_o, sub_i, mul_i, mul_l, div_i, mod_i, pow_i, clt, cle, cgt, cge, c_eq, c_ne, c_in, c_ni, ngO_s, c_is, c_isn, c_iso, c_isno, non_n, non_i, non_b, non_s, non_l, non_t, non_d, fX_s, kFld_f, kFld_b, fY_v, fY_o, kFld_o, fC_s, fD_x, fC_i, atom_i, atom_b, atom_s, atom_n, isI_i, intD_i, isB_b, blD_b, all_isIf, map_intDf, all_isBf, all_blDf, any_blDf, all_tt, mt_app, apC_l, mt_ext, exC_l, mt_pop, mt_rem, remC_l, mt_g1di, mt_g2di, mt_g1oi, mt_g2oi, g1Ci_d, g2Ci_d, mt_g1ds, mt_g2ds, mt_g1os, mt_g2os, g1Cs_d, g2Cs_d, g1_s, g1_n, g2_s, g2_n, kTurn_nx, kTurn_ct, kOk_ok, keepB_nil, forB, forB1_ok, lcB, lcC, dcB, vz_s, vz_l, vz_d, opt_some, gd_t, lk, pt, pts, lkA, lkM, ptM, clr, List.map, List.length, List.replicate, List.append_nil, List.nil_append, List.cons_append, List.append_assoc, List.drop, Nat.beq, Nat.ble, Nat.blt, Nat.reduceAdd, Nat.reduceSub, Nat.zero_add, Nat.add_zero, Nat.sub_zero, keyD, bindE, C.frz, okTake, closedB, List.take, List.all, C.refs, Sl.isNon, Bool.and_true, Bool.true_and, Bool.and_false, Bool.false_and, Bool.or_false, Bool.or_true, Bool.true_or, Bool.false_or, Bool.not_true, Bool.not_false, decide_true, decide_false, Int.reduceLT, Int.reduceLE, Int.reduceAdd, Int.reduceSub, Int.reduceMul, Int.reduceNeg, Int.reduceEq, Int.reduceToNat, Nat.reduceLT, Nat.reduceLeDiff, Nat.reduceMul, Nat.reduceEqDiff, and_self, and_true, true_and, List.set_cons_zero, List.set_cons_succ, $as,*])
theorem par_at {g : Gr} {i : Int} (h0 : 0 ≤ i) (h1 : i < g.length) : atI (g.map fun r => D.tup (r.2.map D.int)) i = some (.tup ((gpar g i).map D.int)) := by
  rw [atI_map (z := (0, [])) h0 h1]; rfl
theorem Graph_parents_ev {g : Gr} {c : Int} (h0 : 0 ≤ c) (h1 : c < g.length) : f_Graph_parents [.val (grO g), .val (.int c)] [] = .ok (.s (.val (.tup ((gpar g c).map .int)))) [] := by
  simp? [f_Graph_parents, c_Graph_parents, grO, par_at h0 h1]
/-! ### the box -/
structure Bx where
  a : Int
  b : Int
  n : Int
def boxD (s : Bx) : List D := [.int s.a, .int s.b, .int s.n]
structure Bok (s : Bx) (n : Int) : Prop where
  a : 0 ≤ s.a
  n0 : 0 ≤ s.n
  n1 : s.n ≤ n
theorem Bok.up {s : Bx} {n m : Int} (h : Bok s n) (hn : n ≤ m) : Bok s m := ⟨h.a, h.n0, Int.le_trans h.n1 hn⟩
theorem at0 {α : Type} {x : α} {xs : List α} : atI (x :: xs) 0 = some x := atI_of (by decide) rfl
theorem at1 {α : Type} {x y : α} {xs : List α} : atI (x :: y :: xs) 1 = some y := atI_of (by decide) rfl
theorem at2 {α : Type} {x y z : α} {xs : List α} : atI (x :: y :: z :: xs) 2 = some z := atI_of (by decide) rfl
theorem ix30 : ixN 3 0 = some 0 := ixN_of (by decide) (by decide)
theorem ix32 : ixN 3 2 = some 2 := ixN_of (by decide) (by decide)
theorem mulL {i j : Int} (h : -18446744073709551616 < i ∧ i < 18446744073709551616) : mulB i j = true := by unfold mulB; rw [decide_eq_true h]; rfl
theorem mulR {i j : Int} (h : -18446744073709551616 < j ∧ j < 18446744073709551616) : mulB i j = true := by unfold mulB; rw [decide_eq_true h, Bool.or_true]
def onceV (b n : Int) : Int := ((b + 48271 * n) * (39373 + n)) % 2147483647
def mixV (b n : Int) : Int := ((onceV b n + n + b / 1000003) * (onceV b n % 40009 + 7) % 2147483629 * 48271 + onceV b n) % 2147483587 / 64
theorem take_ev {s : Bx} {n m : Int} (b : Bok s m) (hm : m ≤ 1000000000) (h1 : 0 < n) (h2 : n < 1000000) : ∃ r s', f__law_take [.own 0, .val (.int n)] [.lst (boxD s)] = .ok (.s (.val (.int r))) [.lst (boxD s')] ∧ 0 ≤ r ∧ r < n ∧ Bok s' (m + 1) := by
  obtain ⟨ba, bn0, bn1⟩ := b
  have g0 : decide (0 < n) = true := decide_eq_true h1
  have g1 : divB n = true := divB_t ⟨h1, by omega⟩
  by_cases hp : 0 < s.a
  · refine ⟨s.a % n, ⟨s.a / n, s.b, s.n⟩, ?_, Int.emod_nonneg _ (by omega), Int.emod_lt_of_pos _ h1, ⟨Int.ediv_nonneg ba (by omega), bn0, by show s.n ≤ m + 1; omega⟩⟩
    simp? [f__law_take, c__law_take, boxD, at0, at1, at2, hp, g0, g1, ix30]
  · refine ⟨mixV s.b (s.n + 1) % n, ⟨s.a, s.b, s.n + 1⟩, ?_, Int.emod_nonneg _ (by omega), Int.emod_lt_of_pos _ h1, ⟨ba, by show 0 ≤ s.n + 1; omega, by show s.n + 1 ≤ m + 1; omega⟩⟩
    have m1 : ∀ j, mulB 48271 j = true := fun j => mulL (by decide)
    have m2 : ∀ j, mulB j 48271 = true := fun j => mulR (by decide)
    have m3 : ∀ j, mulB j (39373 + (s.n + 1)) = true := fun j => mulR (by omega)
    have m4 : ∀ i j : Int, mulB j (i % 40009 + 7) = true := fun i j => mulR (by omega)
    have d1 : ∀ {p : Prop} [Decidable p], p → decide p = true := fun h => decide_eq_true h
    simp? [f__law_take, c__law_take, boxD, at0, at1, at2, hp, g0, g1, ix32, m1, m2, m3, m4]
    rfl
theorem of_ev {s : Bx} {m : Int} {x : D} {xs : List D} (b : Bok s m) (hm : m ≤ 1000000000) (hx : IsSeq x xs) (h1 : 0 < xs.length) (h2 : xs.length < 1000000) : ∃ d s', f__law_of [.own 0, .val x] [.lst (boxD s)] = .ok (.s (.val d)) [.lst (boxD s')] ∧ d ∈ xs ∧ Bok s' (m + 1) := by
  obtain ⟨r, s', e, r0, r1, b'⟩ := take_ev (n := xs.length) b hm (by omega) (by omega)
  refine ⟨xs.getD r.toNat .non, s', ?_, List.mem_of_getElem? (getD_some r0 r1), b'⟩
  rcases hx with rfl | rfl <;> simp? [f__law_of, c__law_of, e, atI_getD (z := D.non) r0 r1]
/-! ### the box and the cells of a script -/
def absI (i : Int) : Int := if i < 0 then -i else i
theorem absI_nn (i : Int) : 0 ≤ absI i := by unfold absI; split <;> omega
theorem box_ev {ns : List Int} {k : Int} (h0 : 0 ≤ k) (h1 : k < ns.length) (h2 : k ≤ 100) : ∃ s, f__law_box [.val (.lst (ns.map D.int)), .val (.int k)] [] = .ok (.n (.lst (boxD s))) [] ∧ Bok s 0 := by
  have e0 : decide (k < (ns.length : Int)) = true := decide_eq_true h1
  have e1 := atI_map (f := D.int) (z := 0) h0 h1
  generalize ns.getD k.toNat 0 = x at e1
  have m1 : mulB 39373 k = true := mulL (by decide)
  have m2 : ∀ (i : Int) (b : Bool), mulB i (if b = true then 1 else 0) = true := fun i b => mulR (by cases b <;> decide)
  refine ⟨⟨absI x * (if decide ((10 : Int) ^ (18 : Int).toNat ≤ absI x) = true then 1 else 0), x % 2305843009213693951 + 39373 * k + 197, 0⟩, ?_, ⟨Int.mul_nonneg (absI_nn x) (by split <;> omega), Int.le_refl 0, Int.le_refl 0⟩⟩
  simp? [f__law_box, c__law_box, e0, e1, m1, m2]
  rfl
theorem cut_lo (m : Nat) {α : Type} (ns : List α) : cutL ns none (some (m : Int)) = ns.take m := by
  show (ns.drop 0).take (min m ns.length - 0) = ns.take m
  rw [List.drop_zero, Nat.sub_zero]
  by_cases h : m ≤ ns.length
  · rw [Nat.min_eq_left h]
  · rw [Nat.min_eq_right (by omega), List.take_of_length_le (by omega), List.take_of_length_le (by omega)]
theorem cut_hi_len (m : Nat) (ns : List Int) : (cutL ns (some (m : Int)) (some 63)).length ≤ 63 ∧ (0 < (cutL ns (some (m : Int)) (some 63)).length → m < ns.length) := by
  have e : (cutL ns (some (m : Int)) (some 63)).length = min (min 63 ns.length - min m ns.length) (ns.length - min m ns.length) := by
    show ((ns.drop (min m ns.length)).take (min 63 ns.length - min m ns.length)).length = _
    rw [List.length_take, List.length_drop]
  rw [e]; omega
theorem cells_ev {m : Nat} (m0 : 0 < m) (m1 : m < 1000) (ns : List Int) : ∃ cs : List Int, f__law_cells [.val (.scr ns), .val (.int m)] [] = .ok (.n (.lst (cs.map D.int))) [] ∧ 0 < cs.length ∧ cs.length ≤ m := by
  obtain ⟨c0, e0, l0, l1, l2⟩ : ∃ c0 : List Int, (∀ ρ, kOrl [] (.lst (.cons (.k (.int 0)) .nil)) ρ (.ok (.n (.lst ((cutL ns none (some (m : Int))).map D.int))) []) = .ok (.n (.lst (c0.map D.int))) []) ∧ 0 < c0.length ∧ c0.length ≤ m ∧ (m < ns.length → c0.length = m) := by
    rw [cut_lo]
    cases e : ns.take m with
    | nil =>
      have := congrArg List.length e
      rw [List.length_take, List.length_nil] at this
      exact ⟨[0], fun ρ => by simp? [], by simp, by simp; omega, fun h => by omega⟩
    | cons x xs =>
      have := congrArg List.length e
      rw [List.length_take, List.length_cons] at this
      exact ⟨x :: xs, fun ρ => by simp? [], by simp, by simp; omega, fun h => by simp; omega⟩
  have hl := cut_hi_len m ns
  simp? [f__law_cells, c__law_cells, e0]
  generalize hF : forE _ _ _ _ _ _ = F
  refine Exists.elim (for_gen hF (fun _ => [.val (.scr ns), .val (.int m), .own 0, .un, .un, .un]) (fun t => [.lst (t.map D.int)]) (fun _ t => t.length = c0.length) c0 rfl rfl rfl fun i x t hx ht => ?_) fun t ⟨ht, hE⟩ => ?_
  · have hx1 : x = i ∧ i < (cutL ns (some (m : Int)) (some 63)).length := by
      have := (List.getElem?_eq_some_iff.mp hx)
      obtain ⟨q1, q2⟩ := this
      rw [List.getElem_range] at q2
      rw [List.length_range] at q1
      exact ⟨q2.symm, q1⟩
    obtain ⟨rfl, hx2⟩ := hx1
    have htm : t.length = m := by rw [ht]; exact l2 (hl.2 (by omega))
    have ey : ((cutL ns (some (m : Int)) (some 63)).map D.int).getD x .non = .int ((cutL ns (some (m : Int)) (some 63)).getD x 0) := by
      rw [List.getD_eq_getElem?_getD, List.getD_eq_getElem?_getD, List.getElem?_map, List.getElem?_eq_getElem hx2]; rfl
    generalize (cutL ns (some (m : Int)) (some 63)).getD x 0 = y at ey
    have hm : x % m < t.length := by rw [htm]; exact Nat.mod_lt _ m0
    have em : (x : Int) % (m : Int) = ((x % m : Nat) : Int) := (Int.natCast_emod x m).symm
    have g0 : decide (0 < (m : Int)) = true := decide_eq_true (by omega)
    have ea := atI_map (f := D.int) (z := 0) (xs := t) (i := ((x % m : Nat) : Int)) (by omega) (by omega)
    have en := ixN_of (n := t.length) (i := ((x % m : Nat) : Int)) (by omega) (by omega)
    have mm : ∀ j, mulB j ((x : Int) + 2) = true := fun j => mulR (by omega)
    rw [Int.toNat_natCast] at ea en
    refine ⟨t.set (x % m) (t.getD (x % m) 0 + y * ((x : Int) + 2)), ?_, by rw [List.length_set]; exact ht⟩
    simp? [ey, em, g0, ea, mm, en, List.map_set]
  · subst hE
    refine ⟨t, ?_, by omega, by omega⟩
    simp? []
end Dl
/-! S2: lists, same, tupled -/
namespace Dl
open PySem L2
local macro_rules | `(tactic| simp? [$as,*]) => `(tactic| simp -implicitDefEqProofs only [bif_t, bif_f, Option.isSome_none, Option.isSome_some, List.length_map, List.length_range, rng_len, all_atom, inD_int, all_isI, map_intD, run_ok, runI_ok, rhoN, kFin_nx, kFin_rt, finZ_v, finZ_l, finZ_d, finZ_o, finO_l, finO_d, finO_s, finO_i, kInit_nx, es_nil, es_cons, seqE_nx, seqE_rt, seqE_bk, seqE_ct, s_asg, kAsg_ok, s_par, kPar_ok, s_tgt, kTgt_ok, kNx_ok, s_setix, kSx1_ok, kSx2_ok, kSx3_ok, setX, setE, s_setfld, kSf1_ok, kSf2_ok, setFX, setfM, slOk, putSl, s_aug, kAug1_ok, s_ite, kIte_ok, s_for, kFor_ok, s_while, s_ret, kRet_ok, s_ex, kEx_ok, s_pass, s_bad, ev_v, ev_k, ev_g, ev_bin, kBin1_ok, kBin2_ok, ev_neg, kNeg_ok, kB_ok, ev_cmp, kCmp1_ok, kCmp2_ok, ev_cmp2, kCC1_ok, kCC2_ok, kCC3_ok, ev_not, kNot_ok, ev_and, kAnd_ok, ev_or, kOr_ok, ev_ife, kIfe_ok, ev_tup, kTup0, kTup1, kTup2, kTup3, kTup4, kTup5, kTup6, kTup7, kTup8, ev_lst, kLst0, kLst1, kLst2, kLst3, kLst4, kLst5, kLst6, kLst7, kLst8, ev_dct, kDct0, kDct1i, ev_orl, kOrl_c, kOrl_n, ev_ix, kIx1_ok, kIx2_ok, kS_ok, ev_cut, kCut1_ok, kCut2_ok, kCut3_ok, cutE_l, cutE_t, cutE_s, cutE_o, ev_rev, kRev_l, kRev_o, ev_fld, ev_bi, kBi_ok, ev_isi, kIsi_l, kIsi_t, kIsi_i, kIsi_b, kIsi_s, kIsi_n, kIsi_d, ev_lenO, ev_call, kCall_ok, ev_callk, kCallk_ok, lk0, ev_meth, kMeth1_f, kMeth1_b, kMeth2_ok, ev_make, kMake1, kMake2, kMake3, kMake4, kMake5, ev_mt, kMt1_ok, kMt2_ok, mtOk, Mth.isL, ev_lc, kLc_ok, ev_dc, kDc_ok, ev_own, kOwn_ok, ev_lend, kLend_b, kLend_i, lendS, frz2, vws, ev_scope, et_not, kNg_ok, et_and, kTA_ok, et_or, kTO_ok, et_cmp, et_e, kT_ok, ea_nil, ea_cons, kA1_ok, kA2_ok, ea_star, kSt2_ok, eo_n, eo_s, kO_ok, ei_e, kI_l, kI_t, kI_o, ei_r1, kR1_ok, ei_r2, kR2b_ok, kR2a_ok, ei_rd, kRda_ok, ei_en, kEn_l, ei_zp, kZpa_ok, kZpb_l, kZpb_t, eg_last, eg_cons, lcB2_ok, lcB1_ok, lcC2_ok, lcC1_ok, kElt_ok, els_n, els_o, ed_dlast, dcB3_i, dcB3_s, dcB2b_ok, dcB2_ok, dcB1_ok, doCall_some, kAt, kBack_ok, inKs, refsL_eq, refsL, reach_eq, clo_nil, clo_cons, scat_nil, scat, backM, bk, selM, okSel, nodupB, chosB, restC, rest1, refsAt, memN, plc, Zmp_v, Zmp_o, Zmp_l, Zmp_d, Smp_v, Smp_o, Smp_u, Cmp_l, Cmp_d, Cmp_m, Cmp_i, Cmp_s, Cmp_x, Cmp_o, restC_nil, kMkO_ok, trim_val, trim_un, trim_own, trimE_ok, isK0_lis, isK0_tup, isK0_int, isK0_boo, isK0_str, isK0_Non, isK0_dic, isK1_lis, isK1_tup, isK1_int, isK1_boo, isK1_str, isK1_Non, isK1_dic, isK2_lis, isK2_tup, isK2_int, isK2_boo, isK2_str, isK2_Non, isK2_dic, isK3_lis, isK3_tup, isK3_int, isK3_boo, isK3_str, isK3_Non, isK3_dic, isK4_lis, isK4_tup, isK4_int, isK4_boo, isK4_str, isK4_Non, isK4_dic, isK5_lis, isK5_tup, isK5_int, isK5_boo, isK5_str, isK5_Non, isK5_dic, isK6_lis, isK6_tup, isK6_int, isK6_boo, isK6_str, isK6_Non, isK6_dic, isK7_lis, isK7_tup, isK7_int, isK7_boo, isK7_str, isK7_Non, isK7_dic, sq_l, sq_t, sq_o, sqC_l, sq_i, sq_n, sq_b, sq_str, sq_d, sq_c, dq_d, dq_o, dqC_d, vw_v, vw_o, vwC_l, vwC_d, ixO_s, ix_l, ix_t, ix_oi, ix_os, ixC_l, ixC_d, ixC_ds, ixC_m, ixC_ms, ixC_x, ix_di, ix_ds, eq_i, eq_b, eq_str, eq_l, eq_t, eq_n, eqO_s, eq_o, eq_lo, eq_to, eq_in, in_l, in_t, in_oi, in_os, inC_l, inC_di, inC_ds, in_di, in_ds, len_l, len_t, len_o, lenC_l, lenC_d, len_d, len_c, abs_i, int_i, int_b, tuple_o, tuple_l, tupleC_l, tuple_t, tupleC_t, all_o, all_l, allC_l, any_o, any_l, anyC_l, sum_o, sum_l, sumC_l, max_o, max_l, maxC_l, min_o, min_l, minC_l, sset_o, sset_l, ssetC_l, sset_t, ssetC_t, max_ii, min_ii, list_l, list_t, list_o, listC_l, listC_d, list_d, sorted_l, sorted_d, sorted_o, sortedC_l, sortedC_d, lrange1, lrange2, div1m, div64, div2, pow18, pow6, add_i, addX_l, addX_t, add_l, add_t, add_o, sub_i, mul_i, mul_l, div_i, mod_i, pow_i, clt, cle, cgt, cge, c_eq, c_ne, c_in, c_ni, ngO_s, c_is, c_isn, c_iso, c_isno, non_n, non_i, non_b, non_s, non_l, non_t, non_d, fX_s, kFld_f, kFld_b, fY_v, fY_o, kFld_o, fC_s, fD_x, fC_i, atom_i, atom_b, atom_s, atom_n, isI_i, intD_i, isB_b, blD_b, all_isIf, map_intDf, all_isBf, all_blDf, any_blDf, all_tt, mt_app, apC_l, mt_ext, exC_l, mt_pop, mt_rem, remC_l, mt_g1di, mt_g2di, mt_g1oi, mt_g2oi, g1Ci_d, g2Ci_d, mt_g1ds, mt_g2ds, mt_g1os, mt_g2os, g1Cs_d, g2Cs_d, g1_s, g1_n, g2_s, g2_n, kTurn_nx, kTurn_ct, kOk_ok, keepB_nil, forB, forB1_ok, lcB, lcC, dcB, vz_s, vz_l, vz_d, opt_some, gd_t, lk, pt, pts, lkA, lkM, ptM, clr, List.map, List.length, List.replicate, List.append_nil, List.nil_append, List.cons_append, List.append_assoc, List.drop, Nat.beq, Nat.ble, Nat.blt, Nat.reduceAdd, Nat.reduceSub, Nat.zero_add, Nat.add_zero, Nat.sub_zero, keyD, bindE, C.frz, okTake, closedB, List.take, List.all, C.refs, Sl.isNon, Bool.and_true, Bool.true_and, Bool.and_false, Bool.false_and, Bool.or_false, Bool.or_true, Bool.true_or, Bool.false_or, Bool.not_true, Bool.not_false, decide_true, decide_false, Int.reduceLT, Int.reduceLE, Int.reduceAdd, Int.reduceSub, Int.reduceMul, Int.reduceNeg, Int.reduceEq, Int.reduceToNat, Nat.reduceLT, Nat.reduceLeDiff, Nat.reduceMul, Nat.reduceEqDiff, and_self, and_true, true_and, List.set_cons_zero, List.set_cons_succ, $as,*])
theorem plains_all {n : Nat} : ∀ {xs : List D}, plains n xs = true → ∀ x ∈ xs, plain n x = true
  | [], _, _, h => nomatch h
  | y :: ys, h, x, hx => by
    unfold plains at h
    have h := Bool.and_eq_true_iff.mp h
    rcases List.mem_cons.mp hx with rfl | hx
    · exact h.1
    · exact plains_all h.2 x hx
theorem plains_of {n : Nat} : ∀ {xs : List D}, (∀ x ∈ xs, plain n x = true) → plains n xs = true
  | [], _ => by cases n <;> rfl
  | y :: ys, h => by
    unfold plains
    rw [h y List.mem_cons_self, plains_of fun x hx => h x (List.mem_cons_of_mem _ hx)]; rfl
theorem plainL {n : Nat} {xs : List D} (h : plain (n + 1) (.lst xs) = true) : xs.length ≤ 1000 ∧ ∀ x ∈ xs, plain n x = true := by
  have h : (decide (xs.length ≤ 1000) && plains n xs) = true := h
  have h := Bool.and_eq_true_iff.mp h
  exact ⟨of_decide_eq_true h.1, plains_all h.2⟩
theorem plainT {n : Nat} {xs : List D} (h : plain (n + 1) (.tup xs) = true) : xs.length ≤ 1000 ∧ ∀ x ∈ xs, plain n x = true := plainL h
theorem plain_lst {n : Nat} {xs : List D} (h : xs.length ≤ 1000) (h2 : ∀ x ∈ xs, plain n x = true) : plain (n + 1) (.lst xs) = true := by
  show (decide (xs.length ≤ 1000) && plains n xs) = true
  rw [decide_eq_true h, plains_of h2]; rfl
theorem plain_tup {n : Nat} {xs : List D} (h : xs.length ≤ 1000) (h2 : ∀ x ∈ xs, plain n x = true) : plain (n + 1) (.tup xs) = true := plain_lst h h2
theorem plain_int {n : Nat} {i : Int} : plain n (.int i) = true := by cases n <;> rfl
theorem plain_bl {n : Nat} {i : Bool} : plain n (.bl i) = true := by cases n <;> rfl
theorem plain_non {n : Nat} : plain n .non = true := by cases n <;> rfl
theorem plain_ints {n : Nat} {ns : List Int} : ∀ x ∈ ns.map D.int, plain n x = true := fun x hx => by
  obtain ⟨i, _, rfl⟩ := List.mem_map.mp hx
  exact plain_int
mutual
theorem plain_up {n m : Nat} (h : n ≤ m) : ∀ {d : D}, plain n d = true → plain m d = true
  | .non, _ => plain_non
  | .bl _, _ => plain_bl
  | .int _, _ => plain_int
  | .str x, hp => by
    have hp : PyData.strOk x = true := by cases n <;> exact hp
    cases m <;> exact hp
  | .lst xs, hp => by
    cases n with
    | zero => cases hp
    | succ n =>
      cases m with
      | zero => omega
      | succ m =>
        have h1 : (decide (xs.length ≤ 1000) && plains n xs) = true := hp
        have h1 := Bool.and_eq_true_iff.mp h1
        show (decide (xs.length ≤ 1000) && plains m xs) = true
        rw [h1.1, plains_up (by omega) h1.2]; rfl
  | .tup xs, hp => by
    cases n with
    | zero => cases hp
    | succ n =>
      cases m with
      | zero => omega
      | succ m =>
        have h1 : (decide (xs.length ≤ 1000) && plains n xs) = true := hp
        have h1 := Bool.and_eq_true_iff.mp h1
        show (decide (xs.length ≤ 1000) && plains m xs) = true
        rw [h1.1, plains_up (by omega) h1.2]; rfl
  | .dic _ _, hp => by cases n <;> cases hp
  | .slo _ _, hp => by cases n <;> cases hp
  | .obj _ _, hp => by cases n <;> cases hp
  | .scr _, hp => by cases n <;> cases hp
theorem plains_up {n m : Nat} (h : n ≤ m) : ∀ {ds : List D}, plains n ds = true → plains m ds = true
  | [], _ => by cases m <;> rfl
  | d :: ds, hp => by
    unfold plains at hp ⊢
    have hp := Bool.and_eq_true_iff.mp hp
    rw [plain_up h hp.1, plains_up h hp.2]; rfl
end
/-! ### lists for tuples, tuples for lists -/
mutual
def lisD : D → D
  | .lst xs => .lst (lisDs xs)
  | .tup xs => .lst (lisDs xs)
  | d => d
def lisDs : List D → List D
  | [] => []
  | x :: xs => lisD x :: lisDs xs
end
theorem lisDs_map : ∀ xs : List D, lisDs xs = xs.map lisD
  | [] => rfl
  | x :: xs => by rw [lisDs, lisDs_map xs]; rfl
mutual
def tupD : D → D
  | .lst xs => .tup (tupDs xs)
  | .tup xs => .tup (tupDs xs)
  | d => d
def tupDs : List D → List D
  | [] => []
  | x :: xs => tupD x :: tupDs xs
end
theorem tupDs_map : ∀ xs : List D, tupDs xs = xs.map tupD
  | [] => rfl
  | x :: xs => by rw [tupDs, tupDs_map xs]; rfl
def lisZ : D → Z
  | .lst xs => .n (.lst (xs.map lisD))
  | .tup xs => .n (.lst (xs.map lisD))
  | d => .s (.val d)
theorem vz_lis {d : D} {M : List C} : vz (.ok (lisZ d) M) = .ok (.val (lisD d)) M := by
  cases d <;> first | rfl | (show Ev.ok (Sl.val (.lst _)) M = _; rw [lisD, lisDs_map])
theorem lisZ_mp {d : D} {φ : Nat → Nat} : (lisZ d).mp φ = lisZ d := by cases d <;> rfl
theorem lists_ev : ∀ (n : Nat) {x : D}, plain n x = true → f__law_lists (n + 1) [.val x] [] = .ok (lisZ x) []
  | n, .non, _ => by simp? [f__law_lists, c__law_lists, lisZ]
  | n, .bl _, _ => by simp? [f__law_lists, c__law_lists, lisZ]
  | n, .int _, _ => by simp? [f__law_lists, c__law_lists, lisZ]
  | n, .str _, _ => by simp? [f__law_lists, c__law_lists, lisZ]
  | 0, .lst _, h => by cases h
  | 0, .tup _, h => by cases h
  | n + 1, .lst xs, h => by
    obtain ⟨hl, hp⟩ := plainL h
    have e : ∀ M, lcE (lcB [f__law_lists (n + 1)] (.n 1) .nil (.call 0 "_law_lists" (.cons (.v 1) .nil)) [.val (.lst xs), .un]) (okLc M []) xs [] M = .ok (xs.map lisD) M := fun M => lc_mapD okLc_self fun x hx => by
      simp? [lists_ev n (hp x hx), vz_lis, lisZ_mp]
    rw [f__law_lists]
    simp? [c__law_lists, lisZ, kLc1_ok (show xs.length ≤ 100000 by omega), e]
  | n + 1, .tup xs, h => by
    obtain ⟨hl, hp⟩ := plainT h
    have e : ∀ M, lcE (lcB [f__law_lists (n + 1)] (.n 1) .nil (.call 0 "_law_lists" (.cons (.v 1) .nil)) [.val (.tup xs), .un]) (okLc M []) xs [] M = .ok (xs.map lisD) M := fun M => lc_mapD okLc_self fun x hx => by
      simp? [lists_ev n (hp x hx), vz_lis, lisZ_mp]
    rw [f__law_lists]
    simp? [c__law_lists, lisZ, kLc1_ok (show xs.length ≤ 100000 by omega), e]
  | n, .dic _ _, h => by cases n <;> cases h
  | n, .slo _ _, h => by cases n <;> cases h
  | n, .obj _ _, h => by cases n <;> cases h
  | n, .scr _, h => by cases n <;> cases h
theorem getD_in {xs : List D} {i : Nat} (h : i < xs.length) : xs.getD i .non ∈ xs := by
  rw [List.getD_eq_getElem?_getD, List.getElem?_eq_getElem h]; exact List.getElem_mem h
theorem all_isB (n : Nat) : ((List.range n).map fun _ => D.bl true).all isB = true := by simp [isB]
theorem all_blD (n : Nat) : ((List.range n).map fun _ => D.bl true).all blD = true := by simp [blD]
theorem same_ev : ∀ (n : Nat) {x : D}, plain n x = true → f__law_same (n + 1) [.val x, .val x] [] = .ok (.s (.val (.bl true))) []
  | n, .non, _ => by
    have e : ∀ M, eqE (.val .non) (.val .non) M = some true := fun M => rfl
    simp? [f__law_same, c__law_same, e]
    rfl
  | n, .bl b, _ => by simp? [f__law_same, c__law_same, BEq.rfl]
  | n, .int i, _ => by simp? [f__law_same, c__law_same, BEq.rfl]
  | n, .str x, _ => by simp? [f__law_same, c__law_same, BEq.rfl]
  | 0, .lst _, h => by cases h
  | 0, .tup _, h => by cases h
  | n + 1, .lst xs, h => by
    obtain ⟨hl, hp⟩ := plainL h
    have e : ∀ M, lcE (lcB [f__law_same (n + 1)] (.t [2, 3]) .nil (.call 0 "_law_same" (.cons (.v 2) (.cons (.v 3) .nil))) [.val (.lst xs), .val (.lst xs), .un, .un, .un]) (okLc M []) ((List.range xs.length).map fun (i : Nat) => .tup [xs.getD i .non, xs.getD i .non]) [] M = .ok ((List.range xs.length).map fun _ => D.bl true) M := fun M => lc_map okLc_self fun i hi => by
      simp? [same_ev n (hp _ (getD_in (List.mem_range.mp hi)))]
    rw [f__law_same]
    simp? [c__law_same, BEq.rfl, Nat.min_self, kLc1_ok (show ((List.range xs.length).map fun (i : Nat) => D.tup [xs.getD i .non, xs.getD i .non]).length ≤ 100000 by simp; omega), e, all_isB, all_blD]
  | n + 1, .tup xs, h => by
    obtain ⟨hl, hp⟩ := plainL h
    have e : ∀ M, lcE (lcB [f__law_same (n + 1)] (.t [2, 3]) .nil (.call 0 "_law_same" (.cons (.v 2) (.cons (.v 3) .nil))) [.val (.tup xs), .val (.tup xs), .un, .un, .un]) (okLc M []) ((List.range xs.length).map fun (i : Nat) => .tup [xs.getD i .non, xs.getD i .non]) [] M = .ok ((List.range xs.length).map fun _ => D.bl true) M := fun M => lc_map okLc_self fun i hi => by
      simp? [same_ev n (hp _ (getD_in (List.mem_range.mp hi)))]
    rw [f__law_same]
    simp? [c__law_same, BEq.rfl, Nat.min_self, kLc1_ok (show ((List.range xs.length).map fun (i : Nat) => D.tup [xs.getD i .non, xs.getD i .non]).length ≤ 100000 by simp; omega), e, all_isB, all_blD]
  | n, .dic _ _, h => by cases n <;> cases h
  | n, .slo _ _, h => by cases n <;> cases h
  | n, .obj _ _, h => by cases n <;> cases h
  | n, .scr _, h => by cases n <;> cases h
theorem tupled_ev : ∀ (n : Nat) {x : D}, plain n x = true → f_tupled (n + 1) [.val x] [] = .ok (.s (.val (tupD x))) []
  | n, .non, _ => by simp? [f_tupled, c_tupled, tupD]
  | n, .bl _, _ => by simp? [f_tupled, c_tupled, tupD]
  | n, .int _, _ => by simp? [f_tupled, c_tupled, tupD]
  | n, .str _, _ => by simp? [f_tupled, c_tupled, tupD]
  | 0, .lst _, h => by cases h
  | 0, .tup _, h => by cases h
  | n + 1, .lst xs, h => by
    obtain ⟨hl, hp⟩ := plainL h
    have e : ∀ M, lcE (lcB [f_tupled (n + 1)] (.n 1) .nil (.call 0 "tupled" (.cons (.v 1) .nil)) [.val (.lst xs), .un]) (okLc M []) xs [] M = .ok (xs.map tupD) M := fun M => lc_mapD okLc_self fun x hx => by
      simp? [tupled_ev n (hp x hx)]
    rw [f_tupled]
    simp? [c_tupled, kLc1_ok (show xs.length ≤ 100000 by omega), e, tupD, tupDs_map]
  | n + 1, .tup xs, h => by
    obtain ⟨hl, hp⟩ := plainT h
    have e : ∀ M, lcE (lcB [f_tupled (n + 1)] (.n 1) .nil (.call 0 "tupled" (.cons (.v 1) .nil)) [.val (.tup xs), .un]) (okLc M []) xs [] M = .ok (xs.map tupD) M := fun M => lc_mapD okLc_self fun x hx => by
      simp? [tupled_ev n (hp x hx)]
    rw [f_tupled]
    simp? [c_tupled, kLc1_ok (show xs.length ≤ 100000 by omega), e, tupD, tupDs_map]
  | n, .dic _ _, h => by cases n <;> cases h
  | n, .slo _ _, h => by cases n <;> cases h
  | n, .obj _ _, h => by cases n <;> cases h
  | n, .scr _, h => by cases n <;> cases h
end Dl
/-! S3: the drawn graph -/
namespace Dl
open PySem L2
local macro_rules | `(tactic| simp? [$as,*]) => `(tactic| simp -implicitDefEqProofs only [bif_t, bif_f, Option.isSome_none, Option.isSome_some, List.length_map, List.length_range, rng_len, all_atom, inD_int, all_isI, map_intD, run_ok, runI_ok, rhoN, kFin_nx, kFin_rt, finZ_v, finZ_l, finZ_d, finZ_o, finO_l, finO_d, finO_s, finO_i, kInit_nx, es_nil, es_cons, seqE_nx, seqE_rt, seqE_bk, seqE_ct, s_asg, kAsg_ok, s_par, kPar_ok, s_tgt, kTgt_ok, kNx_ok, s_setix, kSx1_ok, kSx2_ok, kSx3_ok, setX, setE, s_setfld, kSf1_ok, kSf2_ok, setFX, setfM, slOk, putSl, s_aug, kAug1_ok, s_ite, kIte_ok, s_for, kFor_ok, s_while, s_ret, kRet_ok, s_ex, kEx_ok, s_pass, s_bad, ev_v, ev_k, ev_g, ev_bin, kBin1_ok, kBin2_ok, ev_neg, kNeg_ok, kB_ok, ev_cmp, kCmp1_ok, kCmp2_ok, ev_cmp2, kCC1_ok, kCC2_ok, kCC3_ok, ev_not, kNot_ok, ev_and, kAnd_ok, ev_or, kOr_ok, ev_ife, kIfe_ok, ev_tup, kTup0, kTup1, kTup2, kTup3, kTup4, kTup5, kTup6, kTup7, kTup8, ev_lst, kLst0, kLst1, kLst2, kLst3, kLst4, kLst5, kLst6, kLst7, kLst8, ev_dct, kDct0, kDct1i, ev_orl, kOrl_c, kOrl_n, ev_ix, kIx1_ok, kIx2_ok, kS_ok, ev_cut, kCut1_ok, kCut2_ok, kCut3_ok, cutE_l, cutE_t, cutE_s, cutE_o, ev_rev, kRev_l, kRev_o, ev_fld, ev_bi, kBi_ok, ev_isi, kIsi_l, kIsi_t, kIsi_i, kIsi_b, kIsi_s, kIsi_n, kIsi_d, ev_lenO, ev_call, kCall_ok, ev_callk, kCallk_ok, lk0, ev_meth, kMeth1_f, kMeth1_b, kMeth2_ok, ev_make, kMake1, kMake2, kMake3, kMake4, kMake5, ev_mt, kMt1_ok, kMt2_ok, mtOk, Mth.isL, ev_lc, kLc_ok, ev_dc, kDc_ok, ev_own, kOwn_ok, ev_lend, kLend_b, kLend_i, lendS, frz2, vws, ev_scope, et_not, kNg_ok, et_and, kTA_ok, et_or, kTO_ok, et_cmp, et_e, kT_ok, ea_nil, ea_cons, kA1_ok, kA2_ok, ea_star, kSt2_ok, eo_n, eo_s, kO_ok, ei_e, kI_l, kI_t, kI_o, ei_r1, kR1_ok, ei_r2, kR2b_ok, kR2a_ok, ei_rd, kRda_ok, ei_en, kEn_l, ei_zp, kZpa_ok, kZpb_l, kZpb_t, eg_last, eg_cons, lcB2_ok, lcB1_ok, lcC2_ok, lcC1_ok, kElt_ok, els_n, els_o, ed_dlast, dcB3_i, dcB3_s, dcB2b_ok, dcB2_ok, dcB1_ok, doCall_some, kAt, kBack_ok, inKs, refsL_eq, refsL, reach_eq, clo_nil, clo_cons, scat_nil, scat, backM, bk, selM, okSel, nodupB, chosB, restC, rest1, refsAt, memN, plc, Zmp_v, Zmp_o, Zmp_l, Zmp_d, Smp_v, Smp_o, Smp_u, Cmp_l, Cmp_d, Cmp_m, Cmp_i, Cmp_s, Cmp_x, Cmp_o, restC_nil, kMkO_ok, trim_val, trim_un, trim_own, trimE_ok, isK0_lis, isK0_tup, isK0_int, isK0_boo, isK0_str, isK0_Non, isK0_dic, isK1_lis, isK1_tup, isK1_int, isK1_boo, isK1_str, isK1_Non, isK1_dic, isK2_lis, isK2_tup, isK2_int, isK2_boo, isK2_str, isK2_Non, isK2_dic, isK3_lis, isK3_tup, isK3_int, isK3_boo, isK3_str, isK3_Non, isK3_dic, isK4_lis, isK4_tup, isK4_int, isK4_boo, isK4_str, isK4_Non, isK4_dic, isK5_lis, isK5_tup, isK5_int, isK5_boo, isK5_str, isK5_Non, isK5_dic, isK6_lis, isK6_tup, isK6_int, isK6_boo, isK6_str, isK6_Non, isK6_dic, isK7_lis, isK7_tup, isK7_int, isK7_boo, isK7_str, isK7_Non, isK7_dic, sq_l, sq_t, sq_o, sqC_l, sq_i, sq_n, sq_b, sq_str, sq_d, sq_c, dq_d, dq_o, dqC_d, vw_v, vw_o, vwC_l, vwC_d, ixO_s, ix_l, ix_t, ix_oi, ix_os, ixC_l, ixC_d, ixC_ds, ixC_m, ixC_ms, ixC_x, ix_di, ix_ds, eq_i, eq_b, eq_str, eq_l, eq_t, eq_n, eqO_s, eq_o, eq_lo, eq_to, eq_in, in_l, in_t, in_oi, in_os, inC_l, inC_di, inC_ds, in_di, in_ds, len_l, len_t, len_o, lenC_l, lenC_d, len_d, len_c, abs_i, int_i, int_b, tuple_o, tuple_l, tupleC_l, tuple_t, tupleC_t, all_o, all_l, allC_l, any_o, any_l, anyC_l, sum_o, sum_l, sumC_l, max_o, max_l, maxC_l, min_o, min_l, minC_l, sset_o, sset_l, ssetC_l, sset_t, ssetC_t, max_ii, min_ii, list_l, list_t, list_o, listC_l, listC_d, list_d, sorted_l, sorted_d, sorted_o, sortedC_l, sortedC_d, lrange1, lrange2, div1m, div64, div2, pow18, pow6, add_i, addX_l, addX_t, add_l, add_t, add_o, sub_i, mul_i, mul_l, div_i, mod_i, pow_i, clt, cle, cgt, cge, c_eq, c_ne, c_in, c_ni, ngO_s, c_is, c_isn, c_iso, c_isno, non_n, non_i, non_b, non_s, non_l, non_t, non_d, fX_s, kFld_f, kFld_b, fY_v, fY_o, kFld_o, fC_s, fD_x, fC_i, atom_i, atom_b, atom_s, atom_n, isI_i, intD_i, isB_b, blD_b, all_isIf, map_intDf, all_isBf, all_blDf, any_blDf, all_tt, mt_app, apC_l, mt_ext, exC_l, mt_pop, mt_rem, remC_l, mt_g1di, mt_g2di, mt_g1oi, mt_g2oi, g1Ci_d, g2Ci_d, mt_g1ds, mt_g2ds, mt_g1os, mt_g2os, g1Cs_d, g2Cs_d, g1_s, g1_n, g2_s, g2_n, kTurn_nx, kTurn_ct, kOk_ok, keepB_nil, forB, forB1_ok, lcB, lcC, dcB, vz_s, vz_l, vz_d, opt_some, gd_t, lk, pt, pts, lkA, lkM, ptM, clr, List.map, List.length, List.replicate, List.append_nil, List.nil_append, List.cons_append, List.append_assoc, List.drop, Nat.beq, Nat.ble, Nat.blt, Nat.reduceAdd, Nat.reduceSub, Nat.zero_add, Nat.add_zero, Nat.sub_zero, keyD, bindE, C.frz, okTake, closedB, List.take, List.all, C.refs, Sl.isNon, Bool.and_true, Bool.true_and, Bool.and_false, Bool.false_and, Bool.or_false, Bool.or_true, Bool.true_or, Bool.false_or, Bool.not_true, Bool.not_false, decide_true, decide_false, Int.reduceLT, Int.reduceLE, Int.reduceAdd, Int.reduceSub, Int.reduceMul, Int.reduceNeg, Int.reduceEq, Int.reduceToNat, Nat.reduceLT, Nat.reduceLeDiff, Nat.reduceMul, Nat.reduceEqDiff, and_self, and_true, true_and, List.set_cons_zero, List.set_cons_succ, $as,*])
def Rows (g : Gr) : Prop := ∀ (i : Nat) (r : Int × List Int), g[i]? = some r → 0 ≤ r.1 ∧ r.1 ≤ 1000000 ∧ r.2.Pairwise (· < ·) ∧ ∀ p ∈ r.2, 0 ≤ p ∧ p < (i : Int)
theorem Rows.snoc {g : Gr} {r : Int × List Int} (h : Rows g) (hr : 0 ≤ r.1 ∧ r.1 ≤ 1000000 ∧ r.2.Pairwise (· < ·) ∧ ∀ p ∈ r.2, 0 ≤ p ∧ p < (g.length : Int)) : Rows (g ++ [r]) := fun i q e => by
  by_cases hi : i < g.length
  · rw [List.getElem?_append_left hi] at e; exact h i q e
  · rw [List.getElem?_append_right (by omega)] at e
    have : i - g.length = 0 := by
      have := (List.getElem?_eq_some_iff.mp e).1
      simp at this; omega
    rw [this] at e
    cases e
    have : i = g.length := by omega
    subst this
    exact hr
structure NetS where
  g : Gr
  s : Bx
  here : Int
  low : Bool
theorem rng0_get {n i : Nat} {x : Int} (h : (rng 0 n)[i]? = some x) : i < n ∧ x = (i : Int) := by
  obtain ⟨h1, h2⟩ := rng_get.mp h
  exact ⟨h1, by omega⟩
theorem graph_ev {s0 : Bx} {m n : Int} (b0 : Bok s0 m) (hm : m ≤ 900000000) (n0 : 0 ≤ n) (n1 : n ≤ 24) : ∃ g s', f__law_graph [.own 0, .val (.int n)] [.lst (boxD s0)] = .ok (.s (.val (gT g))) [.lst (boxD s')] ∧ WF g ∧ (g.length : Int) = n ∧ Bok s' (m + 300) := by
  simp? [f__law_graph, c__law_graph, kR1_ok (show -100000 ≤ n ∧ n ≤ 100000 by omega)]
  generalize hF : forE _ _ _ _ _ _ = F
  refine Exists.elim (for_gen hF (T := NetS) (fun t => [.own 0, .val (.int n), .own 1, .val (.int t.here), .val (.bl t.low), .un, .un, .un, .un, .un, .un, .un]) (fun t => [.lst (boxD t.s), .lst (t.g.map rowT)]) (fun i t => t.g.length = i ∧ Rows t.g ∧ Bok t.s (m + 12 * i) ∧ 0 ≤ t.here ∧ t.here ≤ 10 + 5 * i) ⟨[], s0, 10, false⟩ rfl rfl ⟨rfl, (fun i r e => nomatch e), b0.up (by simp), by simp, by simp⟩ fun i x t hx ⟨hgl, hrows, bk, hh0, hh1⟩ => ?_) fun t ⟨⟨hgl, hrows, bk, _, _⟩, hE⟩ => ?_
  · obtain ⟨g, s, here, low⟩ := t
    obtain ⟨hi, rfl⟩ := rng0_get hx
    have hi24 : i < 24 := by omega
    dsimp only at hgl hrows bk hh0 hh1
    obtain ⟨up, s1, e1, hup, b1⟩ := of_ev (x := .lst [.int 0, .int 1, .int 1, .int 2, .int 5]) bk (by omega) (.inl rfl) (by decide) (by decide)
    obtain ⟨u, rfl, hu⟩ : ∃ u : Int, up = .int u ∧ (0 ≤ u ∧ u ≤ 5) := by
      simp at hup
      rcases hup with h | h | h | h <;> exact ⟨_, h, by decide, by decide⟩
    obtain ⟨r2, s2, e2, _, _, b2⟩ := take_ev (n := 4) b1 (by omega) (by decide) (by decide)
    obtain ⟨r3, s3, e3, r30, r31, b3⟩ := take_ev (n := 9) b2 (by omega) (by decide) (by decide)
    obtain ⟨far, s4, e4, hfar, b4⟩ := of_ev (x := .lst [.int 0, .int 0, .int 0, .int r3, .int (-3)]) b3 (by omega) (.inl rfl) (by simp) (by simp)
    obtain ⟨f, rfl, hf⟩ : ∃ f : Int, far = .int f ∧ (-3 ≤ f ∧ f ≤ 9) := by
      simp at hfar
      rcases hfar with h | h | h
      · exact ⟨_, h, by decide, by decide⟩
      · exact ⟨_, h, by omega, by omega⟩
      · exact ⟨_, h, by decide, by decide⟩
    simp? [e1, e2, e3, e4]
    generalize decide (r2 < 1 + if low = true then 1 else 0) = low2
    -- the date
    generalize hX : vz (bif low2 then _ else _) = X
    obtain ⟨date, s5, hX, hdate, b5⟩ : ∃ date s5, X = .ok (.val (.int date)) [.lst (boxD s5), .lst (g.map rowT)] ∧ date ≤ 1000 ∧ Bok s5 (m + 12 * i + 5) := by
      cases low2 with
      | true =>
        obtain ⟨r5, s5, e5, _, _, b5⟩ := take_ev (n := 10) b4 (by omega) (by decide) (by decide)
        exact ⟨r5, s5, by rw [← hX]; simp? [e5], by omega, b5.up (by omega)⟩
      | false => exact ⟨_, s4, by rw [← hX]; simp? []; rfl, by omega, b4.up (by omega)⟩
    subst hX
    -- near
    obtain ⟨r6, s6, e6, _, _, b6⟩ := take_ev (n := 6) b5 (by omega) (by decide) (by decide)
    simp? [e6]
    generalize hX : vz (bif decide (r6 = 0) then _ else _) = X
    obtain ⟨near, hX, hnl, hnear⟩ : ∃ near : List Int, X = .ok (.val (.lst (near.map D.int))) [.lst (boxD s6), .lst (g.map rowT)] ∧ near.length ≤ 24 ∧ ∀ x ∈ near, 0 ≤ x ∧ x < (i : Int) := by
      have d1 : okR1 (i : Int) = true := okR1_t (by omega)
      have d2 : okR2 (max 0 ((i : Int) - 4)) (i : Int) = true := okR2_t (by omega)
      cases hd : decide (r6 = 0) with
      | true => exact ⟨rng 0 (i : Int).toNat, by rw [← hX, hd]; simp? [d1], by rw [rng_len]; omega, fun x hx => by have := rng_mem.mp hx; omega⟩
      | false => exact ⟨rng (max 0 ((i : Int) - 4)) ((i : Int) - max 0 ((i : Int) - 4)).toNat, by rw [← hX, hd]; simp? [d2], by rw [rng_len]; omega, fun x hx => by have := rng_mem.mp hx; omega⟩
    subst hX
    -- how many
    obtain ⟨few, s7, e7, hfew, b7⟩ := of_ev (x := .lst [.int 0, .int 1, .int 1, .int 1, .int 2, .int 3]) b6 (by omega) (.inl rfl) (by decide) (by decide)
    obtain ⟨q, rfl, hq⟩ : ∃ q : Int, few = .int q ∧ (0 ≤ q ∧ q ≤ 3) := by
      simp at hfew
      rcases hfew with h | h | h | h <;> exact ⟨_, h, by decide, by decide⟩
    have p1 : plain 60 (.lst (near.map D.int)) = true := plain_lst (by rw [List.length_map]; omega) plain_ints
    have p2 : plain 60 (.lst []) = true := rfl
    have en : eqD (.lst (near.map D.int)) (.lst []) = (near.map D.int).isEmpty := by cases near <;> rfl
    have m1 : ∀ (i : Int) (b : Bool), mulB i (if b = true then 1 else 0) = true := fun i b => mulR (by cases b <;> decide)
    obtain ⟨k, ek, hk3, hkp⟩ : ∃ k : Nat, q * (if (!(near.map D.int).isEmpty) = true then 1 else 0) = (k : Int) ∧ k ≤ 3 ∧ (0 < k → 0 < near.length) := by
      cases near with
      | nil => exact ⟨0, by simp, by omega, by omega⟩
      | cons y ys => exact ⟨q.toNat, by simp; omega, by omega, fun _ => by simp⟩
    simp? [e7, p1, p2, en, m1, ek]
    -- some
    generalize hX : vz (kBin2 Operator.Mult _ _) = X
    obtain ⟨pre, hX, hpl, hpre⟩ : ∃ pre : List Int, X = .ok (.val (.lst (pre.map D.int))) [.lst (boxD s7), .lst (g.map rowT)] ∧ pre.length ≤ 1 ∧ ∀ x ∈ pre, 0 ≤ x ∧ x < (i : Int) := by
      have e0 : ∀ b : Bool, decide (0 ≤ (if b = true then (1 : Int) else 0) ∧ (if b = true then (1 : Int) else 0) ≤ 1000) = true := fun b => by cases b <;> decide
      cases hb : (low2 && decide (0 < (i : Int))) with
      | true =>
        have hb := Bool.and_eq_true_iff.mp hb
        have := of_decide_eq_true hb.2
        refine ⟨[(i : Int) - 1], ?_, by simp, fun x hx => by rw [List.mem_singleton] at hx; omega⟩
        rw [← hX, hb.1]
        simp? [hb.2]
        rfl
      | false =>
        refine ⟨[], ?_, by simp, fun x hx => nomatch hx⟩
        rw [← hX]
        cases low2 with
        | false => simp? []; rfl
        | true => simp? [show decide (0 < (i : Int)) = false from hb]; rfl
    subst hX
    simp? [kR1_ok (show -100000 ≤ (k : Int) ∧ (k : Int) ≤ 100000 by omega), kLc1_ok (show ((rng 0 (k : Int).toNat).map D.int).length ≤ 100000 by rw [List.length_map, rng_len]; omega)]
    generalize hL : lcE _ _ _ _ _ = L
    refine Exists.elim (lc_gen hL (T := Bx) (fun s => [.lst (boxD s), .lst (g.map rowT)]) (fun j s acc => ∃ ns : List Int, acc = ns.map D.int ∧ ns.length = j ∧ (∀ x ∈ ns, x ∈ near) ∧ Bok s (m + 12 * i + 7 + j)) s7 rfl ⟨[], rfl, rfl, (fun x hx => nomatch hx), b7.up (by omega)⟩ fun j x sj acc hj ⟨ns, ea, hnl2, hin, bj⟩ => ?_) fun s8 ⟨out, ⟨ns, ea, hnl2, hin, b8⟩, hE⟩ => ?_
    · obtain ⟨hj2, _⟩ := rng0_get hj
      obtain ⟨d, s', ed, hd, b'⟩ := of_ev (x := .lst (near.map D.int)) bj (by omega) (.inl rfl) (by rw [List.length_map]; exact hkp (by omega)) (by rw [List.length_map]; omega)
      obtain ⟨y, hy, rfl⟩ := List.mem_map.mp hd
      refine ⟨s', [.int y], ?_, okLc_nil rfl, ns ++ [y], by rw [ea, List.map_append]; rfl, by simp; omega, fun x hx => ?_, b'.up (by omega)⟩
      · simp? [ed]
      · rcases List.mem_append.mp hx with z | z
        · exact hin x z
        · rw [List.mem_singleton] at z; rw [z]; exact hy
    · subst hE
      subst ea
      rw [rng_len] at hnl2 b8
      have hsome : ∀ x ∈ pre ++ ns, 0 ≤ x ∧ x < (i : Int) := fun x hx => by
        rcases List.mem_append.mp hx with z | z
        · exact hpre x z
        · exact hnear x (hin x z)
      have d1 : decide (pre.length + ns.length ≤ 100000) = true := decide_eq_true (by omega)
      have d2 : decide ((pre ++ ns).length < 64) = true := decide_eq_true (by simp; omega)
      have d3 : decide (g.length < 100000) = true := decide_eq_true (by omega)
      refine ⟨⟨g ++ [(max 0 date, sset (pre ++ ns))], s8, here + u, low2⟩, ?_, by simp; omega, hrows.snoc ⟨by simp; omega, by simp; omega, sset_sorted _, fun p hp => ?_⟩, b8.up (by omega), by show 0 ≤ here + u; omega, by show here + u ≤ _; omega⟩
      · have ez : (g ++ [(max 0 date, sset (pre ++ ns))]).map rowT = g.map rowT ++ [.tup [.int (max 0 date), .tup ((sset (pre ++ ns)).map D.int)]] := by rw [List.map_append]; rfl
        simp? [d1, ← List.map_append, d2, d3, ez, map_intD]
      · have := hsome p (mem_sset.mp hp)
        rw [hgl]; exact this
  · subst hE
    rw [rng_len] at hgl bk
    refine ⟨t.g, t.s, ?_, ⟨by omega, hrows⟩, by omega, bk.up (by omega)⟩
    simp? [gT]
end Dl
/-! P1: the program: Graph, graph_at, had -/
namespace Dl
open PySem L2
local macro_rules | `(tactic| simp? [$as,*]) => `(tactic| simp -implicitDefEqProofs only [bif_t, bif_f, Option.isSome_none, Option.isSome_some, List.length_map, List.length_range, rng_len, all_atom, inD_int, all_isI, map_intD, run_ok, runI_ok, rhoN, kFin_nx, kFin_rt, finZ_v, finZ_l, finZ_d, finZ_o, finO_l, finO_d, finO_s, finO_i, kInit_nx, es_nil, es_cons, seqE_nx, seqE_rt, seqE_bk, seqE_ct, s_asg, kAsg_ok, s_par, kPar_ok, s_tgt, kTgt_ok, kNx_ok, s_setix, kSx1_ok, kSx2_ok, kSx3_ok, setX, setE, s_setfld, kSf1_ok, kSf2_ok, setFX, setfM, slOk, putSl, s_aug, kAug1_ok, s_ite, kIte_ok, s_for, kFor_ok, s_while, s_ret, kRet_ok, s_ex, kEx_ok, s_pass, s_bad, ev_v, ev_k, ev_g, ev_bin, kBin1_ok, kBin2_ok, ev_neg, kNeg_ok, kB_ok, ev_cmp, kCmp1_ok, kCmp2_ok, ev_cmp2, kCC1_ok, kCC2_ok, kCC3_ok, ev_not, kNot_ok, ev_and, kAnd_ok, ev_or, kOr_ok, ev_ife, kIfe_ok, ev_tup, kTup0, kTup1, kTup2, kTup3, kTup4, kTup5, kTup6, kTup7, kTup8, ev_lst, kLst0, kLst1, kLst2, kLst3, kLst4, kLst5, kLst6, kLst7, kLst8, ev_dct, kDct0, kDct1i, ev_orl, kOrl_c, kOrl_n, ev_ix, kIx1_ok, kIx2_ok, kS_ok, ev_cut, kCut1_ok, kCut2_ok, kCut3_ok, cutE_l, cutE_t, cutE_s, cutE_o, ev_rev, kRev_l, kRev_o, ev_fld, ev_bi, kBi_ok, ev_isi, kIsi_l, kIsi_t, kIsi_i, kIsi_b, kIsi_s, kIsi_n, kIsi_d, ev_lenO, ev_call, kCall_ok, ev_callk, kCallk_ok, lk0, ev_meth, kMeth1_f, kMeth1_b, kMeth2_ok, ev_make, kMake1, kMake2, kMake3, kMake4, kMake5, ev_mt, kMt1_ok, kMt2_ok, mtOk, Mth.isL, ev_lc, kLc_ok, ev_dc, kDc_ok, ev_own, kOwn_ok, ev_lend, kLend_b, kLend_i, lendS, frz2, vws, ev_scope, et_not, kNg_ok, et_and, kTA_ok, et_or, kTO_ok, et_cmp, et_e, kT_ok, ea_nil, ea_cons, kA1_ok, kA2_ok, ea_star, kSt2_ok, eo_n, eo_s, kO_ok, ei_e, kI_l, kI_t, kI_o, ei_r1, kR1_ok, ei_r2, kR2b_ok, kR2a_ok, ei_rd, kRda_ok, ei_en, kEn_l, ei_zp, kZpa_ok, kZpb_l, kZpb_t, eg_last, eg_cons, lcB2_ok, lcB1_ok, lcC2_ok, lcC1_ok, kElt_ok, els_n, els_o, ed_dlast, dcB3_i, dcB3_s, dcB2b_ok, dcB2_ok, dcB1_ok, doCall_some, kAt, kBack_ok, inKs, refsL_eq, refsL, reach_eq, clo_nil, clo_cons, scat_nil, scat, backM, bk, selM, okSel, nodupB, chosB, restC, rest1, refsAt, memN, plc, Zmp_v, Zmp_o, Zmp_l, Zmp_d, Smp_v, Smp_o, Smp_u, Cmp_l, Cmp_d, Cmp_m, Cmp_i, Cmp_s, Cmp_x, Cmp_o, restC_nil, kMkO_ok, trim_val, trim_un, trim_own, trimE_ok, isK0_lis, isK0_tup, isK0_int, isK0_boo, isK0_str, isK0_Non, isK0_dic, isK1_lis, isK1_tup, isK1_int, isK1_boo, isK1_str, isK1_Non, isK1_dic, isK2_lis, isK2_tup, isK2_int, isK2_boo, isK2_str, isK2_Non, isK2_dic, isK3_lis, isK3_tup, isK3_int, isK3_boo, isK3_str, isK3_Non, isK3_dic, isK4_lis, isK4_tup, isK4_int, isK4_boo, isK4_str, isK4_Non, isK4_dic, isK5_lis, isK5_tup, isK5_int, isK5_boo, isK5_str, isK5_Non, isK5_dic, isK6_lis, isK6_tup, isK6_int, isK6_boo, isK6_str, isK6_Non, isK6_dic, isK7_lis, isK7_tup, isK7_int, isK7_boo, isK7_str, isK7_Non, isK7_dic, sq_l, sq_t, sq_o, sqC_l, sq_i, sq_n, sq_b, sq_str, sq_d, sq_c, dq_d, dq_o, dqC_d, vw_v, vw_o, vwC_l, vwC_d, ixO_s, ix_l, ix_t, ix_oi, ix_os, ixC_l, ixC_d, ixC_ds, ixC_m, ixC_ms, ixC_x, ix_di, ix_ds, eq_i, eq_b, eq_str, eq_l, eq_t, eq_n, eqO_s, eq_o, eq_lo, eq_to, eq_in, in_l, in_t, in_oi, in_os, inC_l, inC_di, inC_ds, in_di, in_ds, len_l, len_t, len_o, lenC_l, lenC_d, len_d, len_c, abs_i, int_i, int_b, tuple_o, tuple_l, tupleC_l, tuple_t, tupleC_t, all_o, all_l, allC_l, any_o, any_l, anyC_l, sum_o, sum_l, sumC_l, max_o, max_l, maxC_l, min_o, min_l, minC_l, sset_o, sset_l, ssetC_l, sset_t, ssetC_t, max_ii, min_ii, list_l, list_t, list_o, listC_l, listC_d, list_d, sorted_l, sorted_d, sorted_o, sortedC_l, sortedC_d, lrange1, lrange2, div1m, div64, div2, pow18, pow6, add_i, addX_l, addX_t, add_l, add_t, add_o, sub_i, mul_i, mul_l, div_i, mod_i, pow_i, clt, cle, cgt, cge, c_eq, c_ne, c_in, c_ni, ngO_s, c_is, c_isn, c_iso, c_isno, non_n, non_i, non_b, non_s, non_l, non_t, non_d, fX_s, kFld_f, kFld_b, fY_v, fY_o, kFld_o, fC_s, fD_x, fC_i, atom_i, atom_b, atom_s, atom_n, isI_i, intD_i, isB_b, blD_b, all_isIf, map_intDf, all_isBf, all_blDf, any_blDf, all_tt, mt_app, apC_l, mt_ext, exC_l, mt_pop, mt_rem, remC_l, mt_g1di, mt_g2di, mt_g1oi, mt_g2oi, g1Ci_d, g2Ci_d, mt_g1ds, mt_g2ds, mt_g1os, mt_g2os, g1Cs_d, g2Cs_d, g1_s, g1_n, g2_s, g2_n, kTurn_nx, kTurn_ct, kOk_ok, keepB_nil, forB, forB1_ok, lcB, lcC, dcB, vz_s, vz_l, vz_d, opt_some, gd_t, lk, pt, pts, lkA, lkM, ptM, clr, List.map, List.length, List.replicate, List.append_nil, List.nil_append, List.cons_append, List.append_assoc, List.drop, Nat.beq, Nat.ble, Nat.blt, Nat.reduceAdd, Nat.reduceSub, Nat.zero_add, Nat.add_zero, Nat.sub_zero, keyD, bindE, C.frz, okTake, closedB, List.take, List.all, C.refs, Sl.isNon, Bool.and_true, Bool.true_and, Bool.and_false, Bool.false_and, Bool.or_false, Bool.or_true, Bool.true_or, Bool.false_or, Bool.not_true, Bool.not_false, decide_true, decide_false, Int.reduceLT, Int.reduceLE, Int.reduceAdd, Int.reduceSub, Int.reduceMul, Int.reduceNeg, Int.reduceEq, Int.reduceToNat, Nat.reduceLT, Nat.reduceLeDiff, Nat.reduceMul, Nat.reduceEqDiff, and_self, and_true, true_and, List.set_cons_zero, List.set_cons_succ, $as,*])
theorem tupD_ints {d : D} {ns : List Int} (h : IsSeq d (ns.map D.int)) : tupD d = .tup (ns.map D.int) := by
  have e : tupDs (ns.map D.int) = ns.map D.int := by
    rw [tupDs_map, List.map_map]
    rfl
  rcases h with rfl | rfl
  · rw [tupD, e]
  · rw [tupD, e]
theorem plain_seq {n : Nat} {d : D} {xs : List D} (h : IsSeq d xs) (hl : xs.length ≤ 1000) (h2 : ∀ x ∈ xs, plain n x = true) : plain (n + 1) d = true := by
  rcases h with rfl | rfl
  · exact plain_lst hl h2
  · exact plain_tup hl h2
theorem row_par {g : Gr} (hw : WF g) {r : Int × List Int} (hr : r ∈ g) : r.2.length ≤ 24 := by
  obtain ⟨i, e⟩ := List.mem_iff_getElem?.mp hr
  have hi := (List.getElem?_eq_some_iff.mp e).1
  have w := hw.row i r e
  have := asc_len r.2 i w.2.2.1 w.2.2.2
  have := hw.len
  omega
/-- what is read of a sequence -/
theorem ixE0 {d : D} {x : D} {xs : List D} (h : IsSeq d (x :: xs)) (M : List C) : ixE (.val d) (.val (.int 0)) M = some (.val x) := by
  rcases h with rfl | rfl <;> simp? [at0]
theorem ixE1 {d : D} {x y : D} {xs : List D} (h : IsSeq d (x :: y :: xs)) (M : List C) : ixE (.val d) (.val (.int 1)) M = some (.val y) := by
  rcases h with rfl | rfl <;> simp? [at1]
theorem kI_seq {d : D} {xs : List D} (h : IsSeq d xs) (M : List C) : kI (.ok (.val d) M) = .ok (xs, []) M := by
  rcases h with rfl | rfl <;> rfl
def grC (g : Gr) (kvs : List (Key × D)) : List C := [.sob 1 1 [.val (.lst ((g.map (·.1)).map D.int)), .val (.lst (g.map fun r => .tup (r.2.map D.int))), .own 2], .dxx, .dic kvs]
theorem Graph_init_ev {g : Gr} {d : D} (hw : WF g) (hg : IsG g d) : i_Graph_init [.val d] = .ok () (grC g []) := by
  obtain ⟨ps, e1, hd, hr⟩ := id hg
  have hpl : ps.length = g.length := by rw [← e1, List.length_map]
  have hl := hw.len
  have e2 : ∀ M, lcE (lcB [f_tupled 20] (.n 2) .nil (.ix (.v 2) (.k (.int 0))) [.own 0, .val d, .un]) (okLc M []) (ps.map (·.2)) [] M = .ok ((g.map (·.1)).map D.int) M := fun M => by
    have := lc_map (F := lcB [f_tupled 20] (.n 2) .nil (.ix (.v 2) (.k (.int 0))) [.own 0, .val d, .un]) (ok' := okLc M []) (M := M) (enc := fun p : (Int × List Int) × D => p.2) (f := fun p => D.int p.1.1) (xs := ps) okLc_self fun p hp => by
      obtain ⟨pd, h1, h2⟩ := hr p hp
      simp? [ixE0 h1 M]
    rw [this, ← e1, List.map_map, List.map_map]; rfl
  have e3 : ∀ M, lcE (lcB [f_tupled 20] (.n 2) .nil (.call 0 "tupled" (.cons (.ix (.v 2) (.k (.int 1))) .nil)) [.own 0, .val d, .un]) (okLc M []) (ps.map (·.2)) [] M = .ok (g.map fun r => .tup (r.2.map D.int)) M := fun M => by
    have := lc_map (F := lcB [f_tupled 20] (.n 2) .nil (.call 0 "tupled" (.cons (.ix (.v 2) (.k (.int 1))) .nil)) [.own 0, .val d, .un]) (ok' := okLc M []) (M := M) (enc := fun p : (Int × List Int) × D => p.2) (f := fun p => D.tup (p.1.2.map D.int)) (xs := ps) okLc_self fun p hp => by
      obtain ⟨pd, h1, h2⟩ := hr p hp
      have hp1 : p.1 ∈ g := by rw [← e1]; exact List.mem_map_of_mem hp
      have hpl := row_par hw hp1
      have pp : plain 19 pd = true := plain_seq (n := 18) h2 (by rw [List.length_map]; omega) plain_ints
      simp? [ixE1 h1 M, tupled_ev 19 pp, tupD_ints h2]
    rw [this, ← e1, List.map_map]; rfl
  have hk : (ps.map (·.2)).length ≤ 100000 := by rw [List.length_map]; omega
  simp? [i_Graph_init, c_Graph_init, kI_seq hd, kLc1_ok hk, e2, e3, grC]
theorem Graph_mkF {g : Gr} {d : D} (hw : WF g) (hg : IsG g d) : mkF i_Graph_init [.val d] [] = .ok (.s (.val (grO g))) [] := by
  simp? [mkF_nil, Graph_init_ev hw hg, kMkF_ok (show viewO (grC g []) = some (grO g) from rfl)]
theorem Graph_mkO {g : Gr} {d : D} (hw : WF g) (hg : IsG g d) : mkO i_Graph_init [.val d] [] = .ok (.s (.own 0)) (grC g []) := by
  simp? [mkO_nil, Graph_init_ev hw hg]
theorem kMeth1_g {g : Gr} {env : List Den} {n : Nat} {as : Es} {ρ : List Sl} {M : List C} : kMeth1 env n 1 as ρ (.ok (.val (grO g)) M) = kMeth2 env n (.val (grO g)) (evA env as ρ M) := kMeth1_f
theorem kFld_g0 {g : Gr} {M : List C} : kFld 1 0 (.ok (.val (grO g)) M) = .ok (.s (.val (.lst ((g.map (·.1)).map D.int)))) M := rfl
theorem kFld_g1 {g : Gr} {M : List C} : kFld 1 1 (.ok (.val (grO g)) M) = .ok (.s (.val (.lst (g.map fun r => .tup (r.2.map D.int))))) M := rfl
theorem dates_len {g : Gr} : ((g.map (·.1)).map D.int).length = g.length := by simp
theorem Graph_check_ev {g : Gr} {x : D} {ns : List Int} (hx : IsSeq x (ns.map D.int)) (hn : In g ns) : f_Graph_check [.val (grO g), .val x] [] = .ok (.s (.val .non)) [] := by
  simp? [f_Graph_check, c_Graph_check, kI_seq hx]
  generalize hF : forE _ _ _ _ _ _ = F
  refine Exists.elim (for_gen hF (T := Unit) (fun _ => [.val (grO g), .val x, .un]) (fun _ => []) (fun _ _ => True) () rfl rfl trivial fun i n t hi _ => ?_) fun t ⟨_, hE⟩ => ?_
  · have h := hn n (List.mem_of_getElem? hi)
    refine ⟨(), ?_, trivial⟩
    simp? [kFld_g0, decide_eq_true h.1, decide_eq_true h.2]
  · subst hE
    simp? []
theorem graph_at_ev {g : Gr} {x : D} {xs : List D} (hg : IsG g x) (hw : WF g) (hl : xs.length ≤ 10) (hxs : ∀ y ∈ xs, ∃ ns : List Int, IsSeq y (ns.map D.int) ∧ In g ns) : f_graph_at (.val x :: xs.map .val) [] = .ok (.s (.val (grO g))) [] := by
  unfold f_graph_at
  rw [runS1 (by omega)]
  simp? [c_graph_at, Graph_mkF hw hg]
  generalize hF : forE _ _ _ _ _ _ = F
  rw [← List.map_id xs] at hF
  refine Exists.elim (for_gen hF (T := Unit) (fun _ => [.val x, .val (.tup xs), .val (grO g), .un]) (fun _ => []) (fun _ _ => True) () (by rw [List.map_id]) rfl trivial fun i y t hi _ => ?_) fun t ⟨_, hE⟩ => ?_
  · obtain ⟨ns, h1, h2⟩ := hxs y (List.mem_of_getElem? hi)
    refine ⟨(), ?_, trivial⟩
    simp? [kMeth1_g, Graph_check_ev h1 h2, id]
  · subst hE
    simp? []
theorem graph_at1 {g : Gr} {x y : D} {ns : List Int} (hg : IsG g x) (hw : WF g) (hy : IsSeq y (ns.map D.int)) (hn : In g ns) : f_graph_at [.val x, .val y] [] = .ok (.s (.val (grO g))) [] :=
  graph_at_ev (xs := [y]) hg hw (by simp) fun z hz => by rw [List.mem_singleton.mp hz]; exact ⟨ns, hy, hn⟩
theorem graph_at2 {g : Gr} {x y z : D} {ns ms : List Int} (hg : IsG g x) (hw : WF g) (hy : IsSeq y (ns.map D.int)) (hn : In g ns) (hz : IsSeq z (ms.map D.int)) (hm : In g ms) : f_graph_at [.val x, .val y, .val z] [] = .ok (.s (.val (grO g))) [] :=
  graph_at_ev (xs := [y, z]) hg hw (by simp) fun u hu => by
    rcases List.mem_cons.mp hu with rfl | hu
    · exact ⟨ns, hy, hn⟩
    · rw [List.mem_singleton.mp hu]; exact ⟨ms, hz, hm⟩
end Dl
/-! P2: had, truth, closed, nearest, levels, mended, tables -/
namespace Dl
open PySem L2
local macro_rules | `(tactic| simp? [$as,*]) => `(tactic| simp -implicitDefEqProofs only [bif_t, bif_f, Option.isSome_none, Option.isSome_some, List.length_map, List.length_range, rng_len, all_atom, inD_int, all_isI, map_intD, run_ok, runI_ok, rhoN, kFin_nx, kFin_rt, finZ_v, finZ_l, finZ_d, finZ_o, finO_l, finO_d, finO_s, finO_i, kInit_nx, es_nil, es_cons, seqE_nx, seqE_rt, seqE_bk, seqE_ct, s_asg, kAsg_ok, s_par, kPar_ok, s_tgt, kTgt_ok, kNx_ok, s_setix, kSx1_ok, kSx2_ok, kSx3_ok, setX, setE, s_setfld, kSf1_ok, kSf2_ok, setFX, setfM, slOk, putSl, s_aug, kAug1_ok, s_ite, kIte_ok, s_for, kFor_ok, s_while, s_ret, kRet_ok, s_ex, kEx_ok, s_pass, s_bad, ev_v, ev_k, ev_g, ev_bin, kBin1_ok, kBin2_ok, ev_neg, kNeg_ok, kB_ok, ev_cmp, kCmp1_ok, kCmp2_ok, ev_cmp2, kCC1_ok, kCC2_ok, kCC3_ok, ev_not, kNot_ok, ev_and, kAnd_ok, ev_or, kOr_ok, ev_ife, kIfe_ok, ev_tup, kTup0, kTup1, kTup2, kTup3, kTup4, kTup5, kTup6, kTup7, kTup8, ev_lst, kLst0, kLst1, kLst2, kLst3, kLst4, kLst5, kLst6, kLst7, kLst8, ev_dct, kDct0, kDct1i, ev_orl, kOrl_c, kOrl_n, ev_ix, kIx1_ok, kIx2_ok, kS_ok, ev_cut, kCut1_ok, kCut2_ok, kCut3_ok, cutE_l, cutE_t, cutE_s, cutE_o, ev_rev, kRev_l, kRev_o, ev_fld, ev_bi, kBi_ok, ev_isi, kIsi_l, kIsi_t, kIsi_i, kIsi_b, kIsi_s, kIsi_n, kIsi_d, ev_lenO, ev_call, kCall_ok, ev_callk, kCallk_ok, lk0, ev_meth, kMeth1_f, kMeth1_b, kMeth2_ok, ev_make, kMake1, kMake2, kMake3, kMake4, kMake5, ev_mt, kMt1_ok, kMt2_ok, mtOk, Mth.isL, ev_lc, kLc_ok, ev_dc, kDc_ok, ev_own, kOwn_ok, ev_lend, kLend_b, kLend_i, lendS, frz2, vws, ev_scope, et_not, kNg_ok, et_and, kTA_ok, et_or, kTO_ok, et_cmp, et_e, kT_ok, ea_nil, ea_cons, kA1_ok, kA2_ok, ea_star, kSt2_ok, eo_n, eo_s, kO_ok, ei_e, kI_l, kI_t, kI_o, ei_r1, kR1_ok, ei_r2, kR2b_ok, kR2a_ok, ei_rd, kRda_ok, ei_en, kEn_l, ei_zp, kZpa_ok, kZpb_l, kZpb_t, eg_last, eg_cons, lcB2_ok, lcB1_ok, lcC2_ok, lcC1_ok, kElt_ok, els_n, els_o, ed_dlast, dcB3_i, dcB3_s, dcB2b_ok, dcB2_ok, dcB1_ok, doCall_some, kAt, kBack_ok, inKs, refsL_eq, refsL, reach_eq, clo_nil, clo_cons, scat_nil, scat, backM, bk, selM, okSel, nodupB, chosB, restC, rest1, refsAt, memN, plc, Zmp_v, Zmp_o, Zmp_l, Zmp_d, Smp_v, Smp_o, Smp_u, Cmp_l, Cmp_d, Cmp_m, Cmp_i, Cmp_s, Cmp_x, Cmp_o, restC_nil, kMkO_ok, trim_val, trim_un, trim_own, trimE_ok, isK0_lis, isK0_tup, isK0_int, isK0_boo, isK0_str, isK0_Non, isK0_dic, isK1_lis, isK1_tup, isK1_int, isK1_boo, isK1_str, isK1_Non, isK1_dic, isK2_lis, isK2_tup, isK2_int, isK2_boo, isK2_str, isK2_Non, isK2_dic, isK3_lis, isK3_tup, isK3_int, isK3_boo, isK3_str, isK3_Non, isK3_dic, isK4_lis, isK4_tup, isK4_int, isK4_boo, isK4_str, isK4_Non, isK4_dic, isK5_lis, isK5_tup, isK5_int, isK5_boo, isK5_str, isK5_Non, isK5_dic, isK6_lis, isK6_tup, isK6_int, isK6_boo, isK6_str, isK6_Non, isK6_dic, isK7_lis, isK7_tup, isK7_int, isK7_boo, isK7_str, isK7_Non, isK7_dic, sq_l, sq_t, sq_o, sqC_l, sq_i, sq_n, sq_b, sq_str, sq_d, sq_c, dq_d, dq_o, dqC_d, vw_v, vw_o, vwC_l, vwC_d, ixO_s, ix_l, ix_t, ix_oi, ix_os, ixC_l, ixC_d, ixC_ds, ixC_m, ixC_ms, ixC_x, ix_di, ix_ds, eq_i, eq_b, eq_str, eq_l, eq_t, eq_n, eqO_s, eq_o, eq_lo, eq_to, eq_in, in_l, in_t, in_oi, in_os, inC_l, inC_di, inC_ds, in_di, in_ds, len_l, len_t, len_o, lenC_l, lenC_d, len_d, len_c, abs_i, int_i, int_b, tuple_o, tuple_l, tupleC_l, tuple_t, tupleC_t, all_o, all_l, allC_l, any_o, any_l, anyC_l, sum_o, sum_l, sumC_l, max_o, max_l, maxC_l, min_o, min_l, minC_l, sset_o, sset_l, ssetC_l, sset_t, ssetC_t, max_ii, min_ii, list_l, list_t, list_o, listC_l, listC_d, list_d, sorted_l, sorted_d, sorted_o, sortedC_l, sortedC_d, lrange1, lrange2, div1m, div64, div2, pow18, pow6, add_i, addX_l, addX_t, add_l, add_t, add_o, sub_i, mul_i, mul_l, div_i, mod_i, pow_i, clt, cle, cgt, cge, c_eq, c_ne, c_in, c_ni, ngO_s, c_is, c_isn, c_iso, c_isno, non_n, non_i, non_b, non_s, non_l, non_t, non_d, fX_s, kFld_f, kFld_b, fY_v, fY_o, kFld_o, fC_s, fD_x, fC_i, atom_i, atom_b, atom_s, atom_n, isI_i, intD_i, isB_b, blD_b, all_isIf, map_intDf, all_isBf, all_blDf, any_blDf, all_tt, mt_app, apC_l, mt_ext, exC_l, mt_pop, mt_rem, remC_l, mt_g1di, mt_g2di, mt_g1oi, mt_g2oi, g1Ci_d, g2Ci_d, mt_g1ds, mt_g2ds, mt_g1os, mt_g2os, g1Cs_d, g2Cs_d, g1_s, g1_n, g2_s, g2_n, kTurn_nx, kTurn_ct, kOk_ok, keepB_nil, forB, forB1_ok, lcB, lcC, dcB, vz_s, vz_l, vz_d, opt_some, gd_t, lk, pt, pts, lkA, lkM, ptM, clr, List.map, List.length, List.replicate, List.append_nil, List.nil_append, List.cons_append, List.append_assoc, List.drop, Nat.beq, Nat.ble, Nat.blt, Nat.reduceAdd, Nat.reduceSub, Nat.zero_add, Nat.add_zero, Nat.sub_zero, keyD, bindE, C.frz, okTake, closedB, List.take, List.all, C.refs, Sl.isNon, Bool.and_true, Bool.true_and, Bool.and_false, Bool.false_and, Bool.or_false, Bool.or_true, Bool.true_or, Bool.false_or, Bool.not_true, Bool.not_false, decide_true, decide_false, Int.reduceLT, Int.reduceLE, Int.reduceAdd, Int.reduceSub, Int.reduceMul, Int.reduceNeg, Int.reduceEq, Int.reduceToNat, Nat.reduceLT, Nat.reduceLeDiff, Nat.reduceMul, Nat.reduceEqDiff, and_self, and_true, true_and, List.set_cons_zero, List.set_cons_succ, $as,*])
theorem rngD_at {a : Int} {i : Nat} {y : Int} (h0 : -1 ≤ a) (h : (rngD a (a - -1).toNat)[i]? = some y) : i < (a + 1).toNat ∧ y = a - i := by
  unfold rngD at h
  rw [List.getElem?_map] at h
  by_cases h1 : i < (a - -1).toNat
  · rw [List.getElem?_range h1] at h
    simp at h
    omega
  · rw [List.getElem?_eq_none_iff.mpr (by simp; omega)] at h
    cases h
theorem rngD_ln {a : Int} (h0 : -1 ≤ a) : (rngD a (a - -1).toNat).length = (a + 1).toNat := by
  unfold rngD
  simp
theorem dT_keys (ks : List Int) : ((dT ks).map fun p => kD p.1) = ks.map D.int := by
  unfold dT
  rw [List.map_map]
  rfl
theorem dT_ints (ks : List Int) : ((dT ks).map fun p => intD (kD p.1)) = ks := by
  unfold dT
  rw [List.map_map]
  conv => rhs; rw [← List.map_id ks]
  rfl
theorem dT_len (ks : List Int) : (dT ks).length = ks.length := List.length_map ..
theorem Graph_had_ev {g : Gr} {x : D} {ns : List Int} (hw : WF g) (hx : IsSeq x (ns.map D.int)) (hl : ns.length ≤ 1000) (hn : In g ns) : f_Graph_had [.val (grO g), .val x] [] = .ok (.n (.lst ((hadL g ns).map D.int))) [] := by
  have hwl := hw.len
  have e1 : ∀ M, dcE (dcB [] (.n 3) .nil (.v 3) (.k (.bl true)) [.val (grO g), .val x, .un, .un, .un, .un]) (okLc M []) (ns.map D.int) [] M = .ok (dT (ns.foldl addI [])) M := fun M => by
    rw [dc_flat (kf := fun n => .inl n) (vf := fun _ => .bl true) okLc_self ns [] (fun n hn => by simp? []), all_dT]
  simp? [f_Graph_had, c_Graph_had, kI_seq hx, kDc1_ok (show (ns.map D.int).length ≤ 100000 by rw [List.length_map]; omega), e1, kFld_g0, kRdb_ok (show -100000 ≤ (g.length : Int) - 1 ∧ (g.length : Int) - 1 ≤ 100000 ∧ -100000 ≤ -1 ∧ -1 ≤ 100000 by omega)]
  generalize hF : forE _ _ _ _ _ _ = F
  refine Exists.elim (for_gen hF (T := List Int) (fun _ => [.val (grO g), .val x, .own 0, .un, .un, .un]) (fun ks => [.dic (dT ks)]) (fun i ks => ks.Nodup ∧ In g ks ∧ sweepL (hadSt g) (g.length - i) ks = sweepL (hadSt g) g.length (ns.foldl addI [])) (ns.foldl addI []) rfl rfl ⟨nd_addAll List.nodup_nil, fun y hy => hn y (by simpa using (mem_addAll.mp hy)), rfl⟩ fun i y ks hi ⟨nd, hks, hsw⟩ => ?_) fun ks ⟨⟨nd, hks, hsw⟩, hE⟩ => ?_
  · obtain ⟨hi1, hi2⟩ := rngD_at (by omega) hi
    have y0 : 0 ≤ y := by omega
    have y1 : y < g.length := by omega
    have wat := hw.at (i := y) y0 y1
    have yn : y = ((g.length - 1 - i : Nat) : Int) := by omega
    have hsw2 : sweepL (hadSt g) (g.length - (i + 1)) (hadSt g (g.length - 1 - i) ks) = sweepL (hadSt g) g.length (ns.foldl addI []) := by
      rw [← hsw, show g.length - i = (g.length - (i + 1)) + 1 by omega]
      show _ = sweepL (hadSt g) _ (hadSt g (g.length - (i + 1)) ks)
      rw [show g.length - 1 - i = g.length - (i + 1) by omega]
    by_cases hin : y ∈ ks
    · have he : hadSt g (g.length - 1 - i) ks = (gpar g y).foldl addI ks := by
        unfold hadSt
        rw [← yn, if_pos hin]
      simp? [get_dT, decide_eq_true hin, kFld_g1, par_at y0 y1]
      generalize hG : forE _ _ _ _ _ _ = G
      refine Exists.elim (for_gen hG (T := List Int) (fun _ => [.val (grO g), .val x, .own 0, .un, .val (.int y), .un]) (fun ks => [.dic (dT ks)]) (fun j ks' => ks'.Nodup ∧ In g ks' ∧ ks' = ((gpar g y).take j).foldl addI ks) ks rfl rfl ⟨nd, hks, rfl⟩ fun j p ks' hj ⟨nd', hks', e'⟩ => ?_) fun ks' ⟨⟨nd', hks', e'⟩, hE⟩ => ?_
      · have hp := wat.2.2.2 p (List.mem_of_getElem? hj)
        have hl := nd_len nd' hks'
        refine ⟨addI ks' p, ?_, nd_addI nd', fun z hz => ?_, by rw [List.take_add_one, hj, e', List.foldl_append]; rfl⟩
        · simp? [dT_len, decide_eq_true (show ks'.length < 100000 by omega), put_dT]
        · rcases mem_addI.mp hz with h | rfl
          · exact hks' z h
          · omega
      · subst hE
        rw [List.take_length] at e'
        refine ⟨ks', ?_, nd', hks', ?_⟩
        · simp? []
        · rw [e', ← he]; exact hsw2
    · have he : hadSt g (g.length - 1 - i) ks = ks := by
        unfold hadSt
        rw [← yn, if_neg hin]
      rw [he] at hsw2
      refine ⟨ks, ?_, nd, hks, hsw2⟩
      simp? [get_dT, decide_eq_false hin, forE_nil]
  · subst hE
    rw [rngD_ln (by omega), show g.length - ((g.length : Int) - 1 + 1).toNat = 0 by omega] at hsw
    have hsw : ks = sweepL (hadSt g) g.length (ns.foldl addI []) := hsw
    have hl := nd_len nd hks
    simp? [dT_keys, dT_ints, dT_len, decide_eq_true (show ks.length < 64 by omega)]
    rw [hsw]; rfl
theorem had_len {g : Gr} (hw : WF g) {ns : List Int} (hn : In g ns) : ((hadL g ns).map D.int).length ≤ 24 := by rw [List.length_map]; exact hadL_len hw hn
theorem in1 {g : Gr} {a : Int} (h : 0 ≤ a ∧ a < g.length) : In g [a] := fun x hx => by rw [List.mem_singleton.mp hx]; exact h
theorem had_ev {g : Gr} {d : D} {a : Int} (hw : WF g) (hg : IsG g d) (ha : 0 ≤ a ∧ a < g.length) : f_had [.val d, .val (.int a)] [] = .ok (.n (.lst ((hadL g [a]).map D.int))) [] := by
  simp? [f_had, c_had, graph_at1 (ns := [a]) (y := .lst [.int a]) hg hw (.inl rfl) (in1 ha), kMeth1_g, Graph_had_ev (ns := [a]) (x := .lst [.int a]) hw (.inl rfl) (by simp) (in1 ha)]
theorem truth_ev {g : Gr} {d x y : D} {a b : List Int} (hw : WF g) (hg : IsG g d) (hx : IsSeq x (a.map D.int)) (hy : IsSeq y (b.map D.int)) (ha : In g a) (hb : In g b) (la : a.length ≤ 1000) (lb : b.length ≤ 1000) : f_truth [.val d, .val x, .val y] [] = .ok (.n (.lst ((truthL g a b).map D.int))) [] := by
  have hl := had_len hw ha
  have e : ∀ M, lcE (lcB [f_graph_at, f_Graph_had] (.n 5) (.one (.cmp .NotIn (.v 5) (.v 4))) (.v 5) [.val d, .val x, .val y, .val (grO g), .val (.lst ((hadL g b).map D.int)), .un]) (okLc M []) ((hadL g a).map D.int) [] M = .ok ((truthL g a b).map D.int) M := fun M => lc_filt okLc_self fun n hn => by
    simp? []
  simp? [f_truth, c_truth, graph_at2 hg hw hx ha hy hb, kMeth1_g, Graph_had_ev hw hx la ha, Graph_had_ev hw hy lb hb, kLc1_ok (show ((hadL g a).map D.int).length ≤ 100000 by omega), e]
theorem closed_ev {g : Gr} {d x : D} {a : List Int} (hw : WF g) (hg : IsG g d) (hx : IsSeq x (a.map D.int)) (ha : In g a) (la : a.length ≤ 1000) : f_closed [.val d, .val x] [] = .ok (.s (.val (.tup ((hadL g a).map D.int)))) [] := by
  simp? [f_closed, c_closed, graph_at1 hg hw hx ha, kMeth1_g, Graph_had_ev hw hx la ha]
/-! ### levels -/
theorem Graph_len_ev {g : Gr} : f_Graph_len [.val (grO g)] [] = .ok (.s (.val (.int g.length))) [] := by
  simp? [f_Graph_len, c_Graph_len, kFld_g0]
theorem kLenO_g {g : Gr} {env : List Den} {n : Nat} {M : List C} (e : lkA env n = some f_Graph_len) (hw : WF g) : kLenO env n (.ok (.val (grO g)) M) = .ok (.s (.val (.int g.length))) M := kLenO_ok e Graph_len_ev (by omega) (by have := hw.len; omega)
theorem Graph_dates_ev {g : Gr} : f_Graph_dates [.val (grO g)] [] = .ok (.n (.lst ((g.map (·.1)).map D.int))) [] := by
  simp? [f_Graph_dates, c_Graph_dates, kFld_g0]
theorem rising_ev {g : Gr} {lows : List Int} (hw : WF g) (hl : lows.length = g.length) : f_rising [.val (grO g), .val (.lst (lows.map D.int))] [] = .ok (.s (.val (.tup ((risL g lows).map D.int)))) [] := by
  have hwl := hw.len
  simp? [f_rising, c_rising]
  generalize hF : forE _ _ _ _ _ _ = F
  refine Exists.elim (for_gen hF (T := List Int) (fun _ => [.val (grO g), .val (.lst (lows.map D.int)), .own 0, .un, .un, .un]) (fun t => [.lst (t.map D.int)]) (fun i t => t = (lows.take i).foldl (risSt g) []) [] rfl rfl rfl fun i x t hi ht => ?_) fun t ⟨ht, hE⟩ => ?_
  · obtain ⟨rfl, hi⟩ : x = i ∧ i < lows.length := by
      obtain ⟨q1, q2⟩ := List.getElem?_eq_some_iff.mp hi
      rw [List.getElem_range] at q2
      rw [List.length_range] at q1
      exact ⟨q2.symm, q1⟩
    have el : lows[x]? = some lows[x] := List.getElem?_eq_getElem hi
    have ey : (lows.map D.int).getD x .non = .int lows[x] := by
      rw [List.getD_eq_getElem?_getD, List.getElem?_map, el]; rfl
    have htl : t.length = x := by rw [ht, ris_len, List.length_take]; simp; omega
    have hx0 : (0 : Int) ≤ (x : Int) := by omega
    have hx1 : (x : Int) < g.length := by omega
    have wat := hw.at hx0 hx1
    have pl := hw.parlen hx0 hx1
    have e : ∀ M, M = [C.lst (t.map D.int)] → lcE (lcB [f_Graph_parents] (.n 5) .nil (.bin .Add (.ix (.v 2) (.v 5)) (.k (.int 1))) [.val (grO g), .val (.lst (lows.map D.int)), .own 0, .val (.int x), .val (.int lows[x]), .un]) (okLc M []) ((gpar g x).map D.int) [] M = .ok ((gpar g x).map fun p => .int (t.getD p.toNat 0 + 1)) M := fun M hM => lc_map okLc_self fun p hp => by
      subst hM
      have hp := wat.2.2.2 p hp
      simp? [atI_map (f := D.int) (z := 0) (xs := t) hp.1 (by omega)]
    have e := e _ rfl
    refine ⟨risSt g t lows[x], ?_, by rw [List.take_add_one, el, List.foldl_append, ← ht]; rfl⟩
    have hm : ([D.int lows[x]] ++ (gpar g x).map fun p => D.int (t.getD p.toNat 0 + 1)) = (lows[x] :: (gpar g x).map fun p => t.getD p.toNat 0 + 1).map D.int := by simp
    have d1 : decide (1 + (gpar g x).length ≤ 100000) = true := decide_eq_true (by omega)
    have d3 : decide (x < 100000) = true := decide_eq_true (by omega)
    have d4 : decide (0 < (gpar g x).length + 1) = true := decide_eq_true (by omega)
    have hm2 : (D.int lows[x] :: (gpar g x).map fun p => D.int (t.getD p.toNat 0 + 1)) = (lows[x] :: (gpar g x).map fun p => t.getD p.toNat 0 + 1).map D.int := by simp
    simp? [ey, kMeth1_g, Graph_parents_ev hx0 hx1, kLc1_ok (show ((gpar g x).map D.int).length ≤ 100000 by rw [List.length_map]; omega), e, d1, d3, d4, risSt, htl, List.map_append]
  · subst hE
    rw [List.length_range, List.take_length] at ht
    simp? [ht]
    rfl
end Dl
/-! P3: had, truth, closed, nearest, levels, mended, tables -/
namespace Dl
open PySem L2
local macro_rules | `(tactic| simp? [$as,*]) => `(tactic| simp -implicitDefEqProofs only [bif_t, bif_f, Option.isSome_none, Option.isSome_some, List.length_map, List.length_range, rng_len, all_atom, inD_int, all_isI, map_intD, run_ok, runI_ok, rhoN, kFin_nx, kFin_rt, finZ_v, finZ_l, finZ_d, finZ_o, finO_l, finO_d, finO_s, finO_i, kInit_nx, es_nil, es_cons, seqE_nx, seqE_rt, seqE_bk, seqE_ct, s_asg, kAsg_ok, s_par, kPar_ok, s_tgt, kTgt_ok, kNx_ok, s_setix, kSx1_ok, kSx2_ok, kSx3_ok, setX, setE, s_setfld, kSf1_ok, kSf2_ok, setFX, setfM, slOk, putSl, s_aug, kAug1_ok, s_ite, kIte_ok, s_for, kFor_ok, s_while, s_ret, kRet_ok, s_ex, kEx_ok, s_pass, s_bad, ev_v, ev_k, ev_g, ev_bin, kBin1_ok, kBin2_ok, ev_neg, kNeg_ok, kB_ok, ev_cmp, kCmp1_ok, kCmp2_ok, ev_cmp2, kCC1_ok, kCC2_ok, kCC3_ok, ev_not, kNot_ok, ev_and, kAnd_ok, ev_or, kOr_ok, ev_ife, kIfe_ok, ev_tup, kTup0, kTup1, kTup2, kTup3, kTup4, kTup5, kTup6, kTup7, kTup8, ev_lst, kLst0, kLst1, kLst2, kLst3, kLst4, kLst5, kLst6, kLst7, kLst8, ev_dct, kDct0, kDct1i, ev_orl, kOrl_c, kOrl_n, ev_ix, kIx1_ok, kIx2_ok, kS_ok, ev_cut, kCut1_ok, kCut2_ok, kCut3_ok, cutE_l, cutE_t, cutE_s, cutE_o, ev_rev, kRev_l, kRev_o, ev_fld, ev_bi, kBi_ok, ev_isi, kIsi_l, kIsi_t, kIsi_i, kIsi_b, kIsi_s, kIsi_n, kIsi_d, ev_lenO, ev_call, kCall_ok, ev_callk, kCallk_ok, lk0, ev_meth, kMeth1_f, kMeth1_b, kMeth2_ok, ev_make, kMake1, kMake2, kMake3, kMake4, kMake5, ev_mt, kMt1_ok, kMt2_ok, mtOk, Mth.isL, ev_lc, kLc_ok, ev_dc, kDc_ok, ev_own, kOwn_ok, ev_lend, kLend_b, kLend_i, lendS, frz2, vws, ev_scope, et_not, kNg_ok, et_and, kTA_ok, et_or, kTO_ok, et_cmp, et_e, kT_ok, ea_nil, ea_cons, kA1_ok, kA2_ok, ea_star, kSt2_ok, eo_n, eo_s, kO_ok, ei_e, kI_l, kI_t, kI_o, ei_r1, kR1_ok, ei_r2, kR2b_ok, kR2a_ok, ei_rd, kRda_ok, ei_en, kEn_l, ei_zp, kZpa_ok, kZpb_l, kZpb_t, eg_last, eg_cons, lcB2_ok, lcB1_ok, lcC2_ok, lcC1_ok, kElt_ok, els_n, els_o, ed_dlast, dcB3_i, dcB3_s, dcB2b_ok, dcB2_ok, dcB1_ok, doCall_some, kAt, kBack_ok, inKs, refsL_eq, refsL, reach_eq, clo_nil, clo_cons, scat_nil, scat, backM, bk, selM, okSel, nodupB, chosB, restC, rest1, refsAt, memN, plc, Zmp_v, Zmp_o, Zmp_l, Zmp_d, Smp_v, Smp_o, Smp_u, Cmp_l, Cmp_d, Cmp_m, Cmp_i, Cmp_s, Cmp_x, Cmp_o, restC_nil, kMkO_ok, trim_val, trim_un, trim_own, trimE_ok, isK0_lis, isK0_tup, isK0_int, isK0_boo, isK0_str, isK0_Non, isK0_dic, isK1_lis, isK1_tup, isK1_int, isK1_boo, isK1_str, isK1_Non, isK1_dic, isK2_lis, isK2_tup, isK2_int, isK2_boo, isK2_str, isK2_Non, isK2_dic, isK3_lis, isK3_tup, isK3_int, isK3_boo, isK3_str, isK3_Non, isK3_dic, isK4_lis, isK4_tup, isK4_int, isK4_boo, isK4_str, isK4_Non, isK4_dic, isK5_lis, isK5_tup, isK5_int, isK5_boo, isK5_str, isK5_Non, isK5_dic, isK6_lis, isK6_tup, isK6_int, isK6_boo, isK6_str, isK6_Non, isK6_dic, isK7_lis, isK7_tup, isK7_int, isK7_boo, isK7_str, isK7_Non, isK7_dic, sq_l, sq_t, sq_o, sqC_l, sq_i, sq_n, sq_b, sq_str, sq_d, sq_c, dq_d, dq_o, dqC_d, vw_v, vw_o, vwC_l, vwC_d, ixO_s, ix_l, ix_t, ix_oi, ix_os, ixC_l, ixC_d, ixC_ds, ixC_m, ixC_ms, ixC_x, ix_di, ix_ds, eq_i, eq_b, eq_str, eq_l, eq_t, eq_n, eqO_s, eq_o, eq_lo, eq_to, eq_in, in_l, in_t, in_oi, in_os, inC_l, inC_di, inC_ds, in_di, in_ds, len_l, len_t, len_o, lenC_l, lenC_d, len_d, len_c, abs_i, int_i, int_b, tuple_o, tuple_l, tupleC_l, tuple_t, tupleC_t, all_o, all_l, allC_l, any_o, any_l, anyC_l, sum_o, sum_l, sumC_l, max_o, max_l, maxC_l, min_o, min_l, minC_l, sset_o, sset_l, ssetC_l, sset_t, ssetC_t, max_ii, min_ii, list_l, list_t, list_o, listC_l, listC_d, list_d, sorted_l, sorted_d, sorted_o, sortedC_l, sortedC_d, lrange1, lrange2, div1m, div64, div2, pow18, pow6, add_i, addX_l, addX_t, add_l, add_t, add_o, sub_i, mul_i, mul_l, div_i, mod_i, pow_i, clt, cle, cgt, cge, c_eq, c_ne, c_in, c_ni, ngO_s, c_is, c_isn, c_iso, c_isno, non_n, non_i, non_b, non_s, non_l, non_t, non_d, fX_s, kFld_f, kFld_b, fY_v, fY_o, kFld_o, fC_s, fD_x, fC_i, atom_i, atom_b, atom_s, atom_n, isI_i, intD_i, isB_b, blD_b, all_isIf, map_intDf, all_isBf, all_blDf, any_blDf, all_tt, mt_app, apC_l, mt_ext, exC_l, mt_pop, mt_rem, remC_l, mt_g1di, mt_g2di, mt_g1oi, mt_g2oi, g1Ci_d, g2Ci_d, mt_g1ds, mt_g2ds, mt_g1os, mt_g2os, g1Cs_d, g2Cs_d, g1_s, g1_n, g2_s, g2_n, kTurn_nx, kTurn_ct, kOk_ok, keepB_nil, forB, forB1_ok, lcB, lcC, dcB, vz_s, vz_l, vz_d, opt_some, gd_t, lk, pt, pts, lkA, lkM, ptM, clr, List.map, List.length, List.replicate, List.append_nil, List.nil_append, List.cons_append, List.append_assoc, List.drop, Nat.beq, Nat.ble, Nat.blt, Nat.reduceAdd, Nat.reduceSub, Nat.zero_add, Nat.add_zero, Nat.sub_zero, keyD, bindE, C.frz, okTake, closedB, List.take, List.all, C.refs, Sl.isNon, Bool.and_true, Bool.true_and, Bool.and_false, Bool.false_and, Bool.or_false, Bool.or_true, Bool.true_or, Bool.false_or, Bool.not_true, Bool.not_false, decide_true, decide_false, Int.reduceLT, Int.reduceLE, Int.reduceAdd, Int.reduceSub, Int.reduceMul, Int.reduceNeg, Int.reduceEq, Int.reduceToNat, Nat.reduceLT, Nat.reduceLeDiff, Nat.reduceMul, Nat.reduceEqDiff, and_self, and_true, true_and, List.set_cons_zero, List.set_cons_succ, $as,*])
theorem levels_ev {g : Gr} {d : D} (hw : WF g) (hg : IsG g d) : f_levels [.val d] [] = .ok (.s (.val (.tup ((levL g).map D.int)))) [] := by
  have hwl := hw.len
  have e : (List.replicate (Int.toNat (g.length : Int)) [D.int 1]).flatten = (List.replicate g.length (1 : Int)).map D.int := by
    rw [Int.toNat_natCast]
    induction g.length with
    | zero => rfl
    | succ n ih => rw [List.replicate_succ, List.flatten_cons, ih]; rfl
  simp? [f_levels, c_levels, Graph_mkF hw hg, kLenO_g (g := g) (env := [mkF i_Graph_init, f_Graph_len, f_rising]) (n := 1) (by rfl) hw, repB_t (show 0 ≤ (g.length : Int) ∧ (g.length : Int) ≤ 1000 ∧ 1 ≤ 1000 by omega), e, rising_ev (lows := List.replicate g.length 1) hw (by simp)]
  rfl

theorem mended_ev {g : Gr} {d : D} (hw : WF g) (hg : IsG g d) : f_mended [.val d] [] = .ok (.s (.val (.tup ((menL g).map D.int)))) [] := by
  simp? [f_mended, c_mended, Graph_mkF hw hg, kMeth1_g, Graph_dates_ev, rising_ev (lows := g.map (·.1)) hw (by simp)]
  rfl
/-! ### tables -/
theorem is_number_i {i b : Int} : f_is_number [.val (.int i), .val (.int b)] [] = .ok (.s (.val (.bl (decide (b ≤ i))))) [] := by
  simp? [f_is_number, c_is_number]
def ascB (a : List Int) : Bool := decide (a = sset a)
theorem are_commits_ev {a : List Int} {m : Int} (hl : a.length < 64) : f_are_commits [.val (.tup (a.map D.int)), .val (.int m)] [] = .ok (.s (.val (.bl ((a.all fun x => decide (0 ≤ x) && decide (x < m)) && ascB a)))) [] := by
  have e : ∀ M, lcE (lcB [f_is_number] (.n 2) .nil (.and (.call 0 "is_number" (.cons (.v 2) (.cons (.k (.int 0)) .nil))) (.cmp .Lt (.v 2) (.v 1))) [.val (.tup (a.map D.int)), .val (.int m), .un]) (okLc M []) (a.map D.int) [] M = .ok (a.map fun x => .bl (decide (0 ≤ x) && decide (x < m))) M := fun M => lc_map okLc_self fun x hx => by
    cases h : decide (0 ≤ x) <;> simp? [is_number_i, h]
  have p1 : plain 60 (.lst (a.map D.int)) = true := plain_lst (by rw [List.length_map]; omega) plain_ints
  have p2 : plain 60 (.lst ((sset a).map D.int)) = true := plain_lst (by rw [List.length_map]; have := len_sset a; omega) plain_ints
  have eq : eqD (.lst (a.map D.int)) (.lst ((sset a).map D.int)) = ascB a := eqD_ints _ _
  simp? [f_are_commits, c_are_commits, kLc1_ok (show (a.map D.int).length ≤ 100000 by rw [List.length_map]; omega), e, all_isBf, all_blDf]
  cases h : a.all fun p => decide (0 ≤ p) && decide (p < m) with
  | false => simp? [h]
  | true => simp? [h, decide_eq_true hl, p1, p2, eq]
theorem is_table_ev {g : Gr} {d : D} {a : List Int} (hw : WF g) (hg : IsG g d) (hl : a.length < 64) : f_is_table [.val d, .val (.tup (a.map D.int))] [] = .ok (.s (.val (.bl ((a.all fun x => decide (0 ≤ x) && decide (x < (g.length : Int))) && ascB a && decide (hadL g a = a))))) [] := by
  have e2 : lkA [mkF i_Graph_init, f_Graph_len, f_are_commits, f_Graph_had] 1 = some f_Graph_len := rfl
  simp? [f_is_table, c_is_table, Graph_mkF hw hg, kLenO_g e2 hw, are_commits_ev hl]
  cases h : (a.all fun x => decide (0 ≤ x) && decide (x < (g.length : Int))) && ascB a with
  | false => simp? [h]
  | true =>
    have h1 := (Bool.and_eq_true_iff.mp h).1
    have hi : In g a := fun x hx => by
      have := List.all_eq_true.mp h1 x hx
      have := Bool.and_eq_true_iff.mp this
      exact ⟨of_decide_eq_true this.1, of_decide_eq_true this.2⟩
    have p1 : plain 60 (.lst (a.map D.int)) = true := plain_lst (by rw [List.length_map]; omega) plain_ints
    have p2 : plain 60 (.lst ((hadL g a).map D.int)) = true := plain_lst (by have := had_len hw hi; omega) plain_ints
    simp? [h, kMeth1_g, Graph_had_ev (x := .tup (a.map D.int)) hw (.inr rfl) (by omega) hi, p1, p2, eqD_ints]
/-! ### ways -/
theorem kvs_len {kvs : List (Int × Int)} {n : Nat} (nd : (kvs.map (·.1)).Nodup) (h : ∀ q ∈ kvs, 0 ≤ q.1 ∧ q.1 < (n : Int)) : kvs.length ≤ n := by
  have := nd_len (n := n) nd fun x hx => by
    obtain ⟨q, h2, h3⟩ := List.mem_map.mp hx
    rw [← h3]; exact h q h2
  rwa [List.length_map] at this
theorem keys_wayIn {here p : Int} {kvs : List (Int × Int)} {n : Int} (h : ∀ q ∈ kvs, 0 ≤ q.1 ∧ q.1 < n) (hp : 0 ≤ p ∧ p < n) : ∀ q ∈ wayIn here kvs p, 0 ≤ q.1 ∧ q.1 < n := fun q hq => by
  have h1 : q.1 ∈ (wayIn here kvs p).map (·.1) := List.mem_map_of_mem hq
  unfold wayIn at h1
  rw [putI_keys] at h1
  rcases mem_addI.mp h1 with h1 | h1
  · obtain ⟨q', h2, h3⟩ := List.mem_map.mp h1
    rw [← h3]; exact h q' h2
  · rw [h1]; exact hp
theorem opt_int {o : Option Int} : (o.map D.int).isSome = o.isSome := by cases o <;> rfl
theorem kFld_r1 {g : Gr} {kvs : List (Key × D)} {M : List C} (h0 : lkM M 0 = lkM (grC g kvs) 0) (h1 : lkM M 1 = some .dxx) : kFld 1 1 (.ok (.own 0) M) = .ok (.s (.val (.lst (g.map fun r => .tup (r.2.map D.int))))) M := by
  rw [kFld_o, h0]
  show fC 1 1 M (some (.sob 1 1 [.val (.lst ((g.map (·.1)).map D.int)), .val (.lst (g.map fun r => .tup (r.2.map D.int))), .own 2])) = _
  rw [fC_s, h1]; rfl
theorem Graph_ways_ev {g : Gr} {a : Int} (hw : WF g) (ha : 0 ≤ a ∧ a < g.length) : f_Graph_ways [.val (grO g), .val (.int a)] ([]) = .ok (.n (.dic (dN (waysL g a)))) ([]) := by
  have hwl := hw.len
  simp? [f_Graph_ways, c_Graph_ways, kRdb_ok (show -100000 ≤ a ∧ a ≤ 100000 ∧ -100000 ≤ -1 ∧ -1 ≤ 100000 by omega)]
  generalize hF : forE _ _ _ _ _ _ = F
  refine Exists.elim (for_gen hF (T := List (Int × Int)) (fun _ => [.val (grO g), .val (.int a), .own 0, .un, .un]) (fun t => [.dic (dN t)]) (fun i t => (t.map (·.1)).Nodup ∧ (∀ q ∈ t, 0 ≤ q.1 ∧ q.1 < (g.length : Int)) ∧ wayFrom g (a.toNat + 1 - i) t = waysL g a) [(a, 0)] rfl rfl ⟨by simp, by simp; exact ha, rfl⟩ fun i y t hi ⟨nd, hks, hsw⟩ => ?_) fun t ⟨⟨nd, hks, hsw⟩, hE⟩ => ?_
  · obtain ⟨hi1, hi2⟩ := rngD_at (by omega) hi
    have y0 : 0 ≤ y := by omega
    have y1 : y < g.length := by omega
    have yn : y = ((a.toNat - i : Nat) : Int) := by omega
    have wat := hw.at (i := y) y0 y1
    have hsw2 : wayFrom g (a.toNat + 1 - (i + 1)) (waySt g (a.toNat - i) t) = waysL g a := by
      rw [← hsw, show a.toNat + 1 - i = (a.toNat + 1 - (i + 1)) + 1 by omega]
      show _ = wayFrom g _ (waySt g (a.toNat + 1 - (i + 1)) t)
      rw [show a.toNat - i = a.toNat + 1 - (i + 1) by omega]
    cases hin : (getI t y).isSome with
    | true =>
      obtain ⟨v, hv⟩ := Option.isSome_iff_exists.mp hin
      have he : waySt g (a.toNat - i) t = (gpar g y).foldl (wayIn y) t := by
        unfold waySt
        rw [← yn, if_pos hin]
      simp? [get_dN, opt_int, hin, kFld_g1, par_at y0 y1]
      generalize hG : forE _ _ _ _ _ _ = G
      refine Exists.elim (for_gen hG (T := List (Int × Int)) (fun _ => [.val (grO g), .val (.int a), .own 0, .val (.int y), .un]) (fun s => [.dic (dN s)]) (fun j s => (s.map (·.1)).Nodup ∧ (∀ q ∈ s, 0 ≤ q.1 ∧ q.1 < (g.length : Int)) ∧ getI s y = some v ∧ s = ((gpar g y).take j).foldl (wayIn y) t) t rfl rfl ⟨nd, hks, hv, rfl⟩ fun j p s hj ⟨nd', hks', hv', e'⟩ => ?_) fun s ⟨⟨nd', hks', hv', e'⟩, hE⟩ => ?_
      · have hp := wat.2.2.2 p (List.mem_of_getElem? hj)
        have hl := kvs_len nd' hks'
        refine ⟨wayIn y s p, ?_, nd_wayIn nd', keys_wayIn hks' (by omega), by rw [wayIn_other (by omega)]; exact hv', by rw [List.take_add_one, hj, List.foldl_append, ← e']; rfl⟩
        have eg : getK (dN s) (.inl y) = some (.int v) := by rw [get_dN, hv']; rfl
        have ew : putD (dN s) (.inl p) (.int (max ((getI s p).getD 0) (v + 1))) = dN (wayIn y s p) := by
          rw [put_dN]
          unfold wayIn
          rw [hv']; rfl
        have e3 : ∀ M, g2 M (.int 0) (getK (dN s) (.inl p)) = .ok (.s (.val (.int ((getI s p).getD 0)))) M := fun M => by rw [get_dN]; cases getI s p <;> rfl
        simp? [eg, e3, dN_len, decide_eq_true (show s.length < 100000 by omega), ew]
      · subst hE
        rw [List.take_length] at e'
        refine ⟨s, ?_, nd', hks', ?_⟩
        · simp? []
        · rw [e', ← he]; exact hsw2
    | false =>
      have he : waySt g (a.toNat - i) t = t := by
        unfold waySt
        rw [← yn, if_neg (by rw [hin]; simp)]
      rw [he] at hsw2
      refine ⟨t, ?_, nd, hks, hsw2⟩
      simp? [get_dN, opt_int, hin, forE_nil]
  · subst hE
    rw [rngD_ln (by omega), show a.toNat + 1 - (a + 1).toNat = 0 by omega] at hsw
    have hsw : t = waysL g a := hsw
    subst hsw
    simp? []
theorem Graph_waysO_ev {g : Gr} {a : Int} {kvs : List (Key × D)} (hw : WF g) (ha : 0 ≤ a ∧ a < g.length) : f_Graph_ways [.own 0, .val (.int a)] (grC g kvs) = .ok (.n (.dic (dN (waysL g a)))) (grC g kvs) := by
  have hwl := hw.len
  simp? [f_Graph_ways, c_Graph_ways, grC, kRdb_ok (show -100000 ≤ a ∧ a ≤ 100000 ∧ -100000 ≤ -1 ∧ -1 ≤ 100000 by omega)]
  generalize hF : forE _ _ _ _ _ _ = F
  refine Exists.elim (for_gen hF (T := List (Int × Int)) (fun _ => [.own 0, .val (.int a), .own 3, .un, .un]) (fun t => [.sob 1 1 [.val (.lst ((g.map (·.1)).map D.int)), .val (.lst (g.map fun r => .tup (r.2.map D.int))), .own 2], .dxx, .dic kvs, .dic (dN t)]) (fun i t => (t.map (·.1)).Nodup ∧ (∀ q ∈ t, 0 ≤ q.1 ∧ q.1 < (g.length : Int)) ∧ wayFrom g (a.toNat + 1 - i) t = waysL g a) [(a, 0)] rfl rfl ⟨by simp, by simp; exact ha, rfl⟩ fun i y t hi ⟨nd, hks, hsw⟩ => ?_) fun t ⟨⟨nd, hks, hsw⟩, hE⟩ => ?_
  · obtain ⟨hi1, hi2⟩ := rngD_at (by omega) hi
    have y0 : 0 ≤ y := by omega
    have y1 : y < g.length := by omega
    have yn : y = ((a.toNat - i : Nat) : Int) := by omega
    have wat := hw.at (i := y) y0 y1
    have hsw2 : wayFrom g (a.toNat + 1 - (i + 1)) (waySt g (a.toNat - i) t) = waysL g a := by
      rw [← hsw, show a.toNat + 1 - i = (a.toNat + 1 - (i + 1)) + 1 by omega]
      show _ = wayFrom g _ (waySt g (a.toNat + 1 - (i + 1)) t)
      rw [show a.toNat - i = a.toNat + 1 - (i + 1) by omega]
    cases hin : (getI t y).isSome with
    | true =>
      obtain ⟨v, hv⟩ := Option.isSome_iff_exists.mp hin
      have he : waySt g (a.toNat - i) t = (gpar g y).foldl (wayIn y) t := by
        unfold waySt
        rw [← yn, if_pos hin]
      simp? [get_dN, opt_int, hin, par_at y0 y1]
      generalize hG : forE _ _ _ _ _ _ = G
      refine Exists.elim (for_gen hG (T := List (Int × Int)) (fun _ => [.own 0, .val (.int a), .own 3, .val (.int y), .un]) (fun s => [.sob 1 1 [.val (.lst ((g.map (·.1)).map D.int)), .val (.lst (g.map fun r => .tup (r.2.map D.int))), .own 2], .dxx, .dic kvs, .dic (dN s)]) (fun j s => (s.map (·.1)).Nodup ∧ (∀ q ∈ s, 0 ≤ q.1 ∧ q.1 < (g.length : Int)) ∧ getI s y = some v ∧ s = ((gpar g y).take j).foldl (wayIn y) t) t rfl rfl ⟨nd, hks, hv, rfl⟩ fun j p s hj ⟨nd', hks', hv', e'⟩ => ?_) fun s ⟨⟨nd', hks', hv', e'⟩, hE⟩ => ?_
      · have hp := wat.2.2.2 p (List.mem_of_getElem? hj)
        have hl := kvs_len nd' hks'
        refine ⟨wayIn y s p, ?_, nd_wayIn nd', keys_wayIn hks' (by omega), by rw [wayIn_other (by omega)]; exact hv', by rw [List.take_add_one, hj, List.foldl_append, ← e']; rfl⟩
        have eg : getK (dN s) (.inl y) = some (.int v) := by rw [get_dN, hv']; rfl
        have ew : putD (dN s) (.inl p) (.int (max ((getI s p).getD 0) (v + 1))) = dN (wayIn y s p) := by
          rw [put_dN]
          unfold wayIn
          rw [hv']; rfl
        have e3 : ∀ M, g2 M (.int 0) (getK (dN s) (.inl p)) = .ok (.s (.val (.int ((getI s p).getD 0)))) M := fun M => by rw [get_dN]; cases getI s p <;> rfl
        simp? [eg, e3, dN_len, decide_eq_true (show s.length < 100000 by omega), ew]
      · subst hE
        rw [List.take_length] at e'
        refine ⟨s, ?_, nd', hks', ?_⟩
        · simp? []
        · rw [e', ← he]; exact hsw2
    | false =>
      have he : waySt g (a.toNat - i) t = t := by
        unfold waySt
        rw [← yn, if_neg (by rw [hin]; simp)]
      rw [he] at hsw2
      refine ⟨t, ?_, nd, hks, hsw2⟩
      simp? [get_dN, opt_int, hin, forE_nil]
  · subst hE
    rw [rngD_ln (by omega), show a.toNat + 1 - (a + 1).toNat = 0 by omega] at hsw
    have hsw : t = waysL g a := hsw
    subst hsw
    simp? []
theorem Graph_checkO_ev {g : Gr} {x : D} {ns : List Int} {kvs : List (Key × D)} (hx : IsSeq x (ns.map D.int)) (hn : In g ns) : f_Graph_check [.own 0, .val x] (grC g kvs) = .ok (.s (.val .non)) (grC g kvs) := by
  simp? [f_Graph_check, c_Graph_check, kI_seq hx, grC]
  generalize hF : forE _ _ _ _ _ _ = F
  refine Exists.elim (for_gen hF (T := Unit) (fun _ => [.own 0, .val x, .un]) (fun _ => grC g kvs) (fun _ _ => True) () rfl rfl trivial fun i n t hi _ => ?_) fun t ⟨_, hE⟩ => ?_
  · have h := hn n (List.mem_of_getElem? hi)
    refine ⟨(), ?_, trivial⟩
    simp? [grC, decide_eq_true h.1, decide_eq_true h.2]
  · subst hE
    simp? [grC]
theorem graph_atO1 {g : Gr} {x y : D} {ns : List Int} (hg : IsG g x) (hw : WF g) (hy : IsSeq y (ns.map D.int)) (hn : In g ns) : f_graph_atO [.val x, .val y] [] = .ok (.s (.own 0)) (grC g []) := by
  have e : f_graph_atO [.val x, .val y] [] = runS [mkO i_Graph_init, f_Graph_check] c_graph_atO 1 4 (.val x :: [y].map .val) [] := rfl
  have hc := Graph_checkO_ev (kvs := []) hy hn
  have hm := Graph_mkO hw hg
  unfold grC at hc hm
  have hc2 : forE (forB [mkO i_Graph_init, f_Graph_check] (.n 3) (.cons (.ex (.meth 1 (.v 2) 1 "check" (.cons (.v 3) .nil))) .nil)) (trimE 3 [3]) (keepB (grC g []) []) [y] [.val x, .val (.tup [y]), .own 0, .un] (grC g []) = .ok (.nx [.val x, .val (.tup [y]), .own 0, .un]) (grC g []) := by
    rw [forE_step (ρ' := [.val x, .val (.tup [y]), .own 0, .un]) (M' := grC g []), forE_nil]
    unfold grC
    simp? [kMeth1_o (M := [.sob 1 1 [.val (.lst ((g.map (·.1)).map D.int)), .val (.lst (g.map fun r => .tup (r.2.map D.int))), .own 2], .dxx, .dic []]) (c := 1) (k := 0) rfl, hc]
  unfold grC at hc2
  rw [e, runS1 (by simp)]
  simp? [c_graph_atO, hm, hc2, grC]
def dOpt : Option Int → D
  | none => .non
  | some i => .int i
theorem Graph_wayO_ev {g : Gr} {a b : Int} (hw : WF g) (ha : 0 ≤ a ∧ a < g.length) : ∃ kvs, f_Graph_way [.own 0, .val (.int a), .val (.int b)] (grC g []) = .ok (.s (.val (dOpt (wayL g a b)))) (grC g kvs) := by
  have hy := Graph_waysO_ev (kvs := []) hw ha
  unfold grC at hy ⊢
  refine ⟨[(.inl a, .dic ((dN (waysL g a)).map (·.1)) ((dN (waysL g a)).map (·.2)))], ?_⟩
  have e1 : ∀ y : D, getK [((.inl a : Key), y)] (.inl a) = some y := fun y => by simp [getK]
  have e2 : ∀ y : D, putD ([] : List (Key × D)) (.inl a) y = [(.inl a, y)] := fun y => rfl
  have e3 : getK ([] : List (Key × D)) (.inl a) = none := rfl
  have zt : ((dN (waysL g a)).map (·.1)).zip ((dN (waysL g a)).map (·.2)) = dN (waysL g a) := by
    generalize dN (waysL g a) = l
    induction l with
    | nil => rfl
    | cons p l ih => show (p.1, p.2) :: (l.map (·.1)).zip (l.map (·.2)) = _; rw [ih]
  have e4 : ∀ M, g1 M ((getI (waysL g a) b).map D.int) = .ok (.s (.val (dOpt (wayL g a b)))) M := fun M => by
    unfold wayL
    cases getI (waysL g a) b <;> rfl
  simp? [f_Graph_way, c_Graph_way, e1, e2, e3, kMeth1_o (M := [.sob 1 1 [.val (.lst ((g.map (·.1)).map D.int)), .val (.lst (g.map fun r => .tup (r.2.map D.int))), .own 2], .dxx, .dic []]) (c := 1) (k := 0) rfl, hy, zt, get_dN, e4]
theorem way_ev {g : Gr} {d : D} {a b : Int} (hw : WF g) (hg : IsG g d) (ha : 0 ≤ a ∧ a < g.length) (hb : 0 ≤ b ∧ b < g.length) : f_way [.val d, .val (.int a), .val (.int b)] [] = .ok (.s (.val (dOpt (wayL g a b)))) [] := by
  obtain ⟨kvs, h⟩ := Graph_wayO_ev (b := b) hw ha
  have hi : In g [a, b] := fun x hx => by
    rcases List.mem_cons.mp hx with rfl | hx
    · exact ha
    · rw [List.mem_singleton.mp hx]; exact hb
  have hat := graph_atO1 (ns := [a, b]) (y := .lst [.int a, .int b]) hg hw (.inl rfl) hi
  unfold grC at h hat
  simp? [f_way, c_way, hat, kMeth1_o (M := [.sob 1 1 [.val (.lst ((g.map (·.1)).map D.int)), .val (.lst (g.map fun r => .tup (r.2.map D.int))), .own 2], .dxx, .dic []]) (c := 1) (k := 0) rfl, h]
end Dl
/-! P4: reading a drawn graph; more rules -/
namespace Dl
open PySem L2
local macro_rules | `(tactic| simp? [$as,*]) => `(tactic| simp -implicitDefEqProofs only [bif_t, bif_f, Option.isSome_none, Option.isSome_some, List.length_map, List.length_range, rng_len, all_atom, inD_int, all_isI, map_intD, run_ok, runI_ok, rhoN, kFin_nx, kFin_rt, finZ_v, finZ_l, finZ_d, finZ_o, finO_l, finO_d, finO_s, finO_i, kInit_nx, es_nil, es_cons, seqE_nx, seqE_rt, seqE_bk, seqE_ct, s_asg, kAsg_ok, s_par, kPar_ok, s_tgt, kTgt_ok, kNx_ok, s_setix, kSx1_ok, kSx2_ok, kSx3_ok, setX, setE, s_setfld, kSf1_ok, kSf2_ok, setFX, setfM, slOk, putSl, s_aug, kAug1_ok, s_ite, kIte_ok, s_for, kFor_ok, s_while, s_ret, kRet_ok, s_ex, kEx_ok, s_pass, s_bad, ev_v, ev_k, ev_g, ev_bin, kBin1_ok, kBin2_ok, ev_neg, kNeg_ok, kB_ok, ev_cmp, kCmp1_ok, kCmp2_ok, ev_cmp2, kCC1_ok, kCC2_ok, kCC3_ok, ev_not, kNot_ok, ev_and, kAnd_ok, ev_or, kOr_ok, ev_ife, kIfe_ok, ev_tup, kTup0, kTup1, kTup2, kTup3, kTup4, kTup5, kTup6, kTup7, kTup8, ev_lst, kLst0, kLst1, kLst2, kLst3, kLst4, kLst5, kLst6, kLst7, kLst8, ev_dct, kDct0, kDct1i, ev_orl, kOrl_c, kOrl_n, ev_ix, kIx1_ok, kIx2_ok, kS_ok, ev_cut, kCut1_ok, kCut2_ok, kCut3_ok, cutE_l, cutE_t, cutE_s, cutE_o, ev_rev, kRev_l, kRev_o, ev_fld, ev_bi, kBi_ok, ev_isi, kIsi_l, kIsi_t, kIsi_i, kIsi_b, kIsi_s, kIsi_n, kIsi_d, ev_lenO, ev_call, kCall_ok, ev_callk, kCallk_ok, lk0, ev_meth, kMeth1_f, kMeth1_b, kMeth2_ok, ev_make, kMake1, kMake2, kMake3, kMake4, kMake5, ev_mt, kMt1_ok, kMt2_ok, mtOk, Mth.isL, ev_lc, kLc_ok, ev_dc, kDc_ok, ev_own, kOwn_ok, ev_lend, kLend_b, kLend_i, lendS, frz2, vws, ev_scope, et_not, kNg_ok, et_and, kTA_ok, et_or, kTO_ok, et_cmp, et_e, kT_ok, ea_nil, ea_cons, kA1_ok, kA2_ok, ea_star, kSt2_ok, eo_n, eo_s, kO_ok, ei_e, kI_l, kI_t, kI_o, ei_r1, kR1_ok, ei_r2, kR2b_ok, kR2a_ok, ei_rd, kRda_ok, ei_en, kEn_l, ei_zp, kZpa_ok, kZpb_l, kZpb_t, eg_last, eg_cons, lcB2_ok, lcB1_ok, lcC2_ok, lcC1_ok, kElt_ok, els_n, els_o, ed_dlast, dcB3_i, dcB3_s, dcB2b_ok, dcB2_ok, dcB1_ok, doCall_some, kAt, kBack_ok, inKs, refsL_eq, refsL, reach_eq, clo_nil, clo_cons, scat_nil, scat, backM, bk, selM, okSel, nodupB, chosB, restC, rest1, refsAt, memN, plc, Zmp_v, Zmp_o, Zmp_l, Zmp_d, Smp_v, Smp_o, Smp_u, Cmp_l, Cmp_d, Cmp_m, Cmp_i, Cmp_s, Cmp_x, Cmp_o, restC_nil, kMkO_ok, trim_val, trim_un, trim_own, trimE_ok, isK0_lis, isK0_tup, isK0_int, isK0_boo, isK0_str, isK0_Non, isK0_dic, isK1_lis, isK1_tup, isK1_int, isK1_boo, isK1_str, isK1_Non, isK1_dic, isK2_lis, isK2_tup, isK2_int, isK2_boo, isK2_str, isK2_Non, isK2_dic, isK3_lis, isK3_tup, isK3_int, isK3_boo, isK3_str, isK3_Non, isK3_dic, isK4_lis, isK4_tup, isK4_int, isK4_boo, isK4_str, isK4_Non, isK4_dic, isK5_lis, isK5_tup, isK5_int, isK5_boo, isK5_str, isK5_Non, isK5_dic, isK6_lis, isK6_tup, isK6_int, isK6_boo, isK6_str, isK6_Non, isK6_dic, isK7_lis, isK7_tup, isK7_int, isK7_boo, isK7_str, isK7_Non, isK7_dic, sq_l, sq_t, sq_o, sqC_l, sq_i, sq_n, sq_b, sq_str, sq_d, sq_c, dq_d, dq_o, dqC_d, vw_v, vw_o, vwC_l, vwC_d, ixO_s, ix_l, ix_t, ix_oi, ix_os, ixC_l, ixC_d, ixC_ds, ixC_m, ixC_ms, ixC_x, ix_di, ix_ds, eq_i, eq_b, eq_str, eq_l, eq_t, eq_n, eqO_s, eq_o, eq_lo, eq_to, eq_in, in_l, in_t, in_oi, in_os, inC_l, inC_di, inC_ds, in_di, in_ds, len_l, len_t, len_o, lenC_l, lenC_d, len_d, len_c, abs_i, int_i, int_b, tuple_o, tuple_l, tupleC_l, tuple_t, tupleC_t, all_o, all_l, allC_l, any_o, any_l, anyC_l, sum_o, sum_l, sumC_l, max_o, max_l, maxC_l, min_o, min_l, minC_l, sset_o, sset_l, ssetC_l, sset_t, ssetC_t, max_ii, min_ii, list_l, list_t, list_o, listC_l, listC_d, list_d, sorted_l, sorted_d, sorted_o, sortedC_l, sortedC_d, lrange1, lrange2, div1m, div64, div2, pow18, pow6, add_i, addX_l, addX_t, add_l, add_t, add_o, sub_i, mul_i, mul_l, div_i, mod_i, pow_i, clt, cle, cgt, cge, c_eq, c_ne, c_in, c_ni, ngO_s, c_is, c_isn, c_iso, c_isno, non_n, non_i, non_b, non_s, non_l, non_t, non_d, fX_s, kFld_f, kFld_b, fY_v, fY_o, kFld_o, fC_s, fD_x, fC_i, atom_i, atom_b, atom_s, atom_n, isI_i, intD_i, isB_b, blD_b, all_isIf, map_intDf, all_isBf, all_blDf, any_blDf, all_tt, mt_app, apC_l, mt_ext, exC_l, mt_pop, mt_rem, remC_l, mt_g1di, mt_g2di, mt_g1oi, mt_g2oi, g1Ci_d, g2Ci_d, mt_g1ds, mt_g2ds, mt_g1os, mt_g2os, g1Cs_d, g2Cs_d, g1_s, g1_n, g2_s, g2_n, kTurn_nx, kTurn_ct, kOk_ok, keepB_nil, forB, forB1_ok, lcB, lcC, dcB, vz_s, vz_l, vz_d, opt_some, gd_t, lk, pt, pts, lkA, lkM, ptM, clr, List.map, List.length, List.replicate, List.append_nil, List.nil_append, List.cons_append, List.append_assoc, List.drop, Nat.beq, Nat.ble, Nat.blt, Nat.reduceAdd, Nat.reduceSub, Nat.zero_add, Nat.add_zero, Nat.sub_zero, keyD, bindE, C.frz, okTake, closedB, List.take, List.all, C.refs, Sl.isNon, Bool.and_true, Bool.true_and, Bool.and_false, Bool.false_and, Bool.or_false, Bool.or_true, Bool.true_or, Bool.false_or, Bool.not_true, Bool.not_false, decide_true, decide_false, Int.reduceLT, Int.reduceLE, Int.reduceAdd, Int.reduceSub, Int.reduceMul, Int.reduceNeg, Int.reduceEq, Int.reduceToNat, Nat.reduceLT, Nat.reduceLeDiff, Nat.reduceMul, Nat.reduceEqDiff, and_self, and_true, true_and, List.set_cons_zero, List.set_cons_succ, $as,*])
theorem len_g {g : Gr} {M : List C} : biE .len [.val (gT g)] M = some (.s (.val (.int g.length))) := by
  show some (Z.s (.val (.int ((g.map rowT).length)))) = _
  rw [List.length_map]
theorem ix_g {g : Gr} {i : Int} {M : List C} : ixE (.val (gT g)) (.val (.int i)) M = ixO (atI (g.map rowT) i) := rfl
theorem ix_row0 {r : Int × List Int} {M : List C} : ixE (.val (rowT r)) (.val (.int 0)) M = some (.val (.int r.1)) := rfl
theorem ix_row1 {r : Int × List Int} {M : List C} : ixE (.val (rowT r)) (.val (.int 1)) M = some (.val (.tup (r.2.map D.int))) := rfl
theorem row_at {g : Gr} {i : Int} (h0 : 0 ≤ i) (h1 : i < g.length) : atI (g.map rowT) i = some (rowT (gdate g i, gpar g i)) := atI_map (z := (0, [])) h0 h1
theorem int_at {l : List Int} {i : Int} (h0 : 0 ≤ i) (h1 : i < l.length) : atI (l.map D.int) i = some (.int (l.getD i.toNat 0)) := atI_map (z := 0) h0 h1
theorem sqI (l : List Int) : IsSeq (.tup (l.map D.int)) (l.map D.int) := .inr rfl
theorem sqLI (l : List Int) : IsSeq (.lst (l.map D.int)) (l.map D.int) := .inl rfl
theorem plT {n : Nat} (l : List Int) (h : l.length ≤ 1000) : plain (n + 1) (.tup (l.map D.int)) = true := plain_tup (by rw [List.length_map]; exact h) plain_ints
theorem plL {n : Nat} (l : List Int) (h : l.length ≤ 1000) : plain (n + 1) (.lst (l.map D.int)) = true := plain_lst (by rw [List.length_map]; exact h) plain_ints
theorem dOpt_n : dOpt none = .non := rfl
theorem dOpt_s {i : Int} : dOpt (some i) = .int i := rfl
theorem dOpt_N {o : Option Int} : (dOpt o).isNon = o.isNone := by cases o <;> rfl
theorem eqD_ni {i : Int} : eqD .non (.int i) = false := by unfold eqD toPy; simp [PyData.eqv]
theorem eqD_in {i : Int} : eqD (.int i) .non = false := by unfold eqD toPy; simp [PyData.eqv]
theorem bif_okE {α : Type} {b : Bool} {x y : α} {M : List C} : (bif b then Ev.ok x M else Ev.ok y M) = Ev.ok (bif b then x else y) M := by cases b <;> rfl
theorem bq_tt : (true == true) = true := rfl
theorem bq_tf : (true == false) = false := rfl
theorem bq_ft : (false == true) = false := rfl
theorem bq_ff : (false == false) = true := rfl
theorem pop_snoc {k : Nat} {M : List C} {l : List D} {d : D} : popC k M (some (.lst (l ++ [d]))) = .ok (.s (.val d)) (ptM M k (.lst l)) := by
  unfold popC
  simp only [List.getLast?_concat, List.dropLast_concat]
theorem eqD_snoc {l : List D} {d : D} : eqD (.lst (l ++ [d])) (.lst []) = false := by
  unfold eqD toPy
  rw [eqv_l]
  cases l <;> simp [toPys, PyData.eqvAll]
theorem eqD_nil : eqD (.lst []) (.lst []) = true := eqD_ints [] []
theorem pl_nil {n : Nat} : plain (n + 1) (.lst []) = true := rfl
theorem kLstM1 {k1 : Nat} {M : List C} : kLstM (.ok [.own k1] M) = .ok (.n (.mls [.own k1])) M := rfl
theorem kLstM2 {k1 k2 : Nat} {M : List C} : kLstM (.ok [.own k1, .own k2] M) = .ok (.n (.mls [.own k1, .own k2])) M := rfl
theorem kLstM3 {k1 k2 k3 : Nat} {M : List C} : kLstM (.ok [.own k1, .own k2, .own k3] M) = .ok (.n (.mls [.own k1, .own k2, .own k3])) M := rfl
theorem flat_ints : ∀ l : List Int, flatDs (l.map D.int) = true
  | [] => rfl
  | x :: l => by rw [List.map_cons, flatDs, flat_ints l]; rfl
theorem flat_dOpt {o : Option Int} : flatD (dOpt o) = true := by cases o <;> rfl
theorem kLendN {M M' : List C} {ds : List D} (h : flatDs ds = true) : kLend M (.ok (.n (.lst ds)) M') = .ok (.n (.lst ds)) M := by
  unfold kLend
  show (match flatDs ds with | true => Ev.ok (Z.n (.lst ds)) M | false => .bad) = _
  rw [h]
theorem kLendV {M M' : List C} {d : D} (h : flatD d = true) : kLend M (.ok (.s (.val d)) M') = .ok (.s (.val d)) M := by
  unfold kLend
  show (match flatD d with | true => Ev.ok (Z.s (.val d)) M | false => .bad) = _
  rw [h]
theorem kR1_n {n : Nat} {M : List C} (h : n ≤ 100000) : kR1 (.ok (.val (.int (n : Int))) M) = .ok ((rng 0 n).map D.int, []) M := by
  rw [kR1_ok (by omega), Int.toNat_natCast]
theorem rng_at {n : Nat} {r : Int} {f : Int → D} (h0 : 0 ≤ r) (h1 : r < n) : atI ((rng 0 n).map f) r = some (f r) := by
  refine atI_of h0 ?_
  rw [List.getElem?_map]
  unfold rng
  rw [List.getElem?_map, List.getElem?_range (by omega)]
  show some (f (0 + (r.toNat : Int))) = _
  rw [show (0 + (r.toNat : Int)) = r by omega]
/-! ### data that may be compared -/
theorem plain_l {n : Nat} {xs : List D} : plain (n + 1) (.lst xs) = (decide (xs.length ≤ 1000) && plains n xs) := rfl
theorem plain_t {n : Nat} {xs : List D} : plain (n + 1) (.tup xs) = (decide (xs.length ≤ 1000) && plains n xs) := rfl
theorem plains_nil {n : Nat} : plains n [] = true := rfl
theorem plains_cons {n : Nat} {x : D} {xs : List D} : plains n (x :: xs) = (plain n x && plains n xs) := rfl
theorem plain_dOpt {n : Nat} {o : Option Int} : plain n (dOpt o) = true := by cases o; exact plain_non; exact plain_int
theorem plains_dOpt {n : Nat} {α : Type} {f : α → Option Int} {l : List α} : plains n (l.map fun z => dOpt (f z)) = true := plains_of fun x hx => by
  obtain ⟨z, _, rfl⟩ := List.mem_map.mp hx
  exact plain_dOpt
theorem same_s {x : D} (h : plain 19 x = true) : f__law_same 20 [.val x, .val x] [] = .ok (.s (.val (.bl true))) [] := same_ev 19 h
/-! ### while -/
def kTurnW (tr : List Sl → List C → Ev (List Sl)) (x : Ev Rs) : Ev (List Sl) := x.bd fun r M => match r with
  | .nx ρ => tr ρ M
  | .ct ρ => tr ρ M
  | _ => .bad
theorem kTurnW_nx {tr : List Sl → List C → Ev (List Sl)} {ρ : List Sl} {M : List C} : kTurnW tr (.ok (.nx ρ) M) = tr ρ M := rfl
theorem kTurnW_ct {tr : List Sl → List C → Ev (List Sl)} {ρ : List Sl} {M : List C} : kTurnW tr (.ok (.ct ρ) M) = tr ρ M := rfl
section
variable {T : Type} {test : List Sl → List C → Ev Bool} {body : List Sl → List C → Ev Rs} {tr : List Sl → List C → Ev (List Sl)}
theorem while_step {n : Nat} {ρ ρ' : List Sl} {M M1 M' : List C} (h1 : test ρ M = .ok true M1) (h2 : kTurnW tr (body ρ M1) = .ok ρ' M') : whileE test body tr (n + 1) ρ M = whileE test body tr n ρ' M' := by
  rw [whileE, h1]
  show ((body ρ M1).bd fun r M' => match r with
      | .nx ρ' => (tr ρ' M').bd fun ρ2 M2 => whileE test body tr n ρ2 M2
      | .ct ρ' => (tr ρ' M').bd fun ρ2 M2 => whileE test body tr n ρ2 M2
      | .bk ρ' => .ok (.nx ρ') M'
      | .rt z => .ok (.rt z) M') = _
  cases e : body ρ M1 with
  | bad => rw [e] at h2; cases h2
  | ex d M => rw [e] at h2; cases h2
  | ok r M2 =>
    rw [e] at h2
    cases r with
    | nx ρ2 => have h2 : tr ρ2 M2 = _ := h2; show (tr ρ2 M2).bd _ = _; rw [h2]; rfl
    | ct ρ2 => have h2 : tr ρ2 M2 = _ := h2; show (tr ρ2 M2).bd _ = _; rw [h2]; rfl
    | bk _ => cases h2
    | rt _ => cases h2
theorem while_end {n : Nat} {ρ : List Sl} {M M1 : List C} (h1 : test ρ M = .ok false M1) : whileE test body tr (n + 1) ρ M = .ok (.nx ρ) M1 := by
  rw [whileE, h1]; rfl
theorem while_to (R : T → List Sl) (Ms : T → List C) (μ : T → Nat) (I : T → Prop) (P : T → List C → Prop) (st : ∀ t, I t → (∃ M1, test (R t) (Ms t) = .ok false M1 ∧ P t M1) ∨ ∃ M1 t', test (R t) (Ms t) = .ok true M1 ∧ kTurnW tr (body (R t) M1) = .ok (R t') (Ms t') ∧ I t' ∧ μ t' < μ t) :
    ∀ (n : Nat) (t : T), I t → μ t < n → ∃ t' M1, P t' M1 ∧ I t' ∧ whileE test body tr n (R t) (Ms t) = .ok (.nx (R t')) M1
  | 0, _, _, h => absurd h (Nat.not_lt_zero _)
  | n + 1, t, h, hn => by
    rcases st t h with ⟨M1, h1, h2⟩ | ⟨M1, t', h1, h2, h3, h4⟩
    · exact ⟨t, M1, h2, h, while_end h1⟩
    · obtain ⟨t2, M2, q1, q2, q3⟩ := while_to R Ms μ I P st n t' h3 (by omega)
      exact ⟨t2, M2, q1, q2, (while_step h1 h2).trans q3⟩
theorem while_gen {n : Nat} {x : Ev Rs} {ρ : List Sl} {M : List C} (hx : whileE test body tr n ρ M = x) (R : T → List Sl) (Ms : T → List C) (μ : T → Nat) (I : T → Prop) (P : T → List C → Prop) (t : T) (hρ : ρ = R t) (hM : M = Ms t) (h0 : I t) (hn : μ t < n) (st : ∀ t, I t → (∃ M1, test (R t) (Ms t) = .ok false M1 ∧ P t M1) ∨ ∃ M1 t', test (R t) (Ms t) = .ok true M1 ∧ kTurnW tr (body (R t) M1) = .ok (R t') (Ms t') ∧ I t' ∧ μ t' < μ t) : ∃ t' M1, P t' M1 ∧ I t' ∧ x = .ok (.nx (R t')) M1 := by
  subst hρ; subst hM
  obtain ⟨t2, M2, q1, q2, q3⟩ := while_to R Ms μ I P st n t h0 hn
  exact ⟨t2, M2, q1, q2, hx.symm.trans q3⟩
end
theorem fuelW_lt {m : Nat} (h : m < 1000000) : m < fuelW := h
end Dl
/-! H1: what laws say by themselves: had -/
namespace Dl
open PySem L2
local macro_rules | `(tactic| simp? [$as,*]) => `(tactic| simp -implicitDefEqProofs only [bif_t, bif_f, len_g, ix_g, ix_row0, ix_row1, kLc1_ok, kDc1_ok, List.length_cons, List.length_nil, dOpt_n, dOpt_s, dOpt_N, bq_tt, bq_tf, bq_ft, bq_ff, Option.isNone_none, Option.isNone_some, plain_int, plain_non, plain_bl, eqD_ni, eqD_in, bif_okE, kScope_ok, kTurnW_nx, kTurnW_ct, pop_snoc, eqD_snoc, eqD_nil, pl_nil, ev_lstM, kLstM1, kLstM2, kLstM3, at0, at1, at2, kLendN, kLendV, flat_ints, flat_dOpt, plain_l, plain_t, plains_nil, plains_cons, plains_ints, plain_dOpt, plains_dOpt, same_s, kR1_n, Option.isSome_none, Option.isSome_some, List.length_map, List.length_range, rng_len, all_atom, inD_int, all_isI, map_intD, run_ok, runI_ok, rhoN, kFin_nx, kFin_rt, finZ_v, finZ_l, finZ_d, finZ_o, finO_l, finO_d, finO_s, finO_i, kInit_nx, es_nil, es_cons, seqE_nx, seqE_rt, seqE_bk, seqE_ct, s_asg, kAsg_ok, s_par, kPar_ok, s_tgt, kTgt_ok, kNx_ok, s_setix, kSx1_ok, kSx2_ok, kSx3_ok, setX, setE, s_setfld, kSf1_ok, kSf2_ok, setFX, setfM, slOk, putSl, s_aug, kAug1_ok, s_ite, kIte_ok, s_for, kFor_ok, s_while, s_ret, kRet_ok, s_ex, kEx_ok, s_pass, s_bad, ev_v, ev_k, ev_g, ev_bin, kBin1_ok, kBin2_ok, ev_neg, kNeg_ok, kB_ok, ev_cmp, kCmp1_ok, kCmp2_ok, ev_cmp2, kCC1_ok, kCC2_ok, kCC3_ok, ev_not, kNot_ok, ev_and, kAnd_ok, ev_or, kOr_ok, ev_ife, kIfe_ok, ev_tup, kTup0, kTup1, kTup2, kTup3, kTup4, kTup5, kTup6, kTup7, kTup8, ev_lst, kLst0, kLst1, kLst2, kLst3, kLst4, kLst5, kLst6, kLst7, kLst8, ev_dct, kDct0, kDct1i, ev_orl, kOrl_c, kOrl_n, ev_ix, kIx1_ok, kIx2_ok, kS_ok, ev_cut, kCut1_ok, kCut2_ok, kCut3_ok, cutE_l, cutE_t, cutE_s, cutE_o, ev_rev, kRev_l, kRev_o, ev_fld, ev_bi, kBi_ok, ev_isi, kIsi_l, kIsi_t, kIsi_i, kIsi_b, kIsi_s, kIsi_n, kIsi_d, ev_lenO, ev_call, kCall_ok, ev_callk, kCallk_ok, lk0, ev_meth, kMeth1_f, kMeth1_b, kMeth2_ok, ev_make, kMake1, kMake2, kMake3, kMake4, kMake5, ev_mt, kMt1_ok, kMt2_ok, mtOk, Mth.isL, ev_lc, kLc_ok, ev_dc, kDc_ok, ev_own, kOwn_ok, ev_lend, kLend_b, kLend_i, lendS, frz2, vws, ev_scope, et_not, kNg_ok, et_and, kTA_ok, et_or, kTO_ok, et_cmp, et_e, kT_ok, ea_nil, ea_cons, kA1_ok, kA2_ok, ea_star, kSt2_ok, eo_n, eo_s, kO_ok, ei_e, kI_l, kI_t, kI_o, ei_r1, kR1_ok, ei_r2, kR2b_ok, kR2a_ok, ei_rd, kRda_ok, ei_en, kEn_l, ei_zp, kZpa_ok, kZpb_l, kZpb_t, eg_last, eg_cons, lcB2_ok, lcB1_ok, lcC2_ok, lcC1_ok, kElt_ok, els_n, els_o, ed_dlast, dcB3_i, dcB3_s, dcB2b_ok, dcB2_ok, dcB1_ok, doCall_some, kAt, kBack_ok, inKs, refsL_eq, refsL, reach_eq, clo_nil, clo_cons, scat_nil, scat, backM, bk, selM, okSel, nodupB, chosB, restC, rest1, refsAt, memN, plc, Zmp_v, Zmp_o, Zmp_l, Zmp_d, Smp_v, Smp_o, Smp_u, Cmp_l, Cmp_d, Cmp_m, Cmp_i, Cmp_s, Cmp_x, Cmp_o, restC_nil, kMkO_ok, trim_val, trim_un, trim_own, trimE_ok, isK0_lis, isK0_tup, isK0_int, isK0_boo, isK0_str, isK0_Non, isK0_dic, isK1_lis, isK1_tup, isK1_int, isK1_boo, isK1_str, isK1_Non, isK1_dic, isK2_lis, isK2_tup, isK2_int, isK2_boo, isK2_str, isK2_Non, isK2_dic, isK3_lis, isK3_tup, isK3_int, isK3_boo, isK3_str, isK3_Non, isK3_dic, isK4_lis, isK4_tup, isK4_int, isK4_boo, isK4_str, isK4_Non, isK4_dic, isK5_lis, isK5_tup, isK5_int, isK5_boo, isK5_str, isK5_Non, isK5_dic, isK6_lis, isK6_tup, isK6_int, isK6_boo, isK6_str, isK6_Non, isK6_dic, isK7_lis, isK7_tup, isK7_int, isK7_boo, isK7_str, isK7_Non, isK7_dic, sq_l, sq_t, sq_o, sqC_l, sq_i, sq_n, sq_b, sq_str, sq_d, sq_c, dq_d, dq_o, dqC_d, vw_v, vw_o, vwC_l, vwC_d, ixO_s, ix_l, ix_t, ix_oi, ix_os, ixC_l, ixC_d, ixC_ds, ixC_m, ixC_ms, ixC_x, ix_di, ix_ds, eq_i, eq_b, eq_str, eq_l, eq_t, eq_n, eqO_s, eq_o, eq_lo, eq_to, eq_in, in_l, in_t, in_oi, in_os, inC_l, inC_di, inC_ds, in_di, in_ds, len_l, len_t, len_o, lenC_l, lenC_d, len_d, len_c, abs_i, int_i, int_b, tuple_o, tuple_l, tupleC_l, tuple_t, tupleC_t, all_o, all_l, allC_l, any_o, any_l, anyC_l, sum_o, sum_l, sumC_l, max_o, max_l, maxC_l, min_o, min_l, minC_l, sset_o, sset_l, ssetC_l, sset_t, ssetC_t, max_ii, min_ii, list_l, list_t, list_o, listC_l, listC_d, list_d, sorted_l, sorted_d, sorted_o, sortedC_l, sortedC_d, lrange1, lrange2, div1m, div64, div2, pow18, pow6, add_i, addX_l, addX_t, add_l, add_t, add_o, sub_i, mul_i, mul_l, div_i, mod_i, pow_i, clt, cle, cgt, cge, c_eq, c_ne, c_in, c_ni, ngO_s, c_is, c_isn, c_iso, c_isno, non_n, non_i, non_b, non_s, non_l, non_t, non_d, fX_s, kFld_f, kFld_b, fY_v, fY_o, kFld_o, fC_s, fD_x, fC_i, atom_i, atom_b, atom_s, atom_n, isI_i, intD_i, isB_b, blD_b, all_isIf, map_intDf, all_isBf, all_blDf, any_blDf, all_tt, mt_app, apC_l, mt_ext, exC_l, mt_pop, mt_rem, remC_l, mt_g1di, mt_g2di, mt_g1oi, mt_g2oi, g1Ci_d, g2Ci_d, mt_g1ds, mt_g2ds, mt_g1os, mt_g2os, g1Cs_d, g2Cs_d, g1_s, g1_n, g2_s, g2_n, kTurn_nx, kTurn_ct, kOk_ok, keepB_nil, forB, forB1_ok, lcB, lcC, dcB, vz_s, vz_l, vz_d, opt_some, gd_t, lk, pt, pts, lkA, lkM, ptM, clr, List.map, List.length, List.replicate, List.append_nil, List.nil_append, List.cons_append, List.append_assoc, List.drop, Nat.beq, Nat.ble, Nat.blt, Nat.reduceAdd, Nat.reduceSub, Nat.zero_add, Nat.add_zero, Nat.sub_zero, keyD, bindE, C.frz, okTake, closedB, List.take, List.all, C.refs, Sl.isNon, Bool.and_true, Bool.true_and, Bool.and_false, Bool.false_and, Bool.or_false, Bool.or_true, Bool.true_or, Bool.false_or, Bool.not_true, Bool.not_false, decide_true, decide_false, Int.reduceLT, Int.reduceLE, Int.reduceAdd, Int.reduceSub, Int.reduceMul, Int.reduceNeg, Int.reduceEq, Int.reduceToNat, Nat.reduceLT, Nat.reduceLeDiff, Nat.reduceMul, Nat.reduceEqDiff, and_self, and_true, true_and, List.set_cons_zero, List.set_cons_succ, $as,*])
def lhSt (g : Gr) (i : Nat) (ks : List Int) : List Int := if (i : Int) ∈ ks then ks ++ (gpar g i).filter (fun p => !decide (p ∈ ks)) else ks
theorem lhSt_mem (g : Gr) (i : Nat) (ks : List Int) (_ : i < g.length) (x : Int) : x ∈ lhSt g i ks ↔ x ∈ ks ∨ ((i : Int) ∈ ks ∧ x ∈ gpar g i) := by
  unfold lhSt
  split
  · rename_i h
    rw [List.mem_append, List.mem_filter]
    constructor
    · rintro (z | z)
      · exact .inl z
      · exact .inr ⟨h, z.1⟩
    · rintro (z | z)
      · exact .inl z
      · by_cases hx : x ∈ ks
        · exact .inl hx
        · exact .inr ⟨z.2, by simp [hx]⟩
  · rename_i h
    exact ⟨.inl, fun z => z.elim id fun z => absurd z.1 h⟩
theorem nd_lhSt {g : Gr} (hw : WF g) {i : Nat} {ks : List Int} (hi : i < g.length) (h : ks.Nodup) : (lhSt g i ks).Nodup := by
  unfold lhSt
  split
  · rw [List.nodup_append]
    have wat := hw.at (i := (i : Int)) (by omega) (by omega)
    have nd : (gpar g (i : Int)).Nodup := wat.2.2.1.imp fun h => Int.ne_of_lt h
    refine ⟨h, nd.filter _, fun a ha b hb e => ?_⟩
    have := (List.mem_filter.mp hb).2
    rw [← e] at this
    simp [ha] at this
  · exact h
def lhL (g : Gr) (a : List Int) : List Int := isort (sweepL (lhSt g) g.length (sset a))
theorem asc_nd {l : List Int} (h : Asc l) : l.Nodup := h.imp fun h => Int.ne_of_lt h
theorem lhL_eq {g : Gr} (hw : WF g) {a : List Int} (ha : In g a) : lhL g a = hadL g a := by
  refine asc_ext (asc_isort (nd_sweep (fun i ks hi h => nd_lhSt hw hi h) _ _ (Nat.le_refl _) (asc_nd (asc_sset a)))) (asc_hadL g a) fun x => ?_
  unfold lhL
  rw [(isort_perm _).mem_iff, mem_hadL hw ha]
  exact sweep_mem hw (lhSt_mem g) ha (sset a) (fun x => mem_sset) x
theorem law_had_ev {g : Gr} {x : D} {a : List Int} (hw : WF g) (hx : IsSeq x (a.map D.int)) (hl : a.length < 64) (ha : In g a) : f__law_had [.val (gT g), .val x] [] = .ok (.n (.lst ((hadL g a).map D.int))) [] := by
  have hwl := hw.len
  have e0 : ∀ M, biE .sset [.val x] M = some (.n (.lst ((sset a).map D.int))) := fun M => by
    rcases hx with rfl | rfl <;> simp? [map_intD, decide_eq_true hl]
  simp? [f__law_had, c__law_had, e0, kRdb_ok (show -100000 ≤ (g.length : Int) - 1 ∧ (g.length : Int) - 1 ≤ 100000 ∧ -100000 ≤ -1 ∧ -1 ≤ 100000 by omega)]
  generalize hF : forE _ _ _ _ _ _ = F
  refine Exists.elim (for_gen hF (T := List Int) (fun ks => [.val (gT g), .val x, .val (.lst (ks.map D.int)), .un, .un]) (fun ks => []) (fun i ks => ks.Nodup ∧ In g ks ∧ sweepL (lhSt g) (g.length - i) ks = sweepL (lhSt g) g.length (sset a)) (sset a) rfl rfl ⟨asc_nd (asc_sset a), ha.sset, rfl⟩ fun i y ks hi ⟨nd, hks, hsw⟩ => ?_) fun ks ⟨⟨nd, hks, hsw⟩, hE⟩ => ?_
  · obtain ⟨hi1, hi2⟩ := rngD_at (by omega) hi
    have y0 : 0 ≤ y := by omega
    have y1 : y < g.length := by omega
    have wat := hw.at (i := y) y0 y1
    have yn : y = ((g.length - 1 - i : Nat) : Int) := by omega
    have hsw2 : sweepL (lhSt g) (g.length - (i + 1)) (lhSt g (g.length - 1 - i) ks) = sweepL (lhSt g) g.length (sset a) := by
      rw [← hsw, show g.length - i = (g.length - (i + 1)) + 1 by omega]
      show _ = sweepL (lhSt g) _ (lhSt g (g.length - (i + 1)) ks)
      rw [show g.length - 1 - i = g.length - (i + 1) by omega]
    have hkl := nd_len nd hks
    refine ⟨lhSt g (g.length - 1 - i) ks, ?_, nd_lhSt hw (by omega) nd, fun z hz => ?_, hsw2⟩
    · unfold lhSt
      rw [← yn]
      by_cases hin : y ∈ ks
      · rw [if_pos hin]
        simp? [decide_eq_true hin, row_at y0 y1, show (gpar g y).length ≤ 100000 by have := hw.parlen y0 y1; omega]
        generalize hL : lcE _ _ _ _ _ = L
        obtain rfl : L = .ok (((gpar g y).filter fun p => !decide (p ∈ ks)).map D.int) [] := hL.symm.trans (lc_filt okLc_self fun n hn => by simp? [])
        clear hL
        have := List.length_filter_le (fun p => !decide (p ∈ ks)) (gpar g y)
        have := hw.parlen y0 y1
        simp? [decide_eq_true (show ks.length + ((gpar g y).filter fun p => !decide (p ∈ ks)).length ≤ 100000 by omega), List.map_append]
      · rw [if_neg hin]
        simp? [decide_eq_false hin]
    · rcases (lhSt_mem g _ ks (by omega) z).mp hz with h | ⟨_, h⟩
      · exact hks z h
      · rw [← yn] at h
        have := wat.2.2.2 z h
        omega
  · subst hE
    rw [rngD_ln (by omega), show g.length - ((g.length : Int) - 1 + 1).toNat = 0 by omega] at hsw
    have hsw : ks = sweepL (lhSt g) g.length (sset a) := hsw
    simp? [map_intD]
    rw [hsw, ← lhL_eq hw ha]; rfl
end Dl
/-! C_k88: codes and what they denote (printed by g3.py) -/
namespace Dl
open PySem L2
--@ _law_ways_right  slots: _law_box_here _law_net _law_turn _law_a _law_b _law_c _law_up _law_down _law_far _law_own
def c__law_ways_right : Ss :=
  (.cons (.for (.n 2) (.r1 (.k (.int 12)))
      (.cons (.par [3, 4, 5] (.cons (.call 0 "_law_take" (.cons (.v 0) (.cons (.bi .len (.cons (.v 1) .nil)) .nil))) (.cons (.call 0 "_law_take" (.cons (.v 0) (.cons (.bi .len (.cons (.v 1) .nil)) .nil))) (.cons (.call 0 "_law_take" (.cons (.v 0) (.cons (.bi .len (.cons (.v 1) .nil)) .nil))) .nil))))
      (.cons (.par [6, 7, 8] (.cons (.call 1 "way" (.cons (.v 1) (.cons (.v 3) (.cons (.v 4) .nil)))) (.cons (.call 1 "way" (.cons (.v 1) (.cons (.v 4) (.cons (.v 5) .nil)))) (.cons (.call 1 "way" (.cons (.v 1) (.cons (.v 3) (.cons (.v 5) .nil)))) .nil))))
      (.cons (.ite (.and (.cmp .IsNot (.v 6) (.k .non)) (.and (.cmp .IsNot (.v 7) (.k .non)) (.or (.cmp .Is (.v 8) (.k .non)) (.cmp .Lt (.v 8) (.bin .Add (.v 6) (.v 7))))))
          (.cons (.ret (.k (.bl false)))
          .nil)
          .nil)
      (.cons (.ite (.or (.cmp .NotEq (.cmp .In (.v 4) (.call 2 "had" (.cons (.v 1) (.cons (.v 3) .nil)))) (.cmp .IsNot (.v 6) (.k .non))) (.and (.cmp .IsNot (.v 6) (.k .non)) (.and (.cmp .IsNot (.call 1 "way" (.cons (.v 1) (.cons (.v 4) (.cons (.v 3) .nil)))) (.k .non)) (.cmp .NotEq (.v 3) (.v 4)))))
          (.cons (.ret (.k (.bl false)))
          .nil)
          .nil)
      (.cons (.ite (.or (.and (.cmp .Eq (.v 6) (.k (.int 1))) (.cmp .NotIn (.v 4) (.ix (.ix (.v 1) (.v 3)) (.k (.int 1))))) (.and (.cmp .IsNot (.v 6) (.k .non)) (.cmp .Lt (.ix (.call 3 "levels" (.cons (.v 1) .nil)) (.v 3)) (.bin .Add (.ix (.call 3 "levels" (.cons (.v 1) .nil)) (.v 4)) (.v 6)))))
          (.cons (.ret (.k (.bl false)))
          .nil)
          .nil)
      (.cons (.ite (.and (.cmp .IsNot (.v 6) (.k .non)) (.cmp .NotEq (.lc (.last (.n 9) (.e (.call 2 "had" (.cons (.v 1) (.cons (.v 4) .nil)))) (.one (.cmp .NotIn (.v 9) (.call 2 "had" (.cons (.v 1) (.cons (.v 3) .nil))))) (.v 9)) [9]) (.lst .nil)))
          (.cons (.ret (.k (.bl false)))
          .nil)
          .nil)
      .nil)))))) [2, 3, 4, 5, 6, 7, 8, 9])
  (.cons (.ret (.k (.bl true)))
  .nil))
def f__law_ways_right : Den := run [f__law_take, f_way, f_had, f_levels] c__law_ways_right 2 10
--@ _law_some  slots: _law_box_here _law_graph_so _law_most _law_turn
def c__law_some : Ss :=
  (.cons (.ret (.bi .tuple (.cons (.bi .sset (.cons (.lc (.last (.n 3) (.r1 (.call 0 "_law_take" (.cons (.v 0) (.cons (.bin .Add (.v 2) (.k (.int 1))) .nil)))) .nil (.call 0 "_law_take" (.cons (.v 0) (.cons (.bi .len (.cons (.v 1) .nil)) .nil)))) [3]) .nil)) .nil)))
  .nil)
def f__law_some : Den := run [f__law_take] c__law_some 3 4
--@ _law_both  slots: _law_one_so _law_other_so
def c__law_both : Ss :=
  (.cons (.ret (.bi .tuple (.cons (.bi .sset (.cons (.bin .Add (.bi .list (.cons (.v 0) .nil)) (.bi .list (.cons (.v 1) .nil))) .nil)) .nil)))
  .nil)
def f__law_both : Den := run [] c__law_both 2 2
--@ _law_some_right  slots: _law_box_here _law_net _law_a _law_b _law_c _law_one_so _law_other_so _law_third _law_common_so _law_own _law_some_here _law_late _law_last
def c__law_some_right : Ss :=
  (.cons (.par [2, 3, 4] (.cons (.call 0 "_law_some" (.cons (.v 0) (.cons (.v 1) (.cons (.k (.int 2)) .nil)))) (.cons (.call 0 "_law_some" (.cons (.v 0) (.cons (.v 1) (.cons (.k (.int 1)) .nil)))) (.cons (.call 0 "_law_some" (.cons (.v 0) (.cons (.v 1) (.cons (.k (.int 2)) .nil)))) .nil))))
  (.cons (.par [5, 6, 7] (.cons (.call 1 "closed" (.cons (.v 1) (.cons (.v 2) .nil))) (.cons (.call 1 "closed" (.cons (.v 1) (.cons (.v 3) .nil))) (.cons (.call 1 "closed" (.cons (.v 1) (.cons (.v 4) .nil))) .nil))))
  (.cons (.ite (.or (.not (.e (.call 3 "_law_same" (.cons (.call 1 "closed" (.cons (.v 1) (.cons (.call 2 "_law_both" (.cons (.v 2) (.cons (.v 3) .nil))) .nil))) (.cons (.call 2 "_law_both" (.cons (.v 5) (.cons (.v 6) .nil))) .nil))))) (.cmp .NotEq (.call 1 "closed" (.cons (.v 1) (.cons (.v 5) .nil))) (.v 5)))
      (.cons (.ret (.k (.bl false)))
      .nil)
      .nil)
  (.cons (.asg 8 (.bi .tuple (.cons (.lc (.last (.n 9) (.e (.v 5)) (.one (.cmp .In (.v 9) (.v 6))) (.v 9)) [9]) .nil)))
  (.cons (.ite (.not (.e (.bi .all (.cons (.lc (.last (.n 9) (.e (.tup (.cons (.v 8) (.cons (.call 2 "_law_both" (.cons (.v 5) (.cons (.v 6) .nil))) (.cons (.v 7) .nil))))) .nil (.call 4 "is_table" (.cons (.v 1) (.cons (.v 9) .nil)))) [9]) .nil))))
      (.cons (.ret (.k (.bl false)))
      .nil)
      .nil)
  (.cons (.ite (.or (.cmp .NotEq (.call 5 "truth" (.cons (.v 1) (.cons (.v 2) (.cons (.v 3) .nil)))) (.lc (.last (.n 9) (.e (.v 5)) (.one (.cmp .NotIn (.v 9) (.v 6))) (.v 9)) [9])) (.cmp .NotEq (.call 5 "truth" (.cons (.v 1) (.cons (.v 2) (.cons (.tup .nil) .nil)))) (.bi .list (.cons (.v 5) .nil))))
      (.cons (.ret (.k (.bl false)))
      .nil)
      .nil)
  (.cons (.ite (.cmp .NotEq (.call 5 "truth" (.cons (.v 1) (.cons (.call 2 "_law_both" (.cons (.v 2) (.cons (.v 3) .nil))) (.cons (.v 4) .nil)))) (.bi .sset (.cons (.bin .Add (.call 5 "truth" (.cons (.v 1) (.cons (.v 2) (.cons (.v 4) .nil)))) (.call 5 "truth" (.cons (.v 1) (.cons (.v 3) (.cons (.v 4) .nil))))) .nil)))
      (.cons (.ret (.k (.bl false)))
      .nil)
      .nil)
  (.cons (.asg 10 (.call 5 "truth" (.cons (.v 1) (.cons (.v 2) (.cons (.v 4) .nil)))))
  (.cons (.ite (.cmp .NotEq (.call 5 "truth" (.cons (.v 1) (.cons (.v 2) (.cons (.call 2 "_law_both" (.cons (.v 3) (.cons (.v 4) .nil))) .nil)))) (.lc (.last (.n 9) (.e (.call 5 "truth" (.cons (.v 1) (.cons (.v 2) (.cons (.v 3) .nil))))) (.one (.cmp .In (.v 9) (.v 10))) (.v 9)) [9]))
      (.cons (.ret (.k (.bl false)))
      .nil)
      .nil)
  (.cons (.par [11, 12] (.cons (.call 1 "closed" (.cons (.v 1) (.cons (.cut (.v 5) (.some (.neg (.k (.int 3)))) .none) .nil))) (.cons (.call 1 "closed" (.cons (.v 1) (.cons (.cut (.v 6) (.some (.neg (.k (.int 3)))) .none) .nil))) .nil)))
  (.cons (.ret (.cmp .Eq (.call 5 "truth" (.cons (.v 1) (.cons (.cut (.v 5) (.some (.neg (.k (.int 3)))) .none) (.cons (.cut (.v 6) (.some (.neg (.k (.int 3)))) .none) .nil)))) (.lc (.last (.n 9) (.e (.v 11)) (.one (.cmp .NotIn (.v 9) (.v 12))) (.v 9)) [9])))
  .nil)))))))))))
def f__law_some_right : Den := run [f__law_some, f_closed, f__law_both, (f__law_same 20), f_is_table, f_truth] c__law_some_right 2 13
--@ _law_right  slots: _law_box_here _law_turn _law_net _law_again
def c__law_right_k88 : Ss :=
  (.cons (.for (.n 1) (.r1 (.k (.int 2)))
      (.cons (.asg 2 (.call 1 "_law_graph" (.cons (.v 0) (.cons (.call 0 "_law_of" (.cons (.v 0) (.cons (.lst (.cons (.k (.int 1)) (.cons (.k (.int 4)) (.cons (.k (.int 8)) (.cons (.k (.int 13)) (.cons (.k (.int 20)) .nil)))))) .nil))) .nil))))
      (.cons (.ite (.or (.not (.e (.bi .all (.cons (.lc (.last (.n 3) (.r1 (.k (.int 5))) .nil (.call 3 "_law_some_right" (.cons (.v 0) (.cons (.v 2) .nil)))) [3]) .nil)))) (.not (.e (.call 2 "_law_ways_right" (.cons (.v 0) (.cons (.v 2) .nil))))))
          (.cons (.ret (.k (.bl false)))
          .nil)
          .nil)
      .nil)) [1, 2, 3])
  (.cons (.ret (.k (.bl true)))
  .nil))
def f__law_right_k88 : Den := run [f__law_of, f__law_graph, f__law_ways_right, f__law_some_right] c__law_right_k88 1 4
--@ law  slots: _law_script _law_cells_here _law_k
def c_law_k88 : Ss :=
  (.cons (.asg 1 (.call 0 "_law_cells" (.cons (.v 0) (.cons (.k (.int 3)) .nil))))
  (.cons (.ret (.bi .all (.cons (.lc (.last (.n 2) (.r1 (.bi .len (.cons (.v 1) .nil))) .nil (.scope (.call 2 "_law_right" (.cons (.own (.call 1 "_law_box" (.cons (.v 1) (.cons (.v 2) .nil)))) .nil)))) [2]) .nil)))
  .nil))
def f_law_k88 : Den := run [f__law_cells, f__law_box, f__law_right_k88] c_law_k88 1 3
end Dl
/-! C_k11: codes and what they denote (printed by g3.py) -/
namespace Dl
open PySem L2
--@ _law_refill  slots: _law_shelf _law_matter
def c__law_refill : Ss :=
  (.cons (.while (.cmp .NotEq (.v 0) (.lst .nil))
      (.cons (.ex (.mt (.v 0) .pop .nil))
      .nil) [])
  (.cons (.ex (.mt (.v 0) .extend (.cons (.call 0 "_law_lists" (.cons (.v 1) .nil)) .nil)))
  (.cons (.ret (.v 0))
  .nil)))
def f__law_refill : Den := run [(f__law_lists 20)] c__law_refill 2 2
--@ _law_ways  slots: _law_graph_so _law_one_so _law_found_so _law_k _law_own
def c__law_ways : Ss :=
  (.cons (.asg 2 (.own (.dct (.cons (.v 1) (.cons (.k (.int 0)) .nil)))))
  (.cons (.for (.n 3) (.rd (.v 1) (.neg (.k (.int 1))))
      (.cons (.ite (.cmp .In (.v 3) (.v 2))
          (.cons (.for (.n 4) (.e (.ix (.ix (.v 0) (.v 3)) (.k (.int 1))))
              (.cons (.setix (.v 2) (.v 4) (.bi .max (.cons (.mt (.v 2) .get2 (.cons (.v 4) (.cons (.k (.int 0)) .nil))) (.cons (.bin .Add (.ix (.v 2) (.v 3)) (.k (.int 1))) .nil))))
              .nil) [4])
          .nil)
          .nil)
      .nil) [3])
  (.cons (.ret (.v 2))
  .nil)))
def f__law_ways : Den := run [] c__law_ways 2 5
--@ _law_truth  slots: _law_graph_so _law_wants_so _law_nots_so _law_known _law_own
def c__law_truth : Ss :=
  (.cons (.asg 3 (.call 0 "_law_had" (.cons (.v 0) (.cons (.v 2) .nil))))
  (.cons (.ret (.lc (.last (.n 4) (.e (.call 0 "_law_had" (.cons (.v 0) (.cons (.v 1) .nil)))) (.one (.cmp .NotIn (.v 4) (.v 3))) (.v 4)) [4]))
  .nil))
def f__law_truth : Den := run [f__law_had] c__law_truth 3 5
--@ _law_right  slots: _law_box_here _law_shelf _law_turn _law_net _law_soft _law_k _law_own _law_far _law_got _law_due _law_its _law_again _law_need _law_bars
def c__law_right_k11 : Ss :=
  (.cons (.asg 1 (.own (.lst .nil)))
  (.cons (.for (.n 2) (.r1 (.k (.int 2)))
      (.cons (.asg 3 (.call 1 "_law_graph" (.cons (.v 0) (.cons (.call 0 "_law_of" (.cons (.v 0) (.cons (.lst (.cons (.k (.int 1)) (.cons (.k (.int 4)) (.cons (.k (.int 9)) (.cons (.k (.int 15)) (.cons (.k (.int 24)) .nil)))))) .nil))) .nil))))
      (.cons (.asg 4 (.call 2 "_law_refill" (.cons (.v 1) (.cons (.v 3) .nil))))
      (.cons (.for (.n 5) (.r1 (.bi .len (.cons (.v 3) .nil)))
          (.cons (.par [6, 7] (.cons (.call 4 "_law_had" (.cons (.v 3) (.cons (.lst (.cons (.v 5) .nil)) .nil))) (.cons (.call 3 "_law_ways" (.cons (.v 3) (.cons (.v 5) .nil))) .nil)))
          (.cons (.asg 8 (.own (.lstM (.cons (.own (.call 6 "had" (.cons (.v 3) (.cons (.v 5) .nil)))) (.cons (.own (.lend (.callk 5 "had" ["commit", "graph"] [1, 0] (.cons (.v 5) (.cons (.v 4) .nil))))) .nil)))))
          (.cons (.ite (.not (.e (.lend (.call 7 "_law_same" (.cons (.v 8) (.cons (.lst (.cons (.v 6) (.cons (.v 6) .nil))) .nil))))))
              (.cons (.ret (.k (.bl false)))
              .nil)
              .nil)
          (.cons (.ex (.mt (.ix (.v 8) (.k (.int 0))) .append (.cons (.k (.str "more")) .nil)))
          (.cons (.asg 9 (.lc (.last (.n 10) (.r1 (.bi .len (.cons (.v 3) .nil))) .nil (.mt (.v 7) .get1 (.cons (.v 10) .nil))) [10]))
          (.cons (.ite (.not (.e (.call 7 "_law_same" (.cons (.lc (.last (.n 10) (.r1 (.bi .len (.cons (.v 3) .nil))) .nil (.call 8 "way" (.cons (.v 3) (.cons (.v 5) (.cons (.v 10) .nil))))) [10]) (.cons (.v 9) .nil)))))
              (.cons (.ret (.k (.bl false)))
              .nil)
              .nil)
          (.cons (.asg 10 (.call 9 "_law_take" (.cons (.v 0) (.cons (.bi .len (.cons (.v 3) .nil)) .nil))))
          (.cons (.ite (.not (.e (.call 7 "_law_same" (.cons (.lst (.cons (.lend (.callk 10 "way" ["other", "one", "graph"] [2, 1, 0] (.cons (.v 10) (.cons (.v 5) (.cons (.v 4) .nil))))) (.cons (.call 6 "had" (.cons (.v 3) (.cons (.v 5) .nil))) .nil))) (.cons (.lst (.cons (.ix (.v 9) (.v 10)) (.cons (.v 6) .nil))) .nil)))))
              (.cons (.ret (.k (.bl false)))
              .nil)
              .nil)
          .nil)))))))) [5, 6, 7])
      (.cons (.for (.n 11) (.r1 (.k (.int 6)))
          (.cons (.par [12, 13] (.cons (.call 11 "_law_some" (.cons (.v 0) (.cons (.v 3) (.cons (.k (.int 3)) .nil)))) (.cons (.call 11 "_law_some" (.cons (.v 0) (.cons (.v 3) (.cons (.k (.int 3)) .nil)))) .nil)))
          (.cons (.asg 9 (.call 12 "_law_truth" (.cons (.v 3) (.cons (.v 12) (.cons (.v 13) .nil)))))
          (.cons (.asg 8 (.own (.lstM (.cons (.own (.call 14 "truth" (.cons (.v 3) (.cons (.v 12) (.cons (.v 13) .nil))))) (.cons (.own (.lend (.callk 13 "truth" ["nots", "wants", "graph"] [2, 1, 0] (.cons (.bi .list (.cons (.v 13) .nil)) (.cons (.bi .list (.cons (.v 12) .nil)) (.cons (.v 4) .nil)))))) .nil)))))
          (.cons (.ite (.not (.e (.lend (.call 7 "_law_same" (.cons (.v 8) (.cons (.lst (.cons (.v 9) (.cons (.v 9) .nil))) .nil))))))
              (.cons (.ret (.k (.bl false)))
              .nil)
              .nil)
          (.cons (.ex (.mt (.ix (.v 8) (.k (.int 0))) .append (.cons (.k (.str "more")) .nil)))
          (.cons (.ite (.or (.not (.e (.call 7 "_law_same" (.cons (.call 14 "truth" (.cons (.v 3) (.cons (.v 12) (.cons (.v 13) .nil)))) (.cons (.v 9) .nil))))) (.cmp .NotEq (.v 4) (.call 15 "_law_lists" (.cons (.v 3) .nil))))
              (.cons (.ret (.k (.bl false)))
              .nil)
              .nil)
          .nil)))))) [11, 12, 13])
      .nil)))) [2, 3, 4, 5, 6, 7, 8, 9, 11, 12, 13])
  (.cons (.ret (.k (.bl true)))
  .nil)))
def f__law_right_k11 : Den := run [f__law_of, f__law_graph, f__law_refill, f__law_ways, f__law_had, f_had, f_had, (f__law_same 20), f_way, f__law_take, f_way, f__law_some, f__law_truth, f_truth, f_truth, (f__law_lists 20)] c__law_right_k11 1 14
--@ law  slots: _law_script _law_cells_here _law_k
def c_law_k11 : Ss :=
  (.cons (.asg 1 (.call 0 "_law_cells" (.cons (.v 0) (.cons (.k (.int 3)) .nil))))
  (.cons (.ret (.bi .all (.cons (.lc (.last (.n 2) (.r1 (.bi .len (.cons (.v 1) .nil))) .nil (.scope (.call 2 "_law_right" (.cons (.own (.call 1 "_law_box" (.cons (.v 1) (.cons (.v 2) .nil)))) .nil)))) [2]) .nil)))
  .nil))
def f_law_k11 : Den := run [f__law_cells, f__law_box, f__law_right_k11] c_law_k11 1 3
end Dl
/-! L88a: some, both -/
namespace Dl
open PySem L2
local macro_rules | `(tactic| simp? [$as,*]) => `(tactic| simp -implicitDefEqProofs only [bif_t, bif_f, Option.isSome_none, Option.isSome_some, List.length_map, List.length_range, rng_len, all_atom, inD_int, all_isI, map_intD, run_ok, runI_ok, rhoN, kFin_nx, kFin_rt, finZ_v, finZ_l, finZ_d, finZ_o, finO_l, finO_d, finO_s, finO_i, kInit_nx, es_nil, es_cons, seqE_nx, seqE_rt, seqE_bk, seqE_ct, s_asg, kAsg_ok, s_par, kPar_ok, s_tgt, kTgt_ok, kNx_ok, s_setix, kSx1_ok, kSx2_ok, kSx3_ok, setX, setE, s_setfld, kSf1_ok, kSf2_ok, setFX, setfM, slOk, putSl, s_aug, kAug1_ok, s_ite, kIte_ok, s_for, kFor_ok, s_while, s_ret, kRet_ok, s_ex, kEx_ok, s_pass, s_bad, ev_v, ev_k, ev_g, ev_bin, kBin1_ok, kBin2_ok, ev_neg, kNeg_ok, kB_ok, ev_cmp, kCmp1_ok, kCmp2_ok, ev_cmp2, kCC1_ok, kCC2_ok, kCC3_ok, ev_not, kNot_ok, ev_and, kAnd_ok, ev_or, kOr_ok, ev_ife, kIfe_ok, ev_tup, kTup0, kTup1, kTup2, kTup3, kTup4, kTup5, kTup6, kTup7, kTup8, ev_lst, kLst0, kLst1, kLst2, kLst3, kLst4, kLst5, kLst6, kLst7, kLst8, ev_dct, kDct0, kDct1i, ev_orl, kOrl_c, kOrl_n, ev_ix, kIx1_ok, kIx2_ok, kS_ok, ev_cut, kCut1_ok, kCut2_ok, kCut3_ok, cutE_l, cutE_t, cutE_s, cutE_o, ev_rev, kRev_l, kRev_o, ev_fld, ev_bi, kBi_ok, ev_isi, kIsi_l, kIsi_t, kIsi_i, kIsi_b, kIsi_s, kIsi_n, kIsi_d, ev_lenO, ev_call, kCall_ok, ev_callk, kCallk_ok, lk0, ev_meth, kMeth1_f, kMeth1_b, kMeth2_ok, ev_make, kMake1, kMake2, kMake3, kMake4, kMake5, ev_mt, kMt1_ok, kMt2_ok, mtOk, Mth.isL, ev_lc, kLc_ok, ev_dc, kDc_ok, ev_own, kOwn_ok, ev_lend, kLend_b, kLend_i, lendS, frz2, vws, ev_scope, et_not, kNg_ok, et_and, kTA_ok, et_or, kTO_ok, et_cmp, et_e, kT_ok, ea_nil, ea_cons, kA1_ok, kA2_ok, ea_star, kSt2_ok, eo_n, eo_s, kO_ok, ei_e, kI_l, kI_t, kI_o, ei_r1, kR1_ok, ei_r2, kR2b_ok, kR2a_ok, ei_rd, kRda_ok, ei_en, kEn_l, ei_zp, kZpa_ok, kZpb_l, kZpb_t, eg_last, eg_cons, lcB2_ok, lcB1_ok, lcC2_ok, lcC1_ok, kElt_ok, els_n, els_o, ed_dlast, dcB3_i, dcB3_s, dcB2b_ok, dcB2_ok, dcB1_ok, doCall_some, kAt, kBack_ok, inKs, refsL_eq, refsL, reach_eq, clo_nil, clo_cons, scat_nil, scat, backM, bk, selM, okSel, nodupB, chosB, restC, rest1, refsAt, memN, plc, Zmp_v, Zmp_o, Zmp_l, Zmp_d, Smp_v, Smp_o, Smp_u, Cmp_l, Cmp_d, Cmp_m, Cmp_i, Cmp_s, Cmp_x, Cmp_o, restC_nil, kMkO_ok, trim_val, trim_un, trim_own, trimE_ok, isK0_lis, isK0_tup, isK0_int, isK0_boo, isK0_str, isK0_Non, isK0_dic, isK1_lis, isK1_tup, isK1_int, isK1_boo, isK1_str, isK1_Non, isK1_dic, isK2_lis, isK2_tup, isK2_int, isK2_boo, isK2_str, isK2_Non, isK2_dic, isK3_lis, isK3_tup, isK3_int, isK3_boo, isK3_str, isK3_Non, isK3_dic, isK4_lis, isK4_tup, isK4_int, isK4_boo, isK4_str, isK4_Non, isK4_dic, isK5_lis, isK5_tup, isK5_int, isK5_boo, isK5_str, isK5_Non, isK5_dic, isK6_lis, isK6_tup, isK6_int, isK6_boo, isK6_str, isK6_Non, isK6_dic, isK7_lis, isK7_tup, isK7_int, isK7_boo, isK7_str, isK7_Non, isK7_dic, sq_l, sq_t, sq_o, sqC_l, sq_i, sq_n, sq_b, sq_str, sq_d, sq_c, dq_d, dq_o, dqC_d, vw_v, vw_o, vwC_l, vwC_d, ixO_s, ix_l, ix_t, ix_oi, ix_os, ixC_l, ixC_d, ixC_ds, ixC_m, ixC_ms, ixC_x, ix_di, ix_ds, eq_i, eq_b, eq_str, eq_l, eq_t, eq_n, eqO_s, eq_o, eq_lo, eq_to, eq_in, in_l, in_t, in_oi, in_os, inC_l, inC_di, inC_ds, in_di, in_ds, len_l, len_t, len_o, lenC_l, lenC_d, len_d, len_c, abs_i, int_i, int_b, tuple_o, tuple_l, tupleC_l, tuple_t, tupleC_t, all_o, all_l, allC_l, any_o, any_l, anyC_l, sum_o, sum_l, sumC_l, max_o, max_l, maxC_l, min_o, min_l, minC_l, sset_o, sset_l, ssetC_l, sset_t, ssetC_t, max_ii, min_ii, list_l, list_t, list_o, listC_l, listC_d, list_d, sorted_l, sorted_d, sorted_o, sortedC_l, sortedC_d, lrange1, lrange2, div1m, div64, div2, pow18, pow6, add_i, addX_l, addX_t, add_l, add_t, add_o, sub_i, mul_i, mul_l, div_i, mod_i, pow_i, clt, cle, cgt, cge, c_eq, c_ne, c_in, c_ni, ngO_s, c_is, c_isn, c_iso, c_isno, non_n, non_i, non_b, non_s, non_l, non_t, non_d, fX_s, kFld_f, kFld_b, fY_v, fY_o, kFld_o, fC_s, fD_x, fC_i, atom_i, atom_b, atom_s, atom_n, isI_i, intD_i, isB_b, blD_b, all_isIf, map_intDf, all_isBf, all_blDf, any_blDf, all_tt, mt_app, apC_l, mt_ext, exC_l, mt_pop, mt_rem, remC_l, mt_g1di, mt_g2di, mt_g1oi, mt_g2oi, g1Ci_d, g2Ci_d, mt_g1ds, mt_g2ds, mt_g1os, mt_g2os, g1Cs_d, g2Cs_d, g1_s, g1_n, g2_s, g2_n, kTurn_nx, kTurn_ct, kOk_ok, keepB_nil, forB, forB1_ok, lcB, lcC, dcB, vz_s, vz_l, vz_d, opt_some, gd_t, lk, pt, pts, lkA, lkM, ptM, clr, List.map, List.length, List.replicate, List.append_nil, List.nil_append, List.cons_append, List.append_assoc, List.drop, Nat.beq, Nat.ble, Nat.blt, Nat.reduceAdd, Nat.reduceSub, Nat.zero_add, Nat.add_zero, Nat.sub_zero, keyD, bindE, C.frz, okTake, closedB, List.take, List.all, C.refs, Sl.isNon, Bool.and_true, Bool.true_and, Bool.and_false, Bool.false_and, Bool.or_false, Bool.or_true, Bool.true_or, Bool.false_or, Bool.not_true, Bool.not_false, decide_true, decide_false, Int.reduceLT, Int.reduceLE, Int.reduceAdd, Int.reduceSub, Int.reduceMul, Int.reduceNeg, Int.reduceEq, Int.reduceToNat, Nat.reduceLT, Nat.reduceLeDiff, Nat.reduceMul, Nat.reduceEqDiff, and_self, and_true, true_and, List.set_cons_zero, List.set_cons_succ, $as,*])
theorem gT_len (g : Gr) : (g.map rowT).length = g.length := List.length_map _
theorem some_ev {g : Gr} {s0 : Bx} {m k : Int} (hw : WF g) (hl : 0 < g.length) (b0 : Bok s0 m) (hm : m ≤ 900000000) (hk : 0 ≤ k ∧ k ≤ 20) : ∃ a s', f__law_some [.own 0, .val (gT g), .val (.int k)] [.lst (boxD s0)] = .ok (.s (.val (.tup (a.map D.int)))) [.lst (boxD s')] ∧ Asc a ∧ In g a ∧ Bok s' (m + 30) := by
  have hwl := hw.len
  obtain ⟨r, s1, e1, r0, r1, b1⟩ := take_ev (n := k + 1) b0 (by omega) (by omega) (by omega)
  simp? [f__law_some, c__law_some, e1, kR1_ok (show -100000 ≤ r ∧ r ≤ 100000 by omega), kLc1_ok (show ((rng 0 r.toNat).map D.int).length ≤ 100000 by rw [List.length_map, rng_len]; omega)]
  generalize hL : lcE _ _ _ _ _ = L
  refine Exists.elim (lc_gen hL (T := Bx) (fun s => [.lst (boxD s)]) (fun j s acc => ∃ ns : List Int, acc = ns.map D.int ∧ ns.length = j ∧ In g ns ∧ Bok s (m + 1 + j)) s1 rfl ⟨[], rfl, rfl, In.nil, b1.up (by omega)⟩ fun j x sj acc hj ⟨ns, ea, hnl2, hin, bj⟩ => ?_) fun s8 ⟨out, ⟨ns, ea, hnl2, hin, b8⟩, hE⟩ => ?_
  · obtain ⟨hj2, _⟩ := rng0_get hj
    obtain ⟨d, s', ed, d0, d1, b'⟩ := take_ev (n := g.length) bj (by omega) (by omega) (by omega)
    refine ⟨s', [.int d], ?_, okLc_nil rfl, ns ++ [d], by rw [ea, List.map_append]; rfl, by simp; omega, hin.app (in1 ⟨d0, d1⟩), b'.up (by omega)⟩
    simp? [ed, gT]
  · subst hE
    subst ea
    rw [rng_len] at hnl2 b8
    have d2 : decide (ns.length < 64) = true := decide_eq_true (by omega)
    refine ⟨sset ns, s8, ?_, asc_sset _, hin.sset, b8.up (by omega)⟩
    simp? [d2, map_intD]
theorem both_ev {a b : List Int} (hl : a.length + b.length < 60) : f__law_both [.val (.tup (a.map D.int)), .val (.tup (b.map D.int))] [] = .ok (.s (.val (.tup ((sset (a ++ b)).map D.int)))) [] := by
  have d1 : decide (a.length + b.length ≤ 100000) = true := decide_eq_true (by omega)
  have d2 : decide ((a ++ b).length < 64) = true := decide_eq_true (by simp; omega)
  simp? [f__law_both, c__law_both, d1, ← List.map_append, d2, map_intD]
end Dl
/-! L11a: ways, truth, refill -/
namespace Dl
open PySem L2
local macro_rules | `(tactic| simp? [$as,*]) => `(tactic| simp -implicitDefEqProofs only [bif_t, bif_f, len_g, ix_g, ix_row0, ix_row1, kLc1_ok, kDc1_ok, List.length_cons, List.length_nil, dOpt_n, dOpt_s, dOpt_N, bq_tt, bq_tf, bq_ft, bq_ff, Option.isNone_none, Option.isNone_some, plain_int, plain_non, plain_bl, eqD_ni, eqD_in, bif_okE, kScope_ok, kTurnW_nx, kTurnW_ct, pop_snoc, eqD_snoc, eqD_nil, pl_nil, ev_lstM, kLstM1, kLstM2, kLstM3, at0, at1, at2, kLendN, kLendV, flat_ints, flat_dOpt, plain_l, plain_t, plains_nil, plains_cons, plains_ints, plain_dOpt, plains_dOpt, same_s, kR1_n, Option.isSome_none, Option.isSome_some, List.length_map, List.length_range, rng_len, all_atom, inD_int, all_isI, map_intD, run_ok, runI_ok, rhoN, kFin_nx, kFin_rt, finZ_v, finZ_l, finZ_d, finZ_o, finO_l, finO_d, finO_s, finO_i, kInit_nx, es_nil, es_cons, seqE_nx, seqE_rt, seqE_bk, seqE_ct, s_asg, kAsg_ok, s_par, kPar_ok, s_tgt, kTgt_ok, kNx_ok, s_setix, kSx1_ok, kSx2_ok, kSx3_ok, setX, setE, s_setfld, kSf1_ok, kSf2_ok, setFX, setfM, slOk, putSl, s_aug, kAug1_ok, s_ite, kIte_ok, s_for, kFor_ok, s_while, s_ret, kRet_ok, s_ex, kEx_ok, s_pass, s_bad, ev_v, ev_k, ev_g, ev_bin, kBin1_ok, kBin2_ok, ev_neg, kNeg_ok, kB_ok, ev_cmp, kCmp1_ok, kCmp2_ok, ev_cmp2, kCC1_ok, kCC2_ok, kCC3_ok, ev_not, kNot_ok, ev_and, kAnd_ok, ev_or, kOr_ok, ev_ife, kIfe_ok, ev_tup, kTup0, kTup1, kTup2, kTup3, kTup4, kTup5, kTup6, kTup7, kTup8, ev_lst, kLst0, kLst1, kLst2, kLst3, kLst4, kLst5, kLst6, kLst7, kLst8, ev_dct, kDct0, kDct1i, ev_orl, kOrl_c, kOrl_n, ev_ix, kIx1_ok, kIx2_ok, kS_ok, ev_cut, kCut1_ok, kCut2_ok, kCut3_ok, cutE_l, cutE_t, cutE_s, cutE_o, ev_rev, kRev_l, kRev_o, ev_fld, ev_bi, kBi_ok, ev_isi, kIsi_l, kIsi_t, kIsi_i, kIsi_b, kIsi_s, kIsi_n, kIsi_d, ev_lenO, ev_call, kCall_ok, ev_callk, kCallk_ok, lk0, ev_meth, kMeth1_f, kMeth1_b, kMeth2_ok, ev_make, kMake1, kMake2, kMake3, kMake4, kMake5, ev_mt, kMt1_ok, kMt2_ok, mtOk, Mth.isL, ev_lc, kLc_ok, ev_dc, kDc_ok, ev_own, kOwn_ok, ev_lend, kLend_b, kLend_i, lendS, frz2, vws, ev_scope, et_not, kNg_ok, et_and, kTA_ok, et_or, kTO_ok, et_cmp, et_e, kT_ok, ea_nil, ea_cons, kA1_ok, kA2_ok, ea_star, kSt2_ok, eo_n, eo_s, kO_ok, ei_e, kI_l, kI_t, kI_o, ei_r1, kR1_ok, ei_r2, kR2b_ok, kR2a_ok, ei_rd, kRda_ok, ei_en, kEn_l, ei_zp, kZpa_ok, kZpb_l, kZpb_t, eg_last, eg_cons, lcB2_ok, lcB1_ok, lcC2_ok, lcC1_ok, kElt_ok, els_n, els_o, ed_dlast, dcB3_i, dcB3_s, dcB2b_ok, dcB2_ok, dcB1_ok, doCall_some, kAt, kBack_ok, inKs, refsL_eq, refsL, reach_eq, clo_nil, clo_cons, scat_nil, scat, backM, bk, selM, okSel, nodupB, chosB, restC, rest1, refsAt, memN, plc, Zmp_v, Zmp_o, Zmp_l, Zmp_d, Smp_v, Smp_o, Smp_u, Cmp_l, Cmp_d, Cmp_m, Cmp_i, Cmp_s, Cmp_x, Cmp_o, restC_nil, kMkO_ok, trim_val, trim_un, trim_own, trimE_ok, isK0_lis, isK0_tup, isK0_int, isK0_boo, isK0_str, isK0_Non, isK0_dic, isK1_lis, isK1_tup, isK1_int, isK1_boo, isK1_str, isK1_Non, isK1_dic, isK2_lis, isK2_tup, isK2_int, isK2_boo, isK2_str, isK2_Non, isK2_dic, isK3_lis, isK3_tup, isK3_int, isK3_boo, isK3_str, isK3_Non, isK3_dic, isK4_lis, isK4_tup, isK4_int, isK4_boo, isK4_str, isK4_Non, isK4_dic, isK5_lis, isK5_tup, isK5_int, isK5_boo, isK5_str, isK5_Non, isK5_dic, isK6_lis, isK6_tup, isK6_int, isK6_boo, isK6_str, isK6_Non, isK6_dic, isK7_lis, isK7_tup, isK7_int, isK7_boo, isK7_str, isK7_Non, isK7_dic, sq_l, sq_t, sq_o, sqC_l, sq_i, sq_n, sq_b, sq_str, sq_d, sq_c, dq_d, dq_o, dqC_d, vw_v, vw_o, vwC_l, vwC_d, ixO_s, ix_l, ix_t, ix_oi, ix_os, ixC_l, ixC_d, ixC_ds, ixC_m, ixC_ms, ixC_x, ix_di, ix_ds, eq_i, eq_b, eq_str, eq_l, eq_t, eq_n, eqO_s, eq_o, eq_lo, eq_to, eq_in, in_l, in_t, in_oi, in_os, inC_l, inC_di, inC_ds, in_di, in_ds, len_l, len_t, len_o, lenC_l, lenC_d, len_d, len_c, abs_i, int_i, int_b, tuple_o, tuple_l, tupleC_l, tuple_t, tupleC_t, all_o, all_l, allC_l, any_o, any_l, anyC_l, sum_o, sum_l, sumC_l, max_o, max_l, maxC_l, min_o, min_l, minC_l, sset_o, sset_l, ssetC_l, sset_t, ssetC_t, max_ii, min_ii, list_l, list_t, list_o, listC_l, listC_d, list_d, sorted_l, sorted_d, sorted_o, sortedC_l, sortedC_d, lrange1, lrange2, div1m, div64, div2, pow18, pow6, add_i, addX_l, addX_t, add_l, add_t, add_o, sub_i, mul_i, mul_l, div_i, mod_i, pow_i, clt, cle, cgt, cge, c_eq, c_ne, c_in, c_ni, ngO_s, c_is, c_isn, c_iso, c_isno, non_n, non_i, non_b, non_s, non_l, non_t, non_d, fX_s, kFld_f, kFld_b, fY_v, fY_o, kFld_o, fC_s, fD_x, fC_i, atom_i, atom_b, atom_s, atom_n, isI_i, intD_i, isB_b, blD_b, all_isIf, map_intDf, all_isBf, all_blDf, any_blDf, all_tt, mt_app, apC_l, mt_ext, exC_l, mt_pop, mt_rem, remC_l, mt_g1di, mt_g2di, mt_g1oi, mt_g2oi, g1Ci_d, g2Ci_d, mt_g1ds, mt_g2ds, mt_g1os, mt_g2os, g1Cs_d, g2Cs_d, g1_s, g1_n, g2_s, g2_n, kTurn_nx, kTurn_ct, kOk_ok, keepB_nil, forB, forB1_ok, lcB, lcC, dcB, vz_s, vz_l, vz_d, opt_some, gd_t, lk, pt, pts, lkA, lkM, ptM, clr, List.map, List.length, List.replicate, List.append_nil, List.nil_append, List.cons_append, List.append_assoc, List.drop, Nat.beq, Nat.ble, Nat.blt, Nat.reduceAdd, Nat.reduceSub, Nat.zero_add, Nat.add_zero, Nat.sub_zero, keyD, bindE, C.frz, okTake, closedB, List.take, List.all, C.refs, Sl.isNon, Bool.and_true, Bool.true_and, Bool.and_false, Bool.false_and, Bool.or_false, Bool.or_true, Bool.true_or, Bool.false_or, Bool.not_true, Bool.not_false, decide_true, decide_false, Int.reduceLT, Int.reduceLE, Int.reduceAdd, Int.reduceSub, Int.reduceMul, Int.reduceNeg, Int.reduceEq, Int.reduceToNat, Nat.reduceLT, Nat.reduceLeDiff, Nat.reduceMul, Nat.reduceEqDiff, and_self, and_true, true_and, List.set_cons_zero, List.set_cons_succ, $as,*])
theorem law_ways_ev {g : Gr} {a : Int} (hw : WF g) (ha : 0 ≤ a ∧ a < g.length) : f__law_ways [.val (gT g), .val (.int a)] [] = .ok (.n (.dic (dN (waysL g a)))) [] := by
  have hwl := hw.len
  simp? [f__law_ways, c__law_ways, kRdb_ok (show -100000 ≤ a ∧ a ≤ 100000 ∧ -100000 ≤ -1 ∧ -1 ≤ 100000 by omega)]
  generalize hF : forE _ _ _ _ _ _ = F
  refine Exists.elim (for_gen hF (T := List (Int × Int)) (fun _ => [.val (gT g), .val (.int a), .own 0, .un, .un]) (fun t => [.dic (dN t)]) (fun i t => (t.map (·.1)).Nodup ∧ (∀ q ∈ t, 0 ≤ q.1 ∧ q.1 < (g.length : Int)) ∧ wayFrom g (a.toNat + 1 - i) t = waysL g a) [(a, 0)] rfl rfl ⟨by simp, by simp; exact ha, rfl⟩ fun i y t hi ⟨nd, hks, hsw⟩ => ?_) fun t ⟨⟨nd, hks, hsw⟩, hE⟩ => ?_
  · obtain ⟨hi1, hi2⟩ := rngD_at (by omega) hi
    have y0 : 0 ≤ y := by omega
    have y1 : y < g.length := by omega
    have yn : y = ((a.toNat - i : Nat) : Int) := by omega
    have wat := hw.at (i := y) y0 y1
    have hsw2 : wayFrom g (a.toNat + 1 - (i + 1)) (waySt g (a.toNat - i) t) = waysL g a := by
      rw [← hsw, show a.toNat + 1 - i = (a.toNat + 1 - (i + 1)) + 1 by omega]
      show _ = wayFrom g _ (waySt g (a.toNat + 1 - (i + 1)) t)
      rw [show a.toNat - i = a.toNat + 1 - (i + 1) by omega]
    cases hin : (getI t y).isSome with
    | true =>
      obtain ⟨v, hv⟩ := Option.isSome_iff_exists.mp hin
      have he : waySt g (a.toNat - i) t = (gpar g y).foldl (wayIn y) t := by
        unfold waySt
        rw [← yn, if_pos hin]
      simp? [get_dN, opt_int, hin, row_at y0 y1]
      generalize hG : forE _ _ _ _ _ _ = G
      refine Exists.elim (for_gen hG (T := List (Int × Int)) (fun _ => [.val (gT g), .val (.int a), .own 0, .val (.int y), .un]) (fun s => [.dic (dN s)]) (fun j s => (s.map (·.1)).Nodup ∧ (∀ q ∈ s, 0 ≤ q.1 ∧ q.1 < (g.length : Int)) ∧ getI s y = some v ∧ s = ((gpar g y).take j).foldl (wayIn y) t) t rfl rfl ⟨nd, hks, hv, rfl⟩ fun j p s hj ⟨nd', hks', hv', e'⟩ => ?_) fun s ⟨⟨nd', hks', hv', e'⟩, hE⟩ => ?_
      · have hp := wat.2.2.2 p (List.mem_of_getElem? hj)
        have hl := kvs_len nd' hks'
        refine ⟨wayIn y s p, ?_, nd_wayIn nd', keys_wayIn hks' (by omega), by rw [wayIn_other (by omega)]; exact hv', by rw [List.take_add_one, hj, List.foldl_append, ← e']; rfl⟩
        have eg : getK (dN s) (.inl y) = some (.int v) := by rw [get_dN, hv']; rfl
        have ew : putD (dN s) (.inl p) (.int (max ((getI s p).getD 0) (v + 1))) = dN (wayIn y s p) := by
          rw [put_dN]
          unfold wayIn
          rw [hv']; rfl
        have e3 : ∀ M, g2 M (.int 0) (getK (dN s) (.inl p)) = .ok (.s (.val (.int ((getI s p).getD 0)))) M := fun M => by rw [get_dN]; cases getI s p <;> rfl
        simp? [eg, e3, dN_len, decide_eq_true (show s.length < 100000 by omega), ew]
      · subst hE
        rw [List.take_length] at e'
        refine ⟨s, ?_, nd', hks', ?_⟩
        · simp? []
        · rw [e', ← he]; exact hsw2
    | false =>
      have he : waySt g (a.toNat - i) t = t := by
        unfold waySt
        rw [← yn, if_neg (by rw [hin]; simp)]
      rw [he] at hsw2
      refine ⟨t, ?_, nd, hks, hsw2⟩
      simp? [get_dN, opt_int, hin, forE_nil]
  · subst hE
    rw [rngD_ln (by omega), show a.toNat + 1 - (a + 1).toNat = 0 by omega] at hsw
    have hsw : t = waysL g a := hsw
    subst hsw
    simp? []
theorem law_truth_ev {g : Gr} {x y : D} {a b : List Int} (hw : WF g) (hx : IsSeq x (a.map D.int)) (hy : IsSeq y (b.map D.int)) (ha : In g a) (hb : In g b) (la : a.length < 64) (lb : b.length < 64) : f__law_truth [.val (gT g), .val x, .val y] [] = .ok (.n (.lst ((truthL g a b).map D.int))) [] := by
  have l1 := hadL_len hw ha
  simp? [f__law_truth, c__law_truth, law_had_ev hw hx la ha, law_had_ev hw hy lb hb, show (hadL g a).length ≤ 100000 by omega]
  generalize hL : lcE _ _ _ _ _ = L
  obtain rfl : L = .ok ((truthL g a b).map D.int) [] := hL.symm.trans (lc_filt okLc_self fun n hn => by simp? [])
  simp? []
/-! ### the very list -/
theorem refill_ev {xs ys : List D} {x : D} (hl : f__law_lists 20 [.val x] [] = .ok (.n (.lst ys)) []) (hy : ys.length < 100000) (h1 : xs.length ≤ 1000) (h2 : ∀ y ∈ xs, plain 59 y = true) : f__law_refill [.own 0, .val x] [.lst xs] = .ok (.s (.own 0)) [.lst ys] := by
  simp? [f__law_refill, c__law_refill]
  generalize hF : whileE _ _ _ _ _ _ = F
  refine Exists.elim (while_gen hF (T := List D) (fun _ => [.own 0, .val x]) (fun l => [.lst l]) (fun l => l.length) (fun l => l.length ≤ 1000 ∧ ∀ y ∈ l, plain 59 y = true) (fun l M1 => l = [] ∧ M1 = [.lst []]) xs rfl rfl ⟨h1, h2⟩ (fuelW_lt (by omega)) fun l ⟨hl1, hl2⟩ => ?_) fun l ⟨M1, ⟨e1, e2⟩, _, hE⟩ => ?_
  · have p1 : plain 60 (.lst l) = true := plain_lst hl1 hl2
    rcases List.eq_nil_or_concat l with rfl | ⟨l', d, rfl⟩
    · left
      refine ⟨[.lst []], ?_, rfl, rfl⟩
      simp? []
    · right
      rw [List.concat_eq_append] at *
      refine ⟨[.lst (l' ++ [d])], l', ?_, ?_, ⟨by simp at hl1; omega, fun y hy => hl2 y (List.mem_append_left _ hy)⟩, by simp⟩
      · simp? [p1]
      · simp? []
  · subst e1; subst e2; subst hE
    simp? [hl, decide_eq_true hy]
end Dl
/-! L11b: what commits have -/
namespace Dl
open PySem L2
local macro_rules | `(tactic| simp? [$as,*]) => `(tactic| simp -implicitDefEqProofs only [bif_t, bif_f, len_g, ix_g, ix_row0, ix_row1, kLc1_ok, kDc1_ok, List.length_cons, List.length_nil, dOpt_n, dOpt_s, dOpt_N, bq_tt, bq_tf, bq_ft, bq_ff, Option.isNone_none, Option.isNone_some, plain_int, plain_non, plain_bl, eqD_ni, eqD_in, bif_okE, kScope_ok, kTurnW_nx, kTurnW_ct, pop_snoc, eqD_snoc, eqD_nil, pl_nil, ev_lstM, kLstM1, kLstM2, kLstM3, at0, at1, at2, kLendN, kLendV, flat_ints, flat_dOpt, plain_l, plain_t, plains_nil, plains_cons, plains_ints, plain_dOpt, plains_dOpt, same_s, kR1_n, Option.isSome_none, Option.isSome_some, List.length_map, List.length_range, rng_len, all_atom, inD_int, all_isI, map_intD, run_ok, runI_ok, rhoN, kFin_nx, kFin_rt, finZ_v, finZ_l, finZ_d, finZ_o, finO_l, finO_d, finO_s, finO_i, kInit_nx, es_nil, es_cons, seqE_nx, seqE_rt, seqE_bk, seqE_ct, s_asg, kAsg_ok, s_par, kPar_ok, s_tgt, kTgt_ok, kNx_ok, s_setix, kSx1_ok, kSx2_ok, kSx3_ok, setX, setE, s_setfld, kSf1_ok, kSf2_ok, setFX, setfM, slOk, putSl, s_aug, kAug1_ok, s_ite, kIte_ok, s_for, kFor_ok, s_while, s_ret, kRet_ok, s_ex, kEx_ok, s_pass, s_bad, ev_v, ev_k, ev_g, ev_bin, kBin1_ok, kBin2_ok, ev_neg, kNeg_ok, kB_ok, ev_cmp, kCmp1_ok, kCmp2_ok, ev_cmp2, kCC1_ok, kCC2_ok, kCC3_ok, ev_not, kNot_ok, ev_and, kAnd_ok, ev_or, kOr_ok, ev_ife, kIfe_ok, ev_tup, kTup0, kTup1, kTup2, kTup3, kTup4, kTup5, kTup6, kTup7, kTup8, ev_lst, kLst0, kLst1, kLst2, kLst3, kLst4, kLst5, kLst6, kLst7, kLst8, ev_dct, kDct0, kDct1i, ev_orl, kOrl_c, kOrl_n, ev_ix, kIx1_ok, kIx2_ok, kS_ok, ev_cut, kCut1_ok, kCut2_ok, kCut3_ok, cutE_l, cutE_t, cutE_s, cutE_o, ev_rev, kRev_l, kRev_o, ev_fld, ev_bi, kBi_ok, ev_isi, kIsi_l, kIsi_t, kIsi_i, kIsi_b, kIsi_s, kIsi_n, kIsi_d, ev_lenO, ev_call, kCall_ok, ev_callk, kCallk_ok, lk0, ev_meth, kMeth1_f, kMeth1_b, kMeth2_ok, ev_make, kMake1, kMake2, kMake3, kMake4, kMake5, ev_mt, kMt1_ok, kMt2_ok, mtOk, Mth.isL, ev_lc, kLc_ok, ev_dc, kDc_ok, ev_own, kOwn_ok, ev_lend, kLend_b, kLend_i, lendS, frz2, vws, ev_scope, et_not, kNg_ok, et_and, kTA_ok, et_or, kTO_ok, et_cmp, et_e, kT_ok, ea_nil, ea_cons, kA1_ok, kA2_ok, ea_star, kSt2_ok, eo_n, eo_s, kO_ok, ei_e, kI_l, kI_t, kI_o, ei_r1, kR1_ok, ei_r2, kR2b_ok, kR2a_ok, ei_rd, kRda_ok, ei_en, kEn_l, ei_zp, kZpa_ok, kZpb_l, kZpb_t, eg_last, eg_cons, lcB2_ok, lcB1_ok, lcC2_ok, lcC1_ok, kElt_ok, els_n, els_o, ed_dlast, dcB3_i, dcB3_s, dcB2b_ok, dcB2_ok, dcB1_ok, doCall_some, kAt, kBack_ok, inKs, refsL_eq, refsL, reach_eq, clo_nil, clo_cons, scat_nil, scat, backM, bk, selM, okSel, nodupB, chosB, restC, rest1, refsAt, memN, plc, Zmp_v, Zmp_o, Zmp_l, Zmp_d, Smp_v, Smp_o, Smp_u, Cmp_l, Cmp_d, Cmp_m, Cmp_i, Cmp_s, Cmp_x, Cmp_o, restC_nil, kMkO_ok, trim_val, trim_un, trim_own, trimE_ok, isK0_lis, isK0_tup, isK0_int, isK0_boo, isK0_str, isK0_Non, isK0_dic, isK1_lis, isK1_tup, isK1_int, isK1_boo, isK1_str, isK1_Non, isK1_dic, isK2_lis, isK2_tup, isK2_int, isK2_boo, isK2_str, isK2_Non, isK2_dic, isK3_lis, isK3_tup, isK3_int, isK3_boo, isK3_str, isK3_Non, isK3_dic, isK4_lis, isK4_tup, isK4_int, isK4_boo, isK4_str, isK4_Non, isK4_dic, isK5_lis, isK5_tup, isK5_int, isK5_boo, isK5_str, isK5_Non, isK5_dic, isK6_lis, isK6_tup, isK6_int, isK6_boo, isK6_str, isK6_Non, isK6_dic, isK7_lis, isK7_tup, isK7_int, isK7_boo, isK7_str, isK7_Non, isK7_dic, sq_l, sq_t, sq_o, sqC_l, sq_i, sq_n, sq_b, sq_str, sq_d, sq_c, dq_d, dq_o, dqC_d, vw_v, vw_o, vwC_l, vwC_d, ixO_s, ix_l, ix_t, ix_oi, ix_os, ixC_l, ixC_d, ixC_ds, ixC_m, ixC_ms, ixC_x, ix_di, ix_ds, eq_i, eq_b, eq_str, eq_l, eq_t, eq_n, eqO_s, eq_o, eq_lo, eq_to, eq_in, in_l, in_t, in_oi, in_os, inC_l, inC_di, inC_ds, in_di, in_ds, len_l, len_t, len_o, lenC_l, lenC_d, len_d, len_c, abs_i, int_i, int_b, tuple_o, tuple_l, tupleC_l, tuple_t, tupleC_t, all_o, all_l, allC_l, any_o, any_l, anyC_l, sum_o, sum_l, sumC_l, max_o, max_l, maxC_l, min_o, min_l, minC_l, sset_o, sset_l, ssetC_l, sset_t, ssetC_t, max_ii, min_ii, list_l, list_t, list_o, listC_l, listC_d, list_d, sorted_l, sorted_d, sorted_o, sortedC_l, sortedC_d, lrange1, lrange2, div1m, div64, div2, pow18, pow6, add_i, addX_l, addX_t, add_l, add_t, add_o, sub_i, mul_i, mul_l, div_i, mod_i, pow_i, clt, cle, cgt, cge, c_eq, c_ne, c_in, c_ni, ngO_s, c_is, c_isn, c_iso, c_isno, non_n, non_i, non_b, non_s, non_l, non_t, non_d, fX_s, kFld_f, kFld_b, fY_v, fY_o, kFld_o, fC_s, fD_x, fC_i, atom_i, atom_b, atom_s, atom_n, isI_i, intD_i, isB_b, blD_b, all_isIf, map_intDf, all_isBf, all_blDf, any_blDf, all_tt, mt_app, apC_l, mt_ext, exC_l, mt_pop, mt_rem, remC_l, mt_g1di, mt_g2di, mt_g1oi, mt_g2oi, g1Ci_d, g2Ci_d, mt_g1ds, mt_g2ds, mt_g1os, mt_g2os, g1Cs_d, g2Cs_d, g1_s, g1_n, g2_s, g2_n, kTurn_nx, kTurn_ct, kOk_ok, keepB_nil, forB, forB1_ok, lcB, lcC, dcB, vz_s, vz_l, vz_d, opt_some, gd_t, lk, pt, pts, lkA, lkM, ptM, clr, List.map, List.length, List.replicate, List.append_nil, List.nil_append, List.cons_append, List.append_assoc, List.drop, Nat.beq, Nat.ble, Nat.blt, Nat.reduceAdd, Nat.reduceSub, Nat.zero_add, Nat.add_zero, Nat.sub_zero, keyD, bindE, C.frz, okTake, closedB, List.take, List.all, C.refs, Sl.isNon, Bool.and_true, Bool.true_and, Bool.and_false, Bool.false_and, Bool.or_false, Bool.or_true, Bool.true_or, Bool.false_or, Bool.not_true, Bool.not_false, decide_true, decide_false, Int.reduceLT, Int.reduceLE, Int.reduceAdd, Int.reduceSub, Int.reduceMul, Int.reduceNeg, Int.reduceEq, Int.reduceToNat, Nat.reduceLT, Nat.reduceLeDiff, Nat.reduceMul, Nat.reduceEqDiff, and_self, and_true, true_and, List.set_cons_zero, List.set_cons_succ, $as,*])
theorem plain_row {n : Nat} {g : Gr} (hw : WF g) {r : Int × List Int} (hr : r ∈ g) : plain (n + 2) (rowT r) = true ∧ plain (n + 2) (rowL r) = true := by
  have h := row_par hw hr
  constructor
  · exact plain_tup (by simp) fun x hx => by
      rcases List.mem_cons.mp hx with rfl | hx
      · exact plain_int
      · rw [List.mem_singleton.mp hx]; exact plT _ (by omega)
  · exact plain_lst (by simp) fun x hx => by
      rcases List.mem_cons.mp hx with rfl | hx
      · exact plain_int
      · rw [List.mem_singleton.mp hx]; exact plL _ (by omega)
theorem plain_gT {n : Nat} {g : Gr} (hw : WF g) : plain (n + 3) (gT g) = true := by
  have := hw.len
  exact plain_tup (by rw [List.length_map]; omega) fun x hx => by
    obtain ⟨r, hr, rfl⟩ := List.mem_map.mp hx
    exact (plain_row hw hr).1
theorem plain_gL {n : Nat} {g : Gr} (hw : WF g) : plain (n + 3) (gL g) = true := by
  have := hw.len
  exact plain_lst (by rw [List.length_map]; omega) fun x hx => by
    obtain ⟨r, hr, rfl⟩ := List.mem_map.mp hx
    exact (plain_row hw hr).2
theorem lisI (l : List Int) : lisDs (l.map D.int) = l.map D.int := by
  rw [lisDs_map, List.map_map]; rfl
theorem lis_row (r : Int × List Int) : lisD (rowT r) = rowL r := by
  show D.lst (lisDs [D.int r.1, .tup (r.2.map D.int)]) = _
  rw [lisDs_map]
  show D.lst [D.int r.1, .lst (lisDs (r.2.map D.int))] = _
  rw [lisI]; rfl
theorem lists_g {g : Gr} (hw : WF g) : f__law_lists 20 [.val (gT g)] [] = .ok (.n (.lst (g.map rowL))) [] := by
  rw [lists_ev 19 (plain_gT hw)]
  show Ev.ok (Z.n (.lst ((g.map rowT).map lisD))) [] = _
  rw [List.map_map]
  have : g.map (lisD ∘ rowT) = g.map rowL := List.map_congr_left fun r _ => lis_row r
  rw [this]
theorem same_l {a : List Int} (h : a.length ≤ 1000) : f__law_same 20 [.val (.lst (a.map D.int)), .val (.lst (a.map D.int))] [] = .ok (.s (.val (.bl true))) [] := same_ev 19 (plL _ h)
theorem zip_self2 {α β : Type} (l : List (α × β)) : (l.map (·.1)).zip (l.map (·.2)) = l := by
  induction l with
  | nil => rfl
  | cons p l ih => show (p.1, p.2) :: (l.map (·.1)).zip (l.map (·.2)) = _; rw [ih]
theorem nb_gL (g : Gr) : nb (.lst (g.map rowL)) = true := nbs_all fun x hx => by
  obtain ⟨r, _, rfl⟩ := List.mem_map.mp hx
  show (true && (nbs (r.2.map D.int) && true)) = true
  rw [nbs_ints]; rfl
structure K11o where
  s : Bx
  sh : List D
  q : Sl
structure K11 where
  s : Bx
  p : Sl
  q : Sl
theorem right_ev11 {s0 : Bx} {m : Int} (b0 : Bok s0 m) (hm : m ≤ 700000000) : ∃ s', f__law_right_k11 [.own 0] [.lst (boxD s0)] = .ok (.s (.val (.bl true))) [.lst (boxD s')] := by
  simp? [f__law_right_k11, c__law_right_k11]
  generalize hF : forE _ _ _ _ _ _ = F
  refine Exists.elim (for_gen hF (T := K11o) (fun t => [.own 0, .own 1, .un, .un, .un, .un, .un, .un, .un, .un, t.q, .un, .un, .un]) (fun t => [.lst (boxD t.s), .lst t.sh]) (fun i t => Bok t.s (m + 10000 * i) ∧ (∀ n, Sl.trim n t.q = t.q) ∧ t.sh.length ≤ 1000 ∧ ∀ y ∈ t.sh, plain 59 y = true) ⟨s0, [], .un⟩ rfl rfl ⟨b0.up (by omega), fun _ => rfl, by simp, fun _ h => (nomatch h)⟩ fun i x t hi ⟨bs, hq0, hs1, hs2⟩ => ?_) fun t ⟨⟨bs, _, _⟩, hE⟩ => ?_
  · obtain ⟨s, sh, q0⟩ := t
    dsimp only at bs hq0 hs1 hs2
    have hi12 : i < 2 := (rng0_get hi).1
    obtain ⟨d, s1, e1, hd, b1⟩ := of_ev (x := .lst [.int 1, .int 4, .int 9, .int 15, .int 24]) bs (by omega) (.inl rfl) (by decide) (by decide)
    obtain ⟨n, rfl, hn⟩ : ∃ n : Int, d = .int n ∧ (1 ≤ n ∧ n ≤ 24) := by
      simp at hd
      rcases hd with h | h | h | h | h <;> exact ⟨_, h, by decide, by decide⟩
    obtain ⟨g, s2, e2, hw, hgl, b2⟩ := graph_ev (n := n) b1 (by omega) (by omega) (by omega)
    have hl : 0 < g.length := by omega
    have hwl := hw.len
    have hg := isG_T g
    have hgL := isG_L g
    have er := refill_ev (xs := sh) (lists_g hw) (by rw [List.length_map]; omega) hs1 hs2
    have ln : List.length (g.map rowL) = g.length := List.length_map _
    simp? [hq0, e1, e2, er, kR1_ok (show -100000 ≤ (g.length : Int) ∧ (g.length : Int) ≤ 100000 by omega), Int.toNat_natCast]
    generalize hG : forE _ _ _ _ _ _ = G
    refine Exists.elim (for_gen hG (T := K11) (fun t => [.own 0, .own 1, .val (.int x), .val (gT g), .own 1, .un, .un, .un, .un, t.p, t.q, .un, .un, .un]) (fun t => [.lst (boxD t.s), .lst (g.map rowL)]) (fun j t => Bok t.s (m + 10000 * i + 301 + j) ∧ (∀ n, Sl.trim n t.p = t.p) ∧ (∀ n, Sl.trim n t.q = t.q)) ⟨s2, .un, q0⟩ rfl rfl ⟨b2.up (by omega), fun _ => rfl, hq0⟩ fun j y t hj ⟨bj, hp, hq⟩ => ?_) fun t ⟨⟨bj, hp, hq⟩, hE⟩ => ?_
    · obtain ⟨s3, p, q⟩ := t
      dsimp only at bj hp hq
      obtain ⟨hj1, rfl⟩ := rng0_get hj
      have hy : 0 ≤ (j : Int) ∧ (j : Int) < g.length := by omega
      have l1 := hadL_len hw (in1 hy)
      obtain ⟨r, s4, e4, r0, r1, b4⟩ := take_ev (n := g.length) bj (by omega) (by omega) (by omega)
      refine ⟨⟨s4, .val (.lst ((rng 0 g.length).map fun z => dOpt (wayL g j z))), .val (.int r)⟩, ?_, b4.up (by omega), fun _ => rfl, fun _ => rfl⟩
      have eh : f__law_had [.val (gT g), .val (.lst [.int j])] [] = .ok (.n (.lst ((hadL g [(j : Int)]).map D.int))) [] := law_had_ev hw (sqLI [(j : Int)]) (by simp) (in1 hy)
      have hgl' : f_had [.val (.lst (g.map rowL)), .val (.int j)] [] = _ := had_ev hw hgL hy
      have eg : ∀ z M, g1 M (getK (((dN (waysL g j)).map (·.1)).zip ((dN (waysL g j)).map (·.2))) (.inl z)) = .ok (.s (.val (dOpt (wayL g j z)))) M := fun z M => by
        rw [zip_self2, get_dN]
        unfold wayL
        cases getI (waysL g j) z <;> rfl
      simp? [eh, law_ways_ev hw hy, had_ev hw hg hy, hgl', eg, show (hadL g [(j : Int)]).length ≤ 1000 by omega, show (hadL g [(j : Int)]).length < 100000 by omega, show g.length ≤ 100000 by omega]
      generalize hL : lcE _ _ _ _ _ = L
      obtain rfl : L = .ok ((rng 0 g.length).map fun z => dOpt (wayL g j z)) [.lst (boxD s3), .lst (g.map rowL), .lst ((hadL g [(j : Int)]).map D.int ++ [.str "more"]), .lst ((hadL g [(j : Int)]).map D.int), .mls [.own 2, .own 3]] := hL.symm.trans (lc_map okLc_self fun z hz => by simp? [eg])
      clear hL
      simp? [show g.length ≤ 100000 by omega]
      generalize hL : lcE _ _ _ _ _ = L
      obtain rfl : L = .ok ((rng 0 g.length).map fun z => dOpt (wayL g j z)) [.lst (boxD s3), .lst (g.map rowL), .lst ((hadL g [(j : Int)]).map D.int ++ [.str "more"]), .lst ((hadL g [(j : Int)]).map D.int), .mls [.own 2, .own 3]] := hL.symm.trans (lc_map okLc_self fun z hz => by
        have := rng_mem.mp hz
        simp? [way_ev hw hg hy (show 0 ≤ z ∧ z < g.length by omega)])
      clear hL
      have hr : 0 ≤ r ∧ r < (g.length : Int) := ⟨r0, r1⟩
      have ew : f_way [.val (.lst (g.map rowL)), .val (.int j), .val (.int r)] [] = _ := way_ev hw hgL hy hr
      simp? [e4, ew, had_ev hw hg hy, rng_at (n := g.length) (f := fun z => dOpt (wayL g j z)) r0 r1, show g.length ≤ 1000 by omega, show (hadL g [(j : Int)]).length ≤ 1000 by omega]
    · subst hE
      obtain ⟨s3, p, q⟩ := t
      dsimp only at bj hp hq
      rw [rng_len] at bj
      simp? [hp, hq]
      generalize hH : forE _ _ _ _ _ _ = H
      refine Exists.elim (for_gen hH (T := Bx × Sl) (fun t => [.own 0, .own 1, .val (.int x), .val (gT g), .own 1, .un, .un, .un, .un, t.2, q, .un, .un, .un]) (fun t => [.lst (boxD t.1), .lst (g.map rowL)]) (fun j t => Bok t.1 (m + 10000 * i + 400 + 100 * j) ∧ (∀ n, Sl.trim n t.2 = t.2)) (s3, p) rfl rfl ⟨bj.up (by omega), hp⟩ fun j y t hj ⟨bj, hp⟩ => ?_) fun t ⟨⟨bj, hp⟩, hE⟩ => ?_
      · obtain ⟨s5, p⟩ := t
        dsimp only at bj hp
        have hj6 : j < 6 := (rng0_get hj).1
        obtain ⟨a, s6, e6, aa, ia, b6⟩ := some_ev (k := 3) hw hl bj (by omega) (by omega)
        obtain ⟨b, s7, e7, ab, ib, b7⟩ := some_ev (k := 3) hw hl b6 (by omega) (by omega)
        have la := In.len hw aa ia
        have lb := In.len hw ab ib
        have lt : (truthL g a b).length ≤ 24 := In.len hw (asc_truth g a b) (ia.truth hw)
        have t1 := law_truth_ev hw (sqI a) (sqI b) ia ib (by omega) (by omega)
        have t2 := truth_ev hw hg (sqI a) (sqI b) ia ib (by omega) (by omega)
        have t3 : f_truth [.val (.lst (g.map rowL)), .val (.lst (a.map D.int)), .val (.lst (b.map D.int))] [] = _ := truth_ev hw hgL (sqLI a) (sqLI b) ia ib (by omega) (by omega)
        have pg : plain 60 (.lst (g.map rowL)) = true := plain_gL hw
        have nbg : nb (.lst (g.map rowL)) = true := nb_gL g
        refine ⟨(s7, .val (.lst ((truthL g a b).map D.int))), ?_, b7.up (by omega), fun _ => rfl⟩
        simp? [hq, e6, e7, t1, t2, t3, lists_g hw, pg, eqD_self nbg, show (truthL g a b).length ≤ 1000 by omega, show (truthL g a b).length < 100000 by omega]
      · subst hE
        refine ⟨⟨t.1, g.map rowL, q⟩, ?_, bj.up (by rw [rng_len]; omega), hq, by rw [List.length_map]; omega, fun y hy => ?_⟩
        · simp? [hp, hq]
        · obtain ⟨r, hr, rfl⟩ := List.mem_map.mp hy
          exact (plain_row hw hr).2
  · subst hE
    refine ⟨t.s, ?_⟩
    simp? []
end Dl
/-! LT_k11: the law itself -/
namespace Dl
open PySem L2
local macro_rules | `(tactic| simp? [$as,*]) => `(tactic| simp -implicitDefEqProofs only [bif_t, bif_f, len_g, ix_g, ix_row0, ix_row1, kLc1_ok, kDc1_ok, List.length_cons, List.length_nil, dOpt_n, dOpt_s, dOpt_N, bq_tt, bq_tf, bq_ft, bq_ff, Option.isNone_none, Option.isNone_some, plain_int, plain_non, plain_bl, eqD_ni, eqD_in, bif_okE, kScope_ok, kTurnW_nx, kTurnW_ct, pop_snoc, eqD_snoc, eqD_nil, pl_nil, ev_lstM, kLstM1, kLstM2, kLstM3, at0, at1, at2, kLendN, kLendV, flat_ints, flat_dOpt, plain_l, plain_t, plains_nil, plains_cons, plains_ints, plain_dOpt, plains_dOpt, same_s, kR1_n, Option.isSome_none, Option.isSome_some, List.length_map, List.length_range, rng_len, all_atom, inD_int, all_isI, map_intD, run_ok, runI_ok, rhoN, kFin_nx, kFin_rt, finZ_v, finZ_l, finZ_d, finZ_o, finO_l, finO_d, finO_s, finO_i, kInit_nx, es_nil, es_cons, seqE_nx, seqE_rt, seqE_bk, seqE_ct, s_asg, kAsg_ok, s_par, kPar_ok, s_tgt, kTgt_ok, kNx_ok, s_setix, kSx1_ok, kSx2_ok, kSx3_ok, setX, setE, s_setfld, kSf1_ok, kSf2_ok, setFX, setfM, slOk, putSl, s_aug, kAug1_ok, s_ite, kIte_ok, s_for, kFor_ok, s_while, s_ret, kRet_ok, s_ex, kEx_ok, s_pass, s_bad, ev_v, ev_k, ev_g, ev_bin, kBin1_ok, kBin2_ok, ev_neg, kNeg_ok, kB_ok, ev_cmp, kCmp1_ok, kCmp2_ok, ev_cmp2, kCC1_ok, kCC2_ok, kCC3_ok, ev_not, kNot_ok, ev_and, kAnd_ok, ev_or, kOr_ok, ev_ife, kIfe_ok, ev_tup, kTup0, kTup1, kTup2, kTup3, kTup4, kTup5, kTup6, kTup7, kTup8, ev_lst, kLst0, kLst1, kLst2, kLst3, kLst4, kLst5, kLst6, kLst7, kLst8, ev_dct, kDct0, kDct1i, ev_orl, kOrl_c, kOrl_n, ev_ix, kIx1_ok, kIx2_ok, kS_ok, ev_cut, kCut1_ok, kCut2_ok, kCut3_ok, cutE_l, cutE_t, cutE_s, cutE_o, ev_rev, kRev_l, kRev_o, ev_fld, ev_bi, kBi_ok, ev_isi, kIsi_l, kIsi_t, kIsi_i, kIsi_b, kIsi_s, kIsi_n, kIsi_d, ev_lenO, ev_call, kCall_ok, ev_callk, kCallk_ok, lk0, ev_meth, kMeth1_f, kMeth1_b, kMeth2_ok, ev_make, kMake1, kMake2, kMake3, kMake4, kMake5, ev_mt, kMt1_ok, kMt2_ok, mtOk, Mth.isL, ev_lc, kLc_ok, ev_dc, kDc_ok, ev_own, kOwn_ok, ev_lend, kLend_b, kLend_i, lendS, frz2, vws, ev_scope, et_not, kNg_ok, et_and, kTA_ok, et_or, kTO_ok, et_cmp, et_e, kT_ok, ea_nil, ea_cons, kA1_ok, kA2_ok, ea_star, kSt2_ok, eo_n, eo_s, kO_ok, ei_e, kI_l, kI_t, kI_o, ei_r1, kR1_ok, ei_r2, kR2b_ok, kR2a_ok, ei_rd, kRda_ok, ei_en, kEn_l, ei_zp, kZpa_ok, kZpb_l, kZpb_t, eg_last, eg_cons, lcB2_ok, lcB1_ok, lcC2_ok, lcC1_ok, kElt_ok, els_n, els_o, ed_dlast, dcB3_i, dcB3_s, dcB2b_ok, dcB2_ok, dcB1_ok, doCall_some, kAt, kBack_ok, inKs, refsL_eq, refsL, reach_eq, clo_nil, clo_cons, scat_nil, scat, backM, bk, selM, okSel, nodupB, chosB, restC, rest1, refsAt, memN, plc, Zmp_v, Zmp_o, Zmp_l, Zmp_d, Smp_v, Smp_o, Smp_u, Cmp_l, Cmp_d, Cmp_m, Cmp_i, Cmp_s, Cmp_x, Cmp_o, restC_nil, kMkO_ok, trim_val, trim_un, trim_own, trimE_ok, isK0_lis, isK0_tup, isK0_int, isK0_boo, isK0_str, isK0_Non, isK0_dic, isK1_lis, isK1_tup, isK1_int, isK1_boo, isK1_str, isK1_Non, isK1_dic, isK2_lis, isK2_tup, isK2_int, isK2_boo, isK2_str, isK2_Non, isK2_dic, isK3_lis, isK3_tup, isK3_int, isK3_boo, isK3_str, isK3_Non, isK3_dic, isK4_lis, isK4_tup, isK4_int, isK4_boo, isK4_str, isK4_Non, isK4_dic, isK5_lis, isK5_tup, isK5_int, isK5_boo, isK5_str, isK5_Non, isK5_dic, isK6_lis, isK6_tup, isK6_int, isK6_boo, isK6_str, isK6_Non, isK6_dic, isK7_lis, isK7_tup, isK7_int, isK7_boo, isK7_str, isK7_Non, isK7_dic, sq_l, sq_t, sq_o, sqC_l, sq_i, sq_n, sq_b, sq_str, sq_d, sq_c, dq_d, dq_o, dqC_d, vw_v, vw_o, vwC_l, vwC_d, ixO_s, ix_l, ix_t, ix_oi, ix_os, ixC_l, ixC_d, ixC_ds, ixC_m, ixC_ms, ixC_x, ix_di, ix_ds, eq_i, eq_b, eq_str, eq_l, eq_t, eq_n, eqO_s, eq_o, eq_lo, eq_to, eq_in, in_l, in_t, in_oi, in_os, inC_l, inC_di, inC_ds, in_di, in_ds, len_l, len_t, len_o, lenC_l, lenC_d, len_d, len_c, abs_i, int_i, int_b, tuple_o, tuple_l, tupleC_l, tuple_t, tupleC_t, all_o, all_l, allC_l, any_o, any_l, anyC_l, sum_o, sum_l, sumC_l, max_o, max_l, maxC_l, min_o, min_l, minC_l, sset_o, sset_l, ssetC_l, sset_t, ssetC_t, max_ii, min_ii, list_l, list_t, list_o, listC_l, listC_d, list_d, sorted_l, sorted_d, sorted_o, sortedC_l, sortedC_d, lrange1, lrange2, div1m, div64, div2, pow18, pow6, add_i, addX_l, addX_t, add_l, add_t, add_o, sub_i, mul_i, mul_l, div_i, mod_i, pow_i, clt, cle, cgt, cge, c_eq, c_ne, c_in, c_ni, ngO_s, c_is, c_isn, c_iso, c_isno, non_n, non_i, non_b, non_s, non_l, non_t, non_d, fX_s, kFld_f, kFld_b, fY_v, fY_o, kFld_o, fC_s, fD_x, fC_i, atom_i, atom_b, atom_s, atom_n, isI_i, intD_i, isB_b, blD_b, all_isIf, map_intDf, all_isBf, all_blDf, any_blDf, all_tt, mt_app, apC_l, mt_ext, exC_l, mt_pop, mt_rem, remC_l, mt_g1di, mt_g2di, mt_g1oi, mt_g2oi, g1Ci_d, g2Ci_d, mt_g1ds, mt_g2ds, mt_g1os, mt_g2os, g1Cs_d, g2Cs_d, g1_s, g1_n, g2_s, g2_n, kTurn_nx, kTurn_ct, kOk_ok, keepB_nil, forB, forB1_ok, lcB, lcC, dcB, vz_s, vz_l, vz_d, opt_some, gd_t, lk, pt, pts, lkA, lkM, ptM, clr, List.map, List.length, List.replicate, List.append_nil, List.nil_append, List.cons_append, List.append_assoc, List.drop, Nat.beq, Nat.ble, Nat.blt, Nat.reduceAdd, Nat.reduceSub, Nat.zero_add, Nat.add_zero, Nat.sub_zero, keyD, bindE, C.frz, okTake, closedB, List.take, List.all, C.refs, Sl.isNon, Bool.and_true, Bool.true_and, Bool.and_false, Bool.false_and, Bool.or_false, Bool.or_true, Bool.true_or, Bool.false_or, Bool.not_true, Bool.not_false, decide_true, decide_false, Int.reduceLT, Int.reduceLE, Int.reduceAdd, Int.reduceSub, Int.reduceMul, Int.reduceNeg, Int.reduceEq, Int.reduceToNat, Nat.reduceLT, Nat.reduceLeDiff, Nat.reduceMul, Nat.reduceEqDiff, and_self, and_true, true_and, List.set_cons_zero, List.set_cons_succ, $as,*])
theorem law_k11_true (ns : List Int) : f_law_k11 [.val (.scr ns)] [] = .ok (.s (.val (.bl true))) [] := by
  obtain ⟨cs, e1, c0, c1⟩ := cells_ev (m := 3) (by omega) (by omega) ns
  have e1 : f__law_cells [.val (.scr ns), .val (.int 3)] [] = .ok (.n (.lst (cs.map D.int))) [] := e1
  simp? [f_law_k11, c_law_k11, e1, kR1_ok (show -100000 ≤ (cs.length : Int) ∧ (cs.length : Int) ≤ 100000 by omega), rng_len, Int.toNat_natCast, show cs.length ≤ 100000 by omega]
  generalize hL : lcE _ _ _ _ _ = L
  refine Exists.elim (lc_gen hL (T := Unit) (fun _ => []) (fun j _ acc => acc = List.replicate j (.bl true)) () rfl rfl fun j x _ acc hj ea => ?_) fun _ ⟨out, ea, hE⟩ => ?_
  · obtain ⟨hj2, rfl⟩ := rng0_get hj
    obtain ⟨s, e2, b⟩ := box_ev (ns := cs) (k := (j : Int)) (by omega) (by omega) (by omega)
    obtain ⟨s', e3⟩ := right_ev11 b (by omega)
    refine ⟨(), [.bl true], ?_, okLc_nil rfl, by rw [ea, List.replicate_succ']⟩
    simp? [e2, e3]
  · subst hE
    rw [rng_len] at ea
    subst ea
    have q1 : (List.replicate cs.length (D.bl true)).all isB = true := by simp [isB]
    have q2 : (List.replicate cs.length (D.bl true)).all blD = true := by simp [blD]
    simp? [q1, q2]
end Dl
/-! E_k11: derivations and the end (printed by g3.py) -/
namespace Dl
open PySem L2
def top (i : Nat) : Stmt := PySem.Challenge.pw_latedates_k11_what_commits_have.main.body.getD i (.Pass ⟨0, 0, 0, 0⟩)
section
variable {P : Program} {w : World} {K : PySem.W.Frag} {mg : Str → Option Value} {base : Heap} {k : Nat}
abbrev s__law_cells : Stmt := top 14
def N__law_cells : List Str := ["_law_script", "_law_most", "_law_cells_here", "_law_k", "_law_cell", "_law_at_so"]
theorem sc__law_cells : FnScope N__law_cells ["_law_script", "_law_most"] (defScope s__law_cells) := ⟨rfl, rfl, rfl, by decide +kernel, rfl, by decide +kernel, by decide +kernel⟩
theorem t__law_cells (B : Bi mg) : TrS (ctxOf P w K mg base N__law_cells s__law_cells (k + 1)) (defBody s__law_cells) c__law_cells :=
  (trS_asg 2 (tr_own (tr_orl (tr_bi (b := .list) B (by decide) (trA_cons (tr_cut (tv 0 rfl rfl rfl rfl) trO_none (trO_some (tv 1 rfl rfl rfl rfl))) trA_nil (fun _ => rfl)) rfl (fun _ => rfl) (fun _ => rfl)) (tr_lst (trA_cons tr_int trA_nil (fun _ => rfl))))) 
  (trS_for (trI_en B (tr_cut (tv 0 rfl rfl rfl rfl) (trO_some (tv 1 rfl rfl rfl rfl)) (trO_some tr_int)) rfl (fun _ => rfl)) (trG_t 3 4 rfl (loc_of rfl) (fn_of rfl) rfl (loc_of rfl) (fn_of rfl))
      
      (trS_asg 5 (tr_bin (tr_bi (b := .int) B (by decide) (trA_cons (tv 3 rfl rfl rfl rfl) trA_nil (fun _ => rfl)) rfl (fun _ => rfl) (fun _ => rfl)) (tv 1 rfl rfl rfl rfl)) 
      (trS_setix (tr_bin (tr_ix (tv 2 rfl rfl rfl rfl) (tv 5 rfl rfl rfl rfl) (fun _ _ => rfl)) (tr_bin (tv 4 rfl rfl rfl rfl) (tr_bin (tv 3 rfl rfl rfl rfl) tr_int))) (tv 2 rfl rfl rfl rfl) (tv 5 rfl rfl rfl rfl) trS_nil (fun _ => rfl) (fun _ => rfl) (fun _ => rfl) (fun _ _ => rfl)) rfl (loc_of rfl) (fn_of rfl) (fun _ _ => rfl))
      
  (trS_ret (tv 2 rfl rfl rfl rfl)) (fun _ _ => rfl)) rfl (loc_of rfl) (fn_of rfl) (fun _ _ => rfl))
abbrev s__law_box : Stmt := top 12
def N__law_box : List Str := ["_law_script", "_law_k", "_law_cell"]
theorem sc__law_box : FnScope N__law_box ["_law_script", "_law_k"] (defScope s__law_box) := ⟨rfl, rfl, rfl, by decide +kernel, rfl, by decide +kernel, by decide +kernel⟩
theorem t__law_box (B : Bi mg) : TrS (ctxOf P w K mg base N__law_box s__law_box (k + 1)) (defBody s__law_box) c__law_box :=
  (trS_asg 2 (tr_ife (trT_cmp (tv 1 rfl rfl rfl rfl) (tr_bi (b := .len) B (by decide) (trA_cons (tv 0 rfl rfl rfl rfl) trA_nil (fun _ => rfl)) rfl (fun _ => rfl) (fun _ => rfl)) rfl) (tr_ix (tv 0 rfl rfl rfl rfl) (tv 1 rfl rfl rfl rfl) (fun _ _ => rfl)) tr_int) 
  (trS_ret (tr_lst (trA_cons (tr_bin (tr_bi (b := .abs) B (by decide) (trA_cons (tv 2 rfl rfl rfl rfl) trA_nil (fun _ => rfl)) rfl (fun _ => rfl) (fun _ => rfl)) (tr_bi (b := .int) B (by decide) (trA_cons (tr_cmp (tr_bi (b := .abs) B (by decide) (trA_cons (tv 2 rfl rfl rfl rfl) trA_nil (fun _ => rfl)) rfl (fun _ => rfl) (fun _ => rfl)) (tr_bin tr_int tr_int) rfl) trA_nil (fun _ => rfl)) rfl (fun _ => rfl) (fun _ => rfl))) (trA_cons (tr_bin (tr_bin (tr_bin (tr_bi (b := .int) B (by decide) (trA_cons (tv 2 rfl rfl rfl rfl) trA_nil (fun _ => rfl)) rfl (fun _ => rfl) (fun _ => rfl)) tr_int) (tr_bin tr_int (tv 1 rfl rfl rfl rfl))) tr_int) (trA_cons tr_int trA_nil (fun _ => rfl)) (fun _ => rfl)) (fun _ => rfl)))) rfl (loc_of rfl) (fn_of rfl) (fun _ _ => rfl))
abbrev s__law_take : Stmt := top 13
def N__law_take : List Str := ["_law_box_here", "_law_below_so", "_law_drawn", "_law_once", "_law_far", "_law_twice"]
theorem sc__law_take : FnScope N__law_take ["_law_box_here", "_law_below_so"] (defScope s__law_take) := ⟨rfl, rfl, rfl, by decide +kernel, rfl, by decide +kernel, by decide +kernel⟩
theorem t__law_take (B : Bi mg) : TrS (ctxOf P w K mg base N__law_take s__law_take (k + 1)) (defBody s__law_take) c__law_take :=
  (trS_if (trT_cmp (tr_ix (tv 0 rfl rfl rfl rfl) tr_int (fun _ _ => rfl)) tr_int rfl)
      
      (trS_asg 2 (tr_bin (tr_bi (b := .int) B (by decide) (trA_cons (tr_ix (tv 0 rfl rfl rfl rfl) tr_int (fun _ _ => rfl)) trA_nil (fun _ => rfl)) rfl (fun _ => rfl) (fun _ => rfl)) (tv 1 rfl rfl rfl rfl)) 
      (trS_setix (tr_bin (tr_ix (tv 0 rfl rfl rfl rfl) tr_int (fun _ _ => rfl)) (tv 1 rfl rfl rfl rfl)) (tv 0 rfl rfl rfl rfl) tr_int 
      (trS_ret (tv 2 rfl rfl rfl rfl)) (fun _ => rfl) (fun _ => rfl) (fun _ => rfl) (fun _ _ => rfl)) rfl (loc_of rfl) (fn_of rfl) (fun _ _ => rfl))
      trS_nil
      
  (trS_setix (tr_bin (tr_ix (tv 0 rfl rfl rfl rfl) tr_int (fun _ _ => rfl)) tr_int) (tv 0 rfl rfl rfl rfl) tr_int 
  (trS_asg 3 (tr_bin (tr_bi (b := .int) B (by decide) (trA_cons (tr_bin (tr_bin (tr_ix (tv 0 rfl rfl rfl rfl) tr_int (fun _ _ => rfl)) (tr_bin tr_int (tr_ix (tv 0 rfl rfl rfl rfl) tr_int (fun _ _ => rfl)))) (tr_bin tr_int (tr_ix (tv 0 rfl rfl rfl rfl) tr_int (fun _ _ => rfl)))) trA_nil (fun _ => rfl)) rfl (fun _ => rfl) (fun _ => rfl)) tr_int) 
  (trS_asg 4 (tr_bin (tr_bin (tr_bi (b := .int) B (by decide) (trA_cons (tv 3 rfl rfl rfl rfl) trA_nil (fun _ => rfl)) rfl (fun _ => rfl) (fun _ => rfl)) tr_int) tr_int) 
  (trS_asg 5 (tr_bin (tr_bi (b := .int) B (by decide) (trA_cons (tr_bin (tr_bin (tr_bin (tv 3 rfl rfl rfl rfl) (tr_ix (tv 0 rfl rfl rfl rfl) tr_int (fun _ _ => rfl))) (tr_bin (tr_ix (tv 0 rfl rfl rfl rfl) tr_int (fun _ _ => rfl)) tr_int)) (tv 4 rfl rfl rfl rfl)) trA_nil (fun _ => rfl)) rfl (fun _ => rfl) (fun _ => rfl)) tr_int) 
  (trS_ret (tr_bin (tr_bi (b := .int) B (by decide) (trA_cons (tr_bin (tr_bin (tr_bi (b := .int) B (by decide) (trA_cons (tr_bin (tr_bin (tv 5 rfl rfl rfl rfl) tr_int) (tv 3 rfl rfl rfl rfl)) trA_nil (fun _ => rfl)) rfl (fun _ => rfl) (fun _ => rfl)) tr_int) tr_int) trA_nil (fun _ => rfl)) rfl (fun _ => rfl) (fun _ => rfl)) (tv 1 rfl rfl rfl rfl))) rfl (loc_of rfl) (fn_of rfl) (fun _ _ => rfl)) rfl (loc_of rfl) (fn_of rfl) (fun _ _ => rfl)) rfl (loc_of rfl) (fn_of rfl) (fun _ _ => rfl)) (fun _ => rfl) (fun _ => rfl) (fun _ => rfl) (fun _ _ => rfl)))
abbrev s__law_of : Stmt := top 15
def N__law_of : List Str := ["_law_box_here", "_law_some_here"]
theorem sc__law_of : FnScope N__law_of ["_law_box_here", "_law_some_here"] (defScope s__law_of) := ⟨rfl, rfl, rfl, by decide +kernel, rfl, by decide +kernel, by decide +kernel⟩
theorem t__law_of (B : Bi mg) : TrS (ctxOf P w K mg base N__law_of s__law_of (k + 1)) (defBody s__law_of) c__law_of :=
  (trS_ret (tr_ix (tv 1 rfl rfl rfl rfl) (tr_call (trA_cons (tv 0 rfl rfl rfl rfl) (trA_cons (tr_bi (b := .len) B (by decide) (trA_cons (tv 1 rfl rfl rfl rfl) trA_nil (fun _ => rfl)) rfl (fun _ => rfl) (fun _ => rfl)) trA_nil (fun _ => rfl)) (fun _ => rfl)) rfl rfl (fun _ => rfl) (fun _ => rfl)) (fun _ _ => rfl)))
abbrev s__law_graph : Stmt := top 18
def N__law_graph : List Str := ["_law_box_here", "_law_many_so", "_law_rows_so", "_law_here", "_law_low", "_law_k", "_law_far", "_law_date_so", "_law_near", "_law_many_here", "_law_some_here", "_law_turn"]
theorem sc__law_graph : FnScope N__law_graph ["_law_box_here", "_law_many_so"] (defScope s__law_graph) := ⟨rfl, rfl, rfl, by decide +kernel, rfl, by decide +kernel, by decide +kernel⟩
theorem t__law_graph (B : Bi mg) : TrS (ctxOf P w K mg base N__law_graph s__law_graph (k + 1)) (defBody s__law_graph) c__law_graph :=
  (trS_par3 2 3 4 (trA_cons (tr_own (tr_lst trA_nil)) (trA_cons tr_int (trA_cons tr_bl trA_nil (fun _ => rfl)) (fun _ => rfl)) (fun _ => rfl)) 
  (trS_for (trI_r1 B (tv 1 rfl rfl rfl rfl) rfl (fun _ => rfl)) (trG_n 5 rfl (loc_of rfl) (fn_of rfl))
      
      (trS_par2 3 4 (trA_cons (tr_bin (tv 3 rfl rfl rfl rfl) (tr_call (trA_cons (tv 0 rfl rfl rfl rfl) (trA_cons (tr_lst (trA_cons tr_int (trA_cons tr_int (trA_cons tr_int (trA_cons tr_int (trA_cons tr_int trA_nil (fun _ => rfl)) (fun _ => rfl)) (fun _ => rfl)) (fun _ => rfl)) (fun _ => rfl))) trA_nil (fun _ => rfl)) (fun _ => rfl)) rfl rfl (fun _ => rfl) (fun _ => rfl))) (trA_cons (tr_cmp (tr_call (trA_cons (tv 0 rfl rfl rfl rfl) (trA_cons tr_int trA_nil (fun _ => rfl)) (fun _ => rfl)) rfl rfl (fun _ => rfl) (fun _ => rfl)) (tr_bin tr_int (tr_bi (b := .int) B (by decide) (trA_cons (tv 4 rfl rfl rfl rfl) trA_nil (fun _ => rfl)) rfl (fun _ => rfl) (fun _ => rfl))) rfl) trA_nil (fun _ => rfl)) (fun _ => rfl)) 
      (trS_asg 6 (tr_call (trA_cons (tv 0 rfl rfl rfl rfl) (trA_cons (tr_lst (trA_cons tr_int (trA_cons tr_int (trA_cons tr_int (trA_cons (tr_call (trA_cons (tv 0 rfl rfl rfl rfl) (trA_cons tr_int trA_nil (fun _ => rfl)) (fun _ => rfl)) rfl rfl (fun _ => rfl) (fun _ => rfl)) (trA_cons (tr_neg tr_int) trA_nil (fun _ => rfl)) (fun _ => rfl)) (fun _ => rfl)) (fun _ => rfl)) (fun _ => rfl))) trA_nil (fun _ => rfl)) (fun _ => rfl)) rfl rfl (fun _ => rfl) (fun _ => rfl)) 
      (trS_asg 7 (tr_ife (trT_e (tv 4 rfl rfl rfl rfl) (fun _ _ => rfl)) (tr_call (trA_cons (tv 0 rfl rfl rfl rfl) (trA_cons tr_int trA_nil (fun _ => rfl)) (fun _ => rfl)) rfl rfl (fun _ => rfl) (fun _ => rfl)) (tr_bin (tv 3 rfl rfl rfl rfl) (tv 6 rfl rfl rfl rfl))) 
      (trS_asg 8 (tr_ife (trT_cmp (tr_call (trA_cons (tv 0 rfl rfl rfl rfl) (trA_cons tr_int trA_nil (fun _ => rfl)) (fun _ => rfl)) rfl rfl (fun _ => rfl) (fun _ => rfl)) tr_int rfl) (tr_lrange1 B (tv 5 rfl rfl rfl rfl) rfl rfl (fun _ => rfl)) (tr_lrange2 B (tr_bi (b := .max) B (by decide) (trA_cons tr_int (trA_cons (tr_bin (tv 5 rfl rfl rfl rfl) tr_int) trA_nil (fun _ => rfl)) (fun _ => rfl)) rfl (fun _ => rfl) (fun _ => rfl)) (tv 5 rfl rfl rfl rfl) rfl rfl (fun _ => rfl) (fun _ => rfl) (fun _ => rfl))) 
      (trS_asg 9 (tr_bin (tr_call (trA_cons (tv 0 rfl rfl rfl rfl) (trA_cons (tr_lst (trA_cons tr_int (trA_cons tr_int (trA_cons tr_int (trA_cons tr_int (trA_cons tr_int (trA_cons tr_int trA_nil (fun _ => rfl)) (fun _ => rfl)) (fun _ => rfl)) (fun _ => rfl)) (fun _ => rfl)) (fun _ => rfl))) trA_nil (fun _ => rfl)) (fun _ => rfl)) rfl rfl (fun _ => rfl) (fun _ => rfl)) (tr_bi (b := .int) B (by decide) (trA_cons (tr_cmp (tv 8 rfl rfl rfl rfl) (tr_lst trA_nil) rfl) trA_nil (fun _ => rfl)) rfl (fun _ => rfl) (fun _ => rfl))) 
      (trS_asg 10 (tr_bin (tr_bin (tr_lst (trA_cons (tr_bin (tv 5 rfl rfl rfl rfl) tr_int) trA_nil (fun _ => rfl))) (tr_bi (b := .int) B (by decide) (trA_cons (tr_and (tv 4 rfl rfl rfl rfl) (tr_one (tr_cmp (tv 5 rfl rfl rfl rfl) tr_int rfl))) trA_nil (fun _ => rfl)) rfl (fun _ => rfl) (fun _ => rfl))) (tr_lc (own := [("_law_turn", 11)]) (trI_r1 B (tv 9 rfl rfl rfl rfl) rfl (fun _ => rfl)) (trG_n 11 rfl (loc_of rfl) (fn_of rfl)) trTs_nil (tr_call (trA_cons (tv 0 rfl rfl rfl rfl) (trA_cons (tv 8 rfl rfl rfl rfl) trA_nil (fun _ => rfl)) (fun _ => rfl)) rfl rfl (fun _ => rfl) (fun _ => rfl)) (by decide) (by kernel_rfl) (fun _ _ => rfl))) 
      (trS_ex (tr_append (tv 2 rfl rfl rfl rfl) (tr_tup (trA_cons (tr_bi (b := .max) B (by decide) (trA_cons tr_int (trA_cons (tv 7 rfl rfl rfl rfl) trA_nil (fun _ => rfl)) (fun _ => rfl)) rfl (fun _ => rfl) (fun _ => rfl)) (trA_cons (tr_bi (b := .tuple) B (by decide) (trA_cons (tr_sset B (tv 10 rfl rfl rfl rfl) rfl rfl (fun _ => rfl)) trA_nil (fun _ => rfl)) rfl (fun _ => rfl) (fun _ => rfl)) trA_nil (fun _ => rfl)) (fun _ => rfl))) (fun _ => rfl) rfl (fun _ => rfl) (fun _ => rfl)) trS_nil (fun _ => rfl)) rfl (loc_of rfl) (fn_of rfl) (fun _ _ => rfl)) rfl (loc_of rfl) (fn_of rfl) (fun _ _ => rfl)) rfl (loc_of rfl) (fn_of rfl) (fun _ _ => rfl)) rfl (loc_of rfl) (fn_of rfl) (fun _ _ => rfl)) rfl (loc_of rfl) (fn_of rfl) (fun _ _ => rfl)) (by decide) rfl rfl rfl rfl (by rintro ⟨_, _, _, _, _, _, _, _, _⟩ h; cases h; rfl) (fun _ => rfl))
      
  (trS_ret (tr_bi (b := .tuple) B (by decide) (trA_cons (tv 2 rfl rfl rfl rfl) trA_nil (fun _ => rfl)) rfl (fun _ => rfl) (fun _ => rfl))) (fun _ _ => rfl)) (by decide) (by decide) (by decide) rfl rfl rfl rfl rfl rfl (by rintro ⟨_, _, _, _, _, _, _, _, _⟩ h; cases h; rfl) (fun _ => rfl))
abbrev s__law_lists : Stmt := top 16
def N__law_lists : List Str := ["_law_matter", "_law_bit"]
theorem sc__law_lists : FnScope N__law_lists ["_law_matter"] (defScope s__law_lists) := ⟨rfl, rfl, rfl, by decide +kernel, rfl, by decide +kernel, by decide +kernel⟩
theorem t__law_lists (B : Bi mg) : TrS (ctxOf P w K mg base N__law_lists s__law_lists (k + 1)) (defBody s__law_lists) c__law_lists :=
  (trS_ret (tr_ife (trT_e (tr_isi2 (t := "list") (u := "tuple") B (tv 0 rfl rfl rfl rfl) (by decide) (by decide) rfl rfl rfl (fun _ => rfl)) (fun _ _ => rfl)) (tr_lc (own := [("_law_bit", 1)]) (trI_e (tv 0 rfl rfl rfl rfl)) (trG_n 1 rfl (loc_of rfl) (fn_of rfl)) trTs_nil (tr_call (trA_cons (tv 1 rfl rfl rfl rfl) trA_nil (fun _ => rfl)) rfl rfl (fun _ => rfl) (fun _ => rfl)) (by decide) (by kernel_rfl) (fun _ _ => rfl)) (tv 0 rfl rfl rfl rfl)))
abbrev s__law_refill : Stmt := top 23
def N__law_refill : List Str := ["_law_shelf", "_law_matter"]
theorem sc__law_refill : FnScope N__law_refill ["_law_shelf", "_law_matter"] (defScope s__law_refill) := ⟨rfl, rfl, rfl, by decide +kernel, rfl, by decide +kernel, by decide +kernel⟩
theorem t__law_refill (B : Bi mg) : TrS (ctxOf P w K mg base N__law_refill s__law_refill (k + 1)) (defBody s__law_refill) c__law_refill :=
  (trS_while (trT_cmp (tv 0 rfl rfl rfl rfl) (tr_lst trA_nil) rfl)
      
      (trS_ex (tr_pop (tv 0 rfl rfl rfl rfl) (fun _ => rfl) rfl) trS_nil (fun _ => rfl))
      
  (trS_ex (tr_extend (tv 0 rfl rfl rfl rfl) (tr_call (trA_cons (tv 1 rfl rfl rfl rfl) trA_nil (fun _ => rfl)) rfl rfl (fun _ => rfl) (fun _ => rfl)) (fun _ => rfl) rfl (fun _ => rfl) (fun _ => rfl)) 
  (trS_ret (tv 0 rfl rfl rfl rfl)) (fun _ => rfl)))
abbrev s__law_ways : Stmt := top 21
def N__law_ways : List Str := ["_law_graph_so", "_law_one_so", "_law_found_so", "_law_k", "_law_own"]
theorem sc__law_ways : FnScope N__law_ways ["_law_graph_so", "_law_one_so"] (defScope s__law_ways) := ⟨rfl, rfl, rfl, by decide +kernel, rfl, by decide +kernel, by decide +kernel⟩
theorem t__law_ways (B : Bi mg) : TrS (ctxOf P w K mg base N__law_ways s__law_ways (k + 1)) (defBody s__law_ways) c__law_ways :=
  (trS_asg 2 (tr_own (tr_dct (ks := []) (trP_cons (tv 1 rfl rfl rfl rfl) tr_int trP_nil) rfl (by decide))) 
  (trS_for (trI_rd B (tv 1 rfl rfl rfl rfl) (tr_neg tr_int) rfl rfl (fun _ => rfl) (fun _ => rfl) (fun _ => rfl) (fun _ => rfl)) (trG_n 3 rfl (loc_of rfl) (fn_of rfl))
      
      (trS_if (trT_cmp (tv 3 rfl rfl rfl rfl) (tv 2 rfl rfl rfl rfl) rfl)
          
          (trS_for (trI_e (tr_ix (tr_ix (tv 0 rfl rfl rfl rfl) (tv 3 rfl rfl rfl rfl) (fun _ _ => rfl)) tr_int (fun _ _ => rfl))) (trG_n 4 rfl (loc_of rfl) (fn_of rfl))
              
              (trS_setix (tr_bi (b := .max) B (by decide) (trA_cons (tr_get2 (tv 2 rfl rfl rfl rfl) (tv 4 rfl rfl rfl rfl) tr_int (fun _ => ⟨rfl, rfl, rfl, rfl⟩)) (trA_cons (tr_bin (tr_ix (tv 2 rfl rfl rfl rfl) (tv 3 rfl rfl rfl rfl) (fun _ _ => rfl)) tr_int) trA_nil (fun _ => rfl)) (fun _ => rfl)) rfl (fun _ => rfl) (fun _ => rfl)) (tv 2 rfl rfl rfl rfl) (tv 4 rfl rfl rfl rfl) trS_nil (fun _ => rfl) (fun _ => rfl) (fun _ => rfl) (fun _ _ => rfl))
              trS_nil (fun _ _ => rfl))
          trS_nil
          trS_nil)
      
  (trS_ret (tv 2 rfl rfl rfl rfl)) (fun _ _ => rfl)) rfl (loc_of rfl) (fn_of rfl) (fun _ _ => rfl))
abbrev s__law_had : Stmt := top 20
def N__law_had : List Str := ["_law_graph_so", "_law_some_here", "_law_found_so", "_law_k", "_law_own"]
theorem sc__law_had : FnScope N__law_had ["_law_graph_so", "_law_some_here"] (defScope s__law_had) := ⟨rfl, rfl, rfl, by decide +kernel, rfl, by decide +kernel, by decide +kernel⟩
theorem t__law_had (B : Bi mg) : TrS (ctxOf P w K mg base N__law_had s__law_had (k + 1)) (defBody s__law_had) c__law_had :=
  (trS_asg 2 (tr_sset B (tv 1 rfl rfl rfl rfl) rfl rfl (fun _ => rfl)) 
  (trS_for (trI_rd B (tr_bin (tr_bi (b := .len) B (by decide) (trA_cons (tv 0 rfl rfl rfl rfl) trA_nil (fun _ => rfl)) rfl (fun _ => rfl) (fun _ => rfl)) tr_int) (tr_neg tr_int) rfl rfl (fun _ => rfl) (fun _ => rfl) (fun _ => rfl) (fun _ => rfl)) (trG_n 3 rfl (loc_of rfl) (fn_of rfl))
      
      (trS_if (trT_cmp (tv 3 rfl rfl rfl rfl) (tv 2 rfl rfl rfl rfl) rfl)
          
          (trS_asg 2 (tr_bin (tv 2 rfl rfl rfl rfl) (tr_lc (own := [("_law_own", 4)]) (trI_e (tr_ix (tr_ix (tv 0 rfl rfl rfl rfl) (tv 3 rfl rfl rfl rfl) (fun _ _ => rfl)) tr_int (fun _ _ => rfl))) (trG_n 4 rfl (loc_of rfl) (fn_of rfl)) (trTs_one (trT_cmp (tv 4 rfl rfl rfl rfl) (tv 2 rfl rfl rfl rfl) rfl)) (tv 4 rfl rfl rfl rfl) (by decide) (by kernel_rfl) (fun _ _ => rfl))) trS_nil rfl (loc_of rfl) (fn_of rfl) (fun _ _ => rfl))
          trS_nil
          trS_nil)
      
  (trS_ret (tr_bi (b := .sorted) B (by decide) (trA_cons (tv 2 rfl rfl rfl rfl) trA_nil (fun _ => rfl)) rfl (fun _ => rfl) (fun _ => rfl))) (fun _ _ => rfl)) rfl (loc_of rfl) (fn_of rfl) (fun _ _ => rfl))
abbrev s_tupled : Stmt := top 4
def N_tupled : List Str := ["thing", "part"]
theorem sc_tupled : FnScope N_tupled ["thing"] (defScope s_tupled) := ⟨rfl, rfl, rfl, by decide +kernel, rfl, by decide +kernel, by decide +kernel⟩
theorem t_tupled (B : Bi mg) : TrS (ctxOf P w K mg base N_tupled s_tupled (k + 1)) (defBody s_tupled) c_tupled :=
  (trS_ret (tr_ife (trT_e (tr_isi2 (t := "list") (u := "tuple") B (tv 0 rfl rfl rfl rfl) (by decide) (by decide) rfl rfl rfl (fun _ => rfl)) (fun _ _ => rfl)) (tr_bi (b := .tuple) B (by decide) (trA_cons (tr_lc (own := [("part", 1)]) (trI_e (tv 0 rfl rfl rfl rfl)) (trG_n 1 rfl (loc_of rfl) (fn_of rfl)) trTs_nil (tr_call (trA_cons (tv 1 rfl rfl rfl rfl) trA_nil (fun _ => rfl)) rfl rfl (fun _ => rfl) (fun _ => rfl)) (by decide) (by kernel_rfl) (fun _ _ => rfl)) trA_nil (fun _ => rfl)) rfl (fun _ => rfl) (fun _ => rfl)) (tv 0 rfl rfl rfl rfl)))
abbrev s_Graph_init : Stmt := inClass (top 6) 1
def N_Graph_init : List Str := ["self", "graph", "row"]
theorem sc_Graph_init : FnScope N_Graph_init ["self", "graph"] (defScope s_Graph_init) := ⟨rfl, rfl, rfl, by decide +kernel, rfl, by decide +kernel, by decide +kernel⟩
theorem t_Graph_init (B : Bi mg) : TrS (ctxOf P w K mg base N_Graph_init s_Graph_init (k + 1)) (defBody s_Graph_init) c_Graph_init :=
  (trS_setfld (tr_lc (own := [("row", 2)]) (trI_e (tv 1 rfl rfl rfl rfl)) (trG_n 2 rfl (loc_of rfl) (fn_of rfl)) trTs_nil (tr_ix (tv 2 rfl rfl rfl rfl) tr_int (fun _ _ => rfl)) (by decide) (by kernel_rfl) (fun _ _ => rfl)) (tv 0 rfl rfl rfl rfl) 
  (trS_setfld (tr_lc (own := [("row", 2)]) (trI_e (tv 1 rfl rfl rfl rfl)) (trG_n 2 rfl (loc_of rfl) (fn_of rfl)) trTs_nil (tr_call (trA_cons (tr_ix (tv 2 rfl rfl rfl rfl) tr_int (fun _ _ => rfl)) trA_nil (fun _ => rfl)) rfl rfl (fun _ => rfl) (fun _ => rfl)) (by decide) (by kernel_rfl) (fun _ _ => rfl)) (tv 0 rfl rfl rfl rfl) 
  (trS_setfld (tr_own tr_dct0) (tv 0 rfl rfl rfl rfl) trS_nil (fun _ => rfl) (.inl rfl)) (fun _ => rfl) (.inl rfl)) (fun _ => rfl) (.inl rfl))
abbrev s_Graph_check : Stmt := inClass (top 6) 8
def N_Graph_check : List Str := ["self", "commits", "commit"]
theorem sc_Graph_check : FnScope N_Graph_check ["self", "commits"] (defScope s_Graph_check) := ⟨rfl, rfl, rfl, by decide +kernel, rfl, by decide +kernel, by decide +kernel⟩
theorem t_Graph_check (B : Bi mg) : TrS (ctxOf P w K mg base N_Graph_check s_Graph_check (k + 1)) (defBody s_Graph_check) c_Graph_check :=
  (trS_for (trI_e (tv 1 rfl rfl rfl rfl)) (trG_n 2 rfl (loc_of rfl) (fn_of rfl))
      
      (trS_if (trT_not (trT_cmp2 tr_int (tv 2 rfl rfl rfl rfl) (tr_bi (b := .len) B (by decide) (trA_cons (tr_fld (tv 0 rfl rfl rfl rfl) (fun _ => rfl) (.inl rfl)) trA_nil (fun _ => rfl)) rfl (fun _ => rfl) (fun _ => rfl)) rfl))
          
          trS_bad
          trS_nil
          trS_nil)
      trS_nil (fun _ _ => rfl))
abbrev s_graph_at : Stmt := top 7
def N_graph_at : List Str := ["graph", "groups", "found", "commits"]
theorem sc_graph_at : FnScope N_graph_at ((["graph"] : List Str) ++ (["groups"] : List Str)) (defScope s_graph_at) := ⟨rfl, rfl, rfl, by decide +kernel, rfl, by decide +kernel, by decide +kernel⟩
theorem t_graph_at (B : Bi mg) : TrS (ctxOf P w K mg base N_graph_at s_graph_at (k + 1)) (defBody s_graph_at) c_graph_at :=
  (trS_asg 2 (tr_make (trA_cons (tv 0 rfl rfl rfl rfl) trA_nil (fun _ => rfl)) rfl rfl (fun _ => rfl) (fun _ => rfl) (Nat.succ_pos _)) 
  (trS_for (trI_e (tv 1 rfl rfl rfl rfl)) (trG_n 3 rfl (loc_of rfl) (fn_of rfl))
      
      (trS_ex (tr_meth (tv 2 rfl rfl rfl rfl) (trA_cons (tv 3 rfl rfl rfl rfl) trA_nil (fun _ => rfl)) (fun _ => rfl) (fun _ => rfl) (fun _ => rfl)) trS_nil (fun _ => rfl))
      
  (trS_ret (tv 2 rfl rfl rfl rfl)) (fun _ _ => rfl)) rfl (loc_of rfl) (fn_of rfl) (fun _ _ => rfl))
abbrev s_Graph_had : Stmt := inClass (top 6) 11
def N_Graph_had : List Str := ["self", "commits", "found", "commit", "here", "parent"]
theorem sc_Graph_had : FnScope N_Graph_had ["self", "commits"] (defScope s_Graph_had) := ⟨rfl, rfl, rfl, by decide +kernel, rfl, by decide +kernel, by decide +kernel⟩
theorem t_Graph_had (B : Bi mg) : TrS (ctxOf P w K mg base N_Graph_had s_Graph_had (k + 1)) (defBody s_Graph_had) c_Graph_had :=
  (trS_asgDc 2 (ow := true) (own := [("commit", 3)]) (trI_e (tv 1 rfl rfl rfl rfl)) (trG_n 3 rfl (loc_of rfl) (fn_of rfl)) trTs_nil (tv 3 rfl rfl rfl rfl) tr_bl (by decide) (by kernel_rfl) (fun _ _ => rfl) 
  (trS_for (trI_rd B (tr_bin (tr_bi (b := .len) B (by decide) (trA_cons (tr_fld (tv 0 rfl rfl rfl rfl) (fun _ => rfl) (.inl rfl)) trA_nil (fun _ => rfl)) rfl (fun _ => rfl) (fun _ => rfl)) tr_int) (tr_neg tr_int) rfl rfl (fun _ => rfl) (fun _ => rfl) (fun _ => rfl) (fun _ => rfl)) (trG_n 4 rfl (loc_of rfl) (fn_of rfl))
      
      (trS_for (trI_e (tr_ife (trT_cmp (tv 4 rfl rfl rfl rfl) (tv 2 rfl rfl rfl rfl) rfl) (tr_ix (tr_fld (tv 0 rfl rfl rfl rfl) (fun _ => rfl) (.inl rfl)) (tv 4 rfl rfl rfl rfl) (fun _ _ => rfl)) (tr_tup trA_nil))) (trG_n 5 rfl (loc_of rfl) (fn_of rfl))
          
          (trS_setix tr_bl (tv 2 rfl rfl rfl rfl) (tv 5 rfl rfl rfl rfl) trS_nil (fun _ => rfl) (fun _ => rfl) (fun _ => rfl) (fun _ _ => rfl))
          trS_nil (fun _ _ => rfl))
      
  (trS_ret (tr_bi (b := .sorted) B (by decide) (trA_cons (tv 2 rfl rfl rfl rfl) trA_nil (fun _ => rfl)) rfl (fun _ => rfl) (fun _ => rfl))) (fun _ _ => rfl)) rfl rfl rfl rfl (by kernel_rfl))
abbrev s_had : Stmt := top 8
def N_had : List Str := ["graph", "commit"]
theorem sc_had : FnScope N_had ["graph", "commit"] (defScope s_had) := ⟨rfl, rfl, rfl, by decide +kernel, rfl, by decide +kernel, by decide +kernel⟩
theorem t_had (B : Bi mg) : TrS (ctxOf P w K mg base N_had s_had (k + 1)) (defBody s_had) c_had :=
  (trS_ret (tr_meth (tr_call (trA_cons (tv 0 rfl rfl rfl rfl) (trA_cons (tr_lst (trA_cons (tv 1 rfl rfl rfl rfl) trA_nil (fun _ => rfl))) trA_nil (fun _ => rfl)) (fun _ => rfl)) rfl rfl (fun _ => rfl) (fun _ => rfl)) (trA_cons (tr_lst (trA_cons (tv 1 rfl rfl rfl rfl) trA_nil (fun _ => rfl))) trA_nil (fun _ => rfl)) (fun _ => rfl) (fun _ => rfl) (fun _ => rfl)))
abbrev s__law_same : Stmt := top 17
def N__law_same : List Str := ["_law_got", "_law_due", "_law_mine", "_law_its", "_law_own"]
theorem sc__law_same : FnScope N__law_same ["_law_got", "_law_due"] (defScope s__law_same) := ⟨rfl, rfl, rfl, by decide +kernel, rfl, by decide +kernel, by decide +kernel⟩
theorem t__law_same (B : Bi mg) : TrS (ctxOf P w K mg base N__law_same s__law_same (k + 1)) (defBody s__law_same) c__law_same :=
  (trS_if (trT_e (tr_isi2 (t := "list") (u := "tuple") B (tv 1 rfl rfl rfl rfl) (by decide) (by decide) rfl rfl rfl (fun _ => rfl)) (fun _ _ => rfl))
      
      (trS_if (TrW.tt (trW_or (trT_cmp (tr_isi1 (t := "list") B (tv 0 rfl rfl rfl rfl) (by decide) rfl rfl (fun _ => rfl)) (tr_isi1 (t := "list") B (tv 1 rfl rfl rfl rfl) (by decide) rfl rfl (fun _ => rfl)) rfl) (trW_or1 (trT_cmp (tr_isi1 (t := "tuple") B (tv 0 rfl rfl rfl rfl) (by decide) rfl rfl (fun _ => rfl)) (tr_isi1 (t := "tuple") B (tv 1 rfl rfl rfl rfl) (by decide) rfl rfl (fun _ => rfl)) rfl))))
          
          (trS_ret tr_bl)
          trS_nil
          
      (trS_ret (tr_and (tr_cmp (tr_bi (b := .len) B (by decide) (trA_cons (tv 0 rfl rfl rfl rfl) trA_nil (fun _ => rfl)) rfl (fun _ => rfl) (fun _ => rfl)) (tr_bi (b := .len) B (by decide) (trA_cons (tv 1 rfl rfl rfl rfl) trA_nil (fun _ => rfl)) rfl (fun _ => rfl) (fun _ => rfl)) rfl) (tr_one (tr_bi (b := .all) B (by decide) (trA_cons (tr_lc (own := [("_law_mine", 2), ("_law_its", 3)]) (trI_zp B (tv 0 rfl rfl rfl rfl) (tv 1 rfl rfl rfl rfl) rfl (fun _ => rfl) (fun _ => rfl) (fun _ => rfl)) (trG_t 2 3 rfl (loc_of rfl) (fn_of rfl) rfl (loc_of rfl) (fn_of rfl)) trTs_nil (tr_call (trA_cons (tv 2 rfl rfl rfl rfl) (trA_cons (tv 3 rfl rfl rfl rfl) trA_nil (fun _ => rfl)) (fun _ => rfl)) rfl rfl (fun _ => rfl) (fun _ => rfl)) (by decide) (by kernel_rfl) (fun _ _ => rfl)) trA_nil (fun _ => rfl)) rfl (fun _ => rfl) (fun _ => rfl))))))
      trS_nil
      
  (trS_if (trT_e (tr_isi1 (t := "dict") B (tv 1 rfl rfl rfl rfl) (by decide) rfl rfl (fun _ => rfl)) (fun _ _ => rfl))
      
      (trS_if (TrW.tt (trW_or (trT_not (trT_e (tr_isi1 (t := "dict") B (tv 0 rfl rfl rfl rfl) (by decide) rfl rfl (fun _ => rfl)) (fun _ _ => rfl))) (trW_or (trT_cmp (tr_bi (b := .len) B (by decide) (trA_cons (tv 0 rfl rfl rfl rfl) trA_nil (fun _ => rfl)) rfl (fun _ => rfl) (fun _ => rfl)) (tr_bi (b := .len) B (by decide) (trA_cons (tv 1 rfl rfl rfl rfl) trA_nil (fun _ => rfl)) rfl (fun _ => rfl) (fun _ => rfl)) rfl) (trW_or1 (trT_cmp (tr_lc (own := [("_law_own", 4)]) (trI_e (tv 1 rfl rfl rfl rfl)) (trG_n 4 rfl (loc_of rfl) (fn_of rfl)) (trTs_one (trT_cmp (tv 4 rfl rfl rfl rfl) (tv 0 rfl rfl rfl rfl) rfl)) (tv 4 rfl rfl rfl rfl) (by decide) (by kernel_rfl) (fun _ _ => rfl)) (tr_lst trA_nil) rfl)))))
          
          (trS_ret tr_bl)
          trS_nil
          
      (trS_ret (tr_bi (b := .all) B (by decide) (trA_cons (tr_lc (own := [("_law_own", 4)]) (trI_e (tv 1 rfl rfl rfl rfl)) (trG_n 4 rfl (loc_of rfl) (fn_of rfl)) trTs_nil (tr_call (trA_cons (tr_ix (tv 0 rfl rfl rfl rfl) (tv 4 rfl rfl rfl rfl) (fun _ _ => rfl)) (trA_cons (tr_ix (tv 1 rfl rfl rfl rfl) (tv 4 rfl rfl rfl rfl) (fun _ _ => rfl)) trA_nil (fun _ => rfl)) (fun _ => rfl)) rfl rfl (fun _ => rfl) (fun _ => rfl)) (by decide) (by kernel_rfl) (fun _ _ => rfl)) trA_nil (fun _ => rfl)) rfl (fun _ => rfl) (fun _ => rfl))))
      trS_nil
      
  (trS_if (TrW.tt (trW_or (trT_cmp (tv 1 rfl rfl rfl rfl) tr_non rfl) (trW_or1 (trT_e (tr_isi2 (t := "bool") (u := "str") B (tv 1 rfl rfl rfl rfl) (by decide) (by decide) rfl rfl rfl (fun _ => rfl)) (fun _ _ => rfl)))))
      
      (trS_ret (tr_and (tr_cmp (tv 0 rfl rfl rfl rfl) (tv 1 rfl rfl rfl rfl) rfl) (tr_and (tr_cmp (tr_isi1 (t := "bool") B (tv 0 rfl rfl rfl rfl) (by decide) rfl rfl (fun _ => rfl)) (tr_isi1 (t := "bool") B (tv 1 rfl rfl rfl rfl) (by decide) rfl rfl (fun _ => rfl)) rfl) (tr_one (tr_cmp (tr_cmp (tv 0 rfl rfl rfl rfl) tr_non rfl) (tr_cmp (tv 1 rfl rfl rfl rfl) tr_non rfl) rfl)))))
      trS_nil
      
  (trS_ret (tr_and (tr_isi1 (t := "int") B (tv 0 rfl rfl rfl rfl) (by decide) rfl rfl (fun _ => rfl)) (tr_and (tr_not (tr_isi1 (t := "bool") B (tv 0 rfl rfl rfl rfl) (by decide) rfl rfl (fun _ => rfl))) (tr_one (tr_cmp (tv 0 rfl rfl rfl rfl) (tv 1 rfl rfl rfl rfl) rfl))))))))
theorem t_graph_atO (B : Bi mg) : TrS (ctxOf P w K mg base N_graph_at s_graph_at (k + 1)) (defBody s_graph_at) c_graph_atO :=
  (trS_asg 2 (tr_make (trA_cons (tv 0 rfl rfl rfl rfl) trA_nil (fun _ => rfl)) rfl rfl (fun _ => rfl) (fun _ => rfl) (Nat.succ_pos _)) 
  (trS_for (trI_e (tv 1 rfl rfl rfl rfl)) (trG_n 3 rfl (loc_of rfl) (fn_of rfl))
      
      (trS_ex (tr_meth (tv 2 rfl rfl rfl rfl) (trA_cons (tv 3 rfl rfl rfl rfl) trA_nil (fun _ => rfl)) (fun _ => rfl) (fun _ => rfl) (fun _ => rfl)) trS_nil (fun _ => rfl))
      
  (trS_ret (tv 2 rfl rfl rfl rfl)) (fun _ _ => rfl)) rfl (loc_of rfl) (fn_of rfl) (fun _ _ => rfl))
abbrev s_Graph_ways : Stmt := inClass (top 6) 10
def N_Graph_ways : List Str := ["self", "commit", "found", "here", "parent"]
theorem sc_Graph_ways : FnScope N_Graph_ways ["self", "commit"] (defScope s_Graph_ways) := ⟨rfl, rfl, rfl, by decide +kernel, rfl, by decide +kernel, by decide +kernel⟩
theorem t_Graph_ways (B : Bi mg) : TrS (ctxOf P w K mg base N_Graph_ways s_Graph_ways (k + 1)) (defBody s_Graph_ways) c_Graph_ways :=
  (trS_asg 2 (tr_own (tr_dct (ks := []) (trP_cons (tv 1 rfl rfl rfl rfl) tr_int trP_nil) rfl (by decide))) 
  (trS_for (trI_rd B (tv 1 rfl rfl rfl rfl) (tr_neg tr_int) rfl rfl (fun _ => rfl) (fun _ => rfl) (fun _ => rfl) (fun _ => rfl)) (trG_n 3 rfl (loc_of rfl) (fn_of rfl))
      
      (trS_for (trI_e (tr_ife (trT_cmp (tv 3 rfl rfl rfl rfl) (tv 2 rfl rfl rfl rfl) rfl) (tr_ix (tr_fld (tv 0 rfl rfl rfl rfl) (fun _ => rfl) (.inl rfl)) (tv 3 rfl rfl rfl rfl) (fun _ _ => rfl)) (tr_tup trA_nil))) (trG_n 4 rfl (loc_of rfl) (fn_of rfl))
          
          (trS_setix (tr_bi (b := .max) B (by decide) (trA_cons (tr_get2 (tv 2 rfl rfl rfl rfl) (tv 4 rfl rfl rfl rfl) tr_int (fun _ => ⟨rfl, rfl, rfl, rfl⟩)) (trA_cons (tr_bin (tr_ix (tv 2 rfl rfl rfl rfl) (tv 3 rfl rfl rfl rfl) (fun _ _ => rfl)) tr_int) trA_nil (fun _ => rfl)) (fun _ => rfl)) rfl (fun _ => rfl) (fun _ => rfl)) (tv 2 rfl rfl rfl rfl) (tv 4 rfl rfl rfl rfl) trS_nil (fun _ => rfl) (fun _ => rfl) (fun _ => rfl) (fun _ _ => rfl))
          trS_nil (fun _ _ => rfl))
      
  (trS_ret (tv 2 rfl rfl rfl rfl)) (fun _ _ => rfl)) rfl (loc_of rfl) (fn_of rfl) (fun _ _ => rfl))
abbrev s_Graph_way : Stmt := inClass (top 6) 9
def N_Graph_way : List Str := ["self", "one", "other"]
theorem sc_Graph_way : FnScope N_Graph_way ["self", "one", "other"] (defScope s_Graph_way) := ⟨rfl, rfl, rfl, by decide +kernel, rfl, by decide +kernel, by decide +kernel⟩
theorem t_Graph_way (B : Bi mg) : TrS (ctxOf P w K mg base N_Graph_way s_Graph_way (k + 1)) (defBody s_Graph_way) c_Graph_way :=
  (trS_if (trT_cmp (tv 1 rfl rfl rfl rfl) (tr_fld (tv 0 rfl rfl rfl rfl) (fun _ => rfl) (.inl rfl)) rfl)
      
      (trS_setix (tr_meth (tv 0 rfl rfl rfl rfl) (trA_cons (tv 1 rfl rfl rfl rfl) trA_nil (fun _ => rfl)) (fun _ => rfl) (fun _ => rfl) (fun _ => rfl)) (tr_fld (tv 0 rfl rfl rfl rfl) (fun _ => rfl) (.inl rfl)) (tv 1 rfl rfl rfl rfl) trS_nil (fun _ => rfl) (fun _ => rfl) (fun _ => rfl) (fun _ _ => rfl))
      trS_nil
      
  (trS_ret (tr_get1 (tr_ix (tr_fld (tv 0 rfl rfl rfl rfl) (fun _ => rfl) (.inl rfl)) (tv 1 rfl rfl rfl rfl) (fun _ _ => rfl)) (tv 2 rfl rfl rfl rfl) (fun _ => ⟨rfl, rfl, rfl, rfl⟩))))
abbrev s_way : Stmt := top 9
def N_way : List Str := ["graph", "one", "other"]
theorem sc_way : FnScope N_way ["graph", "one", "other"] (defScope s_way) := ⟨rfl, rfl, rfl, by decide +kernel, rfl, by decide +kernel, by decide +kernel⟩
theorem t_way (B : Bi mg) : TrS (ctxOf P w K mg base N_way s_way (k + 1)) (defBody s_way) c_way :=
  (trS_ret (tr_meth (tr_call (trA_cons (tv 0 rfl rfl rfl rfl) (trA_cons (tr_lst (trA_cons (tv 1 rfl rfl rfl rfl) (trA_cons (tv 2 rfl rfl rfl rfl) trA_nil (fun _ => rfl)) (fun _ => rfl))) trA_nil (fun _ => rfl)) (fun _ => rfl)) rfl rfl (fun _ => rfl) (fun _ => rfl)) (trA_cons (tv 1 rfl rfl rfl rfl) (trA_cons (tv 2 rfl rfl rfl rfl) trA_nil (fun _ => rfl)) (fun _ => rfl)) (fun _ => rfl) (fun _ => rfl) (fun _ => rfl)))
abbrev s__law_some : Stmt := top 19
def N__law_some : List Str := ["_law_box_here", "_law_graph_so", "_law_most", "_law_turn"]
theorem sc__law_some : FnScope N__law_some ["_law_box_here", "_law_graph_so", "_law_most"] (defScope s__law_some) := ⟨rfl, rfl, rfl, by decide +kernel, rfl, by decide +kernel, by decide +kernel⟩
theorem t__law_some (B : Bi mg) : TrS (ctxOf P w K mg base N__law_some s__law_some (k + 1)) (defBody s__law_some) c__law_some :=
  (trS_ret (tr_bi (b := .tuple) B (by decide) (trA_cons (tr_sset B (tr_lc (own := [("_law_turn", 3)]) (trI_r1 B (tr_call (trA_cons (tv 0 rfl rfl rfl rfl) (trA_cons (tr_bin (tv 2 rfl rfl rfl rfl) tr_int) trA_nil (fun _ => rfl)) (fun _ => rfl)) rfl rfl (fun _ => rfl) (fun _ => rfl)) rfl (fun _ => rfl)) (trG_n 3 rfl (loc_of rfl) (fn_of rfl)) trTs_nil (tr_call (trA_cons (tv 0 rfl rfl rfl rfl) (trA_cons (tr_bi (b := .len) B (by decide) (trA_cons (tv 1 rfl rfl rfl rfl) trA_nil (fun _ => rfl)) rfl (fun _ => rfl) (fun _ => rfl)) trA_nil (fun _ => rfl)) (fun _ => rfl)) rfl rfl (fun _ => rfl) (fun _ => rfl)) (by decide) (by kernel_rfl) (fun _ _ => rfl)) rfl rfl (fun _ => rfl)) trA_nil (fun _ => rfl)) rfl (fun _ => rfl) (fun _ => rfl)))
abbrev s__law_truth : Stmt := top 22
def N__law_truth : List Str := ["_law_graph_so", "_law_wants_so", "_law_nots_so", "_law_known", "_law_own"]
theorem sc__law_truth : FnScope N__law_truth ["_law_graph_so", "_law_wants_so", "_law_nots_so"] (defScope s__law_truth) := ⟨rfl, rfl, rfl, by decide +kernel, rfl, by decide +kernel, by decide +kernel⟩
theorem t__law_truth (B : Bi mg) : TrS (ctxOf P w K mg base N__law_truth s__law_truth (k + 1)) (defBody s__law_truth) c__law_truth :=
  (trS_asg 3 (tr_call (trA_cons (tv 0 rfl rfl rfl rfl) (trA_cons (tv 2 rfl rfl rfl rfl) trA_nil (fun _ => rfl)) (fun _ => rfl)) rfl rfl (fun _ => rfl) (fun _ => rfl)) 
  (trS_ret (tr_lc (own := [("_law_own", 4)]) (trI_e (tr_call (trA_cons (tv 0 rfl rfl rfl rfl) (trA_cons (tv 1 rfl rfl rfl rfl) trA_nil (fun _ => rfl)) (fun _ => rfl)) rfl rfl (fun _ => rfl) (fun _ => rfl))) (trG_n 4 rfl (loc_of rfl) (fn_of rfl)) (trTs_one (trT_cmp (tv 4 rfl rfl rfl rfl) (tv 3 rfl rfl rfl rfl) rfl)) (tv 4 rfl rfl rfl rfl) (by decide) (by kernel_rfl) (fun _ _ => rfl))) rfl (loc_of rfl) (fn_of rfl) (fun _ _ => rfl))
abbrev s_truth : Stmt := top 10
def N_truth : List Str := ["graph", "wants", "nots", "own", "known", "commit"]
theorem sc_truth : FnScope N_truth ["graph", "wants", "nots"] (defScope s_truth) := ⟨rfl, rfl, rfl, by decide +kernel, rfl, by decide +kernel, by decide +kernel⟩
theorem t_truth (B : Bi mg) : TrS (ctxOf P w K mg base N_truth s_truth (k + 1)) (defBody s_truth) c_truth :=
  (trS_asg 3 (tr_call (trA_cons (tv 0 rfl rfl rfl rfl) (trA_cons (tv 1 rfl rfl rfl rfl) (trA_cons (tv 2 rfl rfl rfl rfl) trA_nil (fun _ => rfl)) (fun _ => rfl)) (fun _ => rfl)) rfl rfl (fun _ => rfl) (fun _ => rfl)) 
  (trS_asg 4 (tr_meth (tv 3 rfl rfl rfl rfl) (trA_cons (tv 2 rfl rfl rfl rfl) trA_nil (fun _ => rfl)) (fun _ => rfl) (fun _ => rfl) (fun _ => rfl)) 
  (trS_ret (tr_lc (own := [("commit", 5)]) (trI_e (tr_meth (tv 3 rfl rfl rfl rfl) (trA_cons (tv 1 rfl rfl rfl rfl) trA_nil (fun _ => rfl)) (fun _ => rfl) (fun _ => rfl) (fun _ => rfl))) (trG_n 5 rfl (loc_of rfl) (fn_of rfl)) (trTs_one (trT_cmp (tv 5 rfl rfl rfl rfl) (tv 4 rfl rfl rfl rfl) rfl)) (tv 5 rfl rfl rfl rfl) (by decide) (by kernel_rfl) (fun _ _ => rfl))) rfl (loc_of rfl) (fn_of rfl) (fun _ _ => rfl)) rfl (loc_of rfl) (fn_of rfl) (fun _ _ => rfl))
abbrev s__law_right : Stmt := top 24
def N__law_right : List Str := ["_law_box_here", "_law_shelf", "_law_turn", "_law_net", "_law_soft", "_law_k", "_law_own", "_law_far", "_law_got", "_law_due", "_law_its", "_law_again", "_law_need", "_law_bars"]
theorem sc__law_right : FnScope N__law_right ["_law_box_here"] (defScope s__law_right) := ⟨rfl, rfl, rfl, by decide +kernel, rfl, by decide +kernel, by decide +kernel⟩
theorem t__law_right_k11 (B : Bi mg) : TrS (ctxOf P w K mg base N__law_right s__law_right (k + 1)) (defBody s__law_right) c__law_right_k11 :=
  (trS_asg 1 (tr_own (tr_lst trA_nil)) 
  (trS_for (trI_r1 B tr_int rfl (fun _ => rfl)) (trG_n 2 rfl (loc_of rfl) (fn_of rfl))
      
      (trS_asg 3 (tr_call (trA_cons (tv 0 rfl rfl rfl rfl) (trA_cons (tr_call (trA_cons (tv 0 rfl rfl rfl rfl) (trA_cons (tr_lst (trA_cons tr_int (trA_cons tr_int (trA_cons tr_int (trA_cons tr_int (trA_cons tr_int trA_nil (fun _ => rfl)) (fun _ => rfl)) (fun _ => rfl)) (fun _ => rfl)) (fun _ => rfl))) trA_nil (fun _ => rfl)) (fun _ => rfl)) rfl rfl (fun _ => rfl) (fun _ => rfl)) trA_nil (fun _ => rfl)) (fun _ => rfl)) rfl rfl (fun _ => rfl) (fun _ => rfl)) 
      (trS_asg 4 (tr_call (trA_cons (tv 1 rfl rfl rfl rfl) (trA_cons (tv 3 rfl rfl rfl rfl) trA_nil (fun _ => rfl)) (fun _ => rfl)) rfl rfl (fun _ => rfl) (fun _ => rfl)) 
      (trS_for (trI_r1 B (tr_bi (b := .len) B (by decide) (trA_cons (tv 3 rfl rfl rfl rfl) trA_nil (fun _ => rfl)) rfl (fun _ => rfl) (fun _ => rfl)) rfl (fun _ => rfl)) (trG_n 5 rfl (loc_of rfl) (fn_of rfl))
          
          (trS_parC2 6 7 (trA_cons (tr_call (trA_cons (tv 3 rfl rfl rfl rfl) (trA_cons (tr_lst (trA_cons (tv 5 rfl rfl rfl rfl) trA_nil (fun _ => rfl))) trA_nil (fun _ => rfl)) (fun _ => rfl)) rfl rfl (fun _ => rfl) (fun _ => rfl)) (trA_cons (tr_call (trA_cons (tv 3 rfl rfl rfl rfl) (trA_cons (tv 5 rfl rfl rfl rfl) trA_nil (fun _ => rfl)) (fun _ => rfl)) rfl rfl (fun _ => rfl) (fun _ => rfl)) trA_nil (fun _ => rfl)) (fun _ => rfl)) 
          (trS_asg 8 (tr_own (tr_lstM (trA_cons (tr_own (tr_call (trA_cons (tv 3 rfl rfl rfl rfl) (trA_cons (tv 5 rfl rfl rfl rfl) trA_nil (fun _ => rfl)) (fun _ => rfl)) rfl rfl (fun _ => rfl) (fun _ => rfl))) (trA_cons (tr_own (tr_lend (tr_callk (trK_cons (tv 5 rfl rfl rfl rfl) (trK_cons (tv 4 rfl rfl rfl rfl) trK_nil)) rfl rfl (fun _ => rfl) (fun _ => rfl) (fun _ => rfl)))) trA_nil (fun _ => rfl)) (fun _ => rfl)))) 
          (trS_if (trT_not (trT_e (tr_lend (tr_call (trA_cons (tv 8 rfl rfl rfl rfl) (trA_cons (tr_lst (trA_cons (tv 6 rfl rfl rfl rfl) (trA_cons (tv 6 rfl rfl rfl rfl) trA_nil (fun _ => rfl)) (fun _ => rfl))) trA_nil (fun _ => rfl)) (fun _ => rfl)) rfl rfl (fun _ => rfl) (fun _ => rfl))) (fun _ _ => rfl)))
              
              (trS_ret tr_bl)
              trS_nil
              
          (trS_ex (tr_append (tr_ix (tv 8 rfl rfl rfl rfl) tr_int (fun _ _ => rfl)) tr_str (fun _ => rfl) rfl (fun _ => rfl) (fun _ => rfl)) 
          (trS_asgLc 9 (ow := false) (own := [("_law_its", 10)]) (trI_r1 B (tr_bi (b := .len) B (by decide) (trA_cons (tv 3 rfl rfl rfl rfl) trA_nil (fun _ => rfl)) rfl (fun _ => rfl) (fun _ => rfl)) rfl (fun _ => rfl)) (trG_n 10 rfl (loc_of rfl) (fn_of rfl)) trTs_nil (tr_get1 (tv 7 rfl rfl rfl rfl) (tv 10 rfl rfl rfl rfl) (fun _ => ⟨rfl, rfl, rfl, rfl⟩)) (by decide) (by kernel_rfl) (fun _ _ => rfl) 
          (trS_if (trT_not (trT_e (tr_call (trA_cons (tr_lc (own := [("_law_its", 10)]) (trI_r1 B (tr_bi (b := .len) B (by decide) (trA_cons (tv 3 rfl rfl rfl rfl) trA_nil (fun _ => rfl)) rfl (fun _ => rfl) (fun _ => rfl)) rfl (fun _ => rfl)) (trG_n 10 rfl (loc_of rfl) (fn_of rfl)) trTs_nil (tr_call (trA_cons (tv 3 rfl rfl rfl rfl) (trA_cons (tv 5 rfl rfl rfl rfl) (trA_cons (tv 10 rfl rfl rfl rfl) trA_nil (fun _ => rfl)) (fun _ => rfl)) (fun _ => rfl)) rfl rfl (fun _ => rfl) (fun _ => rfl)) (by decide) (by kernel_rfl) (fun _ _ => rfl)) (trA_cons (tv 9 rfl rfl rfl rfl) trA_nil (fun _ => rfl)) (fun _ => rfl)) rfl rfl (fun _ => rfl) (fun _ => rfl)) (fun _ _ => rfl)))
              
              (trS_ret tr_bl)
              trS_nil
              
          (trS_asg 10 (tr_call (trA_cons (tv 0 rfl rfl rfl rfl) (trA_cons (tr_bi (b := .len) B (by decide) (trA_cons (tv 3 rfl rfl rfl rfl) trA_nil (fun _ => rfl)) rfl (fun _ => rfl) (fun _ => rfl)) trA_nil (fun _ => rfl)) (fun _ => rfl)) rfl rfl (fun _ => rfl) (fun _ => rfl)) 
          (trS_if (trT_not (trT_e (tr_call (trA_cons (tr_lst (trA_cons (tr_lend (tr_callk (trK_cons (tv 10 rfl rfl rfl rfl) (trK_cons (tv 5 rfl rfl rfl rfl) (trK_cons (tv 4 rfl rfl rfl rfl) trK_nil))) rfl rfl (fun _ => rfl) (fun _ => rfl) (fun _ => rfl))) (trA_cons (tr_call (trA_cons (tv 3 rfl rfl rfl rfl) (trA_cons (tv 5 rfl rfl rfl rfl) trA_nil (fun _ => rfl)) (fun _ => rfl)) rfl rfl (fun _ => rfl) (fun _ => rfl)) trA_nil (fun _ => rfl)) (fun _ => rfl))) (trA_cons (tr_lst (trA_cons (tr_ix (tv 9 rfl rfl rfl rfl) (tv 10 rfl rfl rfl rfl) (fun _ _ => rfl)) (trA_cons (tv 6 rfl rfl rfl rfl) trA_nil (fun _ => rfl)) (fun _ => rfl))) trA_nil (fun _ => rfl)) (fun _ => rfl)) rfl rfl (fun _ => rfl) (fun _ => rfl)) (fun _ _ => rfl)))
              
              (trS_ret tr_bl)
              trS_nil
              trS_nil) rfl (loc_of rfl) (fn_of rfl) (fun _ _ => rfl))) rfl rfl rfl rfl (by kernel_rfl)) (fun _ => rfl))) rfl (loc_of rfl) (fn_of rfl) (fun _ _ => rfl)) ⟨rfl, loc_of rfl, fn_of rfl⟩ ⟨rfl, loc_of rfl, fn_of rfl⟩ (by rintro ⟨_, _, _, _, _, _, _, _, _⟩ h; cases h; rfl) (fun _ => rfl))
          
      (trS_for (trI_r1 B tr_int rfl (fun _ => rfl)) (trG_n 11 rfl (loc_of rfl) (fn_of rfl))
          
          (trS_par2 12 13 (trA_cons (tr_call (trA_cons (tv 0 rfl rfl rfl rfl) (trA_cons (tv 3 rfl rfl rfl rfl) (trA_cons tr_int trA_nil (fun _ => rfl)) (fun _ => rfl)) (fun _ => rfl)) rfl rfl (fun _ => rfl) (fun _ => rfl)) (trA_cons (tr_call (trA_cons (tv 0 rfl rfl rfl rfl) (trA_cons (tv 3 rfl rfl rfl rfl) (trA_cons tr_int trA_nil (fun _ => rfl)) (fun _ => rfl)) (fun _ => rfl)) rfl rfl (fun _ => rfl) (fun _ => rfl)) trA_nil (fun _ => rfl)) (fun _ => rfl)) 
          (trS_asg 9 (tr_call (trA_cons (tv 3 rfl rfl rfl rfl) (trA_cons (tv 12 rfl rfl rfl rfl) (trA_cons (tv 13 rfl rfl rfl rfl) trA_nil (fun _ => rfl)) (fun _ => rfl)) (fun _ => rfl)) rfl rfl (fun _ => rfl) (fun _ => rfl)) 
          (trS_asg 8 (tr_own (tr_lstM (trA_cons (tr_own (tr_call (trA_cons (tv 3 rfl rfl rfl rfl) (trA_cons (tv 12 rfl rfl rfl rfl) (trA_cons (tv 13 rfl rfl rfl rfl) trA_nil (fun _ => rfl)) (fun _ => rfl)) (fun _ => rfl)) rfl rfl (fun _ => rfl) (fun _ => rfl))) (trA_cons (tr_own (tr_lend (tr_callk (trK_cons (tr_bi (b := .list) B (by decide) (trA_cons (tv 13 rfl rfl rfl rfl) trA_nil (fun _ => rfl)) rfl (fun _ => rfl) (fun _ => rfl)) (trK_cons (tr_bi (b := .list) B (by decide) (trA_cons (tv 12 rfl rfl rfl rfl) trA_nil (fun _ => rfl)) rfl (fun _ => rfl) (fun _ => rfl)) (trK_cons (tv 4 rfl rfl rfl rfl) trK_nil))) rfl rfl (fun _ => rfl) (fun _ => rfl) (fun _ => rfl)))) trA_nil (fun _ => rfl)) (fun _ => rfl)))) 
          (trS_if (trT_not (trT_e (tr_lend (tr_call (trA_cons (tv 8 rfl rfl rfl rfl) (trA_cons (tr_lst (trA_cons (tv 9 rfl rfl rfl rfl) (trA_cons (tv 9 rfl rfl rfl rfl) trA_nil (fun _ => rfl)) (fun _ => rfl))) trA_nil (fun _ => rfl)) (fun _ => rfl)) rfl rfl (fun _ => rfl) (fun _ => rfl))) (fun _ _ => rfl)))
              
              (trS_ret tr_bl)
              trS_nil
              
          (trS_ex (tr_append (tr_ix (tv 8 rfl rfl rfl rfl) tr_int (fun _ _ => rfl)) tr_str (fun _ => rfl) rfl (fun _ => rfl) (fun _ => rfl)) 
          (trS_if (TrW.tt (trW_or (trT_not (trT_e (tr_call (trA_cons (tr_call (trA_cons (tv 3 rfl rfl rfl rfl) (trA_cons (tv 12 rfl rfl rfl rfl) (trA_cons (tv 13 rfl rfl rfl rfl) trA_nil (fun _ => rfl)) (fun _ => rfl)) (fun _ => rfl)) rfl rfl (fun _ => rfl) (fun _ => rfl)) (trA_cons (tv 9 rfl rfl rfl rfl) trA_nil (fun _ => rfl)) (fun _ => rfl)) rfl rfl (fun _ => rfl) (fun _ => rfl)) (fun _ _ => rfl))) (trW_or1 (trT_cmp (tv 4 rfl rfl rfl rfl) (tr_call (trA_cons (tv 3 rfl rfl rfl rfl) trA_nil (fun _ => rfl)) rfl rfl (fun _ => rfl) (fun _ => rfl)) rfl))))
              
              (trS_ret tr_bl)
              trS_nil
              trS_nil) (fun _ => rfl))) rfl (loc_of rfl) (fn_of rfl) (fun _ _ => rfl)) rfl (loc_of rfl) (fn_of rfl) (fun _ _ => rfl)) (by decide) rfl rfl rfl rfl (by rintro ⟨_, _, _, _, _, _, _, _, _⟩ h; cases h; rfl) (fun _ => rfl))
          trS_nil (fun _ _ => rfl)) (fun _ _ => rfl)) rfl (loc_of rfl) (fn_of rfl) (fun _ _ => rfl)) rfl (loc_of rfl) (fn_of rfl) (fun _ _ => rfl))
      
  (trS_ret tr_bl) (fun _ _ => rfl)) rfl (loc_of rfl) (fn_of rfl) (fun _ _ => rfl))
abbrev s_law : Stmt := top 25
def N_law : List Str := ["_law_script", "_law_cells_here", "_law_k"]
theorem sc_law : FnScope N_law ["_law_script"] (defScope s_law) := ⟨rfl, rfl, rfl, by decide +kernel, rfl, by decide +kernel, by decide +kernel⟩
theorem t_law_k11 (B : Bi mg) : TrS (ctxOf P w K mg base N_law s_law (k + 1)) (defBody s_law) c_law_k11 :=
  (trS_asg 1 (tr_call (trA_cons (tv 0 rfl rfl rfl rfl) (trA_cons tr_int trA_nil (fun _ => rfl)) (fun _ => rfl)) rfl rfl (fun _ => rfl) (fun _ => rfl)) 
  (trS_ret (tr_bi (b := .all) B (by decide) (trA_cons (tr_lc (own := [("_law_k", 2)]) (trI_r1 B (tr_bi (b := .len) B (by decide) (trA_cons (tv 1 rfl rfl rfl rfl) trA_nil (fun _ => rfl)) rfl (fun _ => rfl) (fun _ => rfl)) rfl (fun _ => rfl)) (trG_n 2 rfl (loc_of rfl) (fn_of rfl)) trTs_nil (tr_scope (tr_call (trA_cons (tr_own (tr_call (trA_cons (tv 1 rfl rfl rfl rfl) (trA_cons (tv 2 rfl rfl rfl rfl) trA_nil (fun _ => rfl)) (fun _ => rfl)) rfl rfl (fun _ => rfl) (fun _ => rfl))) trA_nil (fun _ => rfl)) rfl rfl (fun _ => rfl) (fun _ => rfl))) (by decide) (by kernel_rfl) (fun _ _ => rfl)) trA_nil (fun _ => rfl)) rfl (fun _ => rfl) (fun _ => rfl))) rfl (loc_of rfl) (fn_of rfl) (fun _ _ => rfl))
end
set_option maxHeartbeats 0 in
theorem all_mk {l : PySem.W.OpenLaw} {w : World} {K : PySem.W.Frag} {h : Heap} {mg : Str → Option Value} {fa : Addr} {f1 f2 f3 f4 f5 f6 f7 f8 f9 f10 f11 f12 f13 f14 f15 f16 f17 f18 f19 CGraph f20 f21 f22 f23 f24 pCGraph0 pCGraph1 pCGraph2 : Addr} (X : K.In h) (G : h.Ns mainGlobals mg) (hfa : mg "law" = some (.ref fa))
    {od1 an1 od2 an2 od3 an3 od4 an4 od5 an5 od6 an6 od7 an7 od8 an8 od9 an9 od10 an10 od11 an11 od12 an12 od13 an13 od14 an14 od15 an15 od16 an16 od17 an17 od18 an18 od19 an19 od20 an20 od21 an21 od22 an22 od23 an23 od24 an24 : Option Addr} {sl1 sl2 sl3 sl4 sl5 sl6 sl7 sl8 sl9 sl10 sl11 sl12 sl13 sl14 sl15 sl16 sl17 sl18 sl19 sl20 sl21 sl22 sl23 sl24 : Array (Option Value)} {oc1 kV1 dc1 pm1 cd1 ct1 oc2 kV2 dc2 pm2 cd2 ct2 oc3 kV3 dc3 pm3 cd3 ct3 oc4 kV4 dc4 pm4 cd4 ct4 oc5 kV5 dc5 pm5 cd5 ct5 oc6 kV6 dc6 pm6 cd6 ct6 oc7 kV7 dc7 pm7 cd7 ct7 oc8 kV8 dc8 pm8 cd8 ct8 oc9 kV9 dc9 pm9 cd9 ct9 oc10 kV10 dc10 pm10 cd10 ct10 oc11 kV11 dc11 pm11 cd11 ct11 oc12 kV12 dc12 pm12 cd12 ct12 oc13 kV13 dc13 pm13 cd13 ct13 oc14 kV14 dc14 pm14 cd14 ct14 oc15 kV15 dc15 pm15 cd15 ct15 oc16 kV16 dc16 pm16 cd16 ct16 oc17 kV17 dc17 pm17 cd17 ct17 oc18 kV18 dc18 pm18 cd18 ct18 oc19 kV19 dc19 pm19 cd19 ct19 oc20 kV20 dc20 pm20 cd20 ct20 oc21 kV21 dc21 pm21 cd21 ct21 oc22 kV22 dc22 pm22 cd22 ct22 oc23 kV23 dc23 pm23 cd23 ct23 oc24 kV24 dc24 pm24 cd24 ct24 : Value}
    (a1 : PySem.W.nsIn K mainGlobals "_law_cells" = some (some (.ref f1)))
    (l1 : K.lookup f1 = some ⟨oc1, od1, .func (PySem.W.fnOf "_law_cells" "_law_cells" (defArgs s__law_cells) (defBody s__law_cells) (defScope s__law_cells) .none kV1 dc1 pm1 an1 cd1 ct1), sl1⟩)
    (c1 : PySem.W.codeIn K cd1 "_law_cells" = true)
    (k1 : PySem.W.keepIn K (.ref f1) = true)
    (a2 : PySem.W.nsIn K mainGlobals "_law_box" = some (some (.ref f2)))
    (l2 : K.lookup f2 = some ⟨oc2, od2, .func (PySem.W.fnOf "_law_box" "_law_box" (defArgs s__law_box) (defBody s__law_box) (defScope s__law_box) .none kV2 dc2 pm2 an2 cd2 ct2), sl2⟩)
    (c2 : PySem.W.codeIn K cd2 "_law_box" = true)
    (k2 : PySem.W.keepIn K (.ref f2) = true)
    (a3 : PySem.W.nsIn K mainGlobals "_law_take" = some (some (.ref f3)))
    (l3 : K.lookup f3 = some ⟨oc3, od3, .func (PySem.W.fnOf "_law_take" "_law_take" (defArgs s__law_take) (defBody s__law_take) (defScope s__law_take) .none kV3 dc3 pm3 an3 cd3 ct3), sl3⟩)
    (c3 : PySem.W.codeIn K cd3 "_law_take" = true)
    (k3 : PySem.W.keepIn K (.ref f3) = true)
    (a4 : PySem.W.nsIn K mainGlobals "_law_of" = some (some (.ref f4)))
    (l4 : K.lookup f4 = some ⟨oc4, od4, .func (PySem.W.fnOf "_law_of" "_law_of" (defArgs s__law_of) (defBody s__law_of) (defScope s__law_of) .none kV4 dc4 pm4 an4 cd4 ct4), sl4⟩)
    (c4 : PySem.W.codeIn K cd4 "_law_of" = true)
    (k4 : PySem.W.keepIn K (.ref f4) = true)
    (a5 : PySem.W.nsIn K mainGlobals "_law_graph" = some (some (.ref f5)))
    (l5 : K.lookup f5 = some ⟨oc5, od5, .func (PySem.W.fnOf "_law_graph" "_law_graph" (defArgs s__law_graph) (defBody s__law_graph) (defScope s__law_graph) .none kV5 dc5 pm5 an5 cd5 ct5), sl5⟩)
    (c5 : PySem.W.codeIn K cd5 "_law_graph" = true)
    (k5 : PySem.W.keepIn K (.ref f5) = true)
    (a6 : PySem.W.nsIn K mainGlobals "_law_lists" = some (some (.ref f6)))
    (l6 : K.lookup f6 = some ⟨oc6, od6, .func (PySem.W.fnOf "_law_lists" "_law_lists" (defArgs s__law_lists) (defBody s__law_lists) (defScope s__law_lists) .none kV6 dc6 pm6 an6 cd6 ct6), sl6⟩)
    (c6 : PySem.W.codeIn K cd6 "_law_lists" = true)
    (k6 : PySem.W.keepIn K (.ref f6) = true)
    (a7 : PySem.W.nsIn K mainGlobals "_law_refill" = some (some (.ref f7)))
    (l7 : K.lookup f7 = some ⟨oc7, od7, .func (PySem.W.fnOf "_law_refill" "_law_refill" (defArgs s__law_refill) (defBody s__law_refill) (defScope s__law_refill) .none kV7 dc7 pm7 an7 cd7 ct7), sl7⟩)
    (c7 : PySem.W.codeIn K cd7 "_law_refill" = true)
    (k7 : PySem.W.keepIn K (.ref f7) = true)
    (a8 : PySem.W.nsIn K mainGlobals "_law_ways" = some (some (.ref f8)))
    (l8 : K.lookup f8 = some ⟨oc8, od8, .func (PySem.W.fnOf "_law_ways" "_law_ways" (defArgs s__law_ways) (defBody s__law_ways) (defScope s__law_ways) .none kV8 dc8 pm8 an8 cd8 ct8), sl8⟩)
    (c8 : PySem.W.codeIn K cd8 "_law_ways" = true)
    (k8 : PySem.W.keepIn K (.ref f8) = true)
    (a9 : PySem.W.nsIn K mainGlobals "_law_had" = some (some (.ref f9)))
    (l9 : K.lookup f9 = some ⟨oc9, od9, .func (PySem.W.fnOf "_law_had" "_law_had" (defArgs s__law_had) (defBody s__law_had) (defScope s__law_had) .none kV9 dc9 pm9 an9 cd9 ct9), sl9⟩)
    (c9 : PySem.W.codeIn K cd9 "_law_had" = true)
    (k9 : PySem.W.keepIn K (.ref f9) = true)
    (a10 : PySem.W.nsIn K mainGlobals "tupled" = some (some (.ref f10)))
    (l10 : K.lookup f10 = some ⟨oc10, od10, .func (PySem.W.fnOf "tupled" "tupled" (defArgs s_tupled) (defBody s_tupled) (defScope s_tupled) .none kV10 dc10 pm10 an10 cd10 ct10), sl10⟩)
    (c10 : PySem.W.codeIn K cd10 "tupled" = true)
    (k10 : PySem.W.keepIn K (.ref f10) = true)
    (a11 : PySem.W.nsIn K mainGlobals "graph_at" = some (some (.ref f11)))
    (l11 : K.lookup f11 = some ⟨oc11, od11, .func (PySem.W.fnOf "graph_at" "graph_at" (defArgs s_graph_at) (defBody s_graph_at) (defScope s_graph_at) .none kV11 dc11 pm11 an11 cd11 ct11), sl11⟩)
    (c11 : PySem.W.codeIn K cd11 "graph_at" = true)
    (k11 : PySem.W.keepIn K (.ref f11) = true)
    (a12 : PySem.W.nsIn K mainGlobals "had" = some (some (.ref f12)))
    (l12 : K.lookup f12 = some ⟨oc12, od12, .func (PySem.W.fnOf "had" "had" (defArgs s_had) (defBody s_had) (defScope s_had) .none kV12 dc12 pm12 an12 cd12 ct12), sl12⟩)
    (c12 : PySem.W.codeIn K cd12 "had" = true)
    (k12 : PySem.W.keepIn K (.ref f12) = true)
    (a13 : PySem.W.nsIn K mainGlobals "_law_same" = some (some (.ref f13)))
    (l13 : K.lookup f13 = some ⟨oc13, od13, .func (PySem.W.fnOf "_law_same" "_law_same" (defArgs s__law_same) (defBody s__law_same) (defScope s__law_same) .none kV13 dc13 pm13 an13 cd13 ct13), sl13⟩)
    (c13 : PySem.W.codeIn K cd13 "_law_same" = true)
    (k13 : PySem.W.keepIn K (.ref f13) = true)
    (a14 : PySem.W.nsIn K mainGlobals "way" = some (some (.ref f14)))
    (l14 : K.lookup f14 = some ⟨oc14, od14, .func (PySem.W.fnOf "way" "way" (defArgs s_way) (defBody s_way) (defScope s_way) .none kV14 dc14 pm14 an14 cd14 ct14), sl14⟩)
    (c14 : PySem.W.codeIn K cd14 "way" = true)
    (k14 : PySem.W.keepIn K (.ref f14) = true)
    (a15 : PySem.W.nsIn K mainGlobals "_law_some" = some (some (.ref f15)))
    (l15 : K.lookup f15 = some ⟨oc15, od15, .func (PySem.W.fnOf "_law_some" "_law_some" (defArgs s__law_some) (defBody s__law_some) (defScope s__law_some) .none kV15 dc15 pm15 an15 cd15 ct15), sl15⟩)
    (c15 : PySem.W.codeIn K cd15 "_law_some" = true)
    (k15 : PySem.W.keepIn K (.ref f15) = true)
    (a16 : PySem.W.nsIn K mainGlobals "_law_truth" = some (some (.ref f16)))
    (l16 : K.lookup f16 = some ⟨oc16, od16, .func (PySem.W.fnOf "_law_truth" "_law_truth" (defArgs s__law_truth) (defBody s__law_truth) (defScope s__law_truth) .none kV16 dc16 pm16 an16 cd16 ct16), sl16⟩)
    (c16 : PySem.W.codeIn K cd16 "_law_truth" = true)
    (k16 : PySem.W.keepIn K (.ref f16) = true)
    (a17 : PySem.W.nsIn K mainGlobals "truth" = some (some (.ref f17)))
    (l17 : K.lookup f17 = some ⟨oc17, od17, .func (PySem.W.fnOf "truth" "truth" (defArgs s_truth) (defBody s_truth) (defScope s_truth) .none kV17 dc17 pm17 an17 cd17 ct17), sl17⟩)
    (c17 : PySem.W.codeIn K cd17 "truth" = true)
    (k17 : PySem.W.keepIn K (.ref f17) = true)
    (a18 : PySem.W.nsIn K mainGlobals "_law_right" = some (some (.ref f18)))
    (l18 : K.lookup f18 = some ⟨oc18, od18, .func (PySem.W.fnOf "_law_right" "_law_right" (defArgs s__law_right) (defBody s__law_right) (defScope s__law_right) .none kV18 dc18 pm18 an18 cd18 ct18), sl18⟩)
    (c18 : PySem.W.codeIn K cd18 "_law_right" = true)
    (k18 : PySem.W.keepIn K (.ref f18) = true)
    (a19 : PySem.W.nsIn K mainGlobals "law" = some (some (.ref f19)))
    (l19 : K.lookup f19 = some ⟨oc19, od19, .func (PySem.W.fnOf "law" "law" (defArgs s_law) (defBody s_law) (defScope s_law) .none kV19 dc19 pm19 an19 cd19 ct19), sl19⟩)
    (c19 : PySem.W.codeIn K cd19 "law" = true)
    (k19 : PySem.W.keepIn K (.ref f19) = true)
    (aCGraph : PySem.W.nsIn K mainGlobals "Graph" = some (some (.ref CGraph)))
    (a20 : PySem.W.findIn K (.ref CGraph) "__init__" = some (some (.ref f20)))
    (i20 : PySem.W.isFn K (.ref f20) = true)
    (l20 : K.lookup f20 = some ⟨oc20, od20, .func (PySem.W.fnOf "__init__" "Graph.__init__" (defArgs s_Graph_init) (defBody s_Graph_init) (defScope s_Graph_init) .none kV20 dc20 pm20 an20 cd20 ct20), sl20⟩)
    (c20 : PySem.W.codeIn K cd20 "Graph.__init__" = true)
    (k20 : PySem.W.keepIn K (.ref f20) = true)
    (a21 : PySem.W.findIn K (.ref CGraph) "check" = some (some (.ref f21)))
    (i21 : PySem.W.isFn K (.ref f21) = true)
    (l21 : K.lookup f21 = some ⟨oc21, od21, .func (PySem.W.fnOf "check" "Graph.check" (defArgs s_Graph_check) (defBody s_Graph_check) (defScope s_Graph_check) .none kV21 dc21 pm21 an21 cd21 ct21), sl21⟩)
    (c21 : PySem.W.codeIn K cd21 "Graph.check" = true)
    (k21 : PySem.W.keepIn K (.ref f21) = true)
    (a22 : PySem.W.findIn K (.ref CGraph) "had" = some (some (.ref f22)))
    (i22 : PySem.W.isFn K (.ref f22) = true)
    (l22 : K.lookup f22 = some ⟨oc22, od22, .func (PySem.W.fnOf "had" "Graph.had" (defArgs s_Graph_had) (defBody s_Graph_had) (defScope s_Graph_had) .none kV22 dc22 pm22 an22 cd22 ct22), sl22⟩)
    (c22 : PySem.W.codeIn K cd22 "Graph.had" = true)
    (k22 : PySem.W.keepIn K (.ref f22) = true)
    (a23 : PySem.W.findIn K (.ref CGraph) "ways" = some (some (.ref f23)))
    (i23 : PySem.W.isFn K (.ref f23) = true)
    (l23 : K.lookup f23 = some ⟨oc23, od23, .func (PySem.W.fnOf "ways" "Graph.ways" (defArgs s_Graph_ways) (defBody s_Graph_ways) (defScope s_Graph_ways) .none kV23 dc23 pm23 an23 cd23 ct23), sl23⟩)
    (c23 : PySem.W.codeIn K cd23 "Graph.ways" = true)
    (k23 : PySem.W.keepIn K (.ref f23) = true)
    (a24 : PySem.W.findIn K (.ref CGraph) "way" = some (some (.ref f24)))
    (i24 : PySem.W.isFn K (.ref f24) = true)
    (l24 : K.lookup f24 = some ⟨oc24, od24, .func (PySem.W.fnOf "way" "Graph.way" (defArgs s_Graph_way) (defBody s_Graph_way) (defScope s_Graph_way) .none kV24 dc24 pm24 an24 cd24 ct24), sl24⟩)
    (c24 : PySem.W.codeIn K cd24 "Graph.way" = true)
    (k24 : PySem.W.keepIn K (.ref f24) = true)
    (pgCGraph : PySem.W.plainGet K CGraph Str.empty = true)
    (icCGraph : PySem.W.isClsIn K CGraph = true)
    (poCGraph : PySem.W.plainOver K CGraph = true)
    (saCGraph : PySem.W.findIn K (.ref CGraph) "__setattr__" = some (some (.builtin "object.__setattr__")))
    (mkCGraph : PySem.W.makesIn K CGraph = true)
    (kcCGraph : PySem.W.keepIn K (.ref CGraph) = true)
    (sxCGraph0 : PySem.W.findIn K (.ref CGraph) "own_dates" = some (some (.ref pCGraph0)))
    (sgCGraph0 : PySem.W.specialIn K (.ref pCGraph0) "__get__" = some (some (.builtin "member_descriptor.__get__")))
    (stCGraph0 : PySem.W.takesIn K (.ref pCGraph0) = some true)
    (syCGraph0 : PySem.W.typeIn K (.ref pCGraph0) = some (.type "member_descriptor"))
    (siCGraph0 : PySem.W.slotIn K pCGraph0 CGraph = some 0)
    (sxCGraph1 : PySem.W.findIn K (.ref CGraph) "own_parents" = some (some (.ref pCGraph1)))
    (sgCGraph1 : PySem.W.specialIn K (.ref pCGraph1) "__get__" = some (some (.builtin "member_descriptor.__get__")))
    (stCGraph1 : PySem.W.takesIn K (.ref pCGraph1) = some true)
    (syCGraph1 : PySem.W.typeIn K (.ref pCGraph1) = some (.type "member_descriptor"))
    (siCGraph1 : PySem.W.slotIn K pCGraph1 CGraph = some 1)
    (sxCGraph2 : PySem.W.findIn K (.ref CGraph) "own_ways" = some (some (.ref pCGraph2)))
    (sgCGraph2 : PySem.W.specialIn K (.ref pCGraph2) "__get__" = some (some (.builtin "member_descriptor.__get__")))
    (stCGraph2 : PySem.W.takesIn K (.ref pCGraph2) = some true)
    (syCGraph2 : PySem.W.typeIn K (.ref pCGraph2) = some (.type "member_descriptor"))
    (siCGraph2 : PySem.W.slotIn K pCGraph2 CGraph = some 2)
    (z_len : PySem.W.nsIn K mainGlobals "len" = some none)
    (z_abs : PySem.W.nsIn K mainGlobals "abs" = some none)
    (z_int : PySem.W.nsIn K mainGlobals "int" = some none)
    (z_tuple : PySem.W.nsIn K mainGlobals "tuple" = some none)
    (z_list : PySem.W.nsIn K mainGlobals "list" = some none)
    (z_sorted : PySem.W.nsIn K mainGlobals "sorted" = some none)
    (z_all : PySem.W.nsIn K mainGlobals "all" = some none)
    (z_any : PySem.W.nsIn K mainGlobals "any" = some none)
    (z_sum : PySem.W.nsIn K mainGlobals "sum" = some none)
    (z_max : PySem.W.nsIn K mainGlobals "max" = some none)
    (z_min : PySem.W.nsIn K mainGlobals "min" = some none)
    (z_set : PySem.W.nsIn K mainGlobals "set" = some none)
    (z_range : PySem.W.nsIn K mainGlobals "range" = some none)
    (z_isinstance : PySem.W.nsIn K mainGlobals "isinstance" = some none)
    (z_bool : PySem.W.nsIn K mainGlobals "bool" = some none)
    (z_str : PySem.W.nsIn K mainGlobals "str" = some none)
    (z_dict : PySem.W.nsIn K mainGlobals "dict" = some none)
    (z_enumerate : PySem.W.nsIn K mainGlobals "enumerate" = some none)
    (z_zip : PySem.W.nsIn K mainGlobals "zip" = some none)
    (z_iter : PySem.W.nsIn K mainGlobals "iter" = some none)
    (z_repr : PySem.W.nsIn K mainGlobals "repr" = some none)
    : ∃ fd : FuncData, (∀ (s : Shared) (v : Value), BindsTo s fd ⟨[v], []⟩ [("_law_script", v)]) ∧ ∀ base : Heap, K.In base → base.Ns mainGlobals mg → FnOk l.prog w K mg base CX0 28 fa fd ["_law_script"] (spX K f_law_k11) := by
  have e := hfa.symm.trans (PySem.W.mg_of X G a19)
  cases e
  have B : Bi mg := by
    intro x hx
    simp only [biL, List.mem_cons, List.not_mem_nil, or_false] at hx
    rcases hx with rfl | rfl | rfl | rfl | rfl | rfl | rfl | rfl | rfl | rfl | rfl | rfl | rfl | rfl | rfl | rfl | rfl | rfl | rfl | rfl | rfl
    · exact PySem.W.mg_none_of X G z_len
    · exact PySem.W.mg_none_of X G z_abs
    · exact PySem.W.mg_none_of X G z_int
    · exact PySem.W.mg_none_of X G z_tuple
    · exact PySem.W.mg_none_of X G z_list
    · exact PySem.W.mg_none_of X G z_sorted
    · exact PySem.W.mg_none_of X G z_all
    · exact PySem.W.mg_none_of X G z_any
    · exact PySem.W.mg_none_of X G z_sum
    · exact PySem.W.mg_none_of X G z_max
    · exact PySem.W.mg_none_of X G z_min
    · exact PySem.W.mg_none_of X G z_set
    · exact PySem.W.mg_none_of X G z_range
    · exact PySem.W.mg_none_of X G z_isinstance
    · exact PySem.W.mg_none_of X G z_bool
    · exact PySem.W.mg_none_of X G z_str
    · exact PySem.W.mg_none_of X G z_dict
    · exact PySem.W.mg_none_of X G z_enumerate
    · exact PySem.W.mg_none_of X G z_zip
    · exact PySem.W.mg_none_of X G z_iter
    · exact PySem.W.mg_none_of X G z_repr
  have F1 := fun_mk (st := s__law_cells) l1 c1 k1
  have F2 := fun_mk (st := s__law_box) l2 c2 k2
  have F3 := fun_mk (st := s__law_take) l3 c3 k3
  have F4 := fun_mk (st := s__law_of) l4 c4 k4
  have F5 := fun_mk (st := s__law_graph) l5 c5 k5
  have F6 := fun_mk (st := s__law_lists) l6 c6 k6
  have F7 := fun_mk (st := s__law_refill) l7 c7 k7
  have F8 := fun_mk (st := s__law_ways) l8 c8 k8
  have F9 := fun_mk (st := s__law_had) l9 c9 k9
  have F10 := fun_mk (st := s_tupled) l10 c10 k10
  have F20 := fun_mk (st := s_Graph_init) l20 c20 k20
  have F21 := fun_mk (st := s_Graph_check) l21 c21 k21
  have F11 := fun_mk (st := s_graph_at) l11 c11 k11
  have F22 := fun_mk (st := s_Graph_had) l22 c22 k22
  have F12 := fun_mk (st := s_had) l12 c12 k12
  have F13 := fun_mk (st := s__law_same) l13 c13 k13
  have F23 := fun_mk (st := s_Graph_ways) l23 c23 k23
  have F24 := fun_mk (st := s_Graph_way) l24 c24 k24
  have F14 := fun_mk (st := s_way) l14 c14 k14
  have F15 := fun_mk (st := s__law_some) l15 c15 k15
  have F16 := fun_mk (st := s__law_truth) l16 c16 k16
  have F17 := fun_mk (st := s_truth) l17 c17 k17
  have F18 := fun_mk (st := s__law_right) l18 c18 k18
  have F19 := fun_mk (st := s_law) l19 c19 k19
  refine ⟨PySem.W.fnOf "law" "law" (defArgs s_law) (defBody s_law) (defScope s_law) .none kV19 dc19 pm19 an19 cd19 ct19, fun s v => .of_eq rfl, fun base _ _ => ?_⟩
  have hCGraph : clsAt K 1 = CGraph := by
    unfold clsAt
    rw [show clsName 1 = "Graph" from rfl, aCGraph]
  have OCGraph : SlOk K 1 := by
    refine ⟨rfl, by rw [hCGraph]; exact ⟨pgCGraph, icCGraph, poCGraph, saCGraph⟩, fun f i h => ?_⟩
    rw [hCGraph]
    match i, h with
    | 0, h => cases h; exact ⟨_, sxCGraph0, sgCGraph0, stCGraph0, syCGraph0, siCGraph0, by decide⟩
    | 1, h => cases h; exact ⟨_, sxCGraph1, sgCGraph1, stCGraph1, syCGraph1, siCGraph1, by decide⟩
    | 2, h => cases h; exact ⟨_, sxCGraph2, sgCGraph2, stCGraph2, syCGraph2, siCGraph2, by decide⟩
    | i + 3, h => cases h
  have b1 := F1.binds (ps := ["_law_script", "_law_most"]) fun _ _ _ _ _ _ us hl => match us, hl with | [_, _], _ => rfl
  have b2 := F2.binds (ps := ["_law_script", "_law_k"]) fun _ _ _ _ _ _ us hl => match us, hl with | [_, _], _ => rfl
  have b3 := F3.binds (ps := ["_law_box_here", "_law_below_so"]) fun _ _ _ _ _ _ us hl => match us, hl with | [_, _], _ => rfl
  have b4 := F4.binds (ps := ["_law_box_here", "_law_some_here"]) fun _ _ _ _ _ _ us hl => match us, hl with | [_, _], _ => rfl
  have b5 := F5.binds (ps := ["_law_box_here", "_law_many_so"]) fun _ _ _ _ _ _ us hl => match us, hl with | [_, _], _ => rfl
  have b6 := F6.binds (ps := ["_law_matter"]) fun _ _ _ _ _ _ us hl => match us, hl with | [_], _ => rfl
  have b7 := F7.binds (ps := ["_law_shelf", "_law_matter"]) fun _ _ _ _ _ _ us hl => match us, hl with | [_, _], _ => rfl
  have b8 := F8.binds (ps := ["_law_graph_so", "_law_one_so"]) fun _ _ _ _ _ _ us hl => match us, hl with | [_, _], _ => rfl
  have b9 := F9.binds (ps := ["_law_graph_so", "_law_some_here"]) fun _ _ _ _ _ _ us hl => match us, hl with | [_, _], _ => rfl
  have b10 := F10.binds (ps := ["thing"]) fun _ _ _ _ _ _ us hl => match us, hl with | [_], _ => rfl
  have b20 := F20.binds (ps := ["self", "graph"]) fun _ _ _ _ _ _ us hl => match us, hl with | [_, _], _ => rfl
  have b21 := F21.binds (ps := ["self", "commits"]) fun _ _ _ _ _ _ us hl => match us, hl with | [_, _], _ => rfl
  have b22 := F22.binds (ps := ["self", "commits"]) fun _ _ _ _ _ _ us hl => match us, hl with | [_, _], _ => rfl
  have b12 := F12.binds (ps := ["graph", "commit"]) fun _ _ _ _ _ _ us hl => match us, hl with | [_, _], _ => rfl
  have b13 := F13.binds (ps := ["_law_got", "_law_due"]) fun _ _ _ _ _ _ us hl => match us, hl with | [_, _], _ => rfl
  have b23 := F23.binds (ps := ["self", "commit"]) fun _ _ _ _ _ _ us hl => match us, hl with | [_, _], _ => rfl
  have b24 := F24.binds (ps := ["self", "one", "other"]) fun _ _ _ _ _ _ us hl => match us, hl with | [_, _, _], _ => rfl
  have b14 := F14.binds (ps := ["graph", "one", "other"]) fun _ _ _ _ _ _ us hl => match us, hl with | [_, _, _], _ => rfl
  have b15 := F15.binds (ps := ["_law_box_here", "_law_graph_so", "_law_most"]) fun _ _ _ _ _ _ us hl => match us, hl with | [_, _, _], _ => rfl
  have b16 := F16.binds (ps := ["_law_graph_so", "_law_wants_so", "_law_nots_so"]) fun _ _ _ _ _ _ us hl => match us, hl with | [_, _, _], _ => rfl
  have b17 := F17.binds (ps := ["graph", "wants", "nots"]) fun _ _ _ _ _ _ us hl => match us, hl with | [_, _, _], _ => rfl
  have b18 := F18.binds (ps := ["_law_box_here"]) fun _ _ _ _ _ _ us hl => match us, hl with | [_], _ => rfl
  have O_f__law_cells : FnOk l.prog w K mg base CX0 2 f1 _ ["_law_script", "_law_most"] (spX K f__law_cells) := fnX (k := 1) F1 sc__law_cells (t__law_cells B) trivial rfl rfl
  have T_f__law_cells : Def (gN l.prog w K mg base) "_law_cells" 2 (spX K f__law_cells) := ⟨⟨f1, PySem.W.mg_of X G a1, k1, fnr_of O_f__law_cells b1⟩⟩
  have O_f__law_box : FnOk l.prog w K mg base CX0 2 f2 _ ["_law_script", "_law_k"] (spX K f__law_box) := fnX (k := 1) F2 sc__law_box (t__law_box B) trivial rfl rfl
  have T_f__law_box : Def (gN l.prog w K mg base) "_law_box" 2 (spX K f__law_box) := ⟨⟨f2, PySem.W.mg_of X G a2, k2, fnr_of O_f__law_box b2⟩⟩
  have O_f__law_take : FnOk l.prog w K mg base CX0 2 f3 _ ["_law_box_here", "_law_below_so"] (spX K f__law_take) := fnX (k := 1) F3 sc__law_take (t__law_take B) trivial rfl rfl
  have T_f__law_take : Def (gN l.prog w K mg base) "_law_take" 2 (spX K f__law_take) := ⟨⟨f3, PySem.W.mg_of X G a3, k3, fnr_of O_f__law_take b3⟩⟩
  have O_f__law_of : FnOk l.prog w K mg base CX0 3 f4 _ ["_law_box_here", "_law_some_here"] (spX K f__law_of) := fnX (k := 2) F4 sc__law_of (t__law_of B) ⟨st_call T_f__law_take rfl (Nat.le_of_ble_eq_true rfl), trivial⟩ rfl rfl
  have T_f__law_of : Def (gN l.prog w K mg base) "_law_of" 3 (spX K f__law_of) := ⟨⟨f4, PySem.W.mg_of X G a4, k4, fnr_of O_f__law_of b4⟩⟩
  have O_f__law_graph : FnOk l.prog w K mg base CX0 4 f5 _ ["_law_box_here", "_law_many_so"] (spX K f__law_graph) := fnX (k := 3) F5 sc__law_graph (t__law_graph B) ⟨st_call T_f__law_of rfl (Nat.le_of_ble_eq_true rfl), st_call T_f__law_take rfl (Nat.le_of_ble_eq_true rfl), st_call T_f__law_of rfl (Nat.le_of_ble_eq_true rfl), st_call T_f__law_take rfl (Nat.le_of_ble_eq_true rfl), st_call T_f__law_take rfl (Nat.le_of_ble_eq_true rfl), st_call T_f__law_take rfl (Nat.le_of_ble_eq_true rfl), st_call T_f__law_of rfl (Nat.le_of_ble_eq_true rfl), st_call T_f__law_of rfl (Nat.le_of_ble_eq_true rfl), trivial⟩ rfl rfl
  have T_f__law_graph : Def (gN l.prog w K mg base) "_law_graph" 4 (spX K f__law_graph) := ⟨⟨f5, PySem.W.mg_of X G a5, k5, fnr_of O_f__law_graph b5⟩⟩
  have R_f__law_lists : ∀ n : Nat, Def (gN l.prog w K mg base) "_law_lists" (n + 2) (spX K (f__law_lists n)) := by
    intro n
    induction n with
    | zero => exact ⟨⟨f6, PySem.W.mg_of X G a6, k6, fnr_bad⟩⟩
    | succ n ih =>
      have hh := fnr_of (fnX (P := l.prog) (w := w) (K := K) (mg := mg) (base := base) (env := [(f__law_lists n)]) (k := n + 2) (np := 1) (n := 2) F6 sc__law_lists (t__law_lists B) ⟨st_call ih rfl (Nat.le_refl _), trivial⟩ rfl rfl) b6
      rw [show n + 2 + 1 = n + 1 + 2 by omega] at hh
      exact ⟨⟨f6, PySem.W.mg_of X G a6, k6, hh⟩⟩
  have T_f__law_lists := R_f__law_lists 20
  have O_f__law_refill : FnOk l.prog w K mg base CX0 23 f7 _ ["_law_shelf", "_law_matter"] (spX K f__law_refill) := fnX (k := 22) F7 sc__law_refill (t__law_refill B) ⟨st_call T_f__law_lists rfl (Nat.le_of_ble_eq_true rfl), trivial⟩ rfl rfl
  have T_f__law_refill : Def (gN l.prog w K mg base) "_law_refill" 23 (spX K f__law_refill) := ⟨⟨f7, PySem.W.mg_of X G a7, k7, fnr_of O_f__law_refill b7⟩⟩
  have O_f__law_ways : FnOk l.prog w K mg base CX0 2 f8 _ ["_law_graph_so", "_law_one_so"] (spX K f__law_ways) := fnX (k := 1) F8 sc__law_ways (t__law_ways B) trivial rfl rfl
  have T_f__law_ways : Def (gN l.prog w K mg base) "_law_ways" 2 (spX K f__law_ways) := ⟨⟨f8, PySem.W.mg_of X G a8, k8, fnr_of O_f__law_ways b8⟩⟩
  have O_f__law_had : FnOk l.prog w K mg base CX0 2 f9 _ ["_law_graph_so", "_law_some_here"] (spX K f__law_had) := fnX (k := 1) F9 sc__law_had (t__law_had B) trivial rfl rfl
  have T_f__law_had : Def (gN l.prog w K mg base) "_law_had" 2 (spX K f__law_had) := ⟨⟨f9, PySem.W.mg_of X G a9, k9, fnr_of O_f__law_had b9⟩⟩
  have R_f_tupled : ∀ n : Nat, Def (gN l.prog w K mg base) "tupled" (n + 2) (spX K (f_tupled n)) := by
    intro n
    induction n with
    | zero => exact ⟨⟨f10, PySem.W.mg_of X G a10, k10, fnr_bad⟩⟩
    | succ n ih =>
      have hh := fnr_of (fnX (P := l.prog) (w := w) (K := K) (mg := mg) (base := base) (env := [(f_tupled n)]) (k := n + 2) (np := 1) (n := 2) F10 sc_tupled (t_tupled B) ⟨st_call ih rfl (Nat.le_refl _), trivial⟩ rfl rfl) b10
      rw [show n + 2 + 1 = n + 1 + 2 by omega] at hh
      exact ⟨⟨f10, PySem.W.mg_of X G a10, k10, hh⟩⟩
  have T_f_tupled := R_f_tupled 20
  have O_i_Graph_init : FnOk l.prog w K mg base CX0 23 f20 _ ["self", "graph"] (spI K 1 i_Graph_init) := fnXI (k := 22) F20 sc_Graph_init (t_Graph_init B) ⟨st_call T_f_tupled rfl (Nat.le_of_ble_eq_true rfl), trivial⟩ rfl rfl OCGraph
  have T_i_Graph_init : DefI (gN l.prog w K mg base) "Graph" CGraph 23 (spI K 1 i_Graph_init) := ⟨⟨f20, PySem.W.mg_of X G aCGraph, ⟨mkCGraph, a20, i20, kcCGraph⟩, fnr_of O_i_Graph_init b20⟩⟩
  have O_f_Graph_check : FnOk l.prog w K mg base CX0 2 f21 _ ["self", "commits"] (spX K f_Graph_check) := fnX (k := 1) F21 sc_Graph_check (t_Graph_check B) trivial rfl rfl
  have T_f_Graph_check : DefM (gN l.prog w K mg base) 1 "check" 2 (spX K f_Graph_check) := ⟨by decide +kernel, f21, ⟨by rw [hCGraph]; exact a21, i21, k21⟩, fnr_of O_f_Graph_check b21⟩
  have O_f_graph_at := fnXS (P := l.prog) (w := w) (K := K) (mg := mg) (base := base) (env := [(mkF i_Graph_init), f_Graph_check]) (k := 24) (ps := ["graph"]) (pv := "groups") (np := 1) (n := 4) F11 sc_graph_at (t_graph_at B) ⟨st_mkF T_i_Graph_init hCGraph.symm rfl (Nat.le_of_ble_eq_true rfl), st_meth T_f_Graph_check rfl (Nat.le_of_ble_eq_true rfl), trivial⟩ rfl rfl (fun kV doc pm an cdv ct us rest hl => StX.bind_star1 (B := fun us => bindArgs (PySem.W.fnOf "graph_at" "graph_at" (defArgs s_graph_at) (defBody s_graph_at) (defScope s_graph_at) .none kV doc pm an cdv ct) ⟨us, []⟩) (fun a => rfl) (fun a r rs => rfl) us rest hl)
  have T_f_graph_at : Def (gN l.prog w K mg base) "graph_at" 25 (spX K f_graph_at) := ⟨⟨f11, PySem.W.mg_of X G a11, k11, O_f_graph_at⟩⟩
  have O_f_Graph_had : FnOk l.prog w K mg base CX0 2 f22 _ ["self", "commits"] (spX K f_Graph_had) := fnX (k := 1) F22 sc_Graph_had (t_Graph_had B) trivial rfl rfl
  have T_f_Graph_had : DefM (gN l.prog w K mg base) 1 "had" 2 (spX K f_Graph_had) := ⟨by decide +kernel, f22, ⟨by rw [hCGraph]; exact a22, i22, k22⟩, fnr_of O_f_Graph_had b22⟩
  have O_f_had : FnOk l.prog w K mg base CX0 26 f12 _ ["graph", "commit"] (spX K f_had) := fnX (k := 25) F12 sc_had (t_had B) ⟨st_meth T_f_Graph_had rfl (Nat.le_of_ble_eq_true rfl), st_call T_f_graph_at rfl (Nat.le_of_ble_eq_true rfl), trivial⟩ rfl rfl
  have T_f_had : Def (gN l.prog w K mg base) "had" 26 (spX K f_had) := ⟨⟨f12, PySem.W.mg_of X G a12, k12, fnr_of O_f_had b12⟩⟩
  have R_f__law_same : ∀ n : Nat, Def (gN l.prog w K mg base) "_law_same" (n + 2) (spX K (f__law_same n)) := by
    intro n
    induction n with
    | zero => exact ⟨⟨f13, PySem.W.mg_of X G a13, k13, fnr_bad⟩⟩
    | succ n ih =>
      have hh := fnr_of (fnX (P := l.prog) (w := w) (K := K) (mg := mg) (base := base) (env := [(f__law_same n)]) (k := n + 2) (np := 2) (n := 5) F13 sc__law_same (t__law_same B) ⟨st_call ih rfl (Nat.le_refl _), st_call ih rfl (Nat.le_refl _), trivial⟩ rfl rfl) b13
      rw [show n + 2 + 1 = n + 1 + 2 by omega] at hh
      exact ⟨⟨f13, PySem.W.mg_of X G a13, k13, hh⟩⟩
  have T_f__law_same := R_f__law_same 20
  have O_f_graph_atO := fnXS (P := l.prog) (w := w) (K := K) (mg := mg) (base := base) (env := [(mkO i_Graph_init), f_Graph_check]) (k := 24) (ps := ["graph"]) (pv := "groups") (np := 1) (n := 4) F11 sc_graph_at (t_graph_atO B) ⟨st_mkO T_i_Graph_init hCGraph.symm rfl (Nat.le_of_ble_eq_true rfl), st_meth T_f_Graph_check rfl (Nat.le_of_ble_eq_true rfl), trivial⟩ rfl rfl (fun kV doc pm an cdv ct us rest hl => StX.bind_star1 (B := fun us => bindArgs (PySem.W.fnOf "graph_at" "graph_at" (defArgs s_graph_at) (defBody s_graph_at) (defScope s_graph_at) .none kV doc pm an cdv ct) ⟨us, []⟩) (fun a => rfl) (fun a r rs => rfl) us rest hl)
  have T_f_graph_atO : Def (gN l.prog w K mg base) "graph_at" 25 (spX K f_graph_atO) := ⟨⟨f11, PySem.W.mg_of X G a11, k11, O_f_graph_atO⟩⟩
  have O_f_Graph_ways : FnOk l.prog w K mg base CX0 2 f23 _ ["self", "commit"] (spX K f_Graph_ways) := fnX (k := 1) F23 sc_Graph_ways (t_Graph_ways B) trivial rfl rfl
  have T_f_Graph_ways : DefM (gN l.prog w K mg base) 1 "ways" 2 (spX K f_Graph_ways) := ⟨by decide +kernel, f23, ⟨by rw [hCGraph]; exact a23, i23, k23⟩, fnr_of O_f_Graph_ways b23⟩
  have O_f_Graph_way : FnOk l.prog w K mg base CX0 3 f24 _ ["self", "one", "other"] (spX K f_Graph_way) := fnX (k := 2) F24 sc_Graph_way (t_Graph_way B) ⟨st_meth T_f_Graph_ways rfl (Nat.le_of_ble_eq_true rfl), trivial⟩ rfl rfl
  have T_f_Graph_way : DefM (gN l.prog w K mg base) 1 "way" 3 (spX K f_Graph_way) := ⟨by decide +kernel, f24, ⟨by rw [hCGraph]; exact a24, i24, k24⟩, fnr_of O_f_Graph_way b24⟩
  have O_f_way : FnOk l.prog w K mg base CX0 26 f14 _ ["graph", "one", "other"] (spX K f_way) := fnX (k := 25) F14 sc_way (t_way B) ⟨st_meth T_f_Graph_way rfl (Nat.le_of_ble_eq_true rfl), st_call T_f_graph_atO rfl (Nat.le_of_ble_eq_true rfl), trivial⟩ rfl rfl
  have T_f_way : Def (gN l.prog w K mg base) "way" 26 (spX K f_way) := ⟨⟨f14, PySem.W.mg_of X G a14, k14, fnr_of O_f_way b14⟩⟩
  have O_f__law_some : FnOk l.prog w K mg base CX0 3 f15 _ ["_law_box_here", "_law_graph_so", "_law_most"] (spX K f__law_some) := fnX (k := 2) F15 sc__law_some (t__law_some B) ⟨st_call T_f__law_take rfl (Nat.le_of_ble_eq_true rfl), st_call T_f__law_take rfl (Nat.le_of_ble_eq_true rfl), trivial⟩ rfl rfl
  have T_f__law_some : Def (gN l.prog w K mg base) "_law_some" 3 (spX K f__law_some) := ⟨⟨f15, PySem.W.mg_of X G a15, k15, fnr_of O_f__law_some b15⟩⟩
  have O_f__law_truth : FnOk l.prog w K mg base CX0 3 f16 _ ["_law_graph_so", "_law_wants_so", "_law_nots_so"] (spX K f__law_truth) := fnX (k := 2) F16 sc__law_truth (t__law_truth B) ⟨st_call T_f__law_had rfl (Nat.le_of_ble_eq_true rfl), st_call T_f__law_had rfl (Nat.le_of_ble_eq_true rfl), trivial⟩ rfl rfl
  have T_f__law_truth : Def (gN l.prog w K mg base) "_law_truth" 3 (spX K f__law_truth) := ⟨⟨f16, PySem.W.mg_of X G a16, k16, fnr_of O_f__law_truth b16⟩⟩
  have O_f_truth : FnOk l.prog w K mg base CX0 26 f17 _ ["graph", "wants", "nots"] (spX K f_truth) := fnX (k := 25) F17 sc_truth (t_truth B) ⟨st_call T_f_graph_at rfl (Nat.le_of_ble_eq_true rfl), st_meth T_f_Graph_had rfl (Nat.le_of_ble_eq_true rfl), st_meth T_f_Graph_had rfl (Nat.le_of_ble_eq_true rfl), trivial⟩ rfl rfl
  have T_f_truth : Def (gN l.prog w K mg base) "truth" 26 (spX K f_truth) := ⟨⟨f17, PySem.W.mg_of X G a17, k17, fnr_of O_f_truth b17⟩⟩
  have K_f_had_0 : DefK (gN l.prog w K mg base) "had" 26 ["commit", "graph"] [1, 0] (spX K f_had) := ⟨⟨f12, _, _, PySem.W.mg_of X G a12, k12, O_f_had, kb_of (ps := ["graph", "commit"]) F12 (by decide) fun _ _ _ _ _ _ ws hl => match ws, hl with | [_, _], _ => rfl⟩⟩
  have K_f_way_1 : DefK (gN l.prog w K mg base) "way" 26 ["other", "one", "graph"] [2, 1, 0] (spX K f_way) := ⟨⟨f14, _, _, PySem.W.mg_of X G a14, k14, O_f_way, kb_of (ps := ["graph", "one", "other"]) F14 (by decide) fun _ _ _ _ _ _ ws hl => match ws, hl with | [_, _, _], _ => rfl⟩⟩
  have K_f_truth_2 : DefK (gN l.prog w K mg base) "truth" 26 ["nots", "wants", "graph"] [2, 1, 0] (spX K f_truth) := ⟨⟨f17, _, _, PySem.W.mg_of X G a17, k17, O_f_truth, kb_of (ps := ["graph", "wants", "nots"]) F17 (by decide) fun _ _ _ _ _ _ ws hl => match ws, hl with | [_, _, _], _ => rfl⟩⟩
  have O_f__law_right_k11 : FnOk l.prog w K mg base CX0 27 f18 _ ["_law_box_here"] (spX K f__law_right_k11) := fnX (k := 26) F18 sc__law_right (t__law_right_k11 B) ⟨st_call T_f__law_graph rfl (Nat.le_of_ble_eq_true rfl), st_call T_f__law_of rfl (Nat.le_of_ble_eq_true rfl), st_call T_f__law_refill rfl (Nat.le_of_ble_eq_true rfl), st_call T_f__law_had rfl (Nat.le_of_ble_eq_true rfl), st_call T_f__law_ways rfl (Nat.le_of_ble_eq_true rfl), st_call T_f_had rfl (Nat.le_of_ble_eq_true rfl), st_callk K_f_had_0 rfl (Nat.le_of_ble_eq_true rfl), st_call T_f__law_same rfl (Nat.le_of_ble_eq_true rfl), st_call T_f__law_same rfl (Nat.le_of_ble_eq_true rfl), st_call T_f_way rfl (Nat.le_of_ble_eq_true rfl), st_call T_f__law_take rfl (Nat.le_of_ble_eq_true rfl), st_call T_f__law_same rfl (Nat.le_of_ble_eq_true rfl), st_callk K_f_way_1 rfl (Nat.le_of_ble_eq_true rfl), st_call T_f_had rfl (Nat.le_of_ble_eq_true rfl), st_call T_f__law_some rfl (Nat.le_of_ble_eq_true rfl), st_call T_f__law_some rfl (Nat.le_of_ble_eq_true rfl), st_call T_f__law_truth rfl (Nat.le_of_ble_eq_true rfl), st_call T_f_truth rfl (Nat.le_of_ble_eq_true rfl), st_callk K_f_truth_2 rfl (Nat.le_of_ble_eq_true rfl), st_call T_f__law_same rfl (Nat.le_of_ble_eq_true rfl), st_call T_f__law_same rfl (Nat.le_of_ble_eq_true rfl), st_call T_f_truth rfl (Nat.le_of_ble_eq_true rfl), st_call T_f__law_lists rfl (Nat.le_of_ble_eq_true rfl), trivial⟩ rfl rfl
  have T_f__law_right_k11 : Def (gN l.prog w K mg base) "_law_right" 27 (spX K f__law_right_k11) := ⟨⟨f18, PySem.W.mg_of X G a18, k18, fnr_of O_f__law_right_k11 b18⟩⟩
  exact fnX (k := 27) F19 sc_law (t_law_k11 B) ⟨st_call T_f__law_cells rfl (Nat.le_of_ble_eq_true rfl), st_call T_f__law_right_k11 rfl (Nat.le_of_ble_eq_true rfl), st_call T_f__law_box rfl (Nat.le_of_ble_eq_true rfl), trivial⟩ rfl rfl
theorem walk {l : PySem.W.OpenLaw} {q : Program} {loose : List Str} {XP : (Str → Option Value) → Heap → Prop} {YP : World → Heap → Prop} {d : DefRec} {K : Params → PySem.W.Frag} (hn : l.most = some 63) (hdf : d.params.defaults = [])
    (hY : ∀ (w : World) (h : Heap), YP w h → (K w.params).In h)
    (F : ∀ (w : World) (mg : Str → Option Value) (fa : Addr) (h : Heap), (K w.params).In h → h.Ns mainGlobals mg → mg d.name = some (.ref fa) →
      ∃ fd : FuncData, (∀ (s : Shared) (u : Value), BindsTo s fd ⟨[u], []⟩ [("_law_script", u)]) ∧ ∀ base : Heap, (K w.params).In base → base.Ns mainGlobals mg → FnOk l.prog w (K w.params) mg base CX0 28 fa fd ["_law_script"] (spX (K w.params) f_law_k11)) :
    PySem.W.WalkO q loose XP YP l.row.toRowW d [] (fun f vs => PySem.call f vs) :=
  L2.walk_of (n := 63) (k := 28) (x := "_law_script") (CX := fun _ => CX0) (sp := fun w => spX (K w.params) f_law_k11) hn (by decide) hdf ⟨rfl, by decide, by decide⟩ hY F (fun _ _ a ns hl _ hS => ⟨_, [], [.val (.scr ns)], [], .s (.val (.bl true)), [], hm_nil _, .cons ⟨a, rfl, hS⟩ .nil, law_k11_true ns, fun v F' As' H' r M' _ _ hr _ hz => by
    obtain ⟨e1, e2⟩ := hz
    subst e1
    exact hr⟩) fun _ _ _ _ _ z => z
end Dl
open PySem PySem.W PyProof.Rows
set_option maxRecDepth 100000 in
set_option maxHeartbeats 0 in
theorem PySem.Challenge.cw_latedates_k11_what_commits_have_holds : PySem.Challenge.rw_latedates_k11_what_commits_have.Holds := by
  w_on; o_law; k_head; (case hw => w_witness2)
  k_fill
  refine Dl.walk (l := PySem.Challenge.rw_latedates_k11_what_commits_have) rfl rfl (fun w h Y => PySem.W.kIn_of Y) ?F
  case F =>
    intro w mg fa h KX G hmg
    refine' Dl.all_mk KX G hmg ?a1 ?l1 ?c1 ?k1 ?a2 ?l2 ?c2 ?k2 ?a3 ?l3 ?c3 ?k3 ?a4 ?l4 ?c4 ?k4 ?a5 ?l5 ?c5 ?k5 ?a6 ?l6 ?c6 ?k6 ?a7 ?l7 ?c7 ?k7 ?a8 ?l8 ?c8 ?k8 ?a9 ?l9 ?c9 ?k9 ?a10 ?l10 ?c10 ?k10 ?a11 ?l11 ?c11 ?k11 ?a12 ?l12 ?c12 ?k12 ?a13 ?l13 ?c13 ?k13 ?a14 ?l14 ?c14 ?k14 ?a15 ?l15 ?c15 ?k15 ?a16 ?l16 ?c16 ?k16 ?a17 ?l17 ?c17 ?k17 ?a18 ?l18 ?c18 ?k18 ?a19 ?l19 ?c19 ?k19 ?aCGraph ?a20 ?i20 ?l20 ?c20 ?k20 ?a21 ?i21 ?l21 ?c21 ?k21 ?a22 ?i22 ?l22 ?c22 ?k22 ?a23 ?i23 ?l23 ?c23 ?k23 ?a24 ?i24 ?l24 ?c24 ?k24 ?pgCGraph ?icCGraph ?poCGraph ?saCGraph ?mkCGraph ?kcCGraph ?sxCGraph0 ?sgCGraph0 ?stCGraph0 ?syCGraph0 ?siCGraph0 ?sxCGraph1 ?sgCGraph1 ?stCGraph1 ?syCGraph1 ?siCGraph1 ?sxCGraph2 ?sgCGraph2 ?stCGraph2 ?syCGraph2 ?siCGraph2 ?z_len ?z_abs ?z_int ?z_tuple ?z_list ?z_sorted ?z_all ?z_any ?z_sum ?z_max ?z_min ?z_set ?z_range ?z_isinstance ?z_bool ?z_str ?z_dict ?z_enumerate ?z_zip ?z_iter ?z_repr
    (case a1 => k_is); (case l1 => k_is); (case c1 => k_is); (case k1 => k_is); (case a2 => k_is); (case l2 => k_is); (case c2 => k_is); (case k2 => k_is); (case a3 => k_is)
    (case l3 => k_is); (case c3 => k_is); (case k3 => k_is); (case a4 => k_is); (case l4 => k_is); (case c4 => k_is); (case k4 => k_is); (case a5 => k_is); (case l5 => k_is)
    (case c5 => k_is); (case k5 => k_is); (case a6 => k_is); (case l6 => k_is); (case c6 => k_is); (case k6 => k_is); (case a7 => k_is); (case l7 => k_is); (case c7 => k_is)
    (case k7 => k_is); (case a8 => k_is); (case l8 => k_is); (case c8 => k_is); (case k8 => k_is); (case a9 => k_is); (case l9 => k_is); (case c9 => k_is); (case k9 => k_is)
    (case a10 => k_is); (case l10 => k_is); (case c10 => k_is); (case k10 => k_is); (case a11 => k_is); (case l11 => k_is); (case c11 => k_is); (case k11 => k_is)
    (case a12 => k_is); (case l12 => k_is); (case c12 => k_is); (case k12 => k_is); (case a13 => k_is); (case l13 => k_is); (case c13 => k_is); (case k13 => k_is)
    (case a14 => k_is); (case l14 => k_is); (case c14 => k_is); (case k14 => k_is); (case a15 => k_is); (case l15 => k_is); (case c15 => k_is); (case k15 => k_is)
    (case a16 => k_is); (case l16 => k_is); (case c16 => k_is); (case k16 => k_is); (case a17 => k_is); (case l17 => k_is); (case c17 => k_is); (case k17 => k_is)
    (case a18 => k_is); (case l18 => k_is); (case c18 => k_is); (case k18 => k_is); (case a19 => k_is); (case l19 => k_is); (case c19 => k_is); (case k19 => k_is)
    (case aCGraph => k_is); (case a20 => k_is); (case i20 => k_is); (case l20 => k_is); (case c20 => k_is); (case k20 => k_is); (case a21 => k_is); (case i21 => k_is)
    (case l21 => k_is); (case c21 => k_is); (case k21 => k_is); (case a22 => k_is); (case i22 => k_is); (case l22 => k_is); (case c22 => k_is); (case k22 => k_is)
    (case a23 => k_is); (case i23 => k_is); (case l23 => k_is); (case c23 => k_is); (case k23 => k_is); (case a24 => k_is); (case i24 => k_is); (case l24 => k_is)
    (case c24 => k_is); (case k24 => k_is); (case pgCGraph => k_is); (case icCGraph => k_is); (case poCGraph => k_is); (case saCGraph => k_is); (case mkCGraph => k_is)
    (case kcCGraph => k_is); (case sxCGraph0 => k_is); (case sgCGraph0 => k_is); (case stCGraph0 => k_is); (case syCGraph0 => k_is); (case siCGraph0 => k_is); (case sxCGraph1 => k_is)
    (case sgCGraph1 => k_is); (case stCGraph1 => k_is); (case syCGraph1 => k_is); (case siCGraph1 => k_is); (case sxCGraph2 => k_is); (case sgCGraph2 => k_is); (case stCGraph2 => k_is)
    (case syCGraph2 => k_is); (case siCGraph2 => k_is); (case z_len => k_is); (case z_abs => k_is); (case z_int => k_is); (case z_tuple => k_is); (case z_list => k_is)
    (case z_sorted => k_is); (case z_all => k_is); (case z_any => k_is); (case z_sum => k_is); (case z_max => k_is); (case z_min => k_is); (case z_set => k_is)
    (case z_range => k_is); (case z_isinstance => k_is); (case z_bool => k_is); (case z_str => k_is); (case z_dict => k_is); (case z_enumerate => k_is); (case z_zip => k_is)
    (case z_iter => k_is); (case z_repr => k_is)
