import PyProof.Rows.All
import Wide.All
import OpenK.AllK
import Wide.FinOn
import HandS.ForMost
import HandS.Walk
import HandS.Strs
import HandS.Conv
import HandS.Evl
import HandS.IsInst
import PySem.Challenge.RW_shiftrow_k08_whole_without_needless_shif
set_option Elab.async false
set_option linter.all false
set_option maxRecDepth 100000
set_option maxHeartbeats 4000000
/-! own rules over the layer: list(text), len(set(text)) -/
namespace SrX
open PySem PySem.Spec PyProof.Rows L2

/-- the text of these signs -/
def tx (l : List Nat) : Str := ⟨l.toArray⟩
/-- one sign as a text -/
abbrev sg (c : Nat) : V := .str ⟨#[c]⟩
def sgs (z : Str) : List V := z.cps.toList.map sg

theorem call_list_sg {X : Cx} (hc : X.calm = true) : CallR X (.type "list") (fun xs H Q => ∃ z : Str, xs = [.str z] ∧ z.length ≤ sizeLine ∧ ∀ q, H q = none → Q (.ref q) (upd H q (.lst (sgs z)))) := by
  intro pins s σ H xs us Q I r h
  obtain ⟨z, rfl, hz, q⟩ := h
  obtain ⟨u, rfl, rx⟩ := vals1 r
  obtain ⟨t, rfl⟩ := rx
  have hzz : z.cps.size ≤ sizeLine := hz
  refine call_list_str (I.ok.hd hc) z t (fun h1 tk acc c1 hk e hi => ?_) hzz
  refine ⟨.ref s.heap.objs.size, upd H s.heap.objs.size (.lst (sgs z)), I.laid hk (Nat.le_refl _) ⟨?_, acc.toList, c1, ?_, ?_⟩, rfl, q _ (I.hok.fresh (Nat.le_refl _))⟩
  · unfold sgs; rw [List.length_map, Array.length_toList]; exact hzz
  · refine vals_of_at (by unfold sgs; rw [List.length_map, Array.length_toList, Array.length_toList]; exact hi.1.symm) fun j x w h3 h4 => ?_
    obtain ⟨c, t2, hc2, rfl⟩ := hi.2 j w (by rw [← Array.getElem?_toList]; exact h4)
    have e3 : (sgs z)[j]? = some (sg c) := by
      unfold sgs
      rw [List.getElem?_map, Array.getElem?_toList, hc2]; rfl
    rw [e3] at h3
    cases h3
    exact ⟨_, rfl⟩
  · rw [Array.toArray_toList]; exact e

/-! ### sets of a text's signs -/
def stS (a : List Str) (x : Str) : List Str := if a.any (· == x) then a else a ++ [x]
def fmS (val : Nat → Str) (i : Nat) : List Str := ((List.range i).map val).foldl stS []
theorem fmS_succ (val : Nat → Str) (i : Nat) : fmS val (i + 1) = stS (fmS val i) (val i) := by
  unfold fmS
  rw [List.range_succ, List.map_append, List.foldl_append]
  rfl
theorem stS_len (a : List Str) (x : Str) : (stS a x).length = if a.any (· == x) then a.length else a.length + 1 := by
  unfold stS
  split <;> simp
theorem fmS_le (val : Nat → Str) : ∀ i, (fmS val i).length ≤ i
  | 0 => Nat.le_refl _
  | i + 1 => by
    have ih := fmS_le val i
    rw [fmS_succ, stS_len]
    split <;> omega
theorem stS_any (a : List Str) (x k : Str) : (stS a x).any (· == k) = (a.any (· == k) || decide (k = x)) := by
  unfold stS
  by_cases h : a.any (· == x) = true
  · rw [if_pos h]
    by_cases e : k = x
    · subst e; rw [h]; simp
    · simp [e]
  · rw [if_neg h, List.any_append]
    by_cases e : k = x
    · subst e; simp
    · have hb : (x == k) = false := by simpa [beq_iff_eq] using (fun z : x = k => e z.symm)
      simp [hb, e]

section
variable {prog : Program} {w : World} {A : Around} {R : Result → Shared → Prop} {I : Addr} {fp wr : List Addr} {G : Array GenState → Array GenState → Prop} {n : Nat} {P : Nat → Value → Prop} {St : Nat → Shared → Prop}
theorem loopSg (W : WalksS prog w A.in1 I fp wr G n P St) (S : Addr) (hSf : S ∉ fp) (val : Nat → Str) (hn : n + 1 < scanBound) (hval : ∀ i v, P i v → ∃ t, v = .str (val i) t) :
    ∀ (k i : Nat) (s : Shared), n - i = k → i ≤ n → St i s → s.heap.SetOf (PySem.strKind prog w) S (fun q => (fmS val i).any (· == q)) (fmS val i).length →
      (∀ s1, Moved (S :: wr) G s s1 → s1.heap.SetOf (PySem.strKind prog w) S (fun q => (fmS val n).any (· == q)) (fmS val n).length → R (.ok (.ret .none)) s1) →
      codeAny (model prog w) A (.builtin "set.update.loop" ⟨[.ref S, .ref I], []⟩) R s := by
  have hSw : S ∉ wr := fun h => hSf (W.sub _ h)
  have hsub : ∀ b ∈ wr, b ∈ S :: wr := fun b hb => List.mem_cons_of_mem _ hb
  intro k
  induction k with
  | zero =>
    intro i s hk hi hst hS hR
    have hin : i = n := by omega
    subst hin
    refine codeAny_builtin PyProof.Rows.F.entry_set_update_loop ?_
    rw [Around.under_plainId PyProof.Rows.F.plain_set_update_loop _]
    show wpAny _ A.in1 (pyNext (.ref I) >>= _) _ _ s
    refine wpAny_bind (W.done s _ _ hst fun s1 hm => ?_)
    show wpAny _ A.in1 (ret Value.none) _ _ s1
    refine wpAny_pure (hR s1 (hm.mono hsub) ?_)
    obtain ⟨o, es, ep, t, ho, r⟩ := hS
    exact ⟨o, es, ep, t, hm.heap S _ hSw ho, r⟩
  | succ k ih =>
    intro i s hk hi hst hS hR
    have hlt : i < n := by omega
    refine codeAny_builtin PyProof.Rows.F.entry_set_update_loop ?_
    rw [Around.under_plainId PyProof.Rows.F.plain_set_update_loop _]
    show wpAny _ A.in1 (pyNext (.ref I) >>= _) _ _ s
    refine wpAny_bind (W.item i s _ _ hlt hst fun v s1 hP hst1 hm => ?_)
    obtain ⟨t, rfl⟩ := hval i v hP
    have hS1 : s1.heap.SetOf (PySem.strKind prog w) S (fun q => (fmS val i).any (· == q)) (fmS val i).length := by
      obtain ⟨o, es, ep, tb, ho, r⟩ := hS
      exact ⟨o, es, ep, tb, hm.heap S _ hSw ho, r⟩
    show wpAny _ A.in1 (holding [Value.str (val i) t] (setAdd S (.str (val i) t)) >>= _) _ _ s1
    refine wpAny_bind (wpAny_holding ?_)
    unfold setAdd
    refine wpAny_holding ?_
    refine wpAny_bind ((PySem.strKind prog w).pyHash (k := val i) (strKind_is _ _ _ _) ?_)
    have hroom : (fmS val i).length + 1 < scanBound := by have := fmS_le val i; omega
    refine wpAny_setAddHashed_of (knd := PySem.strKind prog w) (s := { s1 with toks := s1.toks + 1 }) (strKind_is _ _ _ _) rfl hS1 hroom fun h2 hsb hS2 => ?_
    have hSi : h2.SetOf (PySem.strKind prog w) S (fun q => (fmS val (i + 1)).any (· == q)) (fmS val (i + 1)).length :=
      SetOf_congr hS2 (fun q => by rw [fmS_succ, stS_any]) (by rw [fmS_succ, stS_len])
    refine wpAny_pure ⟨plainId_quiet PyProof.Rows.F.plain_set_update_loop _, ih (i + 1) _ (by omega) hlt (W.frame _ s1 _ _ hst1 (Nat.le_succ _) fun b hb o e => ?_) hSi fun s3 hm3 hS3 => ?_⟩
    · rw [hsb.2 b (fun z : b = S => hSf (by rw [← z]; exact hb))]; exact e
    · refine hR s3 (Moved.trans W.gtrans ((hm.mono hsub).then_heap (Nat.le_succ _) fun b o hb e => ?_) hm3) hS3
      rw [hsb.2 b (fun z : b = S => hb (by rw [z]; exact List.mem_cons_self))]; exact e
end

def valOf (x : Str) : Nat → Str := fun i => ⟨#[x.cps.getD i 0]⟩
section
variable {prog : Program} {w : World} {A : Around} {E : Value → Shared → Prop} {s : Shared}
theorem call_set_text {x : Str} {tk0 : Tok} {Q : Value → Shared → Prop} (hh : A.handled = none) (hb : x.cps.size + 1 < scanBound)
    (h : ∀ (h1 : Heap) (tk : Nat), h1.SetOf (PySem.strKind prog w) s.heap.objs.size (fun q => (fmS (valOf x) x.cps.size).any (· == q)) (fmS (valOf x) x.cps.size).length →
      (∀ b o, b < s.heap.objs.size → s.heap.get? b = some o → h1.get? b = some o) → Q (.ref s.heap.objs.size) { s with heap := h1, toks := tk }) :
    wpAny (model prog w) A (call (.type "set") [.str x tk0]) Q E s := by
  obtain ⟨c, tl, hmro⟩ := PySem.F.called_set.mro
  have hmade := PySem.F.called_set.made
  have hsub := PySem.F.called_set.sub
  refine wpAny_call (codeAny_of_tree ?_)
  show wpAny _ _ (callAny (.type "set") _) _ _ _
  refine wpAny_pure ⟨Code.quiet_builtin _ (by decide +kernel), codeAny_builtin PySem.F.entry_type_call ?_⟩
  rw [Around.under_plain (weight_type_call_type "set" [.str x tk0] []) rfl]
  have h1 := PySem.F.called_set.notType
  have h2 := PySem.F.called_set.canCreate
  have hct := PySem.F.typeCall_set_1 (.str x tk0)
  repeat (any_goals (first | assumption | wp_step))
  refine codeAny_mono (code_set_new_1 (.str x tk0) (E := E) (Q₁ := fun obj s2 => ∃ led : Bool, obj = .ref s.heap.objs.size ∧ s2 = { s with heap := s.heap.push { cls := .type "set", dict := none, data := .set #[] 0 (.fresh 0 0 led) } }) fun led => ⟨led, rfl, rfl⟩) fun r s2 hr => ?_
  cases r with
  | error e => exact hr
  | ok fl =>
    cases fl with
    | ret obj =>
      obtain ⟨led, rfl, rfl⟩ := hr
      have hS : (s.heap.push { cls := .type "set", dict := none, data := .set #[] 0 (.fresh 0 0 led) }).get? s.heap.objs.size = some { cls := .type "set", dict := none, data := .set #[] 0 (.fresh 0 0 led) } := Heap.get?_push_size _ rfl
      have hT : Shared.TypeIs { s with heap := s.heap.push { cls := .type "set", dict := none, data := .set #[] 0 (.fresh 0 0 led) } } (.ref s.heap.objs.size) "set" := ⟨_, hS, rfl⟩
      have hli := PySem.F.called_set.init.lookup
      have hbi := PySem.F.called_set.init.bind (.ref s.heap.objs.size)
      repeat (any_goals (first | assumption | wp_step))
      refine codeAny_mono (codeAny_call_builtin (R := wants (fun r s3 => r = .none ∧ ∃ h3 tk, s3 = { s with heap := h3, toks := tk } ∧
          h3.SetOf (PySem.strKind prog w) s.heap.objs.size (fun q => (fmS (valOf x) x.cps.size).any (· == q)) (fmS (valOf x) x.cps.size).length ∧
          (∀ b o, b < s.heap.objs.size → s.heap.get? b = some o → h3.get? b = some o)) E) PySem.F.called_set.init.plain PySem.F.entry_set_init (check_set_init_1 hT ?_)) fun r3 s3 hr3 => ?_
      · have hs1 := PySem.F.sub_str_set
        have hs2 := PySem.F.sub_str_frozenset
        have hne : (Value.type "str" == Value.type "dict") = false := by decide
        have hTx : Shared.TypeIs { s with heap := s.heap.push { cls := .type "set", dict := none, data := .set #[] 0 (.fresh 0 0 led) } } (.str x tk0) "str" := rfl
        unfold Builtin.«set.__init__» noKeywords Builtin.Frozenset.updateFrom
        generalize hPI : pyIter = PI
        wp_walk
        subst hPI
        refine wpAny_pyIter_str fun oI St W st0 => ?_
        refine wpAny_bind (wpAny_runValue ?_)
        have hh3 : A.in1.in1.in1.handled = none := by simp [hh]
        have hSf : s.heap.objs.size ∉ [(s.heap.push { cls := .type "set", dict := none, data := .set #[] 0 (.fresh 0 0 led) }).objs.size] := by
          rw [Heap.size_push]
          simp only [List.mem_cons, List.not_mem_nil, or_false]
          exact Nat.ne_of_lt (Nat.lt_succ_self _)
        have hval : ∀ (i : Nat) (v : Value), SignAt x i v → ∃ t, v = .str (valOf x i) t := fun i v ⟨c, u, hc, hv⟩ => ⟨u, by
          rw [hv]
          unfold valOf
          rw [Array.getD_eq_getD_getElem?, hc]
          rfl⟩
        refine loopSg ((W _ hh3).toS) s.heap.objs.size hSf (valOf x) hb hval (x.cps.size - 0) 0 _ (by omega) (Nat.zero_le _) st0 ?hS0 ?hR
        case hS0 =>
          have hget : ((s.heap.push { cls := .type "set", dict := none, data := .set #[] 0 (.fresh 0 0 led) }).push oI).get? s.heap.objs.size
              = some { cls := .type "set", dict := none, data := .set #[] 0 (.fresh 0 0 led) } := Heap.get?_push_of_some _ hS
          exact PyProof.Rows.SetOf_congr ((PyProof.Rows.setObjOf_fresh (knd := PySem.strKind prog w) led).setOf hget (by unfold scanBound; omega)) (fun _ => rfl) rfl
        case hR =>
          intro s4 hm hS4
          obtain ⟨h4, g4, d4, tk4, os4⟩ := s4
          have eg : g4 = s.gens := hm.gens
          have ed : d4 = s.drawn := hm.drawn
          have eo : os4 = s.os := hm.os
          subst eg; subst ed; subst eo
          show wpAny _ _ _ _ _ _
          refine wpAny_pure ?_
          show wpAny _ _ (ret Value.none) _ _ _
          refine wpAny_pure ⟨rfl, h4, tk4, rfl, hS4, fun b o hb e => ?_⟩
          have hb1 : b ≠ s.heap.objs.size := Nat.ne_of_lt hb
          have hb2 : b ≠ (s.heap.push { cls := .type "set", dict := none, data := .set #[] 0 (.fresh 0 0 led) }).objs.size := by
            rw [Heap.size_push]; exact Nat.ne_of_lt (Nat.lt_succ_of_lt hb)
          exact hm.heap b o (by simp only [List.mem_cons, List.mem_singleton, List.not_mem_nil, or_false, not_or]; exact ⟨hb1, hb2⟩) (Heap.get?_push_of_some _ (Heap.get?_push_of_some _ e))
      · cases r3 with
        | error e => exact hr3
        | ok fl3 =>
          cases fl3 with
          | ret r =>
            obtain ⟨rfl, h3, tk, rfl, hS3, hk3⟩ := hr3
            repeat (any_goals (first | assumption | wp_step))
            exact h _ _ hS3 hk3
          | _ => exact hr3.elim
    | _ => exact hr.elim
end

/-- how many signs of a text differ -/
def dd (l : List Nat) : Nat := (fmS (valOf (tx l)) l.length).length
def tLenSg (ta : TE) : TE := fun σ H Q => ta σ H fun x H1 => ∃ l : List Nat, x = .str (tx l) ∧ l.length ≤ 1000 ∧ Q (.int (dd l : Nat)) H1
theorem pe_lenSg {X : Cx} {a : Expr} {ta : TE} {p p2 q pos : Pos} (hc : X.calm = true) (hm : X.mg "len" = none) (hm2 : X.mg "set" = none) (ha : PE X a ta) (hg : Gl X "len" := by rfl) (hg2 : Gl X "set" := by rfl)
    (na : starEach [a] X.env = (false, eval a X.env) :: starEach [] X.env := by rfl) : PE X (.Call (.Name "len" p) [.Call (.Name "set" p2) [a] [] q] [] pos) (tLenSg ta) := by
  refine ⟨fun pins s σ H Q I h => ?_⟩
  refine Call_ (ld_blt I hg hm boot_len ?_)
  refine PyProof.Rows.callWith_builtin1 (PyProof.Rows.args_cons ?_ rfl) rfl rfl
  refine Call_ (ld_blt I hg2 hm2 boot_set ?_)
  refine PyProof.Rows.callWith_type1 (PyProof.Rows.args_cons (thn (ha.run pins s σ H _ I h) fun v s1 ⟨x, H1, I1, r1, q1⟩ => PyProof.Rows.args_nil ?_) na) na rfl
  obtain ⟨l, rfl, hl, q1⟩ := q1
  obtain ⟨t, rfl⟩ := r1
  have hz : (tx l).cps.size = l.length := by unfold tx; simp
  refine call_set_text (I1.ok.hd hc) (by rw [hz]; unfold scanBound; omega) fun h2 tk hS hk => ?_
  refine PyProof.Rows.args_nil ?_
  rw [hz] at hS
  obtain ⟨o, es, ep, t2, ho, hex, hd, r0, r2, r3, hf, hn⟩ := hS
  have I2 : Inv X pins σ H1 { s1 with heap := h2, toks := tk } := I1.kept fun b o e => hk b o (Heap.lt_size e) e
  have hle := fmS_le (valOf (tx l)) l.length
  refine call_len_set ho hex hd hf (by rw [hn]; omega) ⟨.int (dd l : Nat), H1, I2.tok _, ⟨_, by rw [hn]; rfl⟩, q1⟩

theorem any_of_mem {val : Nat → Str} : ∀ (i j : Nat), j < i → (fmS val i).any (· == val j) = true
  | 0, j, h => absurd h (Nat.not_lt_zero _)
  | i + 1, j, h => by
    rw [fmS_succ, stS_any]
    by_cases e : j = i
    · subst e; simp
    · rw [any_of_mem i j (by omega)]; rfl
theorem mem_of_any {val : Nat → Str} (k : Str) : ∀ (i : Nat), (fmS val i).any (· == k) = true → ∃ j, j < i ∧ k = val j
  | 0, h => by simp [fmS] at h
  | i + 1, h => by
    rw [fmS_succ, stS_any, Bool.or_eq_true] at h
    rcases h with h | h
    · obtain ⟨j, hj, e⟩ := mem_of_any k i h
      exact ⟨j, by omega, e⟩
    · exact ⟨i, by omega, of_decide_eq_true h⟩
theorem fmS_full {val : Nat → Str} : ∀ (i : Nat), (fmS val i).length = i ↔ ∀ a b, a < b → b < i → val a ≠ val b
  | 0 => ⟨fun _ a b h1 h2 => absurd h2 (Nat.not_lt_zero _), fun _ => rfl⟩
  | i + 1 => by
    have ih := fmS_full (val := val) i
    have le := fmS_le val i
    rw [fmS_succ, stS_len]
    constructor
    · intro h a b hab hb
      split at h
      · omega
      · rename_i hn
        have hfull : (fmS val i).length = i := by omega
        by_cases e : b = i
        · subst e
          intro z
          apply hn
          rw [← z]
          exact any_of_mem b a hab
        · exact ih.mp hfull a b hab (by omega)
    · intro h
      have hfull : (fmS val i).length = i := ih.mpr fun a b hab hb => h a b hab (by omega)
      split
      · rename_i hn
        obtain ⟨j, hj, e⟩ := mem_of_any (val i) i hn
        exact absurd e.symm (h j i hj (Nat.lt_succ_self _))
      · omega
theorem valOf_at {l : List Nat} {i : Nat} (hi : i < l.length) : valOf (tx l) i = ⟨#[l[i]]⟩ := by
  unfold valOf tx
  rw [Array.getD_eq_getD_getElem?, List.getElem?_toArray, List.getElem?_eq_getElem hi]
  rfl
theorem one_inj {a b : Nat} (h : (⟨#[a]⟩ : Str) = ⟨#[b]⟩) : a = b := by
  have h2 := congrArg (fun s : Str => s.cps.toList) h
  simpa using h2
theorem dd_full (l : List Nat) : dd l = l.length ↔ l.Nodup := by
  unfold dd
  rw [fmS_full]
  show _ ↔ List.Pairwise (· ≠ ·) l
  rw [List.pairwise_iff_getElem]
  constructor
  · intro h i j hi hj hij z
    refine h i j hij hj ?_
    rw [valOf_at hi, valOf_at hj, z]
  · intro h i j hij hj z
    have hi : i < l.length := by omega
    rw [valOf_at hi, valOf_at hj] at z
    exact h i j hi hj hij (one_inj z)
theorem dd_le (l : List Nat) : dd l ≤ l.length := fmS_le _ _
end SrX
/-! walking over what is known of the heap: F is known, the dice's list d apart -/
namespace Sr
open PySem PySem.Spec PyProof.Rows L2 SrX

abbrev Ex (H H1 : Hp) : Prop := L2.Same H H1
theorem exr (H : Hp) : Ex H H := Same.refl H
theorem ex_new {H : Hp} {p : Addr} {u : HO} (h : H p = none) : Ex H (upd H p u) := fun b o e => by
  rw [upd_ne (ne_of_none e h)]; exact e
theorem ex_mut {H H1 : Hp} {p : Addr} {u : HO} (e : Ex H H1) (h : H p = none) : Ex H (upd H1 p u) := fun b o q => by
  rw [upd_ne (ne_of_none q h)]; exact e b o q
theorem ex_upd {H H1 : Hp} {p : Addr} {u : HO} (e : Ex H H1) : Ex (upd H p u) (upd H1 p u) := fun b o q => by
  by_cases hb : b = p
  · subst hb; rw [upd_same] at q ⊢; exact q
  · rw [upd_ne hb] at q ⊢; exact e b o q
theorem ex_l {K : PySem.W.Frag} {H H1 : Hp} {a : Addr} {xs : List V} (e : Ex H H1) (h : SqL K H a xs) : SqL K H1 a xs := e.seq h
theorem ex_t {K : PySem.W.Frag} {H H1 : Hp} {a : Addr} {xs : List V} (e : Ex H H1) (h : SqT K H a xs) : SqT K H1 a xs := by
  rcases h with (h | ⟨o, h⟩) | h
  · exact .inl (.inl (e _ _ h))
  · exact .inl (.inr ⟨o, e _ _ h⟩)
  · exact .inr h
theorem sz {n : Nat} (h : n ≤ 100000) : n ≤ sizeLine := Nat.le_trans h (by decide)
theorem sz1 {n : Nat} (h : n < 100000) : n < sizeLine := Nat.lt_of_lt_of_le h (by decide)

/-- a list of dice stands at d -/
def Dc (H : Hp) (d : Addr) : Prop := ∃ ns : List Int, H d = some (.lst (ns.map V.int)) ∧ 2 ≤ ns.length ∧ ns.length ≤ 70
structure Wd (o : Option Addr) (F H : Hp) : Prop where
  ex : Ex F H
  dc : ∀ d, o = some d → F d = none ∧ Dc H d
theorem Dc.ex {H H1 : Hp} {d : Addr} (h : Dc H d) (e : Ex H H1) : Dc H1 d := by
  obtain ⟨ns, h1, h2⟩ := h
  exact ⟨ns, e _ _ h1, h2⟩
section
variable {o : Option Addr} {F F1 H H1 : Hp} {p : Addr} {u : HO}
theorem Wd.up (w : Wd o F H) (e : Ex H H1) : Wd o F H1 := ⟨w.ex.trans e, fun d h => ⟨(w.dc d h).1, (w.dc d h).2.ex e⟩⟩
theorem Wd.down (w : Wd o F H) (e : Ex F1 F) : Wd o F1 H := ⟨e.trans w.ex, fun d h => ⟨e.free (w.dc d h).1, (w.dc d h).2⟩⟩
theorem Wd.fr (w : Wd o F H) (n : H p = none) : F p = none := w.ex.free n
theorem Wd.ned (w : Wd o F H) (n : H p = none) : ∀ d, o = some d → d ≠ p := fun d h => by
  obtain ⟨ns, h1, _⟩ := (w.dc d h).2
  exact ne_of_none h1 n
theorem Wd.new (w : Wd o F H) (n : H p = none) (e : Ex H H1) (h : H1 p = some u) : Wd o (upd F p u) H1 := by
  refine ⟨fun b v q => ?_, fun d hd => ⟨?_, (w.dc d hd).2.ex e⟩⟩
  · by_cases hb : b = p
    · subst hb; rw [upd_same] at q; rw [← q]; exact h
    · rw [upd_ne hb] at q; exact e _ _ (w.ex _ _ q)
  · rw [upd_ne (w.ned n d hd)]; exact (w.dc d hd).1
theorem Wd.new1 (w : Wd o F H) (n : H p = none) : Wd o (upd F p u) (upd H p u) := w.new n (ex_new n) upd_same
theorem Wd.mut {v : HO} (w : Wd o F H) (h : F p = some v) : Wd o (upd F p u) (upd H p u) := by
  refine ⟨ex_upd w.ex, fun d hd => ?_⟩
  obtain ⟨f, ns, h1, h2⟩ := w.dc d hd
  have ne : d ≠ p := fun z => by rw [z, h] at f; cases f
  exact ⟨by rw [upd_ne ne]; exact f, ns, by rw [upd_ne ne]; exact h1, h2⟩
theorem Wd.l {K : PySem.W.Frag} {a : Addr} {xs : List V} (w : Wd o F H) (h : SqL K F a xs) : SqL K H a xs := ex_l w.ex h
theorem Wd.t {K : PySem.W.Frag} {a : Addr} {xs : List V} (w : Wd o F H) (h : SqT K F a xs) : SqT K H a xs := ex_t w.ex h
theorem Wd.bare (e : Ex F H) : Wd none F H := ⟨e, fun d h => by cases h⟩
end

def Wp {α : Type} (o : Option Addr) (k : Hp → (α → Hp → Prop) → Prop) (F : Hp) (P : α → Hp → Prop) : Prop :=
  ∀ H, Wd o F H → ∀ Q : α → Hp → Prop, (∀ v H1 F1, Wd o F1 H1 → P v F1 → Q v H1) → k H Q
def Go (o : Option Addr) (t : TS) (D : Ends) (σ : L2.St) (F : Hp) : Prop := ∀ H, Wd o F H → t D σ H
/-- what holds behind a turn -/
def Cl (o : Option Addr) (P : L2.St → Hp → Prop) : L2.St → Hp → Prop := fun σ H => ∃ F, Wd o F H ∧ P σ F

section
variable {o : Option Addr} {F : Hp} {σ : L2.St} {K : PySem.W.Frag} {α : Type}
theorem Wp.imp {k : Hp → (α → Hp → Prop) → Prop} {P P1 : α → Hp → Prop} (h : Wp o k F P1) (i : ∀ v F1, P1 v F1 → P v F1) : Wp o k F P := fun H w Q q => h H w Q fun v H1 F1 w1 p => q v H1 F1 w1 (i v F1 p)
theorem go_of {t : TS} {D : Ends} {H : Hp} (g : Go none t D σ H) : t D σ H := g H (Wd.bare (exr H))

theorem go_st {t : TS} {D : Ends} {H : Hp} {σ0 : L2.St} (e : σ0 = σ) (g : Go none t D σ H) : t D σ0 H := by subst e; exact go_of g

/-! ### expressions -/
variable {P : V → Hp → Prop} {ta tb tc te : TE} {x y z v : V} {r r2 : R2}
theorem wp_var {i : Nat} (h : σ[i]? = some (some v)) (q : P v F) : Wp o (tVar i σ) F P := fun H w Q k => ⟨v, h, k v H F w q⟩
theorem wp_c (q : P v F) : Wp o (tC v σ) F P := fun H w Q k => k v H F w q
theorem wp_op (h : Wp o (ta σ) F fun x F1 => Wp o (tb σ) F1 fun y F2 => Wp o (r x y) F2 P) : Wp o (tOp r ta tb σ) F P := fun H w Q k =>
  h H w _ fun x H1 F1 w1 h1 => h1 H1 w1 _ fun y H2 F2 w2 h2 => h2 H2 w2 Q k
theorem wp_un {r : V → Hp → VK → Prop} (h : Wp o (ta σ) F fun x F1 => Wp o (r x) F1 P) : Wp o (tUn r ta σ) F P := fun H w Q k =>
  h H w _ fun x H1 F1 w1 h1 => h1 H1 w1 Q k
theorem wp_chain (h : Wp o (ta σ) F fun x F1 => Wp o (tb σ) F1 fun y F2 => Wp o (r x y) F2 fun z F3 => ∃ k, z = .bl k ∧ (k = true → Wp o (tc σ) F3 fun w F4 => Wp o (r2 y w) F4 P) ∧ (k = false → P (.bl false) F3)) :
    Wp o (tChain r r2 ta tb tc σ) F P := fun H w Q k =>
  h H w _ fun x H1 F1 w1 h1 => h1 H1 w1 _ fun y H2 F2 w2 h2 => h2 H2 w2 _ fun z H3 F3 w3 ⟨b, e, ht, hf⟩ => ⟨b, e, by
    cases b with
    | true => rw [if_pos rfl]; exact ht rfl H3 w3 _ fun x4 H4 F4 w4 h4 => h4 H4 w4 Q k
    | false => rw [if_neg Bool.false_ne_true]; exact k _ H3 F3 w3 (hf rfl)⟩
theorem wp_ifE {tt : TT} (h : Wp o (tt σ) F fun b F1 => (b = true → Wp o (ta σ) F1 P) ∧ (b = false → Wp o (tb σ) F1 P)) : Wp o (tIf tt ta tb σ) F P := fun H w Q k =>
  h H w _ fun b H1 F1 w1 ⟨h1, h2⟩ => by
    cases b with
    | true => rw [if_pos rfl]; exact h1 rfl H1 w1 Q k
    | false => rw [if_neg Bool.false_ne_true]; exact h2 rfl H1 w1 Q k
theorem wp_andV (h : Wp o (ta σ) F fun x F1 => ∃ c, x = .bl c ∧ (c = true → Wp o (tb σ) F1 P) ∧ (c = false → P (.bl false) F1)) : Wp o (tAndV ta tb σ) F P := fun H w Q k =>
  h H w _ fun x H1 F1 w1 ⟨c, e, h1, h2⟩ => ⟨c, e, by
    cases c with
    | true => rw [if_pos rfl]; exact h1 rfl H1 w1 Q k
    | false => rw [if_neg Bool.false_ne_true]; exact k _ H1 F1 w1 (h2 rfl)⟩
theorem wp_orV (h : Wp o (ta σ) F fun x F1 => ∃ c, x = .bl c ∧ (c = true → P (.bl true) F1) ∧ (c = false → Wp o (tb σ) F1 P)) : Wp o (tOrV ta tb σ) F P := fun H w Q k =>
  h H w _ fun x H1 F1 w1 ⟨c, e, h1, h2⟩ => ⟨c, e, by
    cases c with
    | true => rw [if_pos rfl]; exact k _ H1 F1 w1 (h1 rfl)
    | false => rw [if_neg Bool.false_ne_true]; exact h2 rfl H1 w1 Q k⟩
theorem wp_notV (h : Wp o (ta σ) F fun x F1 => ∃ c, x = .bl c ∧ P (.bl (!c)) F1) : Wp o (tNotV ta σ) F P := fun H w Q k =>
  h H w _ fun x H1 F1 w1 ⟨c, e, h1⟩ => ⟨c, e, k _ H1 F1 w1 h1⟩
/-! tests -/
variable {T : Bool → Hp → Prop} {tt tu : TT}
theorem wp_test (h : Wp o (te σ) F fun x F1 => ∃ k, x = .bl k ∧ T k F1) : Wp o (tTest te σ) F T := fun H w Q k => h H w _ fun x H1 F1 w1 ⟨b, e, p⟩ => ⟨b, e, k b H1 F1 w1 p⟩
theorem wp_B (h : Wp o (te σ) F fun x F1 => ∃ k, x = .bl k ∧ T k F1) : Wp o (tB te σ) F T := fun H w Q k => h H w _ fun x H1 F1 w1 ⟨b, e, p⟩ => ⟨b, e, k b H1 F1 w1 p⟩
theorem wp_and (h : Wp o (tt σ) F fun b F1 => (b = true → Wp o (tu σ) F1 T) ∧ (b = false → T false F1)) : Wp o (tAnd tt tu σ) F T := fun H w Q k =>
  h H w _ fun b H1 F1 w1 ⟨h1, h2⟩ => by
    cases b with
    | true => rw [if_pos rfl]; exact h1 rfl H1 w1 Q k
    | false => rw [if_neg Bool.false_ne_true]; exact k _ H1 F1 w1 (h2 rfl)
theorem wp_or (h : Wp o (tt σ) F fun b F1 => (b = true → T true F1) ∧ (b = false → Wp o (tu σ) F1 T)) : Wp o (tOr tt tu σ) F T := fun H w Q k =>
  h H w _ fun b H1 F1 w1 ⟨h1, h2⟩ => by
    cases b with
    | true => rw [if_pos rfl]; exact k _ H1 F1 w1 (h1 rfl)
    | false => rw [if_neg Bool.false_ne_true]; exact h2 rfl H1 w1 Q k
/-- and, or: one way for both noes (yeses) -/
theorem wp_andS {X Y : Hp → Prop} (R : Hp → Prop) (h : Wp o (tt σ) F fun b F1 => R F1 ∧ (b = true → Wp o (tu σ) F1 fun c F2 => R F2 ∧ (c = true → X F2))) (e : ∀ F1, R F1 → Y F1) :
    Wp o (tAnd tt tu σ) F fun b F1 => (b = true → X F1) ∧ (b = false → Y F1) := fun H w Q k => h H w _ fun b H1 F1 w1 ⟨r, h1⟩ => by
  cases b with
  | true => rw [if_pos rfl]; exact h1 rfl H1 w1 Q fun c H2 F2 w2 ⟨r2, x⟩ => k c H2 F2 w2 ⟨x, fun _ => e F2 r2⟩
  | false => rw [if_neg Bool.false_ne_true]; exact k _ H1 F1 w1 ⟨fun z => (by cases z), fun _ => e F1 r⟩
theorem wp_orS {X Y : Hp → Prop} (R : Hp → Prop) (h : Wp o (tt σ) F fun b F1 => R F1 ∧ (b = false → Wp o (tu σ) F1 fun c F2 => R F2 ∧ (c = false → Y F2))) (e : ∀ F1, R F1 → X F1) :
    Wp o (tOr tt tu σ) F fun b F1 => (b = true → X F1) ∧ (b = false → Y F1) := fun H w Q k => h H w _ fun b H1 F1 w1 ⟨r, h1⟩ => by
  cases b with
  | true => rw [if_pos rfl]; exact k _ H1 F1 w1 ⟨fun _ => e F1 r, fun z => (by cases z)⟩
  | false => rw [if_neg Bool.false_ne_true]; exact h1 rfl H1 w1 Q fun c H2 F2 w2 ⟨r2, x⟩ => k c H2 F2 w2 ⟨fun _ => e F2 r2, x⟩
theorem wp_not (h : Wp o (tt σ) F fun b F1 => T (!b) F1) : Wp o (tNot tt σ) F T := fun H w Q k => h H w _ fun b H1 F1 w1 p => k _ H1 F1 w1 p
theorem wp_yes (q : T true F) : Wp o (tYes σ) F T := fun H w Q k => k _ H F w q
/-! arguments, displays, calls -/
variable {L : List V → Hp → Prop} {tl tr : TA}
theorem wp_nil (q : L [] F) : Wp o (tNil σ) F L := fun H w Q k => k _ H F w q
theorem wp_cons (h : Wp o (ta σ) F fun x F1 => Wp o (tr σ) F1 fun xs F2 => L (x :: xs) F2) : Wp o (tCons ta tr σ) F L := fun H w Q k =>
  h H w _ fun x H1 F1 w1 h1 => h1 H1 w1 _ fun xs H2 F2 w2 h2 => k _ H2 F2 w2 h2
theorem wp_tup (h : Wp o (tl σ) F fun vs F1 => vs.length ≤ 100000 ∧ ∀ p, F1 p = none → P (.ref p) (upd F1 p (.tup vs))) : Wp o (tTup tl σ) F P := fun H w Q k =>
  h H w _ fun vs H1 F1 w1 ⟨hl, h1⟩ => ⟨sz hl, fun p hp => k _ _ _ (w1.new1 hp) (h1 p (w1.fr hp))⟩
theorem wp_lst (h : Wp o (tl σ) F fun vs F1 => vs.length ≤ 100000 ∧ ∀ p, F1 p = none → P (.ref p) (upd F1 p (.lst vs))) : Wp o (tLst tl σ) F P := fun H w Q k =>
  h H w _ fun vs H1 F1 w1 ⟨hl, h1⟩ => ⟨sz hl, fun p hp => k _ _ _ (w1.new1 hp) (h1 p (w1.fr hp))⟩
theorem wp_call {sp : Sp} {dvs : List V} {E : XK} (h : Wp o (tl σ) F fun vs F1 => Wp o (fun H Q => sp (vs ++ dvs) H Q E) F1 P) : Wp o (tCall sp dvs E tl σ) F P := fun H w Q k =>
  h H w _ fun vs H1 F1 w1 h1 => h1 H1 w1 Q k
theorem wp_cb {r : List V → Hp → VK → Prop} (h : Wp o (tl σ) F fun vs F1 => Wp o (r vs) F1 P) : Wp o (tCB r tl σ) F P := fun H w Q k =>
  h H w _ fun vs H1 F1 w1 h1 => h1 H1 w1 Q k
/-- x.m(..), x a list -/
theorem wp_bmL {r : V → List V → Hp → VK → Prop} (h : Wp o (ta σ) F fun x F1 => ∃ a xs, x = .ref a ∧ SqL K F1 a xs ∧ Wp o (tl σ) F1 fun vs F2 => Wp o (r (.ref a) vs) F2 P) : Wp o (tBM K "list" r ta tl σ) F P := fun H w Q k =>
  h H w _ fun x H1 F1 w1 ⟨a, xs, e, hs, h1⟩ => by
    subst e
    exact ⟨.inl ⟨rfl, xs, w1.l hs⟩, h1 H1 w1 _ fun vs H2 F2 w2 h2 => h2 H2 w2 Q k⟩
theorem wp_bm0L {r : V → List V → Hp → VK → Prop} (h : Wp o (ta σ) F fun x F1 => ∃ a xs, x = .ref a ∧ SqL K F1 a xs ∧ Wp o (r (.ref a) []) F1 P) : Wp o (tBM0 K "list" r ta σ) F P := fun H w Q k =>
  h H w _ fun x H1 F1 w1 ⟨a, xs, e, hs, h1⟩ => by
    subst e
    exact ⟨.inl ⟨rfl, xs, w1.l hs⟩, h1 H1 w1 Q k⟩
theorem wp_m1 {r : V → List V → Hp → VK → Prop} (h : Wp o (ta σ) F fun x F1 => (∃ a, x = .str a) ∧ Wp o (tb σ) F1 fun y F2 => Wp o (r x [y]) F2 P) : Wp o (tM1 r ta tb σ) F P := fun H w Q k =>
  h H w _ fun x H1 F1 w1 ⟨e, h1⟩ => ⟨e, h1 H1 w1 _ fun y H2 F2 w2 h2 => h2 H2 w2 Q k⟩
theorem wp_bmS {r : V → List V → Hp → VK → Prop} (h : Wp o (ta σ) F fun x F1 => ∃ a, x = .str a ∧ Wp o (tl σ) F1 fun vs F2 => Wp o (r x vs) F2 P) : Wp o (tBM K "str" r ta tl σ) F P := fun H w Q k =>
  h H w _ fun x H1 F1 w1 ⟨a, e, h1⟩ => by
    subst e
    exact ⟨rfl, h1 H1 w1 _ fun vs H2 F2 w2 h2 => h2 H2 w2 Q k⟩
/-! slices -/
variable {O : Option Int → Hp → Prop}
theorem wp_noPart (q : O none F) : Wp o (tNoPart σ) F O := fun H w Q k => k _ H F w q
theorem wp_part (h : Wp o (te σ) F fun x F1 => ∃ i, x = .int i ∧ O (some i) F1) : Wp o (tPart te σ) F O := fun H w Q k => h H w _ fun x H1 F1 w1 ⟨i, e, p⟩ => ⟨i, e, k _ H1 F1 w1 p⟩
theorem wp_sl {r : V → Option Int → Option Int → Hp → VK → Prop} {ll lh : TO} (h : Wp o (te σ) F fun x F1 => Wp o (ll σ) F1 fun a F2 => Wp o (lh σ) F2 fun b F3 => Wp o (r x a b) F3 P) : Wp o (tSl r te ll lh σ) F P := fun H w Q k =>
  h H w _ fun x H1 F1 w1 h1 => h1 H1 w1 _ fun a H2 F2 w2 h2 => h2 H2 w2 _ fun b H3 F3 w3 h3 => h3 H3 w3 Q k

/-! ### operators by values -/
def rAddP : R2 := fun x y H Q => rI0 (fun i j => .int (i + j)) x y H Q ∨ (∃ i j, x = .str i ∧ y = .str j ∧ i.length + j.length ≤ sizeLine ∧ Q (.str (i ++ j)) H) ∨ rCat x y H Q
theorem op_addP {X : Cx} : OpR X (binaryOp .Add) rAddP := op_add.or (op_add_str.or op_cat)
theorem wp_addI {i j : Int} (q : P (.int (i + j)) F) : Wp o (rAddP (.int i) (.int j)) F P := fun H w Q k => .inl ⟨i, j, rfl, rfl, k _ H F w q⟩
theorem tx_app (a b : List Nat) : tx a ++ tx b = tx (a ++ b) := by
  show (⟨a.toArray ++ b.toArray⟩ : Str) = ⟨(a ++ b).toArray⟩
  simp
theorem tx_len (a : List Nat) : (tx a).length = a.length := by
  show a.toArray.size = a.length
  simp
theorem wp_addS {i j : List Nat} (h : i.length + j.length ≤ 100000) (q : P (.str (tx (i ++ j))) F) : Wp o (rAddP (.str (tx i)) (.str (tx j))) F P := fun H w Q k =>
  .inr (.inl ⟨tx i, tx j, rfl, rfl, by rw [tx_len, tx_len]; exact sz h, by rw [tx_app]; exact k _ H F w q⟩)
theorem wp_addL {a b : Addr} {xs ys : List V} (ha : F a = some (.lst xs)) (hb : F b = some (.lst ys)) (h : xs.length + ys.length ≤ 100000) (q : ∀ p, F p = none → P (.ref p) (upd F p (.lst (xs ++ ys)))) : Wp o (rAddP (.ref a) (.ref b)) F P := fun H w Q k =>
  .inr (.inr ⟨a, b, xs, ys, rfl, rfl, w.ex _ _ ha, w.ex _ _ hb, sz h, fun p hp => k _ _ _ (w.new1 hp) (q p (w.fr hp))⟩)
def rMulP : R2 := fun x y H Q => rI CMul (fun i j => .int (i * j)) x y H Q ∨ rRep x y H Q
theorem op_mulP {X : Cx} : OpR X (binaryOp .Mult) rMulP := op_mul.or op_rep
theorem wp_mulI {i j : Int} (h : CMul i j) (q : P (.int (i * j)) F) : Wp o (rMulP (.int i) (.int j)) F P := fun H w Q k => .inl ⟨i, j, rfl, rfl, h, k _ H F w q⟩
theorem wp_rep {a : Addr} {n : Nat} {xs : List V} (ha : F a = some (.lst xs)) (h : xs.length * n ≤ 100000) (hn : n ≤ 100000) (q : ∀ p, F p = none → P (.ref p) (upd F p (.lst (List.replicate n xs).flatten))) : Wp o (rMulP (.ref a) (.int (n : Int))) F P := fun H w Q k =>
  .inr ⟨a, n, xs, rfl, rfl, w.ex _ _ ha, by omega, by omega, by rw [Int.toNat_natCast]; exact sz h, fun p hp => by
    rw [Int.toNat_natCast]
    exact k _ _ _ (w.new1 hp) (q p (w.fr hp))⟩
abbrev rSub : R2 := rI0 fun i j => .int (i - j)
abbrev rLt : R2 := rI0 fun i j => .bl (decide (i < j))
abbrev rLe : R2 := rI0 fun i j => .bl (decide (i ≤ j))
theorem wp_i0 {g : Int → Int → V} {i j : Int} (q : P (g i j) F) : Wp o (rI0 g (.int i) (.int j)) F P := fun H w Q k => ⟨i, j, rfl, rfl, k _ H F w q⟩
theorem wp_i {C : Int → Int → Prop} {g : Int → Int → V} {i j : Int} (h : C i j) (q : P (g i j) F) : Wp o (rI C g (.int i) (.int j)) F P := fun H w Q k => ⟨i, j, rfl, rfl, h, k _ H F w q⟩
theorem wp_u {g : Int → V} {i : Int} (q : P (g i) F) : Wp o (rU g (.int i)) F P := fun H w Q k => ⟨i, rfl, k _ H F w q⟩
def rEqP (K : PySem.W.Frag) : R2 := fun x y H Q => rEq x y H Q ∨ rEqD K x y H Q
def rNeP (K : PySem.W.Frag) : R2 := fun x y H Q => rNe x y H Q ∨ rNeD K x y H Q
theorem op_eqP {X : Cx} (hu : X.A.units + 64 < cLine) : OpR X (compareOp .Eq) (rEqP X.K) := op_eq.or (op_eqD hu)
theorem op_neP {X : Cx} (hu : X.A.units + 64 < cLine) : OpR X (compareOp .NotEq) (rNeP X.K) := op_ne.or (op_neD hu)
theorem decI {i j : Int} : decide (V.int i = V.int j) = decide (i = j) := by simp
theorem decS {i j : List Nat} : decide (V.str (tx i) = V.str (tx j)) = decide (i = j) := by
  have h : (tx i = tx j) ↔ i = j := ⟨fun e => by
    have e2 := congrArg (fun s : Str => s.cps.toList) e
    simpa [tx] using e2, fun e => by rw [e]⟩
  simp [h]
theorem wp_eqI {i j : Int} (q : P (.bl (decide (i = j))) F) : Wp o (rEqP K (.int i) (.int j)) F P := fun H w Q k => .inl ⟨rfl, by rw [decI]; exact k _ H F w q⟩
theorem wp_neI {i j : Int} (q : P (.bl (!decide (i = j))) F) : Wp o (rNeP K (.int i) (.int j)) F P := fun H w Q k => .inl ⟨rfl, by rw [decI]; exact k _ H F w q⟩
theorem wp_eqS {i j : List Nat} (q : P (.bl (decide (i = j))) F) : Wp o (rEqP K (.str (tx i)) (.str (tx j))) F P := fun H w Q k => .inl ⟨rfl, by rw [decS]; exact k _ H F w q⟩
theorem wp_neS {i j : List Nat} (q : P (.bl (!decide (i = j))) F) : Wp o (rNeP K (.str (tx i)) (.str (tx j))) F P := fun H w Q k => .inl ⟨rfl, by rw [decS]; exact k _ H F w q⟩
theorem wp_isN {x : V} (q : P (.bl (decide (x = .non))) F) : Wp o (fun H Q => V.non = .non ∧ Q (.bl (decide (x = .non))) H) F P := fun H w Q k => ⟨rfl, k _ H F w q⟩
/-! data -/
mutual
theorem Dp.up {H H1 : Hp} (e : Ex H H1) : ∀ {v : V} {d : PyData}, Dp K H v d → Dp K H1 v d
  | _, _, .non => .non
  | _, _, .bl b => .bl b
  | _, _, .int i => .int i
  | _, _, .str x => .str x
  | _, _, .lst h a => .lst (ex_l e h) (DpAll.up e a)
  | _, _, .tup h a => .tup (ex_t e h) (DpAll.up e a)
theorem DpAll.up {H H1 : Hp} (e : Ex H H1) : ∀ {vs : List V} {ds : List PyData}, DpAll K H vs ds → DpAll K H1 vs ds
  | _, _, .nil => .nil
  | _, _, .cons a b => .cons (Dp.up e a) (DpAll.up e b)
end
theorem wp_eqD {d e : PyData} (h1 : Dp K F x d) (h2 : Dp K F y e) (s1 : SeqAt.shaped d = true) (s2 : SeqAt.shaped e = true) (q : P (.bl (PyData.eqv d e)) F) : Wp o (rEqP K x y) F P := fun H w Q k =>
  .inr ⟨d, e, Dp.up w.ex h1, Dp.up w.ex h2, s1, s2, k _ H F w q⟩
theorem wp_neD {d e : PyData} (h1 : Dp K F x d) (h2 : Dp K F y e) (s1 : SeqAt.shaped d = true) (s2 : SeqAt.shaped e = true) (q : P (.bl (!PyData.eqv d e)) F) : Wp o (rNeP K x y) F P := fun H w Q k =>
  .inr ⟨d, e, Dp.up w.ex h1, Dp.up w.ex h2, s1, s2, k _ H F w q⟩
def rInP (K : PySem.W.Frag) : R2 := fun x y H Q => (∃ (c : Nat) (z : Str), x = .str ⟨#[c]⟩ ∧ y = .str z ∧ Q (.bl (decide (c ∈ z.cps.toList))) H) ∨ rIn K false x y H Q
def rNiP (K : PySem.W.Frag) : R2 := fun x y H Q => (∃ (c : Nat) (z : Str), x = .str ⟨#[c]⟩ ∧ y = .str z ∧ Q (.bl (!decide (c ∈ z.cps.toList))) H) ∨ rIn K true x y H Q
theorem op_inP {X : Cx} : OpR X (compareOp .In) (rInP X.K) := op_in_sign.or op_in_seq
theorem op_niP {X : Cx} : OpR X (compareOp .NotIn) (rNiP X.K) := op_notIn_sign.or op_notIn_seq
theorem wp_inS {c : Nat} {l : List Nat} (q : P (.bl (decide (c ∈ l))) F) : Wp o (rInP K (sg c) (.str (tx l))) F P := fun H w Q k => .inl ⟨c, tx l, rfl, rfl, k _ H F w q⟩
theorem wp_niS {c : Nat} {l : List Nat} (q : P (.bl (!decide (c ∈ l))) F) : Wp o (rNiP K (sg c) (.str (tx l))) F P := fun H w Q k => .inl ⟨c, tx l, rfl, rfl, k _ H F w q⟩
theorem wp_niT {p : Addr} {xs : List V} (h : SqT K F p xs) (hx : flatV x = true) (ha : xs.all flatV = true) (q : P (.bl (!inV x xs)) F) : Wp o (rNiP K x (.ref p)) F P := fun H w Q k =>
  .inr ⟨p, xs, rfl, .inr (w.t h), hx, ha, k _ H F w q⟩
/-! subscripts -/
theorem wp_ixL {p : Addr} {xs : List V} {i : Int} (h : SqL K F p xs) (ha : atI xs i = some v) (q : P v F) : Wp o (rIx K (.ref p) (.int i)) F P := fun H w Q k => .inl ⟨p, xs, i, v, rfl, rfl, w.l h, ha, k _ H F w q⟩
theorem wp_ixT {p : Addr} {xs : List V} {i : Int} (h : SqT K F p xs) (ha : atI xs i = some v) (q : P v F) : Wp o (rIx K (.ref p) (.int i)) F P := fun H w Q k => .inr (.inl ⟨p, xs, i, v, rfl, rfl, w.t h, ha, k _ H F w q⟩)
theorem wp_ixS {l : List Nat} {i : Int} {c : Nat} (h : l.length ≤ 100000) (ha : atI l i = some c) (q : P (sg c) F) : Wp o (rIx K (.str (tx l)) (.int i)) F P := fun H w Q k =>
  .inr (.inr ⟨tx l, i, c, rfl, rfl, by rw [tx_len]; exact sz h, ha, k _ H F w q⟩)
def cutN (l : List Nat) (lo hi : Option Int) : List Nat := (l.drop (HT.sIx l.length 0 lo)).take (HT.sIx l.length l.length hi - HT.sIx l.length 0 lo)
def rSlP (K : PySem.W.Frag) : V → Option Int → Option Int → Hp → VK → Prop := fun x a b H Q => rSlL K x a b H Q ∨ rSlS x a b H Q
theorem sl_P {X : Cx} : SlR X (rSlP X.K) := sl_list.or sl_str
theorem wp_slL {p : Addr} {xs : List V} {a b : Option Int} (h : SqL K F p xs) (q : ∀ p, F p = none → P (.ref p) (upd F p (.lst (cutV xs a b)))) : Wp o (rSlP K (.ref p) a b) F P := fun H w Q k =>
  .inl ⟨p, xs, rfl, w.l h, fun p hp => k _ _ _ (w.new1 hp) (q p (w.fr hp))⟩
theorem wp_slS {l : List Nat} {a b : Option Int} (h : l.length ≤ 100000) (q : P (.str (tx (cutN l a b))) F) : Wp o (rSlP K (.str (tx l)) a b) F P := fun H w Q k =>
  .inr ⟨tx l, rfl, by rw [tx_len]; exact sz h, by
    have e : cutS (tx l) a b = tx (cutN l a b) := by
      unfold cutS cutN tx
      simp only [Str.length, List.size_toArray]
    rw [e]; exact k _ H F w q⟩
/-! built-ins -/
abbrev rLenV (K : PySem.W.Frag) : List V → Hp → VK → Prop := fun xs H Q => ∃ x n, xs = [x] ∧ LenV K x H n ∧ Q (.int n) H
theorem wp_lenL {p : Addr} {xs : List V} (h : SqL K F p xs) (q : P (.int (xs.length : Nat)) F) : Wp o (rLenV K [.ref p]) F P := fun H w Q k => ⟨_, xs.length, rfl, .inl ⟨xs, w.l h, rfl⟩, k _ H F w q⟩
theorem wp_lenT {p : Addr} {xs : List V} (h : SqT K F p xs) (q : P (.int (xs.length : Nat)) F) : Wp o (rLenV K [.ref p]) F P := fun H w Q k => ⟨_, xs.length, rfl, .inr ⟨xs, w.t h, rfl⟩, k _ H F w q⟩
theorem wp_lenS {l : List Nat} (h : l.length ≤ 100000) (q : P (.int (l.length : Nat)) F) : Wp o (rLenV K [.str (tx l)]) F P := fun H w Q k => ⟨_, l.length, rfl, ⟨by rw [tx_len]; exact sz h, (tx_len l).symm⟩, k _ H F w q⟩
def rListP (K : PySem.W.Frag) : List V → Hp → VK → Prop := fun xs H Q => (∃ p ys, xs = [.ref p] ∧ (SqL K H p ys ∨ SqT K H p ys) ∧ ∀ l, H l = none → Q (.ref l) (upd H l (.lst ys))) ∨
  (∃ z : Str, xs = [.str z] ∧ z.length ≤ sizeLine ∧ ∀ q, H q = none → Q (.ref q) (upd H q (.lst (sgs z))))
theorem call_listP {X : Cx} (hc : X.calm = true) : CallR X (.type "list") (rListP X.K) := call_list_of.or (call_list_sg hc)
theorem wp_listL {p : Addr} {xs : List V} (h : SqL K F p xs) (q : ∀ p, F p = none → P (.ref p) (upd F p (.lst xs))) : Wp o (rListP K [.ref p]) F P := fun H w Q k =>
  .inl ⟨p, xs, rfl, .inl (w.l h), fun p hp => k _ _ _ (w.new1 hp) (q p (w.fr hp))⟩
theorem wp_listS {l : List Nat} (h : l.length ≤ 100000) (q : ∀ p, F p = none → P (.ref p) (upd F p (.lst (l.map sg)))) : Wp o (rListP K [.str (tx l)]) F P := fun H w Q k =>
  .inr ⟨tx l, rfl, by rw [tx_len]; exact sz h, fun p hp => k _ _ _ (w.new1 hp) (q p (w.fr hp))⟩
theorem wp_lenSg (h : Wp o (ta σ) F fun x F1 => ∃ l : List Nat, x = .str (tx l) ∧ l.length ≤ 1000 ∧ P (.int (dd l : Nat)) F1) : Wp o (tLenSg ta σ) F P := fun H w Q k =>
  h H w _ fun x H1 F1 w1 ⟨l, e, hl, p⟩ => ⟨l, e, hl, k _ H1 F1 w1 p⟩
end

/-! ### what a def hands back -/
/-- a new object -/
def RetN (u : HO) (H : Hp) (Q : VK) : Prop := ∀ p H1, H p = none → Ex H H1 → H1 p = some u → Q (.ref p) H1
/-- a value -/
def RetV (v : V) (H : Hp) (Q : VK) : Prop := ∀ H1, Ex H H1 → Q v H1
section
variable {o : Option Addr} {F H : Hp} {P : V → Hp → Prop} {Q : VK} {u : HO} {v : V}
theorem RetN.use (w : Wd o F H) (q : ∀ p, F p = none → P (.ref p) (upd F p u)) (k : ∀ v H1 F1, Wd o F1 H1 → P v F1 → Q v H1) : RetN u H Q := fun p H1 n e h => k _ _ _ (w.new n e h) (q p (w.fr n))
theorem RetV.use (w : Wd o F H) (q : P v F) (k : ∀ v H1 F1, Wd o F1 H1 → P v F1 → Q v H1) : RetV v H Q := fun H1 e => k _ _ _ (w.up e) q
theorem RetN.out {p : Addr} {F1 : Hp} (k : RetN u H Q) (e : Ex H F1) (n : H p = none) (h : F1 p = some u) : ∀ H1, Wd o F1 H1 → Q (.ref p) H1 := fun H1 w => k p H1 n (e.trans w.ex) (w.ex _ _ h)
theorem RetV.out {F1 : Hp} (k : RetV v H Q) (e : Ex H F1) : ∀ H1, Wd o F1 H1 → Q v H1 := fun H1 w => k H1 (e.trans w.ex)
end

/-! ### statements -/
section
variable {o : Option Addr} {F : Hp} {σ : L2.St} {K : PySem.W.Frag} {D : Ends} {te ta tb : TE} {tt : TT} {tu tw tz : TS} {g : TG} {tl : TA}
theorem go_set {i : Nat} (h : Wp o (te σ) F fun v F1 => Go o tz D (σ.set i (some v)) F1) : Go o (tSeq (tAsg te (gName i)) tz) D σ F := fun H w => h H w _ fun v H1 F1 w1 k => k H1 w1
theorem go_asg (h : Wp o (te σ) F fun v F1 => Wp o (g v σ) F1 fun σ1 F2 => Go o tz D σ1 F2) : Go o (tSeq (tAsg te g) tz) D σ F := fun H w => h H w _ fun v H1 F1 w1 k => k H1 w1 _ fun σ1 H2 F2 w2 k2 => k2 H2 w2
theorem go_if (h : Wp o (tt σ) F fun b F1 => (b = true → Go o tu { D with nx := tz D } σ F1) ∧ (b = false → Go o tw { D with nx := tz D } σ F1)) : Go o (tSeq (tIfS tt tu tw) tz) D σ F := fun H w => h H w _ fun b H1 F1 w1 ⟨h1, h2⟩ => by
  cases b with
  | true => rw [if_pos rfl]; exact h1 rfl H1 w1
  | false => rw [if_neg Bool.false_ne_true]; exact h2 rfl H1 w1
theorem go_ret (h : Wp o (te σ) F fun v F1 => ∀ H, Wd o F1 H → D.rt v H) : Go o (tSeq (tRet te) tz) D σ F := fun H w => h H w _ fun v H1 F1 w1 k => k H1 w1
theorem go_drop (h : Wp o (te σ) F fun v F1 => Go o tz D σ F1) : Go o (tSeq (tDrop te) tz) D σ F := fun H w => h H w _ fun v H1 F1 w1 k => k H1 w1
theorem go_never (h : False) : Go o (tSeq tNever tz) D σ F := h.elim
theorem go_next (h : ∀ H, Wd o F H → D.nx σ H) : Go o tNext D σ F := h
/-- the end of a branch: on with what is behind the if -/
theorem go_back {D1 : Ends} (h : Go o tz D1 σ F) : Go o tNext { D with nx := tz D1 } σ F := h
/-- the end of a loop's turn -/
theorem go_turn {P : L2.St → Hp → Prop} (hD : D.nx = Cl o P) (h : P σ F) : Go o tNext D σ F := fun H w => by
  show D.nx σ H
  rw [hD]
  exact ⟨F, w, h⟩
theorem go_turnW {P : L2.St → Hp → Prop} (h : P σ F) : ∀ H, Wd o F H → Cl o P σ H := fun H w => ⟨F, w, h⟩
/-! targets -/
variable {P : L2.St → Hp → Prop} {v : V} {vs : List V} {gs : TGs}
theorem wp_gName {i : Nat} (q : P (σ.set i (some v)) F) : Wp o (gName i v σ) F P := fun H w Q k => k _ H F w q
theorem wp_gTup {n : Nat} {a : Addr} (h : SqT K F a vs) (hl : vs.length = n) (q : Wp o (gs vs σ) F P) : Wp o (gTup K n gs (.ref a) σ) F P := fun H w Q k => ⟨a, vs, rfl, w.t h, hl, q H w Q k⟩
theorem wp_gCons (h : Wp o (g v σ) F fun σ1 F1 => Wp o (gs vs σ1) F1 P) : Wp o (gCons g gs (v :: vs) σ) F P := fun H w Q k => ⟨v, vs, rfl, h H w _ fun σ1 H1 F1 w1 h1 => h1 H1 w1 Q k⟩
theorem wp_gNil (q : P σ F) : Wp o (gNil [] σ) F P := fun H w Q k => ⟨rfl, k _ H F w q⟩
theorem wp_gSetL (h : Wp o (ta σ) F fun x F1 => Wp o (tb σ) F1 fun y F2 => ∃ a xs i j, x = .ref a ∧ y = .int i ∧ F2 a = some (.lst xs) ∧ ixN xs.length i = some j ∧ P σ (upd F2 a (.lst (xs.set j v)))) : Wp o (gSub ta tb rSetL v σ) F P := fun H w Q k =>
  h H w _ fun x H1 F1 w1 h1 => h1 H1 w1 _ fun y H2 F2 w2 ⟨a, xs, i, j, e1, e2, hf, hj, p⟩ => ⟨a, xs, i, j, e1, e2, w2.ex _ _ hf, hj, k _ _ _ (w2.mut hf) p⟩
/-! list methods as statements -/
variable {R : V → Hp → Prop}
theorem wp_append {a : Addr} {xs : List V} {x : V} (h : F a = some (.lst xs)) (hz : xs.length < 100000) (q : R .non (upd F a (.lst (xs ++ [x])))) : Wp o (rAppend (.ref a) [x]) F R := fun H w Q k =>
  ⟨a, xs, x, rfl, rfl, w.ex _ _ h, sz1 hz, k _ _ _ (w.mut h) q⟩
theorem wp_clear {a : Addr} {xs : List V} (h : F a = some (.lst xs)) (q : R .non (upd F a (.lst []))) : Wp o (rClear (.ref a) []) F R := fun H w Q k =>
  ⟨a, xs, rfl, rfl, w.ex _ _ h, k _ _ _ (w.mut h) q⟩
/-! loops -/
/-- over a list -/
theorem go_forL (Iv : Nat → L2.St → Hp → Prop) (h : Wp o (te σ) F fun x F1 => ∃ a xs, x = .ref a ∧ SqL K F1 a xs ∧ Iv 0 σ F1 ∧ (∀ i σ1 F2, i ≤ xs.length → Iv i σ1 F2 → SqL K F2 a xs) ∧
    (∀ i y σ1 F2, xs[i]? = some y → Iv i σ1 F2 → Wp o (g y σ1) F2 fun σ2 F3 => Go o tu { D with nx := Cl o (Iv (i + 1)), ct := Cl o (Iv (i + 1)), bk := tz D } σ2 F3) ∧ (∀ σ1 F2, Iv xs.length σ1 F2 → Go o tz D σ1 F2)) :
    Go o (tSeq (tFor (iList K te) g tu) tz) D σ F := fun H w => h H w _ fun x H1 F1 w1 ⟨a, xs, e, hs, h0, hl, ht, hd⟩ => ⟨a, e, ⟨xs, w1.l hs⟩,
  for_list (D := { D with nx := tz D }) (fun i => Cl o (Iv i)) ⟨F1, w1, h0⟩ (fun i σ1 H2 hi ⟨F2, w2, p⟩ => w2.l (hl i σ1 F2 hi p)) (fun i y σ1 H2 hy ⟨F2, w2, p⟩ => ht i y σ1 F2 hy p H2 w2 _ fun σ2 H3 F3 w3 k => k H3 w3) fun σ1 H2 ⟨F2, w2, p⟩ => hd σ1 F2 p H2 w2⟩
/-- .. the invariant chosen when the list is known -/
theorem go_forLx (h : Wp o (te σ) F fun x F1 => ∃ a xs, x = .ref a ∧ SqL K F1 a xs ∧ ∃ Iv : Nat → L2.St → Hp → Prop, Iv 0 σ F1 ∧ (∀ i σ1 F2, i ≤ xs.length → Iv i σ1 F2 → SqL K F2 a xs) ∧
    (∀ i y σ1 F2, xs[i]? = some y → Iv i σ1 F2 → Wp o (g y σ1) F2 fun σ2 F3 => Go o tu { D with nx := Cl o (Iv (i + 1)), ct := Cl o (Iv (i + 1)), bk := tz D } σ2 F3) ∧ (∀ σ1 F2, Iv xs.length σ1 F2 → Go o tz D σ1 F2)) :
    Go o (tSeq (tFor (iList K te) g tu) tz) D σ F := fun H w => h H w _ fun x H1 F1 w1 ⟨a, xs, e, hs, Iv, h0, hl, ht, hd⟩ => ⟨a, e, ⟨xs, w1.l hs⟩,
  for_list (D := { D with nx := tz D }) (fun i => Cl o (Iv i)) ⟨F1, w1, h0⟩ (fun i σ1 H2 hi ⟨F2, w2, p⟩ => w2.l (hl i σ1 F2 hi p)) (fun i y σ1 H2 hy ⟨F2, w2, p⟩ => ht i y σ1 F2 hy p H2 w2 _ fun σ2 H3 F3 w3 k => k H3 w3) fun σ1 H2 ⟨F2, w2, p⟩ => hd σ1 F2 p H2 w2⟩
theorem go_forT (Iv : Nat → L2.St → Hp → Prop) (h : Wp o (te σ) F fun x F1 => ∃ a xs, x = .ref a ∧ SqT K F1 a xs ∧ Iv 0 σ F1 ∧ (∀ i σ1 F2, i ≤ xs.length → Iv i σ1 F2 → SqT K F2 a xs) ∧
    (∀ i y σ1 F2, xs[i]? = some y → Iv i σ1 F2 → Wp o (g y σ1) F2 fun σ2 F3 => Go o tu { D with nx := Cl o (Iv (i + 1)), ct := Cl o (Iv (i + 1)), bk := tz D } σ2 F3) ∧ (∀ σ1 F2, Iv xs.length σ1 F2 → Go o tz D σ1 F2)) :
    Go o (tSeq (tFor (iTup K te) g tu) tz) D σ F := fun H w => h H w _ fun x H1 F1 w1 ⟨a, xs, e, hs, h0, hl, ht, hd⟩ => ⟨a, e, ⟨xs, w1.t hs⟩,
  for_tup (D := { D with nx := tz D }) (fun i => Cl o (Iv i)) ⟨F1, w1, h0⟩ (fun i σ1 H2 hi ⟨F2, w2, p⟩ => w2.t (hl i σ1 F2 hi p)) (fun i y σ1 H2 hy ⟨F2, w2, p⟩ => ht i y σ1 F2 hy p H2 w2 _ fun σ2 H3 F3 w3 k => k H3 w3) fun σ1 H2 ⟨F2, w2, p⟩ => hd σ1 F2 p H2 w2⟩
/-- over range(n) -/
theorem go_forR {j : Nat} (Iv : Nat → L2.St → Hp → Prop) (h : Wp o (tl σ) F fun vs F1 => ∃ n : Nat, vs = [.int (n : Int)] ∧ n ≤ 1000000 ∧ Iv 0 σ F1 ∧
    (∀ i σ1 F2, i < n → Iv i σ1 F2 → Go o tu { D with nx := Cl o (Iv (i + 1)), ct := Cl o (Iv (i + 1)), bk := tz D } (σ1.set j (some (.int (i : Int)))) F2) ∧ (∀ σ1 F2, Iv n σ1 F2 → Go o tz D σ1 F2)) :
    Go o (tSeq (tFor (iRng1 tl) (gName j) tu) tz) D σ F := fun H w => h H w _ fun vs H1 F1 w1 ⟨n, e, hn, h0, ht, hd⟩ => ⟨(n : Int), e, by omega, by omega, by
  rw [Int.toNat_natCast]
  exact for_range (D := { D with nx := tz D }) (fun i => Cl o (Iv i)) ⟨F1, w1, h0⟩ (fun i σ1 H2 hi ⟨F2, w2, p⟩ => by
    have e0 : (0 : Int) + (i : Int) = (i : Int) := Int.zero_add _
    rw [e0]
    exact ht i σ1 F2 hi p H2 w2) fun σ1 H2 ⟨F2, w2, p⟩ => hd σ1 F2 p H2 w2⟩
/-- over enumerate(list) -/
theorem go_forE (Iv : Nat → L2.St → Hp → Prop) (h : Wp o (tl σ) F fun us F1 => ∃ a xs, us = [.ref a] ∧ SqL K F1 a xs ∧ Iv 0 σ F1 ∧ (∀ i σ1 F2, i ≤ xs.length → Iv i σ1 F2 → SqL K F2 a xs) ∧
    (∀ i y σ1 F2 p, xs[i]? = some y → F2 p = none → Iv i σ1 F2 → Wp o (g (.ref p) σ1) (upd F2 p (.tup [.int (i : Nat), y])) fun σ2 F3 => Go o tu { D with nx := Cl o (Iv (i + 1)), ct := Cl o (Iv (i + 1)), bk := tz D } σ2 F3) ∧ (∀ σ1 F2, Iv xs.length σ1 F2 → Go o tz D σ1 F2)) :
    Go o (tSeq (tFor (iEnum K tl) g tu) tz) D σ F := fun H w => h H w _ fun us H1 F1 w1 ⟨a, xs, e, hs, h0, hl, ht, hd⟩ => ⟨a, xs, e, w1.l hs,
  for_it (D := { D with nx := tz D }) walk_enum (fun i => Cl o (Iv i)) ⟨F1, w1, h0⟩ (fun i σ1 H2 hi ⟨F2, w2, p⟩ => w2.l (hl i σ1 F2 hi p)) (fun i v σ1 H2 H3 hi ⟨F2, w2, p⟩ hy => by
    obtain ⟨T, x, y, e1, e2, e3, e4, e5⟩ := hy
    cases e4
    subst e1; subst e3
    exact ht i y σ1 F2 T e5 (w2.fr e2) p _ (w2.new1 e2) _ fun σ2 H4 F4 w4 k => k H4 w4) fun σ1 H2 ⟨F2, w2, p⟩ => hd σ1 F2 p H2 w2⟩
theorem go_while (Iv : Nat → L2.St → Hp → Prop) (m : Nat) (h0 : Iv m σ F) (h : ∀ m σ1 F1, Iv m σ1 F1 → Wp o (tt σ1) F1 fun b F2 =>
    (b = true → Go o tu { D with nx := Cl o (fun σ2 F3 => ∃ m1, m1 < m ∧ Iv m1 σ2 F3), ct := Cl o (fun σ2 F3 => ∃ m1, m1 < m ∧ Iv m1 σ2 F3), bk := tz D } σ1 F2) ∧ (b = false → Go o tz D σ1 F2)) :
    Go o (tSeq (tWhile tt tu) tz) D σ F := fun H w => ⟨fun m => Cl o (Iv m), ⟨m, F, w, h0⟩, fun m σ1 H1 ⟨F1, w1, p⟩ => h m σ1 F1 p H1 w1 _ fun b H2 F2 w2 ⟨h1, h2⟩ => by
  cases b with
  | true =>
    rw [if_pos rfl]
    exact ⟨_, fun σ2 H3 ⟨F3, w3, m1, hm, q⟩ => ⟨m1, hm, F3, w3, q⟩, h1 rfl H2 w2⟩
  | false =>
    rw [if_neg Bool.false_ne_true]
    exact h2 rfl H2 w2⟩
end

/-! ### comprehensions -/
section
variable {o : Option Addr} {F : Hp} {σ : L2.St} {K : PySem.W.Frag} {P : V → Hp → Prop} {ts te : TE} {tt : TT} {tl : TA} {g : TG} {vs : List Nat}
/-- one turn: the list D so far, what is known -/
def LcT (o : Option Addr) (D : Addr) (acc : List V) (tt : TT) (te : TE) (σ : L2.St) (F : Hp) (N : List V → Hp → Prop) : Prop :=
  Wp o (tt σ) F fun b F1 => (b = true → Wp o (te σ) F1 fun y F2 => F2 D = some (.lst acc) ∧ acc.length < 100000 ∧ N (acc ++ [y]) (upd F2 D (.lst (acc ++ [y])))) ∧ (b = false → F1 D = some (.lst acc) ∧ N acc F1)
theorem lc_turn {D : Addr} {acc : List V} {N : List V → Hp → Prop} {Nx : Hp → Prop} {σ2 : L2.St} {H2 : Hp} {F2 : Hp} (w : Wd o F2 H2) (h : LcT o D acc tt te σ2 F2 N) (n : ∀ acc1 H F3, Wd o F3 H → F3 D = some (.lst acc1) → N acc1 F3 → Nx H) :
    tt σ2 H2 fun b H3 => if b = true then te σ2 H3 fun y H4 => ∃ acc, H4 D = some (.lst acc) ∧ acc.length < sizeLine ∧ Nx (upd H4 D (.lst (acc ++ [y]))) else Nx H3 := h H2 w _ fun b H3 F3 w3 ⟨h1, h2⟩ => by
  cases b with
  | true =>
    rw [if_pos rfl]
    exact h1 rfl H3 w3 _ fun y H4 F4 w4 ⟨hd, hz, hn⟩ => ⟨acc, w4.ex _ _ hd, sz1 hz, n _ _ _ (w4.mut hd) upd_same hn⟩
  | false =>
    rw [if_neg Bool.false_ne_true]
    exact n acc H3 F3 w3 (h2 rfl).1 (h2 rfl).2
theorem wp_lcL {j : Nat} (hw : ∀ x, wipe ((wipe σ vs).set j (some x)) vs = wipe σ vs)
    (h : Wp o (ts σ) F fun x F1 => ∃ a xs, x = .ref a ∧ SqL K F1 a xs ∧ ∀ D, F1 D = none → ∃ Iv : Nat → List V → Hp → Prop, Iv 0 [] (upd F1 D (.lst [])) ∧ (∀ i acc F2, Iv i acc F2 → SqL K F2 a xs) ∧
      (∀ i x acc F2, xs[i]? = some x → F2 D = some (.lst acc) → Iv i acc F2 → LcT o D acc tt te ((wipe σ vs).set j (some x)) F2 (Iv (i + 1))) ∧ (∀ acc F2, F2 D = some (.lst acc) → Iv xs.length acc F2 → P (.ref D) F2)) :
    Wp o (tLc (iList K ts) (gName j) tt te vs σ) F P := fun H w Q k => h H w _ fun x H1 F1 w1 ⟨a, xs, e, hs, hh⟩ => ⟨a, e, ⟨xs, w1.l hs⟩, fun D hD => by
  obtain ⟨Iv, h0, hl, ht, hd⟩ := hh D (w1.fr hD)
  refine lc_list (xs := xs) (fun i H2 => ∃ acc F2, Wd o F2 H2 ∧ F2 D = some (.lst acc) ∧ Iv i acc F2) ⟨[], _, w1.new1 hD, upd_same, h0⟩ (fun i H2 hi ⟨acc, F2, w2, _, p⟩ => w2.l (hl i acc F2 p)) (fun i y H2 hy ⟨acc, F2, w2, q2, p⟩ => ?_) fun H2 ⟨acc, F2, w2, q2, p⟩ => k _ _ _ w2 (hd acc F2 q2 p)
  refine ⟨hw y, ?_⟩
  exact lc_turn w2 (ht i y acc F2 hy q2 p) fun acc1 H3 F3 w3 q3 n => ⟨acc1, F3, w3, q3, n⟩⟩
theorem wp_lcT {j : Nat} (hw : ∀ x, wipe ((wipe σ vs).set j (some x)) vs = wipe σ vs)
    (h : Wp o (ts σ) F fun x F1 => ∃ a xs, x = .ref a ∧ SqT K F1 a xs ∧ ∀ D, F1 D = none → ∃ Iv : Nat → List V → Hp → Prop, Iv 0 [] (upd F1 D (.lst [])) ∧ (∀ i acc F2, Iv i acc F2 → SqT K F2 a xs) ∧
      (∀ i x acc F2, xs[i]? = some x → F2 D = some (.lst acc) → Iv i acc F2 → LcT o D acc tt te ((wipe σ vs).set j (some x)) F2 (Iv (i + 1))) ∧ (∀ acc F2, F2 D = some (.lst acc) → Iv xs.length acc F2 → P (.ref D) F2)) :
    Wp o (tLc (iTup K ts) (gName j) tt te vs σ) F P := fun H w Q k => h H w _ fun x H1 F1 w1 ⟨a, xs, e, hs, hh⟩ => ⟨a, e, ⟨xs, w1.t hs⟩, fun D hD => by
  obtain ⟨Iv, h0, hl, ht, hd⟩ := hh D (w1.fr hD)
  refine lc_tup (xs := xs) (fun i H2 => ∃ acc F2, Wd o F2 H2 ∧ F2 D = some (.lst acc) ∧ Iv i acc F2) ⟨[], _, w1.new1 hD, upd_same, h0⟩ (fun i H2 hi ⟨acc, F2, w2, _, p⟩ => w2.t (hl i acc F2 p)) (fun i y H2 hy ⟨acc, F2, w2, q2, p⟩ => ?_) fun H2 ⟨acc, F2, w2, q2, p⟩ => k _ _ _ w2 (hd acc F2 q2 p)
  refine ⟨hw y, ?_⟩
  exact lc_turn w2 (ht i y acc F2 hy q2 p) fun acc1 H3 F3 w3 q3 n => ⟨acc1, F3, w3, q3, n⟩⟩
theorem wp_lcR {j : Nat} (hw : ∀ x, wipe ((wipe σ vs).set j (some x)) vs = wipe σ vs)
    (h : Wp o (tl σ) F fun us F1 => ∃ n : Nat, us = [.int (n : Int)] ∧ n ≤ 1000000 ∧ ∀ D, F1 D = none → ∃ Iv : Nat → List V → Hp → Prop, Iv 0 [] (upd F1 D (.lst [])) ∧
      (∀ i acc F2, i < n → F2 D = some (.lst acc) → Iv i acc F2 → LcT o D acc tt te ((wipe σ vs).set j (some (.int (i : Int)))) F2 (Iv (i + 1))) ∧ (∀ acc F2, F2 D = some (.lst acc) → Iv n acc F2 → P (.ref D) F2)) :
    Wp o (tLc (iRng1 tl) (gName j) tt te vs σ) F P := fun H w Q k => h H w _ fun us H1 F1 w1 ⟨n, e, hn, hh⟩ => ⟨(n : Int), e, by omega, by omega, fun D hD => by
  obtain ⟨Iv, h0, ht, hd⟩ := hh D (w1.fr hD)
  rw [Int.toNat_natCast]
  refine lc_range (n := n) (fun i H2 => ∃ acc F2, Wd o F2 H2 ∧ F2 D = some (.lst acc) ∧ Iv i acc F2) ⟨[], _, w1.new1 hD, upd_same, h0⟩ (fun i H2 hi ⟨acc, F2, w2, q2, p⟩ => ?_) fun H2 ⟨acc, F2, w2, q2, p⟩ => k _ _ _ w2 (hd acc F2 q2 p)
  have e0 : (0 : Int) + (i : Int) = (i : Int) := Int.zero_add _
  rw [e0]
  refine ⟨hw _, ?_⟩
  exact lc_turn w2 (ht i acc F2 hi q2 p) fun acc1 H3 F3 w3 q3 n => ⟨acc1, F3, w3, q3, n⟩⟩
theorem wp_lcS {j : Nat} (hw : ∀ x, wipe ((wipe σ vs).set j (some x)) vs = wipe σ vs)
    (h : Wp o (ts σ) F fun x F1 => ∃ l : List Nat, x = .str (tx l) ∧ ∀ D, F1 D = none → ∃ Iv : Nat → List V → Hp → Prop, Iv 0 [] (upd F1 D (.lst [])) ∧
      (∀ i c acc F2, l[i]? = some c → F2 D = some (.lst acc) → Iv i acc F2 → LcT o D acc tt te ((wipe σ vs).set j (some (sg c))) F2 (Iv (i + 1))) ∧ (∀ acc F2, F2 D = some (.lst acc) → Iv l.length acc F2 → P (.ref D) F2)) :
    Wp o (tLc (iStr ts) (gName j) tt te vs σ) F P := fun H w Q k => h H w _ fun x H1 F1 w1 ⟨l, e, hh⟩ => ⟨tx l, e, fun D hD => by
  obtain ⟨Iv, h0, ht, hd⟩ := hh D (w1.fr hD)
  have ez : (tx l).cps.size = l.length := by simp [tx]
  refine lc_it (walk_str (z := tx l)) (fun i H2 => ∃ acc F2, Wd o F2 H2 ∧ F2 D = some (.lst acc) ∧ Iv i acc F2) ⟨[], _, w1.new1 hD, upd_same, h0⟩ (fun _ _ _ _ => trivial) (fun i y H2 H3 hi ⟨acc, F2, w2, q2, p⟩ hy => ?_) fun H2 ⟨acc, F2, w2, q2, p⟩ => k _ _ _ w2 (hd acc F2 q2 (by rw [← ez]; exact p))
  obtain ⟨e3, c, hc, ey⟩ := hy
  subst e3; subst ey
  refine ⟨hw _, ?_⟩
  have hc2 : l[i]? = some c := by simpa [tx] using hc
  exact lc_turn w2 (ht i c acc F2 hc2 q2 p) fun acc1 H3 F3 w3 q3 n => ⟨acc1, F3, w3, q3, n⟩⟩
end

/-! ### defs -/
/-- the def x stands as the statement st says -/
def DefAt (K : PySem.W.Frag) (mg : Str → Option Value) (x : Str) (st : Stmt) : Prop := ∃ f fd, Fun K x x st f fd ∧ mg x = some (.ref f)
/-- x keeps its promise, up to the level k -/
def Pm (P : Program) (w : World) (K : PySem.W.Frag) (mg : Str → Option Value) (base : Heap) (CX : CXT) (k : Nat) (x : Str) (ps : List Str) (sp : Sp) : Prop :=
  ∃ f fd, FnOk P w K mg base CX k f fd ps sp ∧ mg x = some (.ref f) ∧ PySem.W.keepIn K (.ref f) = true ∧ Binds K fd ps []
theorem defAt_mk {K : PySem.W.Frag} {h : Heap} {mg : Str → Option Value} {x : Str} {st : Stmt} {f : Addr} {oc : Value} {od an : Option Addr} {osl : Array (Option Value)} {kV doc pm cdv ct : Value} (X : K.In h) (G : h.Ns mainGlobals mg)
    (a : PySem.W.nsIn K mainGlobals x = some (some (.ref f))) (l : K.lookup f = some ⟨oc, od, .func (PySem.W.fnOf x x (defArgs st) (defBody st) (defScope st) .none kV doc pm an cdv ct), osl⟩)
    (c : PySem.W.codeIn K cdv x = true) (k : PySem.W.keepIn K (.ref f) = true) : DefAt K mg x st := ⟨f, _, fun_mk l c k, PySem.W.mg_of X G a⟩
section
variable {X : Cx}
theorem pe_pm {CX : CXT} {k : Nat} {x : Str} {ps : List Str} {sp : Sp} {E : XK} {e : Expr} {es : List Expr} {t : TA} {p pos : Pos} (G : Pm X.prog X.w X.K X.mg X.base CX k x ps sp) (hr : Room k X.A) (hx : Passes CX X E) (ha : PA X (e :: es) t) (hg : Gl X x := by rfl)
    (hd : (x == ("__debug__" : Str)) = false := by decide) (he : starEach (e :: es) X.env = (false, eval e X.env) :: starEach es X.env := by rfl) (hpl : (backTo pos (starEach es X.env)).any (·.1) = false := by rfl) :
    PE X (.Call (.Name x p) (e :: es) [] pos) (tCall sp [] E t) := by
  obtain ⟨f, fd, F, hm, hk, hb⟩ := G
  exact pe_call F hr hg hm hk hb .nil hx ha hd he hpl
/-- a module's number, a module's text -/
theorem pe_cst {x : Str} {i : Int} {pos : Pos} (h : ∃ t, X.mg x = some (.int i t)) (hg : Gl X x := by rfl) (hd : (x == ("__debug__" : Str)) = false := by decide) : PE X (.Name x pos) (tC (.int i)) := by
  obtain ⟨t, h⟩ := h
  exact pe_glob hg h ⟨t, rfl⟩ hd
theorem pe_cstS {x : Str} {l : List Nat} {pos : Pos} (h : ∃ t, X.mg x = some (.str (tx l) t)) (hg : Gl X x := by rfl) (hd : (x == ("__debug__" : Str)) = false := by decide) : PE X (.Name x pos) (tC (.str (tx l))) := by
  obtain ⟨t, h⟩ := h
  exact pe_glob hg h ⟨t, rfl⟩ hd
theorem pe_strT {x : Str} {j : Nat} {pos : Pos} {l : List Nat} (h : x = tx l) : PE X (.Constant (.str x) j pos) (tC (.str (tx l))) := by
  rw [h]; exact pe_str
end
/-- the built-ins' names are the built-ins' -/
structure Bl (mg : Str → Option Value) : Prop where
  len : mg "len" = none
  list : mg "list" = none
  range : mg "range" = none
  abs : mg "abs" = none
  int_ : mg "int" = none
  bool_ : mg "bool" = none
  str_ : mg "str" = none
  isinstance : mg "isinstance" = none
  all : mg "all" = none
  enumerate : mg "enumerate" = none
  max : mg "max" = none
  min : mg "min" = none
  set : mg "set" = none
  sorted : mg "sorted" = none
  tuple : mg "tuple" = none

/-! ### known answers -/
theorem bT {b : Bool} {X Y : Prop} (h : b = true) (x : X) : (b = true → X) ∧ (b = false → Y) := ⟨fun _ => x, fun z => by rw [h] at z; cases z⟩
theorem bF {b : Bool} {X Y : Prop} (h : b = false) (y : Y) : (b = true → X) ∧ (b = false → Y) := ⟨fun z => (by rw [h] at z; cases z), fun _ => y⟩
/-! ### known facts -/
theorem fr_in {F : Hp} {p q : Addr} {u : HO} (h : upd F q u p = none) : F p = none := by
  by_cases e : p = q
  · subst e; rw [upd_same] at h; cases h
  · rw [upd_ne e] at h; exact h
theorem fr_ne {F : Hp} {p q : Addr} {u : HO} (h : upd F q u p = none) : p ≠ q := fun e => by
  rw [e, upd_same] at h; cases h
theorem at_ne {F : Hp} {a p : Addr} {u v : HO} (h : F a = some u) (n : F p = none) : upd F p v a = some u := by
  rw [upd_ne (ne_of_none h n)]; exact h
theorem atNat {α : Type} {l : List α} {i : Int} {x : α} (h0 : 0 ≤ i) (h : l[i.toNat]? = some x) : atI l i = some x := by
  have e : i = ((i.toNat : Nat) : Int) := by omega
  rw [e]
  exact atI_nat h

/-! ### a cut behind a statement -/
section
variable {o : Option Addr} {F : Hp} {σ : L2.St} {D : Ends} {tu tw : TS} {tt : TT}
theorem go_cut (M : L2.St → Hp → Prop) (h : Go o tu { D with nx := Cl o M } σ F) (k : ∀ σ1 F1, M σ1 F1 → Go o tw D σ1 F1) : Go o (Evl.tCut tu tw) D σ F := fun H w => ⟨Cl o M, h H w, fun σ1 H1 ⟨F1, w1, m⟩ => k σ1 F1 m H1 w1⟩
theorem go_ifB (h : Wp o (tt σ) F fun b F1 => (b = true → Go o tu D σ F1) ∧ (b = false → Go o tw D σ F1)) : Go o (tIfS tt tu tw) D σ F := fun H w => h H w _ fun b H1 F1 w1 ⟨h1, h2⟩ => by
  cases b with
  | true => rw [if_pos rfl]; exact h1 rfl H1 w1
  | false => rw [if_neg Bool.false_ne_true]; exact h2 rfl H1 w1
end
/-! ### more operations by values -/
section
variable {o : Option Addr} {F : Hp} {σ : L2.St} {K : PySem.W.Frag} {P : V → Hp → Prop} {x y v : V}
def rIsN : R2 := fun x y H Q => y = .non ∧ Q (.bl (decide (x = .non))) H
def rNotN : R2 := fun x y H Q => y = .non ∧ Q (.bl (!decide (x = .non))) H
theorem op_isNs {X : Cx} : OpR X (compareOp .Is) rIsN := op_isN
theorem op_notNs {X : Cx} : OpR X (compareOp .IsNot) rNotN := op_notN
theorem wp_isNs (q : P (.bl (decide (x = .non))) F) : Wp o (rIsN x .non) F P := fun H w Q k => ⟨rfl, k _ H F w q⟩
theorem wp_notNs (q : P (.bl (!decide (x = .non))) F) : Wp o (rNotN x .non) F P := fun H w Q k => ⟨rfl, k _ H F w q⟩
theorem wp_eq0 (h : scal x y = true) (q : P (.bl (decide (x = y))) F) : Wp o (rEqP K x y) F P := fun H w Q k => .inl ⟨h, k _ H F w q⟩
theorem wp_ne0 (h : scal x y = true) (q : P (.bl (!decide (x = y))) F) : Wp o (rNeP K x y) F P := fun H w Q k => .inl ⟨h, k _ H F w q⟩
abbrev rAbs : List V → Hp → VK → Prop := fun xs H Q => ∃ i, xs = [V.int i] ∧ Q (.int (if i < 0 then -i else i)) H
theorem wp_abs {i : Int} (q : P (.int (if i < 0 then -i else i)) F) : Wp o (fun H Q => ∃ j, [V.int i] = [V.int j] ∧ Q (.int (if j < 0 then -j else j)) H) F P := fun H w Q k => ⟨i, rfl, k _ H F w q⟩
theorem ixN_nat {n j : Nat} (hj : j < n) : ixN n (j : Int) = some j := by
  unfold ixN
  rw [if_pos (by omega), if_pos (by omega)]
  simp
theorem wp_popAt {a : Addr} {xs : List V} {j : Nat} (h : F a = some (.lst xs)) (hz : xs.length ≤ 100000) (hj : xs[j]? = some y) (q : P y (upd F a (.lst (xs.eraseIdx j)))) : Wp o (rPopAt (.ref a) [.int (j : Int)]) F P := fun H w Q k => by
  have hl : j < xs.length := (List.getElem?_eq_some_iff.mp hj).1
  exact ⟨a, xs, j, j, y, rfl, rfl, w.ex _ _ h, by omega, by omega, (ixN_seq (ixN_nat hl)).1, hj, k _ _ _ (w.mut h) q⟩
def rIntP : List V → Hp → VK → Prop := fun xs H Q => ((∃ i, xs = [.int i] ∧ Q (.int i) H) ∨ ∃ k, xs = [.bl k] ∧ Q (.int (if k then 1 else 0)) H) ∨ (∃ a n, xs = [.str a] ∧ PySem.intText? a = some n ∧ a.length ≤ 640 ∧ Q (.int n) H)
theorem call_intP {X : Cx} : CallR X (.type "int") rIntP := call_int1.or call_int_str
theorem wp_intB {b : Bool} (q : P (.int (if b then 1 else 0)) F) : Wp o (rIntP [.bl b]) F P := fun H w Q k => .inl (.inr ⟨b, rfl, k _ H F w q⟩)
/-! isinstance -/
theorem tyX_l {H : Hp} {a : Addr} {xs : List V} (h : SqL K H a xs) : TyX K H (.ref a) (.type "list") := by
  rcases h with (h | ⟨ob, h⟩) | ⟨ob, its, n, h, hc, _⟩
  · exact .base (.lst h)
  · exact .base (.frz h)
  · exact .kList h hc
theorem tyX_t {H : Hp} {a : Addr} {xs : List V} (h : SqT K H a xs) : TyX K H (.ref a) (.type "tuple") := by
  rcases h with (h | ⟨ob, h⟩) | ⟨ob, its, n, h, hc, _⟩
  · exact .base (.tup h)
  · exact .fTuple h
  · exact .kTuple h hc
/-- the built-in type of a plain value -/
inductive TyP (K : PySem.W.Frag) (H : Hp) : V → String → Prop where
  | non : TyP K H .non "NoneType"
  | bl (b : Bool) : TyP K H (.bl b) "bool"
  | int (i : Int) : TyP K H (.int i) "int"
  | str (z : Str) : TyP K H (.str z) "str"
  | lst {a : Addr} {xs : List V} (h : SqL K H a xs) : TyP K H (.ref a) "list"
  | tup {a : Addr} {xs : List V} (h : SqT K H a xs) : TyP K H (.ref a) "tuple"
theorem TyP.ty {H : Hp} {t : String} (h : TyP K H x t) : TyX K H x (.type t) := by
  cases h with
  | non => exact .base .non
  | bl b => exact .base (.bl b)
  | int i => exact .base (.int i)
  | str z => exact .base (.str z)
  | lst h => exact tyX_l h
  | tup h => exact tyX_t h
theorem TyP.up {H H1 : Hp} {t : String} (e : Ex H H1) (h : TyP K H x t) : TyP K H1 x t := by
  cases h with
  | non => exact .non
  | bl b => exact .bl b
  | int i => exact .int i
  | str z => exact .str z
  | lst h => exact .lst (ex_l e h)
  | tup h => exact .tup (ex_t e h)
theorem wp_isi {t c : String} {b : Bool} (h : TyP K F x t) (hk : kitB t c = some b) (q : P (.bl b) F) : Wp o (rIsi K [x, .ty c]) F P := fun H w Q k =>
  ⟨x, .ty c, .type t, .type c, b, rfl, .ty c, (h.up w.ex).ty, kit_ty hk, k _ H F w q⟩
theorem wp_all {a : Addr} {bs : List Bool} (h : SqL K F a (bs.map V.bl)) (q : P (.bl (bs.all id)) F) : Wp o (rAll K [.ref a]) F P := fun H w Q k => ⟨a, bs, rfl, w.l h, k _ H F w q⟩
theorem wp_lenX {p : Addr} {xs : List V} (h : SqL K F p xs ∨ SqT K F p xs) (q : P (.int (xs.length : Nat)) F) : Wp o (rLenV K [.ref p]) F P := h.elim (fun h => wp_lenL h q) fun h => wp_lenT h q
theorem wp_ixX {p : Addr} {xs : List V} {i : Int} (h : SqL K F p xs ∨ SqT K F p xs) (ha : atI xs i = some v) (q : P v F) : Wp o (rIx K (.ref p) (.int i)) F P := h.elim (fun h => wp_ixL h ha q) fun h => wp_ixT h ha q
/-! join of signs -/
abbrev rJoin (K : PySem.W.Frag) : V → List V → Hp → VK → Prop := fun x xs H Q => ∃ a p, ∃ ys : List Str, x = .str a ∧ xs = [.ref p] ∧ (SqL K H p (ys.map V.str) ∨ SqT K H p (ys.map V.str)) ∧
  (ys.map (·.length)).sum + ys.length * a.length ≤ 16777216 ∧ Q (.str (Txt.join a ys)) H
theorem join_sg : ∀ l : List Nat, Str.join (tx []) (l.map fun c => (⟨#[c]⟩ : Str)) = tx l
  | [] => rfl
  | [c] => rfl
  | c :: d :: r => by
    have ih := join_sg (d :: r)
    show (⟨#[c]⟩ : Str) ++ tx [] ++ Str.join (tx []) ((d :: r).map fun c => (⟨#[c]⟩ : Str)) = tx (c :: d :: r)
    rw [ih]
    show tx [c] ++ tx [] ++ tx (d :: r) = _
    rw [tx_app, tx_app]
    rfl
theorem sum_ones : ∀ l : List Nat, ((l.map fun c => (⟨#[c]⟩ : Str)).map (·.length)).sum = l.length
  | [] => rfl
  | c :: r => by
    have ih := sum_ones r
    rw [List.map_cons, List.map_cons, List.sum_cons, ih, List.length_cons]
    show 1 + r.length = r.length + 1
    omega
theorem wp_joinSg {p : Addr} {l : List Nat} (h : SqL K F p (l.map sg)) (hl : l.length ≤ 100000) (q : P (.str (tx l)) F) : Wp o (rJoin K (.str (tx [])) [.ref p]) F P := fun H w Q k =>
  ⟨tx [], p, l.map fun c => ⟨#[c]⟩, rfl, rfl, .inl (by rw [List.map_map]; exact w.l h), by
    rw [sum_ones, List.length_map]
    show l.length + l.length * 0 ≤ _
    omega, by
    rw [show Txt.join (tx []) (l.map fun c => (⟨#[c]⟩ : Str)) = Str.join (tx []) (l.map fun c => (⟨#[c]⟩ : Str)) from PySem.StrLaws.glued_eq_join _ _, join_sg]
    exact k _ H F w q⟩
end
/-! ### dice -/
section
variable {o : Option Addr} {F H : Hp} {d : Addr}
/-- H without d -/
def rm (H : Hp) (d : Addr) : Hp := fun b => if b = d then none else H b
theorem rm_same : rm H d d = none := by unfold rm; rw [if_pos rfl]
theorem rm_ne {b : Addr} (h : b ≠ d) : rm H d b = H b := by unfold rm; rw [if_neg h]
theorem ex_rm : Ex (rm H d) H := fun b u e => by
  by_cases h : b = d
  · rw [h, rm_same] at e; cases e
  · rw [rm_ne h] at e; exact e
theorem ex_to_rm (e : Ex F H) (n : F d = none) : Ex F (rm H d) := fun b u q => by
  rw [rm_ne (ne_of_none q n)]
  exact e b u q
theorem Wd.dice (h : Dc H d) : Wd (some d) (rm H d) H := ⟨ex_rm, fun b e => by cases e; exact ⟨rm_same, h⟩⟩
end

/-! ### data: lists of ints, lists of signs -/
section
variable {o : Option Addr} {F : Hp} {K : PySem.W.Frag} {P : V → Hp → Prop}
theorem lay_all : ∀ {ds : List PyData}, (∀ d ∈ ds, d.canLay0 = true) → PyData.canLayAll0 ds = true
  | [], _ => rfl
  | d :: r, h => by
    show (d.canLay0 && PyData.canLayAll0 r) = true
    rw [h d List.mem_cons_self, lay_all fun e he => h e (List.mem_cons_of_mem _ he)]
    rfl
theorem depth_all {n : Nat} : ∀ {ds : List PyData}, (∀ d ∈ ds, d.depth ≤ n) → PyData.depthAll ds ≤ n
  | [], _ => Nat.zero_le _
  | d :: r, h => by
    show max d.depth (PyData.depthAll r) ≤ n
    exact Nat.max_le.mpr ⟨h d List.mem_cons_self, depth_all fun e he => h e (List.mem_cons_of_mem _ he)⟩
theorem shaped_list {ds : List PyData} (h1 : ∀ d ∈ ds, d.canLay0 = true) (h2 : ∀ d ∈ ds, d.depth ≤ 63) : SeqAt.shaped (.list ds) = true := by
  unfold SeqAt.shaped
  rw [Bool.and_eq_true, decide_eq_true_eq]
  refine ⟨lay_all h1, ?_⟩
  show PyData.depthAll ds + 1 ≤ 64
  have := depth_all h2
  omega
abbrev dI (cs : List Int) : List PyData := cs.map PyData.int
abbrev dSg (l : List Nat) : List PyData := l.map fun c => PyData.str ⟨#[c]⟩
theorem dpa_I : ∀ cs : List Int, DpAll K F (cs.map V.int) (dI cs)
  | [] => .nil
  | c :: r => .cons (.int c) (dpa_I r)
theorem dpa_S : ∀ l : List Nat, DpAll K F (l.map sg) (dSg l)
  | [] => .nil
  | c :: r => .cons (.str _) (dpa_S r)
theorem dp_I {a : Addr} {cs : List Int} (h : SqL K F a (cs.map V.int)) : Dp K F (.ref a) (.list (dI cs)) := .lst h (dpa_I cs)
theorem dp_S {a : Addr} {l : List Nat} (h : SqL K F a (l.map sg)) : Dp K F (.ref a) (.list (dSg l)) := .lst h (dpa_S l)
theorem sh_I (cs : List Int) : SeqAt.shaped (.list (dI cs)) = true := shaped_list (fun d hd => by
  obtain ⟨c, _, rfl⟩ := List.mem_map.mp hd; rfl) fun d hd => by
  obtain ⟨c, _, rfl⟩ := List.mem_map.mp hd; exact Nat.zero_le _
theorem sh_S {l : List Nat} (h : ∀ c ∈ l, c < 128) : SeqAt.shaped (.list (dSg l)) = true := shaped_list (fun d hd => by
  obtain ⟨c, hc, rfl⟩ := List.mem_map.mp hd
  have := h c hc
  simp [PyData.canLay0, PyData.strOk]
  omega) fun d hd => by
  obtain ⟨c, _, rfl⟩ := List.mem_map.mp hd; exact Nat.zero_le _
theorem eqvAll_I : ∀ cs ds : List Int, PyData.eqvAll (dI cs) (dI ds) = decide (cs = ds)
  | [], [] => rfl
  | [], _ :: _ => rfl
  | _ :: _, [] => rfl
  | c :: r, d :: t => by
    show ((c == d) && PyData.eqvAll (dI r) (dI t)) = decide (c :: r = d :: t)
    rw [eqvAll_I r t, Bool.beq_eq_decide_eq]
    by_cases h : c = d <;> by_cases h2 : r = t <;> simp [h, h2]
theorem eqv_I (cs ds : List Int) : PyData.eqv (.list (dI cs)) (.list (dI ds)) = decide (cs = ds) := eqvAll_I cs ds
theorem eqv_S0 (l : List Nat) : PyData.eqv (.list (dSg l)) (.list []) = decide (l = []) := by
  cases l with
  | nil => rfl
  | cons c r => rfl
theorem wp_neIL {a b : Addr} {xs ys : List Int} (ha : SqL K F a (xs.map V.int)) (hb : SqL K F b (ys.map V.int)) (q : P (.bl (!decide (xs = ys))) F) : Wp o (rNeP K (.ref a) (.ref b)) F P :=
  wp_neD (dp_I ha) (dp_I hb) (sh_I xs) (sh_I ys) (by rw [eqv_I]; exact q)
theorem wp_eqIL {a b : Addr} {xs ys : List Int} (ha : SqL K F a (xs.map V.int)) (hb : SqL K F b (ys.map V.int)) (q : P (.bl (decide (xs = ys))) F) : Wp o (rEqP K (.ref a) (.ref b)) F P :=
  wp_eqD (dp_I ha) (dp_I hb) (sh_I xs) (sh_I ys) (by rw [eqv_I]; exact q)
theorem wp_neS0 {a b : Addr} {l : List Nat} (ha : SqL K F a (l.map sg)) (hb : SqL K F b []) (h : ∀ c ∈ l, c < 128) (q : P (.bl (!decide (l = []))) F) : Wp o (rNeP K (.ref a) (.ref b)) F P :=
  wp_neD (dp_S ha) (.lst hb .nil) (sh_S h) rfl (by rw [eqv_S0]; exact q)
end
/-! ### what a def of dice hands back -/
section
variable {o : Option Addr} {F H : Hp} {d : Addr} {P : V → Hp → Prop} {Q : VK} {u : HO} {p : Addr} {H1 F1 : Hp}
theorem Wd.newD (w : Wd (some d) F H) (n : H p = none) (e : Ex (rm H d) H1) (hd : Dc H1 d) (h : H1 p = some u) : Wd (some d) (upd F p u) H1 := by
  have f := (w.dc d rfl).1
  have e2 : Ex F H1 := (ex_to_rm w.ex f).trans e
  refine ⟨fun b v q => ?_, fun b z => ?_⟩
  · by_cases hb : b = p
    · subst hb; rw [upd_same] at q; rw [← q]; exact h
    · rw [upd_ne hb] at q; exact e2 _ _ q
  · cases z
    rw [upd_ne (w.ned n d rfl)]
    exact ⟨f, hd⟩
/-- a new object of which something is told -/
def RetND (d : Addr) (Pu : HO → Prop) (H : Hp) (Q : VK) : Prop := ∀ p H1 u, H p = none → Ex (rm H d) H1 → Dc H1 d → H1 p = some u → Pu u → Q (.ref p) H1
theorem RetND.use {Pu : HO → Prop} (w : Wd (some d) F H) (q : ∀ p u, F p = none → Pu u → P (.ref p) (upd F p u)) (k : ∀ v H1 F1, Wd (some d) F1 H1 → P v F1 → Q v H1) : RetND d Pu H Q :=
  fun p H1 u n e hd h hu => k _ _ _ (w.newD n e hd h) (q p u (w.fr n) hu)
theorem RetND.out {Pu : HO → Prop} (k : RetND d Pu H Q) (e : Ex (rm H d) F1) (n : rm H d p = none) (h : F1 p = some u) (hu : Pu u) : ∀ H1, Wd (some d) F1 H1 → Q (.ref p) H1 := fun H1 w => by
  obtain ⟨f, hd⟩ := w.dc d rfl
  have nd : p ≠ d := ne_of_none h f
  rw [rm_ne nd] at n
  exact k p H1 u n (e.trans w.ex) hd (w.ex _ _ h) hu
theorem go_stD {t : TS} {D : Ends} {σ0 σ : L2.St} (hd : Dc H d) (e : σ0 = σ) (g : Go (some d) t D σ (rm H d)) : t D σ0 H := by
  subst e
  exact g H (Wd.dice hd)
end

/-! ### the rules with the written part by name -/
section
variable {X : Cx} (K : PySem.W.Frag) (hK : X.K = K)
include hK
theorem ixK : IxR X (rIx K) := hK ▸ ix_seq
theorem eqK (hu : X.A.units + 64 < cLine) : OpR X (compareOp .Eq) (rEqP K) := hK ▸ op_eqP hu
theorem neK (hu : X.A.units + 64 < cLine) : OpR X (compareOp .NotEq) (rNeP K) := hK ▸ op_neP hu
theorem inK : OpR X (compareOp .In) (rInP K) := hK ▸ op_inP
theorem niK : OpR X (compareOp .NotIn) (rNiP K) := hK ▸ op_niP
theorem slK : SlR X (rSlP K) := hK ▸ sl_P
theorem lenK : CallR X (.builtin "len") (rLenV K) := hK ▸ call_len
theorem listK (hc : X.calm = true) : CallR X (.type "list") (rListP K) := hK ▸ call_listP hc
theorem isiK : CallR X (.builtin "isinstance") (rIsi K) := hK ▸ call_isi
theorem allK (hc : X.calm = true) : CallR X (.builtin "all") (rAll K) := hK ▸ cr_all hc
theorem maxK (hc : X.calm = true) : CallR X (.builtin "max") (rMax K) := hK ▸ cr_max hc
theorem sortedK : CallR X (.builtin "sorted") (rSorted K) := hK ▸ cr_sorted
theorem joinK : MtR X "str.join" (rJoin K) := hK ▸ mt_join
theorem indexK : MtR X "list.index" (rIndex K) := hK ▸ mt_index
theorem piL {tg l : Expr} {tl : TE} (h : PE X l tl) : PI X tg l (iList K tl) := hK ▸ pi_list h
theorem piT {tg l : Expr} {tl : TE} (h : PE X l tl) : PI X tg l (iTup K tl) := hK ▸ pi_tup h
theorem piE {e : Expr} {ta : TA} {p pos tpos : Pos} {elts : List Expr} {kk : Nat} (hm : X.mg "enumerate" = none) (ha : PA X [e] ta) (hg : Gl X "enumerate" := by rfl) (hs : starEach [e] X.env = [(false, eval e X.env)] := by rfl) :
    PI X (.Tuple elts kk tpos) (.Call (.Name "enumerate" p) [e] [] pos) (iEnum K ta) := hK ▸ pi_enum hg hm ha hs
theorem pgT {es : List Expr} {k : Nat} {pos : Pos} {t : TGs} {n : Nat} (hc : X.calm = true) (h : PGs X es t) (hn : (assignEach es X.env).length = n := by rfl) (hst : (assignEach es X.env).findIdx? (·.1) = none := by rfl) : PG X (.Tuple es k pos) (gTup K n t) := hK ▸ pg_tup hc h hn hst
variable {o e : Expr} {es : List Expr} {to : TE} {t : TA} {name : Str} {apos cpos : Pos} {T id : String} {r : V → List V → Hp → VK → Prop}
theorem bm0K (pa : PlainAttrs T) (slot : Slot T name id) (hty : typeOf (.builtin id) = pure (.type "method_descriptor")) (hm : MtR X id r) (ho : PE X o to)
    (hbase : attributeBase o name X.env (eval o X.env) = eval o X.env := by rfl) (hline : (apos.endLine == cpos.line) = true := by rfl) : PE X (.Call (.Attribute o name apos) [] [] cpos) (tBM0 K T r to) := hK ▸ pe_bm0 pa slot hty hm ho hbase hline
theorem bmK (pa : PlainAttrs T) (slot : Slot T name id) (hty : typeOf (.builtin id) = pure (.type "method_descriptor")) (hm : MtR X id r) (ho : PE X o to) (ha : PA X (e :: es) t)
    (hbase : attributeBase o name X.env (eval o X.env) = eval o X.env := by rfl)
    (hfew : ((backTo cpos (starEach (e :: es) X.env)).all (fun x => !x.1) && (backToKw cpos (keywordEach [] X.env)).all (fun x => x.1.isSome)
      && decide ((e :: es).length + ([] : List Keyword).length + (if ([] : List Keyword).isEmpty then 0 else 1) < 30)) = true := by rfl) (hline : (apos.endLine == cpos.line) = true := by rfl)
    (he : starEach (e :: es) X.env = (false, eval e X.env) :: starEach es X.env := by rfl) (hpl : (backTo cpos (starEach es X.env)).any (·.1) = false := by rfl) :
    PE X (.Call (.Attribute o name apos) (e :: es) [] cpos) (tBM K T r to t) := hK ▸ pe_bm pa slot hty hm ho ha hbase hfew hline he hpl
theorem peJoin {te : TE} (ho : PE X o to) (he : PE X e te) (hs : starEach [e] X.env = [(false, eval e X.env)] := by rfl) (hbase : attributeBase o "join" X.env (eval o X.env) = eval o X.env := by rfl) (hline : (apos.endLine == cpos.line) = true := by rfl) :
    PE X (.Call (.Attribute o "join" apos) [e] [] cpos) (tM1 (rJoin K) to te) := hK ▸ pe_join ho he hs hbase hline
end
theorem gz_l {F F1 : Hp} {p : Addr} {u : HO} (h : upd F p u = F1) (n : F p = none) : Ex F F1 ∧ F1 p = some u := by
  subst h
  exact ⟨ex_new n, upd_same⟩
end Sr
local macro_rules | `(tactic| wtm_at "dec") => `(tactic| first
  | exact decide_eq_true (by omega)
  | exact decide_eq_false (by omega)
  | (simp only [Bool.not_eq_true', Bool.not_eq_false', Bool.not_true, Bool.not_false, decide_eq_true_eq, decide_eq_false_iff_not]; omega)
  | (simp; done)
  | (simp; omega))
local macro_rules | `(tactic| wtm_at "sz") => `(tactic| first
  | omega
  | (simp only [List.length_append, List.length_cons, List.length_nil, List.length_map, List.length_take, List.length_drop, List.length_singleton]; omega)
  | (show _ ≤ _; decide)
  | decide)
local macro_rules | `(tactic| wtm_at "fr") => `(tactic| first
  | assumption
  | (refine Sr.fr_in (q := _) (u := _) ?_; assumption)
  | (refine L2.Same.free ?_ ?_ <;> assumption))
local macro_rules | `(tactic| wtm_at "ne") => `(tactic| first
  | assumption
  | (exact Sr.fr_ne (by assumption))
  | (exact (Sr.fr_ne (by assumption)).symm)
  | (exact L2.ne_of_none (by assumption) (by wtm_at "fr"))
  | (exact (L2.ne_of_none (by assumption) (by wtm_at "fr")).symm))
local macro_rules | `(tactic| wtm_at "at") => `(tactic| first
  | assumption
  | ((with_reducible exact L2.upd_same))
  | ((with_reducible apply Sr.at_ne); wtm_at "at"; wtm_at "fr")
  | ((with_reducible refine' Eq.trans (L2.upd_ne ?_) ?_); wtm_at "ne"; wtm_at "at")
  | ((with_reducible exact (by assumption : L2.Same _ _) _ _ (by assumption))))
local macro_rules | `(tactic| wtm_at "kn") => `(tactic| first
  | assumption
  | ((with_reducible apply L2.SqL.of); wtm_at "at")
  | ((with_reducible apply L2.SqT.of); wtm_at "at")
  | ((with_reducible refine' Sr.ex_t (Sr.ex_new ?_) ?_); wtm_at "fr"; wtm_at "kn")
  | ((with_reducible refine' Sr.ex_l (Sr.ex_new ?_) ?_); wtm_at "fr"; wtm_at "kn")
  | ((with_reducible refine' Sr.ex_t (by assumption) ?_); wtm_at "kn")
  | ((with_reducible refine' Sr.ex_l (by assumption) ?_); wtm_at "kn"))
local macro_rules | `(tactic| wtm_at "s") => `(tactic| first
  | ((with_reducible refine Sr.go_set ?_))
  | ((with_reducible refine Sr.go_ret ?_))
  | ((with_reducible refine Sr.go_if ?_))
  | ((with_reducible refine Sr.go_drop ?_))
  | ((with_reducible refine Sr.go_asg ?_))
  | ((with_reducible apply Sr.wp_var); exact rfl)
  | ((with_reducible refine Sr.wp_c ?_))
  | ((with_reducible refine Sr.wp_op ?_))
  | ((with_reducible refine Sr.wp_un ?_))
  | ((with_reducible refine Sr.wp_chain ?_))
  | ((with_reducible refine Sr.wp_ifE ?_))
  | ((with_reducible refine Sr.wp_andV ?_))
  | ((with_reducible refine Sr.wp_orV ?_))
  | ((with_reducible refine Sr.wp_notV ?_))
  | ((with_reducible refine Sr.wp_test ?_))
  | ((with_reducible refine Sr.wp_B ?_))
  | ((with_reducible refine Sr.wp_and ?_))
  | ((with_reducible refine Sr.wp_or ?_))
  | ((with_reducible refine Sr.wp_not ?_))
  | ((with_reducible refine Sr.wp_yes ?_))
  | ((with_reducible refine Sr.wp_nil ?_))
  | ((with_reducible refine Sr.wp_cons ?_))
  | ((with_reducible refine Sr.wp_tup ?_))
  | ((with_reducible refine Sr.wp_lst ?_))
  | ((with_reducible refine Sr.wp_call ?_))
  | ((with_reducible refine Sr.wp_cb ?_))
  | ((with_reducible refine Sr.wp_sl ?_))
  | ((with_reducible refine Sr.wp_noPart ?_))
  | ((with_reducible refine Sr.wp_part ?_))
  | ((with_reducible refine Sr.wp_addI ?_))
  | ((with_reducible refine Sr.wp_addS ?_ ?_); wtm_at "sz")
  | ((with_reducible refine Sr.wp_i0 ?_))
  | ((with_reducible refine Sr.wp_isNs ?_))
  | ((with_reducible refine Sr.wp_notNs ?_))
  | ((with_reducible refine Sr.go_ifB ?_))
  | ((with_reducible refine Sr.wp_u ?_))
  | ((with_reducible refine Sr.wp_eqI ?_))
  | ((with_reducible refine Sr.wp_neI ?_))
  | ((with_reducible refine Sr.wp_eqS ?_))
  | ((with_reducible refine Sr.wp_neS ?_))
  | ((with_reducible refine Sr.wp_inS ?_))
  | ((with_reducible refine Sr.wp_niS ?_))
  | ((with_reducible refine Sr.wp_lenS ?_ ?_); wtm_at "sz")
  | ((with_reducible apply Sr.wp_lenL); wtm_at "kn")
  | ((with_reducible apply Sr.wp_lenT); wtm_at "kn")
  | ((with_reducible apply Sr.wp_ixT); wtm_at "kn"; exact rfl)
  | ((with_reducible refine Sr.wp_slS ?_ ?_); wtm_at "sz")
  | ((with_reducible refine Sr.wp_gName ?_))
  | ((with_reducible apply Sr.wp_gTup); wtm_at "kn"; exact rfl)
  | ((with_reducible refine Sr.wp_gCons ?_))
  | ((with_reducible refine Sr.wp_gNil ?_))
  | ((with_reducible refine ⟨_, (rfl : @Eq L2.V _ _), ?_⟩))
  | ((with_reducible refine Sr.go_back ?_)))
local macro_rules | `(tactic| wtm_at "r") => `(tactic| repeat wtm_at "s")
local macro_rules | `(tactic| wtm_at "gz") => `(tactic| (
  intro p hp
  generalize hG : L2.upd _ p _ = F
  have h := (Sr.gz_l hG hp).2
  have e := (Sr.gz_l hG hp).1
  clear hG
  revert h e
  revert F
  revert hp
  revert p))
namespace Sr
open PySem PySem.Spec PyProof.Rows L2 SrX
/-! ### sets, tapes -/
abbrev il (cs : List Int) : List V := cs.map V.int
/-- two sets of signs stand at s -/
abbrev SetsAt (K : PySem.W.Frag) (H : Hp) (s : Addr) (A B : List Nat) : Prop := SqT K H s [.str (tx A), .str (tx B)]
structure Good (A B : List Nat) : Prop where
  n1 : 1 ≤ A.length
  n10 : A.length ≤ 10
  eq : B.length = A.length
  ndA : A.Nodup
  ndB : B.Nodup
def CodesOk (n : Nat) (cs : List Int) : Prop := ∀ c ∈ cs, 0 ≤ c ∧ c < (n : Int) + 2
def StOk (st : Int) : Prop := st = 0 ∨ st = 1
/-- the row of a state -/
def rowS (A B : List Nat) (st : Int) : List Nat := if st = 0 then A else B
def sgn (A B : List Nat) (st c : Int) : Nat := (rowS A B st).getD c.toNat 0
def gst (A B : List Nat) (x : List Nat × Int) (c : Int) : List Nat × Int := if c < (A.length : Int) then (x.1 ++ [sgn A B x.2 c], x.2) else (x.1, c - (A.length : Int))
/-- what a tape reads as, the state behind it -/
def gon (A B : List Nat) (cs : List Int) (st : Int) : List Nat × Int := cs.foldl (gst A B) ([], st)
theorem take_more {α : Type} {l : List α} {i : Nat} {x : α} (h : l[i]? = some x) : l.take (i + 1) = l.take i ++ [x] := by
  rw [List.take_add_one, h]; rfl
theorem gon_take {A B : List Nat} {cs : List Int} {st : Int} {i : Nat} {c : Int} (h : cs[i]? = some c) : gon A B (cs.take (i + 1)) st = gst A B (gon A B (cs.take i) st) c := by
  unfold gon
  rw [take_more h, List.foldl_append]
  rfl
theorem gst_len {A B : List Nat} (x : List Nat × Int) (c : Int) : (gst A B x c).1.length ≤ x.1.length + 1 := by
  unfold gst
  split
  · simp
  · simp
theorem gon_len (A B : List Nat) (st : Int) (cs : List Int) : (gon A B cs st).1.length ≤ cs.length := by
  have key : ∀ (cs : List Int) (x : List Nat × Int), (cs.foldl (gst A B) x).1.length ≤ x.1.length + cs.length := by
    intro cs
    induction cs with
    | nil => intro x; exact Nat.le_refl _
    | cons c r ih =>
      intro x
      have h1 := ih (gst A B x c)
      have h2 := gst_len (A := A) (B := B) x c
      rw [List.foldl_cons, List.length_cons]
      omega
  have h := key cs ([], st)
  simpa [gon] using h
theorem gst_st {A B : List Nat} {x : List Nat × Int} {c : Int} (hx : StOk x.2) (hc : 0 ≤ c ∧ c < (A.length : Int) + 2) : StOk (gst A B x c).2 := by
  unfold gst
  split
  · exact hx
  · show c - (A.length : Int) = 0 ∨ c - (A.length : Int) = 1
    omega
theorem gon_st {A B : List Nat} {cs : List Int} {st : Int} (hs : StOk st) (hc : CodesOk A.length cs) : StOk (gon A B cs st).2 := by
  have key : ∀ (cs : List Int) (x : List Nat × Int), StOk x.2 → CodesOk A.length cs → StOk (cs.foldl (gst A B) x).2 := by
    intro cs
    induction cs with
    | nil => intro x h _; exact h
    | cons c r ih =>
      intro x h hc
      exact ih _ (gst_st h (hc c List.mem_cons_self)) fun d hd => hc d (List.mem_cons_of_mem _ hd)
  exact key cs ([], st) hs hc
theorem CodesOk.take {n : Nat} {cs : List Int} (h : CodesOk n cs) (i : Nat) : CodesOk n (cs.take i) := fun c hc => h c (List.mem_of_mem_take hc)
theorem CodesOk.drop {n : Nat} {cs : List Int} (h : CodesOk n cs) (i : Nat) : CodesOk n (cs.drop i) := fun c hc => h c (List.mem_of_mem_drop hc)
theorem CodesOk.app {n : Nat} {cs ds : List Int} (h : CodesOk n cs) (h2 : CodesOk n ds) : CodesOk n (cs ++ ds) := fun c hc => (List.mem_append.mp hc).elim (h c) (h2 c)
theorem row_len {A B : List Nat} (h : B.length = A.length) (st : Int) : (rowS A B st).length = A.length := by
  unfold rowS
  split
  · rfl
  · exact h
theorem at_row {A B : List Nat} {st : Int} (h : StOk st) : atI [V.str (tx A), V.str (tx B)] st = some (.str (tx (rowS A B st))) := by
  rcases h with h | h
  · subst h; exact atI_nat (j := 0) rfl
  · subst h; exact atI_nat (j := 1) rfl
theorem at_sgn {A B : List Nat} {st c : Int} (h : B.length = A.length) (h0 : 0 ≤ c) (h1 : c < (A.length : Int)) : atI (rowS A B st) c = some (sgn A B st c) := by
  have hl : c.toNat < (rowS A B st).length := by rw [row_len h]; omega
  refine atNat h0 ?_
  unfold sgn
  rw [List.getElem?_eq_getElem hl, List.getD_eq_getElem?_getD, List.getElem?_eq_getElem hl]
  rfl
theorem il_at {cs : List Int} {i : Nat} {y : V} (h : (il cs)[i]? = some y) : ∃ c, cs[i]? = some c ∧ y = .int c ∧ c ∈ cs := by
  rw [List.getElem?_map] at h
  cases e : cs[i]? with
  | none => rw [e] at h; cases h
  | some c =>
    rw [e] at h
    exact ⟨c, rfl, (Option.some.inj h).symm, List.mem_of_getElem? e⟩
def topS (i : Nat) : Stmt := PySem.Challenge.pw_shiftrow_k08_whole_without_needless_shif.main.body.getD i (.Pass ⟨0, 0, 0, 0⟩)
section
variable {P : Program} {w : World} {K : PySem.W.Frag} {mg : Str → Option Value} {base : Heap}
abbrev s_gone : Stmt := topS 13
abbrev n_gone : List Str := ["sets", "tape", "state", "many", "found", "code"]
theorem sc_gone : FnScope n_gone ["sets", "tape", "state"] (defScope s_gone) := ⟨rfl, rfl, rfl, by decide +kernel, rfl, by decide +kernel, by decide +kernel⟩

def sp_gone (K : PySem.W.Frag) : Sp := fun vs H Q _ => ∃ (s t : Addr) (A B : List Nat) (cs : List Int) (st : Int), vs = [.ref s, .ref t, .int st] ∧ SetsAt K H s A B ∧ SqL K H t (il cs) ∧ B.length = A.length ∧ A.length ≤ 10 ∧ CodesOk A.length cs ∧ cs.length ≤ 1000 ∧ StOk st ∧
  RetN (.tup [.str (tx (gon A B cs st).1), .int (gon A B cs st).2]) H Q
theorem pm_gone (D : DefAt K mg "gone" s_gone) (B : Bl mg) : Pm P w K mg base CX0 1 "gone" ["sets", "tape", "state"] (sp_gone K) := by
  obtain ⟨f, fd, F, hm⟩ := D
  refine ⟨f, fd, ?_, hm, F.kp, F.binds fun _ _ _ _ _ _ us hl => match us, hl with | [_, _, _], _ => rfl⟩
  refine F.ok sc_gone (fun vs H Q E h => ?_) (fun cdv A outer s H vs Q E hr h => ?_)
  · obtain ⟨_, _, _, _, _, _, rfl, _⟩ := h
    rfl
  · obtain ⟨s, t, A', B', cs, st, rfl, hS, hT, eL, nL, hc, cl, hst, k⟩ := h
    refine ⟨_, (pss_cons (ps_set (i := 3) sc_gone.nd rfl (Or.inl rfl) (pe_callB (lenK K rfl) (by rfl) B.len PySem.boot_len (pa_cons (pe_ix (ixK K rfl) (pv 0) pe_int (fun _ _ => rfl)) pa_nil)))
 (pss_cons (ps_set (i := 4) sc_gone.nd rfl (Or.inl rfl) (pe_strT (l := []) (by decide +kernel)))
 (pss_cons (ps_for PassesOwn.never rfl (piL K rfl (pv 1)) (pg_name (i := 5) sc_gone.nd rfl (Or.inl rfl))
 (pss_cons (ps_if (pt_cmpR op_lt (pv 5) (pv 3) (nomark _))
 (pss_cons (ps_set (i := 4) sc_gone.nd rfl (Or.inl rfl) (pe_op op_addP (pv 4) (pe_ix (ixK K rfl) (pe_ix (ixK K rfl) (pv 0) (pv 2) (fun _ _ => rfl)) (pv 5) (fun _ _ => rfl))))
 pss_nil)
 (pss_cons (ps_set (i := 2) sc_gone.nd rfl (Or.inl rfl) (pe_op op_sub (pv 5) (pv 3)))
 pss_nil))
 pss_nil))
 (pss_cons (ps_ret (pe_tup (pa_cons (pv 4) (pa_cons (pv 2) pa_nil))))
 pss_nil)))), ?_⟩
    refine go_st (σ := [some (.ref s), some (.ref t), some (.int st), none, none, none]) rfl ?_
    wtm_at "r"
    refine go_forL (fun i σ F => ∃ y, σ = [some (.ref s), some (.ref t), some (.int (gon A' B' (cs.take i) st).2), some (.int (A'.length : Nat)), some (.str (tx (gon A' B' (cs.take i) st).1)), y] ∧ Ex H F) ?_
    wtm_at "r"
    refine ⟨t, il cs, rfl, hT, ⟨none, rfl, exr H⟩, fun i σ F hi ⟨_, _, e⟩ => ex_l e hT, ?_, ?_⟩
    · rintro i y σ F hy ⟨y0, rfl, e⟩
      obtain ⟨c, hcy, rfl, hmem⟩ := il_at hy
      have hcc := hc c hmem
      have hs2 := gon_st hst (hc.take i) (B := B')
      have hS2 := ex_t e hS
      have hl := gon_len A' B' st (cs.take i)
      have hl2 : (cs.take i).length ≤ cs.length := List.length_take_le' _ _
      have step := gon_take (A := A') (B := B') (st := st) hcy
      wtm_at "r"
      refine ⟨fun hlt => ?_, fun hlt => ?_⟩
      · have hlt := of_decide_eq_true hlt
        wtm_at "r"
        refine wp_ixT hS2 (at_row hs2) ?_
        wtm_at "r"
        refine wp_ixS (by rw [row_len eL]; omega) (at_sgn eL hcc.1 hlt) ?_
        refine wp_addS (j := [sgn A' B' (gon A' B' (cs.take i) st).2 c]) (by wtm_at "sz") ?_
        wtm_at "r"
        refine go_turn rfl ⟨some (.int c), ?_, e⟩
        rw [step]
        unfold gst
        rw [if_pos hlt]
        rfl
      · have hlt := of_decide_eq_false hlt
        wtm_at "r"
        refine go_turn rfl ⟨some (.int c), ?_, e⟩
        rw [step]
        unfold gst
        rw [if_neg hlt]
        rfl
    · rintro σ F ⟨y0, rfl, e⟩
      rw [List.length_map, List.take_length]
      wtm_at "r"
      refine ⟨(by show 2 ≤ 100000; decide), fun p hp => k.out (e.trans (ex_new hp)) (e.free hp) upd_same⟩

abbrev s_need_sets : Stmt := topS 8
abbrev n_need_sets : List Str := ["sets", "one", "other"]
theorem sc_need_sets : FnScope n_need_sets ["sets"] (defScope s_need_sets) := ⟨rfl, rfl, rfl, by decide +kernel, rfl, by decide +kernel, by decide +kernel⟩

def sp_need_sets (K : PySem.W.Frag) : Sp := fun vs H Q _ => ∃ (s : Addr) (A B : List Nat), vs = [.ref s] ∧ SetsAt K H s A B ∧ Good A B ∧ RetV .non H Q
theorem pm_need_sets (D : DefAt K mg "need_sets" s_need_sets) (B : Bl mg) (c_MOST_SIGNS : ∃ t, mg "MOST_SIGNS" = some (.int 10 t)) : Pm P w K mg base CX0 1 "need_sets" ["sets"] (sp_need_sets K) := by
  obtain ⟨f, fd, F, hm⟩ := D
  refine ⟨f, fd, ?_, hm, F.kp, F.binds fun _ _ _ _ _ _ us hl => match us, hl with | [_], _ => rfl⟩
  refine F.ok sc_need_sets (fun vs H Q E h => ?_) (fun cdv A outer s H vs Q E hr h => ?_)
  · obtain ⟨_, _, _, rfl, _⟩ := h
    rfl
  · obtain ⟨s, A', B', rfl, hS, g, k⟩ := h
    obtain ⟨n1, n10, eL, ndA, ndB⟩ := g
    have eA := (dd_full A').mpr ndA
    have eB := (dd_full B').mpr ndB
    refine ⟨_, (pss_cons (ps_asg (pv 0) (pgT K rfl (n := 2) rfl (pgs_cons (pg_name (i := 1) sc_need_sets.nd rfl (Or.inl rfl)) (pgs_cons (pg_name (i := 2) sc_need_sets.nd rfl (Or.inl rfl)) pgs_nil))))
 (pss_cons (ps_if (pt_not (pt_chain op_le op_le pe_int (pe_callB (lenK K rfl) (by rfl) B.len PySem.boot_len (pa_cons (pv 1) pa_nil)) (pe_cst c_MOST_SIGNS)))
 (pss_cons ps_never
 pss_nil)
 pss_nil)
 (pss_cons (ps_if (pt_cmpR (neK K rfl hr.units) (pe_lenSg rfl B.len B.set (pv 1)) (pe_callB (lenK K rfl) (by rfl) B.len PySem.boot_len (pa_cons (pv 1) pa_nil)) (nomark _))
 (pss_cons ps_never
 pss_nil)
 pss_nil)
 (pss_cons (ps_if (PW.pt (pw_or (pt_cmpR (neK K rfl hr.units) (pe_callB (lenK K rfl) (by rfl) B.len PySem.boot_len (pa_cons (pv 2) pa_nil)) (pe_callB (lenK K rfl) (by rfl) B.len PySem.boot_len (pa_cons (pv 1) pa_nil)) (nomark _)) (pw_or1 (pt_cmpR (neK K rfl hr.units) (pe_lenSg rfl B.len B.set (pv 2)) (pe_callB (lenK K rfl) (by rfl) B.len PySem.boot_len (pa_cons (pv 2) pa_nil)) (nomark _)))))
 (pss_cons ps_never
 pss_nil)
 pss_nil)
 pss_nil)))), ?_⟩
    refine go_st (σ := [some (.ref s), none, none]) rfl ?_
    wtm_at "r"
    refine bT (by wtm_at "dec") ?_
    wtm_at "r"
    refine bF (by wtm_at "dec") ?_
    wtm_at "r"
    refine wp_lenSg ?_
    wtm_at "r"
    refine ⟨by omega, ?_⟩
    wtm_at "r"
    refine bF (by wtm_at "dec") ?_
    wtm_at "r"
    refine bF (by wtm_at "dec") ?_
    wtm_at "r"
    refine wp_lenSg ?_
    wtm_at "r"
    refine ⟨by omega, ?_⟩
    wtm_at "r"
    refine bF (by wtm_at "dec") ?_
    wtm_at "r"
    exact k.out (exr H)
abbrev s_need_tape : Stmt := topS 9
abbrev n_need_tape : List Str := ["sets", "tape", "at", "code"]
theorem sc_need_tape : FnScope n_need_tape ["sets", "tape"] (defScope s_need_tape) := ⟨rfl, rfl, rfl, by decide +kernel, rfl, by decide +kernel, by decide +kernel⟩

def sp_need_tape (K : PySem.W.Frag) : Sp := fun vs H Q _ => ∃ (s t : Addr) (A B : List Nat) (cs : List Int), vs = [.ref s, .ref t] ∧ SetsAt K H s A B ∧ SqL K H t (il cs) ∧ A.length ≤ 10 ∧ CodesOk A.length cs ∧ cs.length ≤ 200 ∧ RetV .non H Q
theorem pm_need_tape (D : DefAt K mg "need_tape" s_need_tape) (B : Bl mg) (c_MOST_CODES : ∃ t, mg "MOST_CODES" = some (.int 200 t)) : Pm P w K mg base CX0 1 "need_tape" ["sets", "tape"] (sp_need_tape K) := by
  obtain ⟨f, fd, F, hm⟩ := D
  refine ⟨f, fd, ?_, hm, F.kp, F.binds fun _ _ _ _ _ _ us hl => match us, hl with | [_, _], _ => rfl⟩
  refine F.ok sc_need_tape (fun vs H Q E h => ?_) (fun cdv A outer s H vs Q E hr h => ?_)
  · obtain ⟨_, _, _, _, _, rfl, _⟩ := h
    rfl
  · obtain ⟨s, t, A', B', cs, rfl, hS, hT, nL, hc, cl, k⟩ := h
    refine ⟨_, (pss_cons (ps_for PassesOwn.never rfl (piE K rfl B.enumerate (pa_cons (pv 1) pa_nil)) (pgT K rfl (n := 2) rfl (pgs_cons (pg_name (i := 2) sc_need_tape.nd rfl (Or.inl rfl)) (pgs_cons (pg_name (i := 3) sc_need_tape.nd rfl (Or.inl rfl)) pgs_nil)))
 (pss_cons (ps_if (PW.pt (pw_or (pt_cmpR op_ge (pv 2) (pe_cst c_MOST_CODES) (nomark _)) (pw_or1 (pt_not (pt_chain op_le op_lt pe_int (pv 3) (pe_op op_addP (pe_callB (lenK K rfl) (by rfl) B.len PySem.boot_len (pa_cons (pe_ix (ixK K rfl) (pv 0) pe_int (fun _ _ => rfl)) pa_nil)) pe_int))))))
 (pss_cons ps_never
 pss_nil)
 pss_nil)
 pss_nil))
 pss_nil), ?_⟩
    refine go_st (σ := [some (.ref s), some (.ref t), none, none]) rfl ?_
    refine go_forE (fun i σ F => ∃ x y, σ = [some (.ref s), some (.ref t), x, y] ∧ Ex H F) ?_
    wtm_at "r"
    refine ⟨t, il cs, rfl, hT, ⟨none, none, rfl, exr H⟩, fun i σ F hi ⟨_, _, _, e⟩ => ex_l e hT, ?_, ?_⟩
    · rintro i y σ F p hy hp ⟨x0, y0, rfl, e⟩
      obtain ⟨c, hcy, rfl, hmem⟩ := il_at hy
      have hcc := hc c hmem
      have hi : i < cs.length := (List.getElem?_eq_some_iff.mp hcy).1
      have hS2 := ex_t (e.trans (ex_new (u := .tup [.int (i : Nat), .int c]) hp)) hS
      wtm_at "r"
      refine bF (by wtm_at "dec") ?_
      wtm_at "r"
      refine bT (by wtm_at "dec") ?_
      wtm_at "r"
      refine bF (by wtm_at "dec") ?_
      wtm_at "r"
      exact go_turn rfl ⟨_, _, rfl, e.trans (ex_new hp)⟩
    · rintro σ F ⟨_, _, rfl, e⟩
      exact k.out e
abbrev s_need_state : Stmt := topS 10
abbrev n_need_state : List Str := ["state"]
theorem sc_need_state : FnScope n_need_state ["state"] (defScope s_need_state) := ⟨rfl, rfl, rfl, by decide +kernel, rfl, by decide +kernel, by decide +kernel⟩

def sp_need_state (K : PySem.W.Frag) : Sp := fun vs H Q _ => ∃ (st : Int), vs = [.int st] ∧ StOk st ∧ RetV .non H Q
theorem pm_need_state (D : DefAt K mg "need_state" s_need_state) : Pm P w K mg base CX0 1 "need_state" ["state"] (sp_need_state K) := by
  obtain ⟨f, fd, F, hm⟩ := D
  refine ⟨f, fd, ?_, hm, F.kp, F.binds fun _ _ _ _ _ _ us hl => match us, hl with | [_], _ => rfl⟩
  refine F.ok sc_need_state (fun vs H Q E h => ?_) (fun cdv A outer s H vs Q E hr h => ?_)
  · obtain ⟨_, rfl, _⟩ := h
    rfl
  · obtain ⟨st, rfl, hst, k⟩ := h
    refine ⟨_, (pss_cons (ps_if (pt_cmpR (niK K rfl) (pv 0) (pe_tup (pa_cons pe_int (pa_cons pe_int pa_nil))) (by rfl))
 (pss_cons ps_never
 pss_nil)
 pss_nil)
 pss_nil), ?_⟩
    refine go_st (σ := [some (.int st)]) rfl ?_
    wtm_at "r"
    refine ⟨(by show 2 ≤ 100000; decide), fun p hp => ?_⟩
    refine wp_niT (SqT.of upd_same) rfl rfl ?_
    wtm_at "r"
    refine bF ?_ ?_
    · rcases hst with h | h <;> subst h <;> rfl
    wtm_at "r"
    exact k.out (ex_new hp)
abbrev s_need_all : Stmt := topS 11
abbrev n_need_all : List Str := ["sets", "tape", "state"]
theorem sc_need_all : FnScope n_need_all ["sets", "tape", "state"] (defScope s_need_all) := ⟨rfl, rfl, rfl, by decide +kernel, rfl, by decide +kernel, by decide +kernel⟩

def sp_need_all (K : PySem.W.Frag) : Sp := fun vs H Q _ => ∃ (s t : Addr) (A B : List Nat) (cs : List Int) (st : Int), vs = [.ref s, .ref t, .int st] ∧ SetsAt K H s A B ∧ SqL K H t (il cs) ∧ Good A B ∧ CodesOk A.length cs ∧ cs.length ≤ 200 ∧ StOk st ∧ RetV .non H Q
theorem wp_need_sets {o : Option Addr} {F : Hp} {Pq : V → Hp → Prop} {s : Addr} {A B : List Nat} {E : XK} (hS : SetsAt K F s A B) (g : Good A B) (q : Pq .non F) : Wp o (fun H Q => sp_need_sets K ([.ref s] ++ []) H Q E) F Pq :=
  fun H w Q k => ⟨s, A, B, rfl, w.t hS, g, RetV.use w q k⟩
theorem wp_need_tape {o : Option Addr} {F : Hp} {Pq : V → Hp → Prop} {s t : Addr} {A B : List Nat} {cs : List Int} {E : XK} (hS : SetsAt K F s A B) (hT : SqL K F t (il cs)) (g : A.length ≤ 10) (hc : CodesOk A.length cs) (cl : cs.length ≤ 200) (q : Pq .non F) :
    Wp o (fun H Q => sp_need_tape K ([.ref s, .ref t] ++ []) H Q E) F Pq := fun H w Q k => ⟨s, t, A, B, cs, rfl, w.t hS, w.l hT, g, hc, cl, RetV.use w q k⟩
theorem wp_need_state {o : Option Addr} {F : Hp} {Pq : V → Hp → Prop} {st : Int} {E : XK} (h : StOk st) (q : Pq .non F) : Wp o (fun H Q => sp_need_state K ([.int st] ++ []) H Q E) F Pq :=
  fun H w Q k => ⟨st, rfl, h, RetV.use w q k⟩
theorem wp_need_all {o : Option Addr} {F : Hp} {Pq : V → Hp → Prop} {s t : Addr} {A B : List Nat} {cs : List Int} {st : Int} {E : XK} (hS : SetsAt K F s A B) (hT : SqL K F t (il cs)) (g : Good A B) (hc : CodesOk A.length cs) (cl : cs.length ≤ 200) (h : StOk st) (q : Pq .non F) :
    Wp o (fun H Q => sp_need_all K ([.ref s, .ref t, .int st] ++ []) H Q E) F Pq := fun H w Q k => ⟨s, t, A, B, cs, st, rfl, w.t hS, w.l hT, g, hc, cl, h, RetV.use w q k⟩
theorem wp_gone {o : Option Addr} {F : Hp} {Pq : V → Hp → Prop} {s t : Addr} {A B : List Nat} {cs : List Int} {st : Int} {E : XK} (hS : SetsAt K F s A B) (hT : SqL K F t (il cs)) (eL : B.length = A.length) (nL : A.length ≤ 10) (hc : CodesOk A.length cs) (cl : cs.length ≤ 1000) (h : StOk st)
    (q : ∀ p, F p = none → Pq (.ref p) (upd F p (.tup [.str (tx (gon A B cs st).1), .int (gon A B cs st).2]))) :
    Wp o (fun H Q => sp_gone K ([.ref s, .ref t, .int st] ++ []) H Q E) F Pq := fun H w Q k => ⟨s, t, A, B, cs, st, rfl, w.t hS, w.l hT, eL, nL, hc, cl, h, RetN.use w q k⟩
theorem pm_need_all (D : DefAt K mg "need_all" s_need_all) (g_need_sets : Pm P w K mg base CX0 1 "need_sets" ["sets"] (sp_need_sets K)) (g_need_tape : Pm P w K mg base CX0 1 "need_tape" ["sets", "tape"] (sp_need_tape K))
    (g_need_state : Pm P w K mg base CX0 1 "need_state" ["state"] (sp_need_state K)) : Pm P w K mg base CX0 2 "need_all" ["sets", "tape", "state"] (sp_need_all K) := by
  obtain ⟨f, fd, F, hm⟩ := D
  refine ⟨f, fd, ?_, hm, F.kp, F.binds fun _ _ _ _ _ _ us hl => match us, hl with | [_, _, _], _ => rfl⟩
  refine F.ok sc_need_all (fun vs H Q E h => ?_) (fun cdv A outer s H vs Q E hr h => ?_)
  · obtain ⟨_, _, _, _, _, _, rfl, _⟩ := h
    rfl
  · obtain ⟨s, t, A', B', cs, st, rfl, hS, hT, g, hc, cl, hst, k⟩ := h
    refine ⟨_, (pss_cons (ps_expr (pe_pm g_need_sets (hr.mono (by decide)) pass0 (pa_cons (pv 0) pa_nil)))
 (pss_cons (ps_expr (pe_pm g_need_tape (hr.mono (by decide)) pass0 (pa_cons (pv 0) (pa_cons (pv 1) pa_nil))))
 (pss_cons (ps_expr (pe_pm g_need_state (hr.mono (by decide)) pass0 (pa_cons (pv 2) pa_nil)))
 pss_nil))), ?_⟩
    refine go_st (σ := [some (.ref s), some (.ref t), some (.int st)]) rfl ?_
    wtm_at "r"
    refine wp_need_sets hS g ?_
    wtm_at "r"
    refine wp_need_tape hS hT g.n10 hc cl ?_
    wtm_at "r"
    refine wp_need_state hst ?_
    wtm_at "r"
    exact k.out (exr H)
abbrev s_read : Stmt := topS 14
abbrev n_read : List Str := ["sets", "tape", "state"]
theorem sc_read : FnScope n_read ["sets", "tape", "state"] (defScope s_read) := ⟨rfl, rfl, rfl, by decide +kernel, rfl, by decide +kernel, by decide +kernel⟩

def sp_read (K : PySem.W.Frag) : Sp := fun vs H Q _ => ∃ (s t : Addr) (A B : List Nat) (cs : List Int) (st : Int), vs = [.ref s, .ref t, .int st] ∧ SetsAt K H s A B ∧ SqL K H t (il cs) ∧ Good A B ∧ CodesOk A.length cs ∧ cs.length ≤ 200 ∧ StOk st ∧
  RetN (.tup [.str (tx (gon A B cs st).1), .int (gon A B cs st).2]) H Q
theorem wp_read {o : Option Addr} {F : Hp} {Pq : V → Hp → Prop} {s t : Addr} {A B : List Nat} {cs : List Int} {st : Int} {E : XK} (hS : SetsAt K F s A B) (hT : SqL K F t (il cs)) (g : Good A B) (hc : CodesOk A.length cs) (cl : cs.length ≤ 200) (h : StOk st)
    (q : ∀ p, F p = none → Pq (.ref p) (upd F p (.tup [.str (tx (gon A B cs st).1), .int (gon A B cs st).2]))) :
    Wp o (fun H Q => sp_read K ([.ref s, .ref t, .int st] ++ []) H Q E) F Pq := fun H w Q k => ⟨s, t, A, B, cs, st, rfl, w.t hS, w.l hT, g, hc, cl, h, RetN.use w q k⟩
theorem pm_read (D : DefAt K mg "read" s_read) (g_need_all : Pm P w K mg base CX0 2 "need_all" ["sets", "tape", "state"] (sp_need_all K)) (g_gone : Pm P w K mg base CX0 1 "gone" ["sets", "tape", "state"] (sp_gone K)) :
    Pm P w K mg base CX0 3 "read" ["sets", "tape", "state"] (sp_read K) := by
  obtain ⟨f, fd, F, hm⟩ := D
  refine ⟨f, fd, ?_, hm, F.kp, F.binds fun _ _ _ _ _ _ us hl => match us, hl with | [_, _, _], _ => rfl⟩
  refine F.ok sc_read (fun vs H Q E h => ?_) (fun cdv A outer s H vs Q E hr h => ?_)
  · obtain ⟨_, _, _, _, _, _, rfl, _⟩ := h
    rfl
  · obtain ⟨s, t, A', B', cs, st, rfl, hS, hT, g, hc, cl, hst, k⟩ := h
    refine ⟨_, (pss_cons (ps_expr (pe_pm g_need_all (hr.mono (by decide)) pass0 (pa_cons (pv 0) (pa_cons (pv 1) (pa_cons (pv 2) pa_nil)))))
 (pss_cons (ps_ret (pe_pm g_gone (hr.mono (by decide)) pass0 (pa_cons (pv 0) (pa_cons (pv 1) (pa_cons (pv 2) pa_nil)))))
 pss_nil)), ?_⟩
    refine go_st (σ := [some (.ref s), some (.ref t), some (.int st)]) rfl ?_
    wtm_at "r"
    refine wp_need_all hS hT g hc cl hst ?_
    wtm_at "r"
    refine wp_gone hS hT g.eq g.n10 hc (by omega) hst fun p hp => ?_
    exact k.out (ex_new hp) hp upd_same
end
section
variable {P : Program} {w : World} {K : PySem.W.Frag} {mg : Str → Option Value} {base : Heap}
abbrev s_q_dice : Stmt := topS 18
abbrev n_q_dice : List Str := ["_law_script", "_law_k", "_law_found", "_law_cell"]
theorem sc_q_dice : FnScope n_q_dice ["_law_script", "_law_k"] (defScope s_q_dice) := ⟨rfl, rfl, rfl, by decide +kernel, rfl, by decide +kernel, by decide +kernel⟩

def sp_dice (K : PySem.W.Frag) : Sp := fun vs H Q _ => ∃ (a : Addr) (k : Int) (ns : List Int), vs = [.ref a, .int k] ∧ SqL K H a (il ns) ∧ ns.length ≤ 63 ∧ ∀ p H1, H p = none → Ex H H1 → Dc H1 p → Q (.ref p) H1
theorem il_take (ms : List Int) (c : Int) : il ms ++ [V.int c] = il (ms ++ [c]) := by simp
theorem pm_dice (D : DefAt K mg "_law_dice" s_q_dice) (B : Bl mg) : Pm P w K mg base CX0 1 "_law_dice" ["_law_script", "_law_k"] (sp_dice K) := by
  obtain ⟨f, fd, F, hm⟩ := D
  refine ⟨f, fd, ?_, hm, F.kp, F.binds fun _ _ _ _ _ _ us hl => match us, hl with | [_, _], _ => rfl⟩
  refine F.ok sc_q_dice (fun vs H Q E h => ?_) (fun cdv A outer s H vs Q E hr h => ?_)
  · obtain ⟨_, _, _, rfl, _⟩ := h
    rfl
  · obtain ⟨a, k0, ns, rfl, hA, hl, k⟩ := h
    refine ⟨_, (pss_cons (ps_set (i := 2) sc_q_dice.nd rfl (Or.inl rfl) (pv 1))
 (pss_cons (ps_for PassesOwn.never rfl (piL K rfl (pv 0)) (pg_name (i := 3) sc_q_dice.nd rfl (Or.inl rfl))
 (pss_cons (ps_set (i := 2) sc_q_dice.nd rfl (Or.inl rfl) (pe_op op_modN (pe_op op_addP (pe_op op_mulP (pv 2) pe_int) (pe_callB call_abs (by rfl) B.abs (by decide +kernel) (pa_cons (pv 3) pa_nil))) pe_int))
 pss_nil))
 (pss_cons (ps_ret (pe_op op_addP (pe_lst (pa_cons (pv 2) (pa_cons pe_int pa_nil))) (pe_lc (own := [("_law_cell", 3)]) (g := gName 3) rfl sc_q_dice.nd (piL K rfl (pv 0)) (blkOk_by (N := n_q_dice) (sc := defScope s_q_dice) (by decide +kernel)) (fun _ _ _ _ _ => pg_name (i := 3) sc_q_dice.nd rfl (Or.inl rfl)) (fun _ _ _ _ _ => (pts_one (pt_cmpR op_ge (pv 3) (pe_op op_pow pe_int pe_int) (nomark _)))) (fun _ _ _ _ _ => (pv 3)))))
 pss_nil))), ?_⟩
    refine go_st (σ := [some (.ref a), some (.int k0), none, none]) rfl ?_
    wtm_at "r"
    refine go_forL (fun i σ F => ∃ (x : Int) (y : Option V), σ = [some (.ref a), some (.int k0), some (.int x), y] ∧ Ex H F) ?_
    wtm_at "r"
    refine ⟨a, il ns, rfl, hA, ⟨k0, none, rfl, exr H⟩, fun i σ F hi ⟨_, _, _, e⟩ => ex_l e hA, ?_, ?_⟩
    · rintro i y σ F hy ⟨x, y0, rfl, e⟩
      obtain ⟨c, hcy, rfl, hmem⟩ := il_at hy
      wtm_at "r"
      refine wp_mulI (.inr ⟨by decide, by decide⟩) ?_
      wtm_at "r"
      refine wp_abs ?_
      wtm_at "r"
      refine wp_i (by decide) ?_
      wtm_at "r"
      exact go_turn rfl ⟨_, _, rfl, e⟩
    · rintro σ F ⟨x, y0, rfl, e⟩
      wtm_at "r"
      refine ⟨(by show 2 ≤ 100000; decide), fun p hp => ?_⟩
      refine wp_lcL (fun _ => rfl) ?_
      wtm_at "r"
      refine ⟨a, il ns, rfl, ex_l (e.trans (ex_new hp)) hA, fun Dl hD => ?_⟩
      have npd := fr_ne hD
      refine ⟨fun i acc F2 => ∃ ms : List Int, acc = il ms ∧ ms.length ≤ i ∧ Ex H F2 ∧ F2 p = some (.lst [.int x, .int 0]), ⟨[], rfl, Nat.le_refl _, (e.trans (ex_new hp)).trans (ex_new hD), by wtm_at "at"⟩, fun i acc F2 ⟨_, _, _, e2, _⟩ => ex_l e2 hA, ?_, ?_⟩
      · rintro i y acc F2 hy q2 ⟨ms, rfl, hms, e2, hp2⟩
        obtain ⟨c, hcy, rfl, hmem⟩ := il_at hy
        have hi : i < ns.length := (List.getElem?_eq_some_iff.mp hcy).1
        show Wp _ _ _ _
        wtm_at "r"
        refine wp_i ⟨by decide, by decide, by decide⟩ ?_
        wtm_at "r"
        refine ⟨fun _ => ?_, fun _ => ⟨q2, ms, rfl, by omega, e2, hp2⟩⟩
        wtm_at "r"
        have hDH : H Dl = none := (e.trans (ex_new hp)).free hD
        refine ⟨q2, by rw [List.length_map]; omega, ms ++ [c], il_take ms c, by rw [List.length_append, List.length_singleton]; omega, ex_mut e2 hDH, ?_⟩
        rw [upd_ne npd.symm]
        exact hp2
      · rintro acc F2 q2 ⟨ms, rfl, hms, e2, hp2⟩
        rw [List.length_map] at hms
        refine wp_addL hp2 q2 (by rw [List.length_map]; show 2 + _ ≤ _; omega) fun r hr2 => ?_
        intro H3 w3
        refine k r H3 (e2.free hr2) (e2.trans ((ex_new hr2).trans w3.ex)) ⟨x :: 0 :: ms, ?_, ?_, ?_⟩
        · exact w3.ex _ _ upd_same
        · simp
        · simp only [List.length_cons]; omega
abbrev s_q_off : Stmt := topS 19
abbrev n_q_off : List Str := ["_law_d", "_law_most", "_law_found"]
theorem sc_q_off : FnScope n_q_off ["_law_d", "_law_most"] (defScope s_q_off) := ⟨rfl, rfl, rfl, by decide +kernel, rfl, by decide +kernel, by decide +kernel⟩

def sp_off : Sp := fun vs H Q _ => ∃ (d : Addr) (m : Int), vs = [.ref d, .int m] ∧ 0 < m ∧ m < 1000000 ∧ Dc H d ∧ ∀ (r : Nat) (H1 : Hp), (r : Int) < m → Ex (rm H d) H1 → Dc H1 d → Q (.int (r : Int)) H1
theorem wp_off {d : Addr} {F : Hp} {Pq : V → Hp → Prop} {m : Int} {E : XK} (h0 : 0 < m) (h1 : m < 1000000) (q : ∀ r : Nat, (r : Int) < m → Pq (.int (r : Int)) F) : Wp (some d) (fun H Q => sp_off ([.ref d, .int m] ++ []) H Q E) F Pq := fun H w Q k =>
  ⟨d, m, rfl, h0, h1, (w.dc d rfl).2, fun r H1 hr e hu => k _ _ F ⟨(ex_to_rm w.ex (w.dc d rfl).1).trans e, fun b z => by cases z; exact ⟨(w.dc d rfl).1, hu⟩⟩ (q r hr)⟩
theorem fmod_nat {x m : Int} (h : 0 < m) : ∃ r : Nat, Int.fmod x m = (r : Int) ∧ (r : Int) < m := by
  refine ⟨(x % m).toNat, ?_, ?_⟩
  · rw [Int.fmod_eq_emod_of_nonneg _ (by omega)]
    have := Int.emod_nonneg x (show m ≠ 0 by omega)
    omega
  · have h1 := Int.emod_lt_of_pos x h
    have h2 := Int.emod_nonneg x (show m ≠ 0 by omega)
    omega
theorem pm_off (D : DefAt K mg "_law_off" s_q_off) (B : Bl mg) : Pm P w K mg base CX0 1 "_law_off" ["_law_d", "_law_most"] sp_off := by
  obtain ⟨f, fd, F, hm⟩ := D
  refine ⟨f, fd, ?_, hm, F.kp, F.binds fun _ _ _ _ _ _ us hl => match us, hl with | [_, _], _ => rfl⟩
  refine F.ok sc_q_off (fun vs H Q E h => ?_) (fun cdv A outer s H vs Q E hr h => ?_)
  · obtain ⟨_, _, rfl, _⟩ := h
    rfl
  · obtain ⟨d, m, rfl, m0, m1, hd, k⟩ := h
    obtain ⟨ns, hd, l2, l70⟩ := hd
    obtain ⟨n0, n1, ns, rfl⟩ : ∃ n0 n1 r, ns = n0 :: n1 :: r := by
      match ns, l2 with
      | a :: b :: r, _ => exact ⟨a, b, r, rfl⟩
    refine ⟨_, (Evl.pss_cut (ps_if (PW.pt (pw_and (pt_cmpR (eqK K rfl hr.units) (pe_ix (ixK K rfl) (pv 0) pe_int (fun _ _ => rfl)) pe_int (nomark _)) (pw_and1 (pt_cmpR op_gt (pe_callB (lenK K rfl) (by rfl) B.len PySem.boot_len (pa_cons (pv 0) pa_nil)) pe_int (nomark _)))))
 (pss_cons (ps_asg (bmK K rfl PySem.F.plainAttrs_list PySem.F.slot_list_pop PySem.F.type_list_pop mt_popAt (pv 0) (pa_cons pe_int pa_nil)) (pg_sub (pv 0) pe_int set_list))
 pss_nil)
 pss_nil)
 (pss_cons (ps_if (pt_cmpR op_gt (pe_ix (ixK K rfl) (pv 0) pe_int (fun _ _ => rfl)) pe_int (nomark _))
 (pss_cons (ps_set (i := 2) sc_q_off.nd rfl (Or.inl rfl) (pe_op op_modN (pe_ix (ixK K rfl) (pv 0) pe_int (fun _ _ => rfl)) (pv 1)))
 (pss_cons (ps_asg (pe_op op_fdivN (pe_ix (ixK K rfl) (pv 0) pe_int (fun _ _ => rfl)) (pv 1)) (pg_sub (pv 0) pe_int set_list))
 (pss_cons (ps_ret (pv 2))
 pss_nil)))
 pss_nil)
 (pss_cons (ps_asg (pe_op op_modN (pe_op op_addP (pe_op op_mulP (pe_ix (ixK K rfl) (pv 0) pe_int (fun _ _ => rfl)) pe_int) pe_int) pe_int) (pg_sub (pv 0) pe_int set_list))
 (pss_cons (ps_ret (pe_op op_modN (pe_op op_fdivN (pe_ix (ixK K rfl) (pv 0) pe_int (fun _ _ => rfl)) pe_int) (pv 1)))
 pss_nil)))), ?_⟩
    refine go_st (σ := [some (.ref d), some (.int m), none]) rfl ?_
    refine go_cut (fun σ F => ∃ n0 n1 ns, σ = [some (.ref d), some (.int m), none] ∧ F = upd H d (.lst (il (n0 :: n1 :: ns))) ∧ ns.length ≤ 68) ?_ ?_
    · wtm_at "r"
      have fin : ∀ F1, F1 = H → Go none tNext { nx := Cl none fun σ F => ∃ n0 n1 ns, σ = [some (.ref d), some (.int m), none] ∧ F = upd H d (.lst (il (n0 :: n1 :: ns))) ∧ ns.length ≤ 68, rt := Q } [some (.ref d), some (.int m), none] F1 := by
        rintro F1 rfl
        refine go_turn rfl ⟨n0, n1, ns, rfl, ?_, by simp only [List.length_cons] at l70; omega⟩
        funext b
        by_cases e : b = d
        · subst e; rw [upd_same]; exact hd
        · rw [upd_ne e]
      refine wp_ixL (SqL.of hd) (atNat (by decide) rfl) ?_
      wtm_at "r"
      refine ⟨fun _ => ?_, fun _ => bF rfl (fin _ rfl)⟩
      wtm_at "r"
      refine ⟨fun h2 => ?_, fun _ => fin _ rfl⟩
      have h2 := of_decide_eq_true h2
      obtain ⟨n2, ns, rfl⟩ : ∃ n2 r, ns = n2 :: r := by
        match ns, h2 with
        | [], h2 => simp at h2
        | a :: r, _ => exact ⟨a, r, rfl⟩
      wtm_at "r"
      refine wp_bmL ?_
      wtm_at "r"
      refine ⟨d, _, rfl, SqL.of hd, ?_⟩
      wtm_at "r"
      refine wp_popAt (j := 2) (y := .int n2) hd (by simp only [List.length_map]; omega) rfl ?_
      refine wp_gSetL ?_
      wtm_at "r"
      refine ⟨d, _, 1, 1, rfl, rfl, upd_same, ?_, ?_⟩
      · exact ixN_nat (j := 1) (by simp)
      · refine go_turn rfl ⟨n0, n2, ns, rfl, ?_, by simp only [List.length_cons] at l70; omega⟩
        rw [upd_upd]
        rfl
    · rintro σ F ⟨n0, n1, ns, rfl, rfl, hl⟩
      have kk : ∀ (r : Nat) (a b : Int) (F1 : Hp), (r : Int) < m → F1 = upd H d (.lst (il (a :: b :: ns))) → ∀ H1, Wd none F1 H1 → Q (.int (r : Int)) H1 := by
        rintro r a b F1 hr rfl H1 w1
        refine k r H1 hr (fun c u e => ?_) ⟨a :: b :: ns, w1.ex _ _ upd_same, by simp, by simp only [List.length_cons]; omega⟩
        have nd : c ≠ d := fun z => by rw [z, rm_same] at e; cases e
        rw [rm_ne nd] at e
        refine w1.ex _ _ ?_
        rw [upd_ne nd]
        exact e
      obtain ⟨r1, e1, l1⟩ := fmod_nat (x := n1) m0
      wtm_at "r"
      refine wp_ixL (SqL.of upd_same) (atNat (by decide) rfl) ?_
      wtm_at "r"
      refine ⟨fun _ => ?_, fun _ => ?_⟩
      · wtm_at "r"
        refine wp_ixL (SqL.of upd_same) (atNat (by decide) rfl) ?_
        wtm_at "r"
        refine wp_i (by omega) ?_
        wtm_at "r"
        refine wp_ixL (SqL.of upd_same) (atNat (by decide) rfl) ?_
        wtm_at "r"
        refine wp_i ⟨by omega, by omega⟩ ?_
        refine wp_gSetL ?_
        wtm_at "r"
        refine ⟨d, _, 1, 1, rfl, rfl, upd_same, ixN_nat (j := 1) (by simp), ?_⟩
        wtm_at "r"
        rw [e1]
        exact kk r1 n0 (n1.fdiv m) _ l1 (by rw [upd_upd]; rfl)
      · wtm_at "r"
        refine wp_ixL (SqL.of upd_same) (atNat (by decide) rfl) ?_
        wtm_at "r"
        refine wp_mulI (.inr ⟨by decide, by decide⟩) ?_
        wtm_at "r"
        refine wp_i (by decide) ?_
        refine wp_gSetL ?_
        wtm_at "r"
        refine ⟨d, _, 0, 0, rfl, rfl, upd_same, ixN_nat (j := 0) (by simp), ?_⟩
        wtm_at "r"
        refine wp_ixL (SqL.of upd_same) (atNat (by decide) rfl) ?_
        wtm_at "r"
        refine wp_i ⟨by decide, by decide⟩ ?_
        wtm_at "r"
        refine wp_i (by omega) ?_
        obtain ⟨r2, e2, l2⟩ := fmod_nat (x := Int.fdiv (Int.fmod (n0 * 48271 + 11) 2147483647) 64) m0
        rw [e2]
        exact kk r2 (Int.fmod (n0 * 48271 + 11) 2147483647) n1 _ l2 (by rw [upd_upd]; rfl)
end
section
variable {P : Program} {w : World} {K : PySem.W.Frag} {mg : Str → Option Value} {base : Heap}
theorem map_erase {α β : Type} (f : α → β) : ∀ (l : List α) (i : Nat), (l.map f).eraseIdx i = (l.eraseIdx i).map f
  | [], _ => rfl
  | _ :: _, 0 => rfl
  | a :: r, i + 1 => by
    show f a :: (r.map f).eraseIdx i = f a :: (r.eraseIdx i).map f
    rw [map_erase f r i]
theorem perm_erase {α : Type} : ∀ {l : List α} {i : Nat} (h : i < l.length), (l[i] :: l.eraseIdx i).Perm l
  | a :: r, 0, _ => List.Perm.refl _
  | a :: r, i + 1, h => by
    have h2 : i < r.length := by simpa using h
    exact (List.Perm.swap a r[i] _).trans ((perm_erase h2).cons a)
abbrev s_q_mixed : Stmt := topS 21
abbrev n_q_mixed : List Str := ["_law_d", "_law_row", "_law_left", "_law_found"]
theorem sc_q_mixed : FnScope n_q_mixed ["_law_d", "_law_row"] (defScope s_q_mixed) := ⟨rfl, rfl, rfl, by decide +kernel, rfl, by decide +kernel, by decide +kernel⟩

def permOf (l : List Nat) (u : HO) : Prop := ∃ l1 : List Nat, l1.Perm l ∧ u = .lst (l1.map sg)
def sp_mixed (K : PySem.W.Frag) : Sp := fun vs H Q _ => ∃ (d r : Addr) (l : List Nat), vs = [.ref d, .ref r] ∧ Dc H d ∧ SqL K (rm H d) r (l.map sg) ∧ l.length ≤ 1000 ∧ (∀ c ∈ l, c < 128) ∧ RetND d (permOf l) H Q
theorem wp_mixed {d r : Addr} {F : Hp} {Pq : V → Hp → Prop} {l : List Nat} {E : XK} (h : SqL K F r (l.map sg)) (hl : l.length ≤ 1000) (hc : ∀ c ∈ l, c < 128) (q : ∀ (p : Addr) (l1 : List Nat), F p = none → l1.Perm l → Pq (.ref p) (upd F p (.lst (l1.map sg)))) :
    Wp (some d) (fun H Q => sp_mixed K ([.ref d, .ref r] ++ []) H Q E) F Pq := fun H w Q k =>
  ⟨d, r, l, rfl, (w.dc d rfl).2, ex_l (ex_to_rm w.ex (w.dc d rfl).1) h, hl, hc, RetND.use w (fun p u n ⟨l1, hp, e⟩ => by subst e; exact q p l1 n hp) k⟩
theorem pm_mixed (D : DefAt K mg "_law_mixed" s_q_mixed) (B : Bl mg) (g_q_off : Pm P w K mg base CX0 1 "_law_off" ["_law_d", "_law_most"] sp_off) : Pm P w K mg base CX0 2 "_law_mixed" ["_law_d", "_law_row"] (sp_mixed K) := by
  obtain ⟨f, fd, F, hm⟩ := D
  refine ⟨f, fd, ?_, hm, F.kp, F.binds fun _ _ _ _ _ _ us hl => match us, hl with | [_, _], _ => rfl⟩
  refine F.ok sc_q_mixed (fun vs H Q E h => ?_) (fun cdv A outer s H vs Q E hr h => ?_)
  · obtain ⟨_, _, _, rfl, _⟩ := h
    rfl
  · obtain ⟨d, r, l, rfl, hd, hR, hl, hc, k⟩ := h
    refine ⟨_, (pss_cons (ps_set (i := 2) sc_q_mixed.nd rfl (Or.inl rfl) (pe_callTy (listK K rfl rfl) (by rfl) B.list (by decide +kernel) (pa_cons (pv 1) pa_nil)))
 (pss_cons (ps_set (i := 3) sc_q_mixed.nd rfl (Or.inl rfl) (pe_lst pa_nil))
 (pss_cons (ps_while PassesOwn.never (pt_cmpR (neK K rfl hr.units) (pv 2) (pe_lst pa_nil) (nomark _))
 (pss_cons (ps_expr (bmK K rfl PySem.F.plainAttrs_list PySem.F.slot_list_append PySem.F.type_list_append mt_append (pv 3) (pa_cons (bmK K rfl PySem.F.plainAttrs_list PySem.F.slot_list_pop PySem.F.type_list_pop mt_popAt (pv 2) (pa_cons (pe_pm g_q_off (hr.mono (by decide)) pass0 (pa_cons (pv 0) (pa_cons (pe_callB (lenK K rfl) (by rfl) B.len PySem.boot_len (pa_cons (pv 2) pa_nil)) pa_nil))) pa_nil)) pa_nil)))
 pss_nil))
 (pss_cons (ps_ret (pv 3))
 pss_nil)))), ?_⟩
    refine go_stD (σ := [some (.ref d), some (.ref r), none, none]) hd rfl ?_
    wtm_at "r"
    refine wp_listL hR fun p hp => ?_
    wtm_at "r"
    refine ⟨Nat.zero_le _, fun q hq => ?_⟩
    wtm_at "r"
    have npq := fr_ne hq
    refine go_while (fun m σ F => ∃ la lf : List Nat, σ = [some (.ref d), some (.ref r), some (.ref p), some (.ref q)] ∧ Ex (rm H d) F ∧ F p = some (.lst (la.map sg)) ∧ F q = some (.lst (lf.map sg)) ∧ (la ++ lf).Perm l ∧ m = la.length)
      l.length ⟨l, [], rfl, (ex_new hp).trans (ex_new hq), by wtm_at "at", upd_same, by rw [List.append_nil], rfl⟩ ?_
    rintro m σ F ⟨la, lf, rfl, e, h1, h2, pe, rfl⟩
    have lsum : la.length + lf.length = l.length := by rw [← List.length_append]; exact pe.length_eq
    wtm_at "r"
    refine ⟨Nat.zero_le _, fun z hz => ?_⟩
    refine wp_neS0 (SqL.of (at_ne h1 hz)) (SqL.of upd_same) (fun c h => hc c (pe.mem_iff.mp (List.mem_append_left _ h))) ?_
    wtm_at "r"
    refine ⟨fun hne => ?_, fun heq => ?_⟩
    · have hne : la ≠ [] := by simpa using hne
      have hpos : 0 < la.length := List.length_pos_iff.mpr hne
      wtm_at "r"
      refine wp_bmL ?_
      wtm_at "r"
      refine ⟨q, _, rfl, SqL.of (at_ne h2 hz), ?_⟩
      wtm_at "r"
      refine wp_bmL ?_
      wtm_at "r"
      refine ⟨p, _, rfl, SqL.of (at_ne h1 hz), ?_⟩
      wtm_at "r"
      rw [List.length_map]
      refine wp_off (by omega) (by omega) fun i hi => ?_
      have hi : i < la.length := by omega
      wtm_at "r"
      refine wp_popAt (y := sg la[i]) (at_ne h1 hz) (by rw [List.length_map]; omega) (by rw [List.getElem?_map, List.getElem?_eq_getElem hi]; rfl) ?_
      wtm_at "r"
      refine wp_append (xs := lf.map sg) (by rw [upd_ne npq]; exact at_ne h2 hz) (by rw [List.length_map]; omega) ?_
      wtm_at "r"
      have rp : rm H d p = none := hp
      have rq : rm H d q = none := (ex_new hp).free hq
      refine go_turn rfl ⟨(la.eraseIdx i).length, by rw [List.length_eraseIdx, if_pos hi]; omega, la.eraseIdx i, lf ++ [la[i]], rfl, ex_mut (ex_mut (e.trans (ex_new hz)) rp) rq, ?_, ?_, ?_, rfl⟩
      · rw [upd_ne npq.symm, upd_same, map_erase]
      · rw [upd_same, List.map_append]; rfl
      · refine List.Perm.trans ?_ pe
        refine List.Perm.trans (List.perm_append_comm_assoc _ _ _) ?_
        refine List.Perm.trans (List.Perm.append_left lf ?_) List.perm_append_comm
        refine List.Perm.trans List.perm_append_comm ?_
        exact perm_erase hi
    · have heq : la = [] := by simpa using heq
      subst heq
      wtm_at "r"
      rw [List.nil_append] at pe
      refine RetND.out k (e.trans (ex_new hz)) ((ex_new hp).free hq) (u := .lst (lf.map sg)) (at_ne h2 hz) ⟨lf, pe, rfl⟩
abbrev s_q_tape : Stmt := topS 23
abbrev n_q_tape : List Str := ["_law_d", "_law_sets_here", "_law_most", "_law_often", "_law_found", "_law_k", "_law_code"]
theorem sc_q_tape : FnScope n_q_tape ["_law_d", "_law_sets_here", "_law_most"] (defScope s_q_tape) := ⟨rfl, rfl, rfl, by decide +kernel, rfl, by decide +kernel, by decide +kernel⟩

def tapeOf (n most : Nat) (u : HO) : Prop := ∃ cs : List Int, CodesOk n cs ∧ cs.length ≤ most ∧ u = .lst (il cs)
def sp_tape (K : PySem.W.Frag) : Sp := fun vs H Q _ => ∃ (d s : Addr) (A B : List Nat) (most : Nat), vs = [.ref d, .ref s, .int (most : Int)] ∧ Dc H d ∧ SetsAt K (rm H d) s A B ∧ 1 ≤ A.length ∧ A.length ≤ 10 ∧ most ≤ 1000 ∧ RetND d (tapeOf A.length most) H Q
theorem wp_tape {d s : Addr} {F : Hp} {Pq : V → Hp → Prop} {A B : List Nat} {most : Nat} {E : XK} (h : SetsAt K F s A B) (h1 : 1 ≤ A.length) (h2 : A.length ≤ 10) (hm : most ≤ 1000)
    (q : ∀ (p : Addr) (cs : List Int), F p = none → CodesOk A.length cs → cs.length ≤ most → Pq (.ref p) (upd F p (.lst (il cs)))) :
    Wp (some d) (fun H Q => sp_tape K ([.ref d, .ref s, .int (most : Int)] ++ []) H Q E) F Pq := fun H w Q k =>
  ⟨d, s, A, B, most, rfl, (w.dc d rfl).2, ex_t (ex_to_rm w.ex (w.dc d rfl).1) h, h1, h2, hm, RetND.use w (fun p u n ⟨cs, hc, hl, e⟩ => by subst e; exact q p cs n hc hl) k⟩
theorem pm_tape (D : DefAt K mg "_law_tape" s_q_tape) (B : Bl mg) (g_q_off : Pm P w K mg base CX0 1 "_law_off" ["_law_d", "_law_most"] sp_off) : Pm P w K mg base CX0 2 "_law_tape" ["_law_d", "_law_sets_here", "_law_most"] (sp_tape K) := by
  obtain ⟨f, fd, F, hm⟩ := D
  refine ⟨f, fd, ?_, hm, F.kp, F.binds fun _ _ _ _ _ _ us hl => match us, hl with | [_, _, _], _ => rfl⟩
  refine F.ok sc_q_tape (fun vs H Q E h => ?_) (fun cdv A outer s H vs Q E hr h => ?_)
  · obtain ⟨_, _, _, _, _, rfl, _⟩ := h
    rfl
  · obtain ⟨d, s, A', B', most, rfl, hd, hS, n1, n10, hm, k⟩ := h
    refine ⟨_, (pss_cons (ps_set (i := 3) sc_q_tape.nd rfl (Or.inl rfl) (pe_op op_addP pe_int (pe_pm g_q_off (hr.mono (by decide)) pass0 (pa_cons (pv 0) (pa_cons pe_int pa_nil)))))
 (pss_cons (ps_set (i := 4) sc_q_tape.nd rfl (Or.inl rfl) (pe_lst pa_nil))
 (pss_cons (ps_for PassesOwn.never rfl (pi_range1 (by rfl) B.range (pa_cons (pe_pm g_q_off (hr.mono (by decide)) pass0 (pa_cons (pv 0) (pa_cons (pe_op op_addP (pv 2) pe_int) pa_nil))) pa_nil)) (pg_name (i := 5) sc_q_tape.nd rfl (Or.inl rfl))
 (pss_cons (ps_set (i := 6) sc_q_tape.nd rfl (Or.inl rfl) (pe_pm g_q_off (hr.mono (by decide)) pass0 (pa_cons (pv 0) (pa_cons (pe_callB (lenK K rfl) (by rfl) B.len PySem.boot_len (pa_cons (pe_ix (ixK K rfl) (pv 1) pe_int (fun _ _ => rfl)) pa_nil)) pa_nil))))
 (Evl.pss_cut (ps_if (pt_cmpR (eqK K rfl hr.units) (pe_pm g_q_off (hr.mono (by decide)) pass0 (pa_cons (pv 0) (pa_cons (pv 3) pa_nil))) pe_int (nomark _))
 (pss_cons (ps_set (i := 6) sc_q_tape.nd rfl (Or.inl rfl) (pe_op op_addP (pe_callB (lenK K rfl) (by rfl) B.len PySem.boot_len (pa_cons (pe_ix (ixK K rfl) (pv 1) pe_int (fun _ _ => rfl)) pa_nil)) (pe_pm g_q_off (hr.mono (by decide)) pass0 (pa_cons (pv 0) (pa_cons pe_int pa_nil)))))
 pss_nil)
 pss_nil)
 (pss_cons (ps_expr (bmK K rfl PySem.F.plainAttrs_list PySem.F.slot_list_append PySem.F.type_list_append mt_append (pv 4) (pa_cons (pv 6) pa_nil)))
 pss_nil))))
 (pss_cons (ps_ret (pv 4))
 pss_nil)))), ?_⟩
    refine go_stD (σ := [some (.ref d), some (.ref s), some (.int (most : Int)), none, none, none, none]) hd rfl ?_
    wtm_at "r"
    refine wp_off (by omega) (by omega) fun r0 hr0 => ?_
    wtm_at "r"
    refine ⟨Nat.zero_le _, fun q hq => ?_⟩
    wtm_at "r"
    refine go_forR (fun i σ F => ∃ (cs : List Int) (x y : Option V), σ = [some (.ref d), some (.ref s), some (.int (most : Int)), some (.int (2 + (r0 : Int))), some (.ref q), x, y] ∧ Ex (rm H d) F ∧ F q = some (.lst (il cs)) ∧ CodesOk A'.length cs ∧ cs.length ≤ i) ?_
    wtm_at "r"
    refine wp_off (by omega) (by omega) fun n hn => ?_
    wtm_at "r"
    refine ⟨n, rfl, by omega, ⟨[], none, none, rfl, ex_new hq, upd_same, (fun c h => by cases h), Nat.le_refl _⟩, ?_, ?_⟩
    · rintro i σ F hi ⟨cs, x, y, rfl, e, hf, hc, hl⟩
      have hS2 := ex_t e hS
      wtm_at "r"
      refine wp_off (by omega) (by omega) fun c hc1 => ?_
      wtm_at "r"
      refine go_cut (fun σ F => ∃ c2 : Int, (0 ≤ c2 ∧ c2 < (A'.length : Int) + 2) ∧ σ = [some (.ref d), some (.ref s), some (.int (most : Int)), some (.int (2 + (r0 : Int))), some (.ref q), some (.int (i : Int)), some (.int c2)] ∧ Ex (rm H d) F ∧ F q = some (.lst (il cs))) ?_ ?_
      · wtm_at "r"
        refine wp_off (by omega) (by omega) fun r1 _ => ?_
        wtm_at "r"
        refine ⟨fun _ => ?_, fun _ => ?_⟩
        · wtm_at "r"
          refine wp_off (by omega) (by omega) fun r2 h2 => ?_
          wtm_at "r"
          exact go_turn rfl ⟨(A'.length : Int) + (r2 : Int), ⟨by omega, by omega⟩, rfl, e, hf⟩
        · exact go_turn rfl ⟨(c : Int), ⟨by omega, by omega⟩, rfl, e, hf⟩
      · rintro σ F ⟨c2, hc2, rfl, e, hf⟩
        wtm_at "r"
        refine wp_bmL ?_
        wtm_at "r"
        refine ⟨q, _, rfl, SqL.of hf, ?_⟩
        wtm_at "r"
        refine wp_append hf (by rw [List.length_map]; omega) ?_
        wtm_at "r"
        refine go_turn rfl ⟨cs ++ [c2], _, _, rfl, ex_mut e hq, ?_, hc.app fun z hz => ?_, by rw [List.length_append, List.length_singleton]; omega⟩
        · rw [upd_same, il_take]
        · rw [List.mem_singleton.mp hz]; exact hc2
    · rintro σ F ⟨cs, x, y, rfl, e, hf, hc, hl⟩
      wtm_at "r"
      exact RetND.out k e hq hf ⟨cs, hc, by omega, rfl⟩
end
section
variable {P : Program} {w : World} {K : PySem.W.Frag} {mg : Str → Option Value} {base : Heap}
theorem cutV_take (xs : List V) (n : Nat) : cutV xs none (some (n : Int)) = xs.take n := by
  unfold cutV
  rw [HT.sIx_nat, HT.sIx_none, List.drop_zero, Nat.sub_zero]
  by_cases h : n ≤ xs.length
  · rw [Nat.min_eq_left h]
  · rw [Nat.min_eq_right (by omega), List.take_length, List.take_of_length_le (by omega)]
theorem cutV_drop (xs : List V) (n : Nat) : cutV xs (some (n : Int)) none = xs.drop n := by
  unfold cutV
  rw [HT.sIx_nat, HT.sIx_none]
  by_cases h : n ≤ xs.length
  · rw [Nat.min_eq_left h, List.take_of_length_le (by rw [List.length_drop]; omega)]
  · rw [Nat.min_eq_right (by omega), List.drop_of_length_le (by omega), List.drop_of_length_le (by omega)]
    simp
theorem cutN_take (xs : List Nat) (n : Nat) : cutN xs none (some (n : Int)) = xs.take n := by
  unfold cutN
  rw [HT.sIx_nat, HT.sIx_none, List.drop_zero, Nat.sub_zero]
  by_cases h : n ≤ xs.length
  · rw [Nat.min_eq_left h]
  · rw [Nat.min_eq_right (by omega), List.take_length, List.take_of_length_le (by omega)]
theorem cutN_drop (xs : List Nat) (n : Nat) : cutN xs (some (n : Int)) none = xs.drop n := by
  unfold cutN
  rw [HT.sIx_nat, HT.sIx_none]
  by_cases h : n ≤ xs.length
  · rw [Nat.min_eq_left h, List.take_of_length_le (by rw [List.length_drop]; omega)]
  · rw [Nat.min_eq_right (by omega), List.drop_of_length_le (by omega), List.drop_of_length_le (by omega)]
    simp
theorem nd_sub_len : ∀ {l m : List Nat}, l.Nodup → (∀ x ∈ l, x ∈ m) → l.length ≤ m.length
  | [], _, _, _ => Nat.zero_le _
  | a :: r, m, h, hs => by
    obtain ⟨h1, h2⟩ := List.nodup_cons.mp h
    have hm : a ∈ m := hs a List.mem_cons_self
    have ih : r.length ≤ (m.erase a).length := nd_sub_len h2 fun x hx => by
      have ne : x ≠ a := fun e => h1 (e ▸ hx)
      exact (List.mem_erase_of_ne ne).mpr (hs x (List.mem_cons_of_mem _ hx))
    rw [List.length_erase_of_mem hm] at ih
    have : 0 < m.length := List.length_pos_of_mem hm
    simp only [List.length_cons]
    omega
theorem ex_out {l m : List Nat} (h : l.Nodup) (hl : m.length < l.length) : l.filter (fun x => !decide (x ∈ m)) ≠ [] := fun e => by
  have : l.length ≤ m.length := nd_sub_len h fun x hx => by
    by_cases hm : x ∈ m
    · exact hm
    · have : x ∈ l.filter (fun x => !decide (x ∈ m)) := List.mem_filter.mpr ⟨hx, by simp [hm]⟩
      rw [e] at this
      cases this
  omega
/-- 22 signs, each once -/
def Pool (l : List Nat) : Prop := l.length = 22 ∧ l.Nodup ∧ ∀ c ∈ l, c < 128
theorem snoc_nd {l : List Nat} {c : Nat} (h : l.Nodup) (n : c ∉ l) : (l ++ [c]).Nodup := L2.nd_snoc h n
def Asc (l : List Nat) : Prop := ∀ c ∈ l, c < 128
def every : List Nat := [32, 33, 35, 36, 38, 39, 40, 41, 42, 43, 44, 45, 46, 47, 48, 49, 50, 51, 52, 53, 54, 55, 56, 57, 58, 59, 60, 61, 62, 63, 64, 65, 66, 67, 68, 69, 70, 71, 72, 73, 74, 75, 76, 77, 78, 79, 80, 81, 82, 83, 84, 85, 86, 87, 88, 89, 90, 91, 93, 94, 95, 96, 97, 98, 99, 100, 101, 102, 103, 104, 105, 106, 107, 108, 109, 110, 111, 112, 113, 114, 115, 116, 117, 118, 119, 120, 121, 122, 123, 124, 125, 126]
def setsOf (u : HO) : Prop := ∃ A B : List Nat, Good A B ∧ Asc A ∧ Asc B ∧ u = .tup [.str (tx A), .str (tx B)]
abbrev s_q_sets : Stmt := topS 22
abbrev n_q_sets : List Str := ["_law_d", "_law_many", "_law_signs", "_law_every", "_law_turn", "_law_one", "_law_often", "_law_other", "_law_left", "_law_k", "_law_some", "_law_sign"]
theorem sc_q_sets : FnScope n_q_sets ["_law_d"] (defScope s_q_sets) := ⟨rfl, rfl, rfl, by decide +kernel, rfl, by decide +kernel, by decide +kernel⟩

def sp_sets (K : PySem.W.Frag) : Sp := fun vs H Q _ => ∃ (d : Addr), vs = [.ref d] ∧ Dc H d ∧ RetND d setsOf H Q
theorem wp_sets {d : Addr} {F : Hp} {Pq : V → Hp → Prop} {E : XK} (q : ∀ (p : Addr) (A B : List Nat), F p = none → Good A B → Asc A → Asc B → Pq (.ref p) (upd F p (.tup [.str (tx A), .str (tx B)]))) :
    Wp (some d) (fun H Q => sp_sets K ([.ref d] ++ []) H Q E) F Pq := fun H w Q k =>
  ⟨d, rfl, (w.dc d rfl).2, RetND.use w (fun p u n ⟨A, B, hg, ha, hb, e⟩ => by subst e; exact q p A B n hg ha hb) k⟩
theorem pm_sets (D : DefAt K mg "_law_sets" s_q_sets) (B : Bl mg) (g_q_off : Pm P w K mg base CX0 1 "_law_off" ["_law_d", "_law_most"] sp_off) (g_q_mixed : Pm P w K mg base CX0 2 "_law_mixed" ["_law_d", "_law_row"] (sp_mixed K)) :
    Pm P w K mg base CX0 3 "_law_sets" ["_law_d"] (sp_sets K) := by
  obtain ⟨f, fd, F, hm⟩ := D
  refine ⟨f, fd, ?_, hm, F.kp, F.binds fun _ _ _ _ _ _ us hl => match us, hl with | [_], _ => rfl⟩
  refine F.ok sc_q_sets (fun vs H Q E h => ?_) (fun cdv A outer s H vs Q E hr h => ?_)
  · obtain ⟨_, rfl, _⟩ := h
    rfl
  · obtain ⟨d, rfl, hd, k⟩ := h
    refine ⟨_, (pss_cons (ps_set (i := 1) sc_q_sets.nd rfl (Or.inl rfl) (pe_ix (ixK K rfl) (pe_lst (pa_cons pe_int (pa_cons pe_int (pa_cons pe_int (pa_cons (pe_op op_addP pe_int (pe_pm g_q_off (hr.mono (by decide)) pass0 (pa_cons (pv 0) (pa_cons pe_int pa_nil)))) pa_nil))))) (pe_pm g_q_off (hr.mono (by decide)) pass0 (pa_cons (pv 0) (pa_cons pe_int pa_nil))) (fun _ _ => rfl)))
 (pss_cons (ps_set (i := 2) sc_q_sets.nd rfl (Or.inl rfl) (pe_strT (l := [97, 98, 99, 100, 101, 102, 103, 104, 105, 106, 32, 48, 49, 50, 51, 52, 53, 54, 46, 44, 45, 120]) (by decide +kernel)))
 (Evl.pss_cut (ps_if (pt_cmpR (eqK K rfl hr.units) (pe_pm g_q_off (hr.mono (by decide)) pass0 (pa_cons (pv 0) (pa_cons pe_int pa_nil))) pe_int (nomark _))
 (pss_cons (ps_set (i := 3) sc_q_sets.nd rfl (Or.inl rfl) (pe_strT (l := [32, 33, 35, 36, 38, 39, 40, 41, 42, 43, 44, 45, 46, 47, 48, 49, 50, 51, 52, 53, 54, 55, 56, 57, 58, 59, 60, 61, 62, 63, 64, 65, 66, 67, 68, 69, 70, 71, 72, 73, 74, 75, 76, 77, 78, 79, 80, 81, 82, 83, 84, 85, 86, 87, 88, 89, 90, 91, 93, 94, 95, 96, 97, 98, 99, 100, 101, 102, 103, 104, 105, 106, 107, 108, 109, 110, 111, 112, 113, 114, 115, 116, 117, 118, 119, 120, 121, 122, 123, 124, 125, 126]) (by decide +kernel)))
 (pss_cons (ps_set (i := 2) sc_q_sets.nd rfl (Or.inl rfl) (peJoin K rfl (pe_strT (l := []) (by decide +kernel)) (pe_slice (slK K rfl) (pe_pm g_q_mixed (hr.mono (by decide)) pass0 (pa_cons (pv 0) (pa_cons (pe_callTy (listK K rfl rfl) (by rfl) B.list (by decide +kernel) (pa_cons (pv 3) pa_nil)) pa_nil))) po_none (po_some pe_int))))
 pss_nil))
 pss_nil)
 (pss_cons (ps_set (i := 4) sc_q_sets.nd rfl (Or.inl rfl) (pe_pm g_q_off (hr.mono (by decide)) pass0 (pa_cons (pv 0) (pa_cons pe_int pa_nil))))
 (pss_cons (ps_set (i := 2) sc_q_sets.nd rfl (Or.inl rfl) (pe_op op_addP (pe_slice (slK K rfl) (pv 2) (po_some (pv 4)) po_none) (pe_slice (slK K rfl) (pv 2) po_none (po_some (pv 4)))))
 (pss_cons (ps_set (i := 5) sc_q_sets.nd rfl (Or.inl rfl) (peJoin K rfl (pe_strT (l := []) (by decide +kernel)) (pe_slice (slK K rfl) (pe_pm g_q_mixed (hr.mono (by decide)) pass0 (pa_cons (pv 0) (pa_cons (pe_callTy (listK K rfl rfl) (by rfl) B.list (by decide +kernel) (pa_cons (pe_slice (slK K rfl) (pv 2) po_none (po_some (pe_op op_addP (pv 1) (pe_pm g_q_off (hr.mono (by decide)) pass0 (pa_cons (pv 0) (pa_cons pe_int pa_nil)))))) pa_nil)) pa_nil))) po_none (po_some (pv 1)))))
 (pss_cons (ps_set (i := 6) sc_q_sets.nd rfl (Or.inl rfl) (pe_op op_addP pe_int (pe_pm g_q_off (hr.mono (by decide)) pass0 (pa_cons (pv 0) (pa_cons pe_int pa_nil)))))
 (pss_cons (ps_set (i := 7) sc_q_sets.nd rfl (Or.inr rfl) (pe_strT (l := []) (by decide +kernel)))
 (pss_cons (ps_set (i := 8) sc_q_sets.nd rfl (Or.inl rfl) (pe_pm g_q_mixed (hr.mono (by decide)) pass0 (pa_cons (pv 0) (pa_cons (pe_callTy (listK K rfl rfl) (by rfl) B.list (by decide +kernel) (pa_cons (pv 2) pa_nil)) pa_nil))))
 (pss_cons (ps_for PassesOwn.never rfl (pi_range1 (by rfl) B.range (pa_cons (pv 1) pa_nil)) (pg_name (i := 9) sc_q_sets.nd rfl (Or.inl rfl))
 (Evl.pss_cut (ps_if (PW.pt (pw_and (pt_cmpR (eqK K rfl hr.units) (pe_pm g_q_off (hr.mono (by decide)) pass0 (pa_cons (pv 0) (pa_cons (pv 6) pa_nil))) pe_int (nomark _)) (pw_and1 (pt_cmpR (niK K rfl) (pe_ix (ixK K rfl) (pv 5) (pv 9) (fun _ _ => rfl)) (pv 7) (by rfl)))))
 (pss_cons (ps_set (i := 7) sc_q_sets.nd rfl (Or.inr rfl) (pe_op op_addP (pv 7) (pe_ix (ixK K rfl) (pv 5) (pv 9) (fun _ _ => rfl))))
 pss_nil)
 (pss_cons (ps_setLc (i := 10) (own := [("_law_sign", 11)]) (g := gName 11) rfl sc_q_sets.nd rfl rfl (sw_true rfl rfl rfl (by decide +kernel)) (piL K rfl (pv 8)) (blkOk_by (N := n_q_sets) (sc := defScope s_q_sets) (by decide +kernel)) (fun _ _ _ _ _ => pg_name (i := 11) sc_q_sets.nd rfl (Or.inl rfl)) (fun _ _ _ _ _ => (pts_one (pt_cmpR (niK K rfl) (pv 11) (pv 7) (by rfl)))) (fun _ _ _ _ _ => (pv 11)))
 (pss_cons (ps_set (i := 7) sc_q_sets.nd rfl (Or.inr rfl) (pe_op op_addP (pv 7) (pe_ix (ixK K rfl) (pv 10) pe_int (fun _ _ => rfl))))
 pss_nil)))
 pss_nil))
 (pss_cons (ps_ret (pe_tup (pa_cons (pv 5) (pa_cons (pv 7) pa_nil))))
 pss_nil))))))))))), ?_⟩
    refine go_stD (σ := [some (.ref d), none, none, none, none, none, none, none, none, none, none, none]) hd rfl ?_
    wtm_at "r"
    refine wp_off (by omega) (by omega) fun r0 hr0 => ?_
    wtm_at "r"
    refine ⟨(by show 4 ≤ 100000; decide), fun p0 hp0 => ?_⟩
    wtm_at "r"
    refine wp_off (by omega) (by omega) fun r1 hr1 => ?_
    obtain ⟨many, hmany, hm1, hm10⟩ : ∃ many : Nat, atI [V.int 3, V.int 4, V.int 6, V.int (1 + (r0 : Int))] (r1 : Int) = some (.int (many : Int)) ∧ 1 ≤ many ∧ many ≤ 10 := by
      match r1, hr1 with
      | 0, _ => exact ⟨3, atI_nat (j := 0) rfl, by decide, by decide⟩
      | 1, _ => exact ⟨4, atI_nat (j := 1) rfl, by decide, by decide⟩
      | 2, _ => exact ⟨6, atI_nat (j := 2) rfl, by decide, by decide⟩
      | 3, _ => exact ⟨1 + r0, by rw [atI_nat (j := 3) rfl]; simp, by omega, by omega⟩
      | n + 4, h => omega
    wtm_at "r"
    refine wp_ixL (SqL.of upd_same) hmany ?_
    wtm_at "r"
    have e0 : Ex (rm H d) (upd (rm H d) p0 (.lst [V.int 3, V.int 4, V.int 6, V.int (1 + (r0 : Int))])) := ex_new hp0
    refine go_cut (fun σ F => ∃ (sl : List Nat) (ev : Option V), σ = [some (.ref d), some (.int (many : Int)), some (.str (tx sl)), ev, none, none, none, none, none, none, none, none] ∧ Ex (rm H d) F ∧ Pool sl) ?_ ?_
    · wtm_at "r"
      refine wp_off (by omega) (by omega) fun r2 _ => ?_
      wtm_at "r"
      refine ⟨fun _ => ?_, fun _ => ?_⟩
      · wtm_at "r"
        refine wp_m1 ?_
        wtm_at "r"
        refine ⟨⟨_, rfl⟩, ?_⟩
        wtm_at "r"
        refine wp_listS (by decide) fun p1 hp1 => ?_
        wtm_at "r"
        refine wp_mixed (l := every) (SqL.of upd_same) (by decide) (by decide) fun p2 l1 hp2 pe => ?_
        wtm_at "r"
        refine wp_slL (SqL.of upd_same) fun p3 hp3 => ?_
        rw [show (22 : Int) = ((22 : Nat) : Int) from rfl, cutV_take, ← List.map_take]
        wtm_at "r"
        refine wp_joinSg (SqL.of upd_same) (by rw [List.length_take]; omega) ?_
        wtm_at "r"
        refine go_turn rfl ⟨l1.take 22, _, rfl, ((e0.trans (ex_new hp1)).trans (ex_new hp2)).trans (ex_new hp3), ?_, ?_, ?_⟩
        · rw [List.length_take, pe.length_eq]; rfl
        · exact (pe.nodup_iff.mpr (by decide : every.Nodup)).sublist (List.take_sublist _ _)
        · intro c hc
          exact (by decide : ∀ c ∈ every, c < 128) c (pe.mem_iff.mp (List.mem_of_mem_take hc))
      · exact go_turn rfl ⟨[97, 98, 99, 100, 101, 102, 103, 104, 105, 106, 32, 48, 49, 50, 51, 52, 53, 54, 46, 44, 45, 120], none, rfl, e0, rfl, by decide, by decide⟩
    · rintro σ F ⟨sl, ev, rfl, e, hl, hn, ha⟩
      wtm_at "r"
      refine wp_off (by omega) (by omega) fun tn htn => ?_
      wtm_at "r"
      rw [cutN_drop, cutN_take]
      refine wp_addS (by wtm_at "sz") ?_
      wtm_at "r"
      obtain ⟨sg2, hsg2⟩ : ∃ s2, s2 = sl.drop tn ++ sl.take tn := ⟨_, rfl⟩
      rw [← hsg2]
      have pr : sg2.Perm sl := by
        rw [hsg2]
        exact List.perm_append_comm.trans (by rw [List.take_append_drop])
      have hl2 : sg2.length = 22 := pr.length_eq.trans hl
      have hn2 : sg2.Nodup := pr.nodup_iff.mpr hn
      have ha2 : ∀ c ∈ sg2, c < 128 := fun c hc => ha c (pr.mem_iff.mp hc)
      refine wp_m1 ?_
      wtm_at "r"
      refine ⟨⟨_, rfl⟩, ?_⟩
      wtm_at "r"
      refine wp_off (by omega) (by omega) fun r3 h3 => ?_
      wtm_at "r"
      rw [show ((many : Int) + (r3 : Int)) = ((many + r3 : Nat) : Int) by omega, cutN_take]
      refine wp_listS (by rw [List.length_take]; omega) fun p1 hp1 => ?_
      wtm_at "r"
      refine wp_mixed (l := sg2.take (many + r3)) (SqL.of upd_same) (by rw [List.length_take]; omega) (fun c hc => ha2 c (List.mem_of_mem_take hc)) fun p2 l1 hp2 pe => ?_
      wtm_at "r"
      refine wp_slL (SqL.of upd_same) fun p3 hp3 => ?_
      rw [cutV_take, ← List.map_take]
      wtm_at "r"
      have hl1 : l1.length = many + r3 := by rw [pe.length_eq, List.length_take]; omega
      refine wp_joinSg (SqL.of upd_same) (by rw [List.length_take]; omega) ?_
      wtm_at "r"
      obtain ⟨one, hone⟩ : ∃ x, x = l1.take many := ⟨_, rfl⟩
      rw [← hone]
      have hlo : one.length = many := by rw [hone, List.length_take]; omega
      have hno : one.Nodup := by
        rw [hone]
        exact (pe.nodup_iff.mpr (hn2.sublist (List.take_sublist _ _))).sublist (List.take_sublist _ _)
      have hao : ∀ c ∈ one, c < 128 := fun c hc => by
        rw [hone] at hc
        exact ha2 c (List.mem_of_mem_take (pe.mem_iff.mp (List.mem_of_mem_take hc)))
      have e3 := ((e.trans (ex_new (u := .lst ((sg2.take (many + r3)).map sg)) hp1)).trans (ex_new (u := .lst (l1.map sg)) hp2)).trans (ex_new (u := .lst (one.map sg)) hp3)
      refine wp_off (by omega) (by omega) fun r4 h4 => ?_
      wtm_at "r"
      refine wp_listS (by omega) fun p4 hp4 => ?_
      wtm_at "r"
      refine wp_mixed (l := sg2) (SqL.of upd_same) (by omega) ha2 fun p5 left hp5 pl => ?_
      wtm_at "r"
      have hll : left.length = 22 := pl.length_eq.trans hl2
      have hnl : left.Nodup := pl.nodup_iff.mpr hn2
      have hal : ∀ c ∈ left, c < 128 := fun c hc => ha2 c (pl.mem_iff.mp hc)
      refine go_forR (fun i σ F => ∃ (ot : List Nat) (kk so : Option V) (tu ofn : V) (ev2 : Option V), σ = [some (.ref d), some (.int (many : Int)), some (.str (tx sg2)), ev2, some tu, some (.str (tx one)), some (.int (1 + (r4 : Int))), some (.str (tx ot)), some (.ref p5), kk, so, none] ∧
        Ex (rm H d) F ∧ F p5 = some (.lst (left.map sg)) ∧ ot.length = i ∧ ot.Nodup ∧ ∀ c ∈ ot, c < 128) ?_
      wtm_at "r"
      refine ⟨many, rfl, by omega, ⟨[], none, none, _, .non, _, rfl, (e3.trans (ex_new hp4)).trans (ex_new hp5), upd_same, rfl, List.nodup_nil, (fun c h => by cases h)⟩, ?_, ?_⟩
      · rintro i σ F hi ⟨ot, kk, so, tu, ofn, ev2, rfl, e4, h5, ho, hno2, hao2⟩
        have hi1 : i < one.length := by omega
        wtm_at "r"
        refine go_cut (fun σ F => ∃ (c : Nat) (so1 : Option V), c ∉ ot ∧ c < 128 ∧ σ = [some (.ref d), some (.int (many : Int)), some (.str (tx sg2)), ev2, some tu, some (.str (tx one)), some (.int (1 + (r4 : Int))), some (.str (tx (ot ++ [c]))), some (.ref p5), some (.int (i : Int)), so1, none] ∧
          Ex (rm H d) F ∧ F p5 = some (.lst (left.map sg))) ?_ ?_
        · refine go_ifB ?_
          refine wp_andS (fun F1 => F1 = F) ?_ ?_
          · wtm_at "r"
            refine wp_off (by omega) (by omega) fun r5 _ => ?_
            wtm_at "r"
            refine ⟨rfl, fun _ => ?_⟩
            wtm_at "r"
            refine wp_ixS (by omega) (atI_nat (List.getElem?_eq_getElem hi1)) ?_
            wtm_at "r"
            refine ⟨rfl, fun hin => ?_⟩
            have hin : one[i] ∉ ot := by simpa using hin
            wtm_at "r"
            refine wp_ixS (by omega) (atI_nat (List.getElem?_eq_getElem hi1)) ?_
            refine wp_addS (j := [one[i]]) (by wtm_at "sz") ?_
            wtm_at "r"
            exact go_turn rfl ⟨one[i], so, hin, hao _ (List.getElem_mem hi1), rfl, e4, h5⟩
          · rintro F1 rfl
            refine go_set ?_
            refine wp_lcL (fun _ => rfl) ?_
            wtm_at "r"
            refine ⟨p5, _, rfl, SqL.of h5, fun Dl hD => ?_⟩
            have npd := (ne_of_none h5 hD)
            refine ⟨fun j acc F2 => ∃ ms : List Nat, acc = ms.map sg ∧ ms = (left.take j).filter (fun x => !decide (x ∈ ot)) ∧ Ex (rm H d) F2 ∧ F2 p5 = some (.lst (left.map sg)), ⟨[], rfl, rfl, e4.trans (ex_new hD), at_ne h5 hD⟩, fun j acc F2 ⟨_, _, _, _, h6⟩ => SqL.of h6, ?_, ?_⟩
            · rintro j y acc F2 hy q2 ⟨ms, rfl, hms, e5, h6⟩
              rw [List.getElem?_map] at hy
              obtain ⟨c, hc, rfl⟩ : ∃ c, left[j]? = some c ∧ y = sg c := by
                cases hq : left[j]? with
                | none => rw [hq] at hy; cases hy
                | some c => rw [hq] at hy; exact ⟨c, rfl, (Option.some.inj hy).symm⟩
              have hmsl : ms.length ≤ 22 := by
                rw [hms]
                refine Nat.le_trans (List.length_filter_le _ _) ?_
                rw [List.length_take]
                omega
              have stp := take_more hc
              show Wp _ _ _ _
              wtm_at "r"
              refine ⟨fun hin => ?_, fun hin => ⟨q2, ms, rfl, ?_, e5, h6⟩⟩
              · wtm_at "r"
                have hDH : rm H d Dl = none := e4.free hD
                refine ⟨q2, by rw [List.length_map]; omega, ms ++ [c], by rw [List.map_append]; rfl, ?_, ex_mut e5 hDH, ?_⟩
                · rw [stp, List.filter_append, ← hms, List.filter_cons, if_pos hin]
                  rfl
                · rw [upd_ne npd]
                  exact h6
              · rw [stp, List.filter_append, ← hms, List.filter_cons, if_neg (by rw [hin]; decide), List.filter_nil, List.append_nil]
            · rintro acc F2 q2 ⟨ms, rfl, hms, e5, h6⟩
              rw [List.length_map, List.take_length] at hms
              have hne := ex_out (l := left) (m := ot) hnl (by omega)
              rw [← hms] at hne
              obtain ⟨c, r, hcr⟩ : ∃ c r, ms = c :: r := by
                cases ms with
                | nil => exact absurd rfl hne
                | cons c r => exact ⟨c, r, rfl⟩
              have hcm : c ∈ left ∧ c ∉ ot := by
                have hx : c ∈ ms := by rw [hcr]; exact List.mem_cons_self
                rw [hms] at hx
                obtain ⟨h1, h2⟩ := List.mem_filter.mp hx
                exact ⟨h1, by simpa using h2⟩
              subst hcr
              wtm_at "r"
              refine wp_ixL (SqL.of q2) (atI_nat (j := 0) rfl) ?_
              refine wp_addS (j := [c]) (by wtm_at "sz") ?_
              wtm_at "r"
              exact go_turn rfl ⟨c, _, hcm.2, hal c hcm.1, rfl, e5, h6⟩
        · rintro σ F ⟨c, so1, hc1, hc2, rfl, e5, h6⟩
          refine go_turn rfl ⟨ot ++ [c], _, so1, tu, ofn, ev2, rfl, e5, h6, by rw [List.length_append, List.length_singleton, ho], snoc_nd hno2 hc1, fun x hx => ?_⟩
          rcases List.mem_append.mp hx with h | h
          · exact hao2 x h
          · rw [List.mem_singleton.mp h]; exact hc2
      · rintro σ F ⟨ot, kk, so, tu, ofn, ev2, rfl, e4, h5, ho, hno2, hao2⟩
        wtm_at "r"
        refine ⟨(by show 2 ≤ 100000; decide), fun p hp => ?_⟩
        exact RetND.out k (e4.trans (ex_new hp)) (e4.free hp) upd_same ⟨one, ot, ⟨by omega, by omega, by omega, hno, hno2⟩, hao, hao2, rfl⟩
end
section
variable {P : Program} {w : World} {K : PySem.W.Frag} {mg : Str → Option Value} {base : Heap}
def flatD : PyData → Bool
  | .none => true
  | .bool _ => true
  | .int _ => true
  | .str _ => true
  | _ => false
/-- flat, or n deep -/
def DpN : Nat → PyData → Prop
  | 0, d => flatD d = true
  | n + 1, d => flatD d = true ∨ ∃ ds, (d = .list ds ∨ d = .tuple ds) ∧ ds.length ≤ 1000 ∧ ∀ e ∈ ds, DpN n e
theorem dpa_len {H : Hp} : ∀ {xs : List V} {ds : List PyData}, DpAll K H xs ds → xs.length = ds.length
  | _, _, .nil => rfl
  | _, _, .cons _ b => congrArg (· + 1) (dpa_len b)
theorem dpa_at {H : Hp} : ∀ {xs : List V} {ds : List PyData} {i : Nat} {d : PyData}, DpAll K H xs ds → ds[i]? = some d → ∃ x, xs[i]? = some x ∧ Dp K H x d
  | _, _, _, _, .nil, h => by simp at h
  | _, _, 0, _, .cons a _, h => by
    rw [List.getElem?_cons_zero] at h
    cases h
    exact ⟨_, rfl, a⟩
  | _, _, i + 1, _, .cons _ b, h => by
    obtain ⟨x, h1, h2⟩ := dpa_at (i := i) b (by simpa using h)
    exact ⟨x, by simpa using h1, h2⟩
abbrev s_q_alike : Stmt := topS 20
abbrev n_q_alike : List Str := ["_law_found", "_law_due", "_law_k"]
theorem sc_q_alike : FnScope n_q_alike ["_law_found", "_law_due"] (defScope s_q_alike) := ⟨rfl, rfl, rfl, by decide +kernel, rfl, by decide +kernel, by decide +kernel⟩

def spA (K : PySem.W.Frag) : Nat → Sp
  | 0 => fun _ _ _ _ => False
  | n + 1 => fun vs H Q _ => ∃ (x y : V) (d : PyData), vs = [x, y] ∧ Dp K H x d ∧ Dp K H y d ∧ DpN n d ∧ RetV (.bl true) H Q
theorem wp_alike {o : Option Addr} {F : Hp} {Pq : V → Hp → Prop} {x y : V} {d : PyData} {n : Nat} {E : XK} (hx : Dp K F x d) (hy : Dp K F y d) (hd : DpN n d) (q : Pq (.bl true) F) : Wp o (fun H Q => spA K (n + 1) ([x, y] ++ []) H Q E) F Pq :=
  fun H w Q k => ⟨x, y, d, rfl, Dp.up w.ex hx, Dp.up w.ex hy, hd, RetV.use w q k⟩
theorem pm_alike (D : DefAt K mg "_law_alike" s_q_alike) (B : Bl mg) : ∀ n, Pm P w K mg base CX0 n "_law_alike" ["_law_found", "_law_due"] (spA K n) := by
  obtain ⟨f, fd, F, hm⟩ := D
  have hb : Binds K fd ["_law_found", "_law_due"] [] := F.binds fun _ _ _ _ _ _ us hl => match us, hl with | [_, _], _ => rfl
  intro n
  induction n with
  | zero => exact ⟨f, fd, ⟨fun vs H Q E h => h.elim, fun A outer s H args us vs Q E _ _ _ _ h => h.elim⟩, hm, F.kp, hb⟩
  | succ n ih =>
    have g_q_alike := ih
    refine ⟨f, fd, ?_, hm, F.kp, hb⟩
    refine F.ok sc_q_alike (fun vs H Q E h => ?_) (fun cdv A outer s H vs Q E hr h => ?_)
    · obtain ⟨_, _, _, rfl, _⟩ := h
      rfl
    · obtain ⟨x, y, d, rfl, hx, hy, hd, k⟩ := h
      refine ⟨_, (pss_cons (ps_if (pt_cmpR op_isNs (pv 1) pe_non (nomark _))
 (pss_cons (ps_ret (pe_cmpR op_isNs (pv 0) pe_non (nomark _)))
 pss_nil)
 pss_nil)
 (pss_cons (ps_if (pt_val (pe_callB (isiK K rfl) (by rfl) B.isinstance (by decide +kernel) (pa_cons (pv 1) (pa_cons (pe_bltn (v := .ty "bool") (by rfl) B.bool_ (by decide +kernel) rfl) pa_nil))))
 (pss_cons (ps_ret (pe_and (pe_callB (isiK K rfl) (by rfl) B.isinstance (by decide +kernel) (pa_cons (pv 0) (pa_cons (pe_bltn (v := .ty "bool") (by rfl) B.bool_ (by decide +kernel) rfl) pa_nil))) (pe_one (pe_cmpR (eqK K rfl hr.units) (pv 0) (pv 1) (nomark _)))))
 pss_nil)
 pss_nil)
 (pss_cons (ps_if (pt_val (pe_callB (isiK K rfl) (by rfl) B.isinstance (by decide +kernel) (pa_cons (pv 1) (pa_cons (pe_bltn (v := .ty "int") (by rfl) B.int_ (by decide +kernel) rfl) pa_nil))))
 (pss_cons (ps_ret (pe_and (pe_callB (isiK K rfl) (by rfl) B.isinstance (by decide +kernel) (pa_cons (pv 0) (pa_cons (pe_bltn (v := .ty "int") (by rfl) B.int_ (by decide +kernel) rfl) pa_nil))) (pe_and (pe_not (pe_callB (isiK K rfl) (by rfl) B.isinstance (by decide +kernel) (pa_cons (pv 0) (pa_cons (pe_bltn (v := .ty "bool") (by rfl) B.bool_ (by decide +kernel) rfl) pa_nil)))) (pe_one (pe_cmpR (eqK K rfl hr.units) (pv 0) (pv 1) (nomark _))))))
 pss_nil)
 pss_nil)
 (pss_cons (ps_if (pt_val (pe_callB (isiK K rfl) (by rfl) B.isinstance (by decide +kernel) (pa_cons (pv 1) (pa_cons (pe_bltn (v := .ty "str") (by rfl) B.str_ (by decide +kernel) rfl) pa_nil))))
 (pss_cons (ps_ret (pe_and (pe_callB (isiK K rfl) (by rfl) B.isinstance (by decide +kernel) (pa_cons (pv 0) (pa_cons (pe_bltn (v := .ty "str") (by rfl) B.str_ (by decide +kernel) rfl) pa_nil))) (pe_one (pe_cmpR (eqK K rfl hr.units) (pv 0) (pv 1) (nomark _)))))
 pss_nil)
 pss_nil)
 (pss_cons (ps_if (PW.pt (pw_or (pt_cmpR (neK K rfl hr.units) (pe_callB (isiK K rfl) (by rfl) B.isinstance (by decide +kernel) (pa_cons (pv 1) (pa_cons (pe_bltn (v := .ty "tuple") (by rfl) B.tuple (by decide +kernel) rfl) pa_nil))) (pe_callB (isiK K rfl) (by rfl) B.isinstance (by decide +kernel) (pa_cons (pv 0) (pa_cons (pe_bltn (v := .ty "tuple") (by rfl) B.tuple (by decide +kernel) rfl) pa_nil))) (nomark _)) (pw_or1 (pt_cmpR (neK K rfl hr.units) (pe_callB (isiK K rfl) (by rfl) B.isinstance (by decide +kernel) (pa_cons (pv 1) (pa_cons (pe_bltn (v := .ty "list") (by rfl) B.list (by decide +kernel) rfl) pa_nil))) (pe_callB (isiK K rfl) (by rfl) B.isinstance (by decide +kernel) (pa_cons (pv 0) (pa_cons (pe_bltn (v := .ty "list") (by rfl) B.list (by decide +kernel) rfl) pa_nil))) (nomark _)))))
 (pss_cons (ps_ret pe_bl)
 pss_nil)
 pss_nil)
 (pss_cons (ps_if (pt_cmpR (neK K rfl hr.units) (pe_callB (lenK K rfl) (by rfl) B.len PySem.boot_len (pa_cons (pv 0) pa_nil)) (pe_callB (lenK K rfl) (by rfl) B.len PySem.boot_len (pa_cons (pv 1) pa_nil)) (nomark _))
 (pss_cons (ps_ret pe_bl)
 pss_nil)
 pss_nil)
 (pss_cons (ps_ret (pe_callB (allK K rfl rfl) (by rfl) B.all (by decide +kernel) (pa_cons (pe_lc (own := [("_law_k", 2)]) (g := gName 2) (tt := tYes) rfl sc_q_alike.nd (pi_range1 (by rfl) B.range (pa_cons (pe_callB (lenK K rfl) (by rfl) B.len PySem.boot_len (pa_cons (pv 1) pa_nil)) pa_nil)) (blkOk_by (N := n_q_alike) (sc := defScope s_q_alike) (by decide +kernel)) (fun _ _ _ _ _ => pg_name (i := 2) sc_q_alike.nd rfl (Or.inl rfl)) (fun _ _ _ _ _ => pts_nil) (fun _ _ _ _ _ => (pe_pm g_q_alike hr pass0 (pa_cons (pe_ix (ixK K rfl) (pv 0) (pv 2) (fun _ _ => rfl)) (pa_cons (pe_ix (ixK K rfl) (pv 1) (pv 2) (fun _ _ => rfl)) pa_nil))))) pa_nil)))
 pss_nil))))))), ?_⟩
      refine go_st (σ := [some (x), some (y), none]) rfl ?_
      have kinds : (∃ b, x = .bl b ∧ y = .bl b) ∨ (∃ i, x = .int i ∧ y = .int i) ∨ (∃ z, x = .str z ∧ y = .str z) ∨ (x = .non ∧ y = .non) ∨
          ∃ (T : String) (a b : Addr) (xs ys : List V) (ds : List PyData) (m : Nat), x = .ref a ∧ y = .ref b ∧ (T = "list" ∨ T = "tuple") ∧ TyP K H (.ref a) T ∧ TyP K H (.ref b) T ∧ (SqL K H a xs ∨ SqT K H a xs) ∧ (SqL K H b ys ∨ SqT K H b ys) ∧
            DpAll K H xs ds ∧ DpAll K H ys ds ∧ ds.length ≤ 1000 ∧ n = m + 1 ∧ ∀ e ∈ ds, DpN m e := by
        have nof : ∀ ds, (d = .list ds ∨ d = .tuple ds) → flatD d = false := fun ds h => by rcases h with h | h <;> subst h <;> rfl
        cases hx with
        | non => cases hy; exact .inr (.inr (.inr (.inl ⟨rfl, rfl⟩)))
        | bl b => cases hy; exact .inl ⟨b, rfl, rfl⟩
        | int i => cases hy; exact .inr (.inl ⟨i, rfl, rfl⟩)
        | str z => cases hy; exact .inr (.inr (.inl ⟨z, rfl, rfl⟩))
        | lst h1 h2 =>
          cases hy with
          | lst h3 h4 =>
            cases n with
            | zero => cases (show flatD _ = true from hd)
            | succ m =>
              rcases hd with hf | ⟨ds, hds, hl, hi⟩
              · cases hf
              · rcases hds with e | e
                · cases e
                  exact .inr (.inr (.inr (.inr ⟨"list", _, _, _, _, _, m, rfl, rfl, .inl rfl, .lst h1, .lst h3, .inl h1, .inl h3, h2, h4, hl, rfl, hi⟩)))
                · cases e
        | tup h1 h2 =>
          cases hy with
          | tup h3 h4 =>
            cases n with
            | zero => cases (show flatD _ = true from hd)
            | succ m =>
              rcases hd with hf | ⟨ds, hds, hl, hi⟩
              · cases hf
              · rcases hds with e | e
                · cases e
                · cases e
                  exact .inr (.inr (.inr (.inr ⟨"tuple", _, _, _, _, _, m, rfl, rfl, .inr rfl, .tup h1, .tup h3, .inr h1, .inr h3, h2, h4, hl, rfl, hi⟩)))
      wtm_at "r"
      rcases kinds with ⟨b, rfl, rfl⟩ | ⟨i, rfl, rfl⟩ | ⟨z, rfl, rfl⟩ | ⟨rfl, rfl⟩ | ⟨T, a, b, xs, ys, ds, m, rfl, rfl, hT, ta, tb, sa, sb, da, db, dl, rfl, di⟩
      · refine bF (by simp) ?_
        wtm_at "r"
        refine wp_isi (.bl b) (b := true) (by decide +kernel) ?_
        wtm_at "r"
        refine bT rfl ?_
        wtm_at "r"
        refine wp_isi (.bl b) (b := true) (by decide +kernel) ?_
        wtm_at "r"
        refine bT rfl ?_
        wtm_at "r"
        refine wp_eq0 rfl ?_
        rw [decide_eq_true rfl]
        exact k.out (exr H)
      · refine bF (by simp) ?_
        wtm_at "r"
        refine wp_isi (.int i) (b := false) (by decide +kernel) ?_
        wtm_at "r"
        refine bF rfl ?_
        wtm_at "r"
        refine wp_isi (.int i) (b := true) (by decide +kernel) ?_
        wtm_at "r"
        refine bT rfl ?_
        wtm_at "r"
        refine wp_isi (.int i) (b := true) (by decide +kernel) ?_
        wtm_at "r"
        refine bT rfl ?_
        wtm_at "r"
        refine wp_isi (.int i) (b := false) (by decide +kernel) ?_
        wtm_at "r"
        refine bT rfl ?_
        wtm_at "r"
        rw [decide_eq_true rfl]
        exact k.out (exr H)
      · refine bF (by simp) ?_
        wtm_at "r"
        refine wp_isi (.str z) (b := false) (by decide +kernel) ?_
        wtm_at "r"
        refine bF rfl ?_
        wtm_at "r"
        refine wp_isi (.str z) (b := false) (by decide +kernel) ?_
        wtm_at "r"
        refine bF rfl ?_
        wtm_at "r"
        refine wp_isi (.str z) (b := true) (by decide +kernel) ?_
        wtm_at "r"
        refine bT rfl ?_
        wtm_at "r"
        refine wp_isi (.str z) (b := true) (by decide +kernel) ?_
        wtm_at "r"
        refine bT rfl ?_
        wtm_at "r"
        refine wp_eq0 rfl ?_
        rw [decide_eq_true rfl]
        exact k.out (exr H)
      · refine bT (by simp) ?_
        wtm_at "r"
        rw [decide_eq_true rfl]
        exact k.out (exr H)
      · refine bF (by simp) ?_
        obtain ⟨bt, ht⟩ : ∃ bt, kitB T "tuple" = some bt := by
          rcases hT with rfl | rfl
          · exact ⟨false, by decide +kernel⟩
          · exact ⟨true, by decide +kernel⟩
        obtain ⟨bl, hl⟩ : ∃ bl, kitB T "list" = some bl := by
          rcases hT with rfl | rfl
          · exact ⟨true, by decide +kernel⟩
          · exact ⟨false, by decide +kernel⟩
        have la := dpa_len da
        have lb := dpa_len db
        wtm_at "r"
        refine wp_isi tb (b := false) (by rcases hT with rfl | rfl <;> decide +kernel) ?_
        wtm_at "r"
        refine bF rfl ?_
        wtm_at "r"
        refine wp_isi tb (b := false) (by rcases hT with rfl | rfl <;> decide +kernel) ?_
        wtm_at "r"
        refine bF rfl ?_
        wtm_at "r"
        refine wp_isi tb (b := false) (by rcases hT with rfl | rfl <;> decide +kernel) ?_
        wtm_at "r"
        refine bF rfl ?_
        wtm_at "r"
        refine wp_isi tb ht ?_
        wtm_at "r"
        refine wp_isi ta ht ?_
        wtm_at "r"
        refine wp_ne0 rfl ?_
        wtm_at "r"
        refine bF (by simp) ?_
        wtm_at "r"
        refine wp_isi tb hl ?_
        wtm_at "r"
        refine wp_isi ta hl ?_
        wtm_at "r"
        refine wp_ne0 rfl ?_
        wtm_at "r"
        refine bF (by simp) ?_
        wtm_at "r"
        refine wp_lenX sa ?_
        wtm_at "r"
        refine wp_lenX sb ?_
        wtm_at "r"
        refine bF (by rw [la, lb]; simp) ?_
        wtm_at "r"
        refine wp_lcR (fun _ => rfl) ?_
        wtm_at "r"
        refine wp_lenX sb ?_
        wtm_at "r"
        refine ⟨ys.length, rfl, by omega, fun Dl hD => ?_⟩
        refine ⟨fun i acc F => acc = (List.replicate i true).map V.bl ∧ Ex H F, ⟨rfl, ex_new hD⟩, ?_, ?_⟩
        · rintro i acc F hi q2 ⟨rfl, e⟩
          have hi2 : i < ds.length := by omega
          have hdi : ds[i]? = some ds[i] := List.getElem?_eq_getElem hi2
          obtain ⟨xa, hxa, dxa⟩ := dpa_at da hdi
          obtain ⟨xb, hxb, dxb⟩ := dpa_at db hdi
          show Wp _ _ _ _
          wtm_at "r"
          refine ⟨fun _ => ?_, fun z => (by cases z)⟩
          wtm_at "r"
          refine wp_ixX (sa.imp (ex_l e) (ex_t e)) (atI_nat hxa) ?_
          wtm_at "r"
          refine wp_ixX (sb.imp (ex_l e) (ex_t e)) (atI_nat hxb) ?_
          wtm_at "r"
          refine wp_alike (Dp.up e dxa) (Dp.up e dxb) (di _ (List.getElem_mem hi2)) ?_
          refine ⟨q2, by rw [List.length_map, List.length_replicate]; omega, ?_, ex_mut e hD⟩
          rw [List.replicate_succ', List.map_append]
          rfl
        · rintro acc F q2 ⟨rfl, e⟩
          wtm_at "r"
          refine wp_all (bs := List.replicate ys.length true) (SqL.of q2) ?_
          have ea : (List.replicate ys.length true).all id = true := by
            rw [List.all_eq_true]
            intro z hz
            exact (List.mem_replicate.mp hz).2
          rw [ea]
          exact k.out e
end
/-! ### reading by pieces -/
theorem fold_gst (A B : List Nat) : ∀ (cs : List Int) (pre : List Nat) (st : Int), cs.foldl (gst A B) (pre, st) = (pre ++ (gon A B cs st).1, (gon A B cs st).2)
  | [], pre, st => by simp [gon]
  | c :: r, pre, st => by
    unfold gon
    rw [List.foldl_cons, List.foldl_cons]
    by_cases h : c < (A.length : Int)
    · have e : ∀ q : List Nat, gst A B (q, st) c = (q ++ [sgn A B st c], st) := fun q => by unfold gst; rw [if_pos h]
      rw [e, e, fold_gst A B r, fold_gst A B r]
      simp
    · have e : ∀ q : List Nat, gst A B (q, st) c = (q, c - (A.length : Int)) := fun q => by unfold gst; rw [if_neg h]
      rw [e, e, fold_gst A B r, fold_gst A B r]
      simp
theorem gon_app (A B : List Nat) (x y : List Int) (st : Int) : gon A B (x ++ y) st = ((gon A B x st).1 ++ (gon A B y (gon A B x st).2).1, (gon A B y (gon A B x st).2).2) := by
  have h := fold_gst A B y (gon A B x st).1 (gon A B x st).2
  rw [← h]
  unfold gon
  rw [List.foldl_append]
theorem gon_nil (A B : List Nat) (st : Int) : gon A B [] st = ([], st) := rfl
theorem gon_sign {A B : List Nat} {c : Int} (h : c < (A.length : Int)) (r : List Int) (st : Int) : gon A B (c :: r) st = (sgn A B st c :: (gon A B r st).1, (gon A B r st).2) := by
  have e := gon_app A B [c] r st
  have e1 : gon A B [c] st = ([sgn A B st c], st) := by
    show gst A B ([], st) c = _
    unfold gst
    rw [if_pos h]
    rfl
  rw [e1] at e
  exact e
theorem gon_shift {A B : List Nat} {c : Int} (h : ¬ c < (A.length : Int)) (r : List Int) (st : Int) : gon A B (c :: r) st = gon A B r (c - (A.length : Int)) := by
  have e := gon_app A B [c] r st
  have e1 : gon A B [c] st = ([], c - (A.length : Int)) := by
    show gst A B ([], st) c = _
    unfold gst
    rw [if_neg h]
  rw [e1] at e
  simpa using e
theorem wp_slTake {K : PySem.W.Frag} {o : Option Addr} {F : Hp} {Pq : V → Hp → Prop} {p : Addr} {cs : List Int} {n : Nat} {z : Int} (h : SqL K F p (il cs)) (hz : z = (n : Int)) (q : ∀ p, F p = none → Pq (.ref p) (upd F p (.lst (il (cs.take n))))) : Wp o (rSlP K (.ref p) none (some z)) F Pq :=
  wp_slL h fun p hp => by rw [hz, cutV_take, ← List.map_take]; exact q p hp
theorem wp_slDrop {K : PySem.W.Frag} {o : Option Addr} {F : Hp} {Pq : V → Hp → Prop} {p : Addr} {cs : List Int} {n : Nat} {z : Int} (h : SqL K F p (il cs)) (hz : z = (n : Int)) (q : ∀ p, F p = none → Pq (.ref p) (upd F p (.lst (il (cs.drop n))))) : Wp o (rSlP K (.ref p) (some z) none) F Pq :=
  wp_slL h fun p hp => by rw [hz, cutV_drop, ← List.map_drop]; exact q p hp
/-! ### trimmed -/
def cmn (A B : List Nat) (c : Int) : Bool := decide (sgn A B 0 c = sgn A B 1 c)
/-- the same codes of signs, a shift just ahead of each that needs one -/
def trimR (A B : List Nat) : List Int → Int → Int → List Int
  | [], _, _ => []
  | c :: r, st, here => if c < (A.length : Int) then (if st ≠ here ∧ cmn A B c = false then ((A.length : Int) + st) :: c :: trimR A B r st st else c :: trimR A B r st here) else trimR A B r (c - (A.length : Int)) here
def tst (A B : List Nat) (x : List Int × Int × Int) (c : Int) : List Int × Int × Int :=
  if c < (A.length : Int) then (if x.2.1 ≠ x.2.2 ∧ cmn A B c = false then (x.1 ++ [(A.length : Int) + x.2.1] ++ [c], x.2.1, x.2.1) else (x.1 ++ [c], x.2.1, x.2.2)) else (x.1, c - (A.length : Int), x.2.2)
def tfo (A B : List Nat) (cs : List Int) (st : Int) : List Int × Int × Int := cs.foldl (tst A B) ([], st, st)
theorem tfo_take {A B : List Nat} {cs : List Int} {st : Int} {i : Nat} {c : Int} (h : cs[i]? = some c) : tfo A B (cs.take (i + 1)) st = tst A B (tfo A B (cs.take i) st) c := by
  unfold tfo
  rw [take_more h, List.foldl_append]
  rfl
theorem fold_tst (A B : List Nat) : ∀ (cs : List Int) (pre : List Int) (st here : Int), (cs.foldl (tst A B) (pre, st, here)).1 = pre ++ trimR A B cs st here
  | [], pre, st, here => by simp [trimR]
  | c :: r, pre, st, here => by
    rw [List.foldl_cons, show tst A B (pre, st, here) c = if c < (A.length : Int) then (if st ≠ here ∧ cmn A B c = false then (pre ++ [(A.length : Int) + st] ++ [c], st, st) else (pre ++ [c], st, here)) else (pre, c - (A.length : Int), here) from rfl]
    unfold trimR
    by_cases h : c < (A.length : Int)
    · rw [if_pos h, if_pos h]
      by_cases h2 : st ≠ here ∧ cmn A B c = false
      · rw [if_pos h2, if_pos h2, fold_tst A B r]
        simp
      · rw [if_neg h2, if_neg h2, fold_tst A B r]
        simp
    · rw [if_neg h, if_neg h, fold_tst A B r]
theorem tfo_trim (A B : List Nat) (cs : List Int) (st : Int) : (tfo A B cs st).1 = trimR A B cs st st := by
  have h := fold_tst A B cs [] st st
  simpa [tfo] using h
theorem tst_st {A B : List Nat} {x : List Int × Int × Int} {c : Int} (h1 : StOk x.2.1) (h2 : StOk x.2.2) (hc : 0 ≤ c ∧ c < (A.length : Int) + 2) : StOk (tst A B x c).2.1 ∧ StOk (tst A B x c).2.2 := by
  unfold tst
  split
  · split
    · exact ⟨h1, h1⟩
    · exact ⟨h1, h2⟩
  · refine ⟨?_, h2⟩
    show c - (A.length : Int) = 0 ∨ c - (A.length : Int) = 1
    omega
theorem tfo_st {A B : List Nat} {st : Int} (h : StOk st) {cs : List Int} (hc : CodesOk A.length cs) : StOk (tfo A B cs st).2.1 ∧ StOk (tfo A B cs st).2.2 := by
  have key : ∀ (cs : List Int) (x : List Int × Int × Int), StOk x.2.1 → StOk x.2.2 → CodesOk A.length cs → StOk (cs.foldl (tst A B) x).2.1 ∧ StOk (cs.foldl (tst A B) x).2.2 := by
    intro cs
    induction cs with
    | nil => intro x h1 h2 _; exact ⟨h1, h2⟩
    | cons c r ih =>
      intro x h1 h2 hc
      obtain ⟨h3, h4⟩ := tst_st h1 h2 (hc c List.mem_cons_self)
      exact ih _ h3 h4 fun d hd => hc d (List.mem_cons_of_mem _ hd)
  exact key cs _ h h hc
theorem trimR_len (A B : List Nat) : ∀ (cs : List Int) (st here : Int), (trimR A B cs st here).length ≤ cs.length + (if st = here then 0 else 1)
  | [], st, here => by simp [trimR]
  | c :: r, st, here => by
    unfold trimR
    by_cases h : c < (A.length : Int)
    · rw [if_pos h]
      by_cases h2 : st ≠ here ∧ cmn A B c = false
      · rw [if_pos h2, if_neg h2.1]
        have ih := trimR_len A B r st st
        rw [if_pos rfl] at ih
        simp only [List.length_cons]
        omega
      · rw [if_neg h2]
        have ih := trimR_len A B r st here
        simp only [List.length_cons]
        omega
    · rw [if_neg h]
      have ih := trimR_len A B r (c - (A.length : Int)) here
      rw [List.length_cons]
      split at ih <;> split <;> omega
theorem trim_len (A B : List Nat) (cs : List Int) (st : Int) : (trimR A B cs st st).length ≤ cs.length := by
  have h := trimR_len A B cs st st
  rw [if_pos rfl] at h
  exact h
theorem tfo_len (A B : List Nat) (cs : List Int) (st : Int) : (tfo A B cs st).1.length ≤ cs.length := by
  rw [tfo_trim]
  exact trim_len A B cs st
theorem trim_ok {A B : List Nat} : ∀ {cs : List Int} {st here : Int}, CodesOk A.length cs → StOk st → CodesOk A.length (trimR A B cs st here)
  | [], st, here, _, _ => by
    intro c hc
    cases hc
  | c :: r, st, here, hc, hs => by
    have h0 := hc c List.mem_cons_self
    have hr : CodesOk A.length r := fun d hd => hc d (List.mem_cons_of_mem _ hd)
    unfold trimR
    by_cases h : c < (A.length : Int)
    · rw [if_pos h]
      by_cases h2 : st ≠ here ∧ cmn A B c = false
      · rw [if_pos h2]
        have ih := trim_ok (A := A) (B := B) (st := st) (here := st) hr hs
        intro d hd
        unfold StOk at hs
        rcases List.mem_cons.mp hd with e | hd
        · omega
        · rcases List.mem_cons.mp hd with e | hd
          · omega
          · exact ih d hd
      · rw [if_neg h2]
        have ih := trim_ok (A := A) (B := B) (st := st) (here := here) hr hs
        intro d hd
        rcases List.mem_cons.mp hd with e | hd
        · omega
        · exact ih d hd
    · rw [if_neg h]
      exact trim_ok hr (by unfold StOk; omega)
/-- the same codes of signs -/
theorem trim_signs {A B : List Nat} : ∀ {cs : List Int} {st here : Int}, CodesOk A.length cs → StOk st → (trimR A B cs st here).filter (fun c => decide (c < (A.length : Int))) = cs.filter (fun c => decide (c < (A.length : Int)))
  | [], st, here, _, _ => rfl
  | c :: r, st, here, hc, hs => by
    have h0 := hc c List.mem_cons_self
    have hr : CodesOk A.length r := fun d hd => hc d (List.mem_cons_of_mem _ hd)
    unfold trimR
    by_cases h : c < (A.length : Int)
    · rw [if_pos h]
      by_cases h2 : st ≠ here ∧ cmn A B c = false
      · rw [if_pos h2, List.filter_cons, if_neg (by unfold StOk at hs; simp; omega), List.filter_cons, if_pos (decide_eq_true h), List.filter_cons, if_pos (decide_eq_true h), trim_signs hr hs]
      · rw [if_neg h2, List.filter_cons, if_pos (decide_eq_true h), List.filter_cons, if_pos (decide_eq_true h), trim_signs hr hs]
    · rw [if_neg h, trim_signs hr (by unfold StOk; omega), List.filter_cons (x := c), if_neg (by simpa using h)]
theorem sgn_cm {A B : List Nat} {c st here : Int} (hs : StOk st) (hh : StOk here) (h : ¬ (st ≠ here ∧ cmn A B c = false)) : sgn A B here c = sgn A B st c := by
  by_cases e : st = here
  · rw [e]
  · have e2 : cmn A B c = true := by
      cases h3 : cmn A B c with
      | true => rfl
      | false => exact absurd ⟨e, h3⟩ h
    have e3 : sgn A B 0 c = sgn A B 1 c := of_decide_eq_true e2
    rcases hs with rfl | rfl <;> rcases hh with rfl | rfl
    · rfl
    · exact e3.symm
    · exact e3
    · rfl
theorem sgn_nc {A B : List Nat} {c st here : Int} (hs : StOk st) (hh : StOk here) (h : st ≠ here ∧ cmn A B c = false) : sgn A B here c ≠ sgn A B st c := by
  obtain ⟨h1, h2⟩ := h
  have e3 : sgn A B 0 c ≠ sgn A B 1 c := of_decide_eq_false h2
  rcases hs with rfl | rfl <;> rcases hh with rfl | rfl
  · exact absurd rfl h1
  · exact e3.symm
  · exact e3
  · exact absurd rfl h1
/-- read alike -/
theorem trim_read {A B : List Nat} : ∀ {cs : List Int} {st here : Int}, CodesOk A.length cs → StOk st → StOk here → (gon A B (trimR A B cs st here) here).1 = (gon A B cs st).1
  | [], st, here, _, _, _ => rfl
  | c :: r, st, here, hc, hs, hh => by
    have h0 := hc c List.mem_cons_self
    have hr : CodesOk A.length r := fun d hd => hc d (List.mem_cons_of_mem _ hd)
    unfold trimR
    by_cases h : c < (A.length : Int)
    · rw [if_pos h, gon_sign h r st]
      by_cases h2 : st ≠ here ∧ cmn A B c = false
      · rw [if_pos h2, gon_shift (by unfold StOk at hs; omega), show (A.length : Int) + st - (A.length : Int) = st by omega, gon_sign h, trim_read hr hs hs]
      · rw [if_neg h2, gon_sign h, trim_read hr hs hh, sgn_cm hs hh h2]
    · rw [if_neg h, gon_shift h, trim_read hr (by unfold StOk; omega) hh]
/-- trimmed again it stays -/
theorem trim_again {A B : List Nat} : ∀ {cs : List Int} {st here : Int}, CodesOk A.length cs → StOk st → StOk here → trimR A B (trimR A B cs st here) here here = trimR A B cs st here
  | [], st, here, _, _, _ => rfl
  | c :: r, st, here, hc, hs, hh => by
    have h0 := hc c List.mem_cons_self
    have hr : CodesOk A.length r := fun d hd => hc d (List.mem_cons_of_mem _ hd)
    rw [show trimR A B (c :: r) st here = if c < (A.length : Int) then (if st ≠ here ∧ cmn A B c = false then ((A.length : Int) + st) :: c :: trimR A B r st st else c :: trimR A B r st here) else trimR A B r (c - (A.length : Int)) here from rfl]
    by_cases h : c < (A.length : Int)
    · rw [if_pos h]
      by_cases h2 : st ≠ here ∧ cmn A B c = false
      · rw [if_pos h2]
        have ih := trim_again (A := A) (B := B) (st := st) (here := st) hr hs hs
        rw [show ∀ z t, trimR A B (z :: t) here here = if z < (A.length : Int) then (if here ≠ here ∧ cmn A B z = false then ((A.length : Int) + here) :: z :: trimR A B t here here else z :: trimR A B t here here) else trimR A B t (z - (A.length : Int)) here from fun _ _ => rfl,
          if_neg (by unfold StOk at hs; omega), show (A.length : Int) + st - (A.length : Int) = st by omega,
          show ∀ z t, trimR A B (z :: t) st here = if z < (A.length : Int) then (if st ≠ here ∧ cmn A B z = false then ((A.length : Int) + st) :: z :: trimR A B t st st else z :: trimR A B t st here) else trimR A B t (z - (A.length : Int)) here from fun _ _ => rfl,
          if_pos h, if_pos h2, ih]
      · rw [if_neg h2]
        have ih := trim_again (A := A) (B := B) (st := st) (here := here) hr hs hh
        rw [show ∀ z t, trimR A B (z :: t) here here = if z < (A.length : Int) then (if here ≠ here ∧ cmn A B z = false then ((A.length : Int) + here) :: z :: trimR A B t here here else z :: trimR A B t here here) else trimR A B t (z - (A.length : Int)) here from fun _ _ => rfl,
          if_pos h, if_neg (fun z => z.1 rfl), ih]
    · rw [if_neg h]
      exact trim_again hr (by unfold StOk; omega) hh
/-- a tape without its i-th code -/
def cutAt (cs : List Int) (i : Nat) : List Int := cs.take i ++ cs.drop (i + 1)
/-- without any of its shifts it is read otherwise -/
theorem trim_needs {A B : List Nat} : ∀ {cs : List Int} {st here : Int} {i : Nat} {z : Int}, CodesOk A.length cs → StOk st → StOk here → (trimR A B cs st here)[i]? = some z → ¬ z < (A.length : Int) → (gon A B (cutAt (trimR A B cs st here) i) here).1 ≠ (gon A B (trimR A B cs st here) here).1
  | [], st, here, i, z, _, _, _, hi, _ => by simp [trimR] at hi
  | c :: r, st, here, i, z, hc, hs, hh, hi, hz => by
    have h0 := hc c List.mem_cons_self
    have hr : CodesOk A.length r := fun d hd => hc d (List.mem_cons_of_mem _ hd)
    revert hi
    rw [show trimR A B (c :: r) st here = if c < (A.length : Int) then (if st ≠ here ∧ cmn A B c = false then ((A.length : Int) + st) :: c :: trimR A B r st st else c :: trimR A B r st here) else trimR A B r (c - (A.length : Int)) here from rfl]
    by_cases h : c < (A.length : Int)
    · rw [if_pos h]
      have ns : ¬ (A.length : Int) + st < (A.length : Int) := by unfold StOk at hs; omega
      by_cases h2 : st ≠ here ∧ cmn A B c = false
      · rw [if_pos h2]
        intro hi
        match i, hi with
        | 0, hi =>
          rw [show cutAt (((A.length : Int) + st) :: c :: trimR A B r st st) 0 = c :: trimR A B r st st from rfl, gon_sign h, gon_shift ns, show (A.length : Int) + st - (A.length : Int) = st by omega, gon_sign h]
          intro e
          exact sgn_nc hs hh h2 (List.cons.inj e).1
        | 1, hi =>
          have hi : some c = some z := hi
          cases hi
          exact absurd h hz
        | j + 2, hi =>
          have ih := trim_needs (A := A) (B := B) (st := st) (here := st) (i := j) hr hs hs (by simpa using hi) hz
          rw [show cutAt (((A.length : Int) + st) :: c :: trimR A B r st st) (j + 2) = ((A.length : Int) + st) :: c :: cutAt (trimR A B r st st) j from rfl, gon_shift ns, gon_shift ns, show (A.length : Int) + st - (A.length : Int) = st by omega, gon_sign h, gon_sign h]
          intro e
          exact ih (List.cons.inj e).2
      · rw [if_neg h2]
        intro hi
        match i, hi with
        | 0, hi =>
          have hi : some c = some z := hi
          cases hi
          exact absurd h hz
        | j + 1, hi =>
          have ih := trim_needs (A := A) (B := B) (st := st) (here := here) (i := j) hr hs hh (by simpa using hi) hz
          rw [show cutAt (c :: trimR A B r st here) (j + 1) = c :: cutAt (trimR A B r st here) j from rfl, gon_sign h, gon_sign h]
          intro e
          exact ih (List.cons.inj e).2
    · rw [if_neg h]
      intro hi
      exact trim_needs hr (by unfold StOk; omega) hh hi hz
/-- the law's own going: codes with the wanted state, then the shifts -/
def ndL (n : Nat) : List Int → Int → List (Int × Int)
  | [], _ => []
  | c :: r, st => if c < (n : Int) then (c, st) :: ndL n r st else ndL n r (c - (n : Int))
def nst (n : Nat) (x : List (Int × Int) × Int) (c : Int) : List (Int × Int) × Int := if c < (n : Int) then (x.1 ++ [(c, x.2)], x.2) else (x.1, c - (n : Int))
def nfo (n : Nat) (cs : List Int) (st : Int) : List (Int × Int) × Int := cs.foldl (nst n) ([], st)
theorem nfo_take {n : Nat} {cs : List Int} {st : Int} {i : Nat} {c : Int} (h : cs[i]? = some c) : nfo n (cs.take (i + 1)) st = nst n (nfo n (cs.take i) st) c := by
  unfold nfo
  rw [take_more h, List.foldl_append]
  rfl
theorem fold_nst (n : Nat) : ∀ (cs : List Int) (pre : List (Int × Int)) (st : Int), (cs.foldl (nst n) (pre, st)).1 = pre ++ ndL n cs st
  | [], pre, st => by simp [ndL]
  | c :: r, pre, st => by
    rw [List.foldl_cons, show nst n (pre, st) c = if c < (n : Int) then (pre ++ [(c, st)], st) else (pre, c - (n : Int)) from rfl]
    unfold ndL
    by_cases h : c < (n : Int)
    · rw [if_pos h, if_pos h, fold_nst n r]
      simp
    · rw [if_neg h, if_neg h, fold_nst n r]
theorem nfo_nd (n : Nat) (cs : List Int) (st : Int) : (nfo n cs st).1 = ndL n cs st := by
  have h := fold_nst n cs [] st
  simpa [nfo] using h
def tr2 (A B : List Nat) : List (Int × Int) → Int → List Int
  | [], _ => []
  | c :: r, here => if c.2 ≠ here ∧ cmn A B c.1 = false then ((A.length : Int) + c.2) :: c.1 :: tr2 A B r c.2 else c.1 :: tr2 A B r here
def t2s (A B : List Nat) (x : List Int × Int) (c : Int × Int) : List Int × Int := if c.2 ≠ x.2 ∧ cmn A B c.1 = false then (x.1 ++ [(A.length : Int) + c.2] ++ [c.1], c.2) else (x.1 ++ [c.1], x.2)
def t2o (A B : List Nat) (cs : List (Int × Int)) (st : Int) : List Int × Int := cs.foldl (t2s A B) ([], st)
theorem t2o_take {A B : List Nat} {cs : List (Int × Int)} {st : Int} {i : Nat} {c : Int × Int} (h : cs[i]? = some c) : t2o A B (cs.take (i + 1)) st = t2s A B (t2o A B (cs.take i) st) c := by
  unfold t2o
  rw [take_more h, List.foldl_append]
  rfl
theorem fold_t2s (A B : List Nat) : ∀ (cs : List (Int × Int)) (pre : List Int) (st : Int), (cs.foldl (t2s A B) (pre, st)).1 = pre ++ tr2 A B cs st
  | [], pre, st => by simp [tr2]
  | c :: r, pre, st => by
    rw [List.foldl_cons, show t2s A B (pre, st) c = if c.2 ≠ st ∧ cmn A B c.1 = false then (pre ++ [(A.length : Int) + c.2] ++ [c.1], c.2) else (pre ++ [c.1], st) from rfl]
    unfold tr2
    by_cases h2 : c.2 ≠ st ∧ cmn A B c.1 = false
    · rw [if_pos h2, if_pos h2, fold_t2s A B r]
      simp
    · rw [if_neg h2, if_neg h2, fold_t2s A B r]
      simp
theorem tr2_nd (A B : List Nat) : ∀ (cs : List Int) (st here : Int), tr2 A B (ndL A.length cs st) here = trimR A B cs st here
  | [], _, _ => rfl
  | c :: r, st, here => by
    unfold ndL trimR
    by_cases h : c < (A.length : Int)
    · rw [if_pos h, if_pos h]
      unfold tr2
      by_cases h2 : st ≠ here ∧ cmn A B c = false
      · rw [if_pos h2, if_pos h2, tr2_nd A B r]
      · rw [if_neg h2, if_neg h2, tr2_nd A B r]
    · rw [if_neg h, if_neg h, tr2_nd A B r]
theorem t2o_trim (A B : List Nat) (cs : List Int) (st : Int) : (t2o A B (ndL A.length cs st) st).1 = trimR A B cs st st := by
  have h := fold_t2s A B (ndL A.length cs st) [] st
  rw [tr2_nd] at h
  simpa [t2o] using h
theorem nd_ok {n : Nat} : ∀ {cs : List Int} {st : Int}, CodesOk n cs → StOk st → (∀ c ∈ ndL n cs st, 0 ≤ c.1 ∧ c.1 < (n : Int) ∧ StOk c.2) ∧ (ndL n cs st).length ≤ cs.length
  | [], st, _, _ => ⟨fun c hc => (by cases hc), Nat.le_refl _⟩
  | c :: r, st, hc, hs => by
    have h0 := hc c List.mem_cons_self
    have hr : CodesOk n r := fun d hd => hc d (List.mem_cons_of_mem _ hd)
    unfold ndL
    by_cases h : c < (n : Int)
    · rw [if_pos h]
      obtain ⟨h1, h2⟩ := nd_ok (st := st) hr hs
      refine ⟨fun d hd => ?_, by simp only [List.length_cons]; omega⟩
      rcases List.mem_cons.mp hd with e | hd
      · subst e
        exact ⟨h0.1, h, hs⟩
      · exact h1 d hd
    · rw [if_neg h]
      obtain ⟨h1, h2⟩ := nd_ok (n := n) (st := c - (n : Int)) hr (by unfold StOk; omega)
      exact ⟨h1, by rw [List.length_cons]; omega⟩
theorem il_snoc (xs : List Int) (c : Int) : il xs ++ [V.int c] = il (xs ++ [c]) := by simp [il]
section
variable {P : Program} {w : World} {K : PySem.W.Frag} {mg : Str → Option Value} {base : Heap}
abbrev s_is_common : Stmt := topS 12
abbrev n_is_common : List Str := ["sets", "code"]
theorem sc_is_common : FnScope n_is_common ["sets", "code"] (defScope s_is_common) := ⟨rfl, rfl, rfl, by decide +kernel, rfl, by decide +kernel, by decide +kernel⟩

def sp_common (K : PySem.W.Frag) : Sp := fun vs H Q _ => ∃ (s : Addr) (A B : List Nat) (c : Int), vs = [.ref s, .int c] ∧ SetsAt K H s A B ∧ Good A B ∧ 0 ≤ c ∧ c < (A.length : Int) ∧ RetV (.bl (cmn A B c)) H Q
theorem wp_common {o : Option Addr} {F : Hp} {Pq : V → Hp → Prop} {s : Addr} {A B : List Nat} {c : Int} {E : XK} (hS : SetsAt K F s A B) (g : Good A B) (h0 : 0 ≤ c) (h1 : c < (A.length : Int)) (q : Pq (.bl (cmn A B c)) F) : Wp o (fun H Q => sp_common K ([.ref s, .int c] ++ []) H Q E) F Pq :=
  fun H w Q k => ⟨s, A, B, c, rfl, w.t hS, g, h0, h1, RetV.use w q k⟩
theorem pm_common (D : DefAt K mg "is_common" s_is_common) (B : Bl mg) : Pm P w K mg base CX0 1 "is_common" ["sets", "code"] (sp_common K) := by
  obtain ⟨f, fd, F, hm⟩ := D
  refine ⟨f, fd, ?_, hm, F.kp, F.binds fun _ _ _ _ _ _ us hl => match us, hl with | [_, _], _ => rfl⟩
  refine F.ok sc_is_common (fun vs H Q E h => ?_) (fun cdv A outer s H vs Q E hr h => ?_)
  · obtain ⟨_, _, _, _, rfl, _⟩ := h
    rfl
  · obtain ⟨s, A', B', c, rfl, hS, g, h0, h1, k⟩ := h
    have n10 := g.n10
    have a0 := at_sgn (A := A') (B := B') (st := 0) g.eq h0 h1
    have a1 := at_sgn (A := A') (B := B') (st := 1) g.eq h0 h1
    have ge := g.eq
    refine ⟨_, (pss_cons (ps_ret (pe_cmpR (eqK K rfl hr.units) (pe_ix (ixK K rfl) (pe_ix (ixK K rfl) (pv 0) pe_int (fun _ _ => rfl)) (pv 1) (fun _ _ => rfl)) (pe_ix (ixK K rfl) (pe_ix (ixK K rfl) (pv 0) pe_int (fun _ _ => rfl)) (pv 1) (fun _ _ => rfl)) (nomark _)))
 pss_nil), ?_⟩
    refine go_st (σ := [some (.ref s), some (.int c)]) rfl ?_
    wtm_at "r"
    refine wp_ixS (l := A') (by omega) a0 ?_
    wtm_at "r"
    refine wp_ixS (l := B') (by omega) a1 ?_
    refine wp_eqS (i := [sgn A' B' 0 c]) (j := [sgn A' B' 1 c]) ?_
    have e : decide ([sgn A' B' 0 c] = [sgn A' B' 1 c]) = cmn A' B' c := by
      unfold cmn
      simp
    rw [e]
    exact k.out (exr H)
abbrev s_trimmed : Stmt := topS 16
abbrev n_trimmed : List Str := ["sets", "tape", "state", "many", "found", "here", "code"]
theorem sc_trimmed : FnScope n_trimmed ["sets", "tape", "state"] (defScope s_trimmed) := ⟨rfl, rfl, rfl, by decide +kernel, rfl, by decide +kernel, by decide +kernel⟩

def sp_trimmed (K : PySem.W.Frag) : Sp := fun vs H Q _ => ∃ (s t : Addr) (A B : List Nat) (cs : List Int) (st : Int), vs = [.ref s, .ref t, .int st] ∧ SetsAt K H s A B ∧ SqL K H t (il cs) ∧ Good A B ∧ CodesOk A.length cs ∧ cs.length ≤ 200 ∧ StOk st ∧
  RetN (.lst (il (trimR A B cs st st))) H Q
theorem wp_trimmed {o : Option Addr} {F : Hp} {Pq : V → Hp → Prop} {s t : Addr} {A B : List Nat} {cs : List Int} {st : Int} {E : XK} (hS : SetsAt K F s A B) (hT : SqL K F t (il cs)) (g : Good A B) (hc : CodesOk A.length cs) (cl : cs.length ≤ 200) (h : StOk st)
    (q : ∀ p, F p = none → Pq (.ref p) (upd F p (.lst (il (trimR A B cs st st))))) : Wp o (fun H Q => sp_trimmed K ([.ref s, .ref t, .int st] ++ []) H Q E) F Pq := fun H w Q k => ⟨s, t, A, B, cs, st, rfl, w.t hS, w.l hT, g, hc, cl, h, RetN.use w q k⟩
theorem pm_trimmed (D : DefAt K mg "trimmed" s_trimmed) (B : Bl mg) (g_need_all : Pm P w K mg base CX0 2 "need_all" ["sets", "tape", "state"] (sp_need_all K)) (g_is_common : Pm P w K mg base CX0 1 "is_common" ["sets", "code"] (sp_common K)) :
    Pm P w K mg base CX0 3 "trimmed" ["sets", "tape", "state"] (sp_trimmed K) := by
  obtain ⟨f, fd, F, hm⟩ := D
  refine ⟨f, fd, ?_, hm, F.kp, F.binds fun _ _ _ _ _ _ us hl => match us, hl with | [_, _, _], _ => rfl⟩
  refine F.ok sc_trimmed (fun vs H Q E h => ?_) (fun cdv A outer s H vs Q E hr h => ?_)
  · obtain ⟨_, _, _, _, _, _, rfl, _⟩ := h
    rfl
  · obtain ⟨s, t, A', B', cs, st, rfl, hS, hT, g, hc, cl, hst, k⟩ := h
    have n10 := g.n10
    refine ⟨_, (pss_cons (ps_expr (pe_pm g_need_all (hr.mono (by decide)) pass0 (pa_cons (pv 0) (pa_cons (pv 1) (pa_cons (pv 2) pa_nil)))))
 (pss_cons (ps_set (i := 3) sc_trimmed.nd rfl (Or.inl rfl) (pe_callB (lenK K rfl) (by rfl) B.len PySem.boot_len (pa_cons (pe_ix (ixK K rfl) (pv 0) pe_int (fun _ _ => rfl)) pa_nil)))
 (pss_cons (ps_set (i := 4) sc_trimmed.nd rfl (Or.inl rfl) (pe_lst pa_nil))
 (pss_cons (ps_set (i := 5) sc_trimmed.nd rfl (Or.inl rfl) (pv 2))
 (pss_cons (ps_for PassesOwn.never rfl (piL K rfl (pv 1)) (pg_name (i := 6) sc_trimmed.nd rfl (Or.inl rfl))
 (pss_cons (ps_if (pt_cmpR op_ge (pv 6) (pv 3) (nomark _))
 (pss_cons (ps_set (i := 2) sc_trimmed.nd rfl (Or.inl rfl) (pe_op op_sub (pv 6) (pv 3)))
 pss_nil)
 (Evl.pss_cut (ps_if (PW.pt (pw_and (pt_cmpR (neK K rfl hr.units) (pv 2) (pv 5) (nomark _)) (pw_and1 (pt_not (pt_val (pe_pm g_is_common (hr.mono (by decide)) pass0 (pa_cons (pv 0) (pa_cons (pv 6) pa_nil))))))))
 (pss_cons (ps_expr (bmK K rfl PySem.F.plainAttrs_list PySem.F.slot_list_append PySem.F.type_list_append mt_append (pv 4) (pa_cons (pe_op op_addP (pv 3) (pv 2)) pa_nil)))
 (pss_cons (ps_set (i := 5) sc_trimmed.nd rfl (Or.inl rfl) (pv 2))
 pss_nil))
 pss_nil)
 (pss_cons (ps_expr (bmK K rfl PySem.F.plainAttrs_list PySem.F.slot_list_append PySem.F.type_list_append mt_append (pv 4) (pa_cons (pv 6) pa_nil)))
 pss_nil)))
 pss_nil))
 (pss_cons (ps_ret (pv 4))
 pss_nil)))))), ?_⟩
    refine go_st (σ := [some (.ref s), some (.ref t), some (.int st), none, none, none, none]) rfl ?_
    wtm_at "r"
    refine wp_need_all hS hT g hc cl hst ?_
    wtm_at "r"
    refine ⟨Nat.zero_le _, fun q hq => ?_⟩
    wtm_at "r"
    refine go_forL (fun i σ F => ∃ y, σ = [some (.ref s), some (.ref t), some (.int (tfo A' B' (cs.take i) st).2.1), some (.int (A'.length : Nat)), some (.ref q), some (.int (tfo A' B' (cs.take i) st).2.2), y] ∧ Ex H F ∧ F q = some (.lst (il (tfo A' B' (cs.take i) st).1))) ?_
    wtm_at "r"
    refine ⟨t, il cs, rfl, ex_l (ex_new hq) hT, ⟨none, rfl, ex_new hq, upd_same⟩, fun i σ F hi ⟨_, _, e, _⟩ => ex_l e hT, ?_, ?_⟩
    · rintro i y σ F hy ⟨y0, rfl, e, hF⟩
      obtain ⟨c, hcy, rfl, hmem⟩ := il_at hy
      have hcc := hc c hmem
      obtain ⟨o1, o2⟩ := tfo_st (A := A') (B := B') hst (hc.take i)
      have hl := tfo_len A' B' (cs.take i) st
      have hl2 : (cs.take i).length ≤ cs.length := List.length_take_le' _ _
      have step := tfo_take (A := A') (B := B') (st := st) hcy
      revert step o1 o2 hl hF
      generalize tfo A' B' (cs.take i) st = X
      obtain ⟨fo, st1, here⟩ := X
      intro hF o1 o2 hl step
      wtm_at "r"
      refine ⟨fun hge => ?_, fun hlt => ?_⟩
      · have hge : ¬ c < (A'.length : Int) := by have := of_decide_eq_true hge; omega
        wtm_at "r"
        refine go_turn rfl ⟨some (.int c), ?_, e, ?_⟩
        · rw [step]
          unfold tst
          rw [if_neg hge]
          rfl
        · rw [step]
          unfold tst
          rw [if_neg hge]
          exact hF
      · have hlt : c < (A'.length : Int) := by have := of_decide_eq_false hlt; omega
        have step : tfo A' B' (cs.take (i + 1)) st = if st1 ≠ here ∧ cmn A' B' c = false then (fo ++ [(A'.length : Int) + st1] ++ [c], st1, st1) else (fo ++ [c], st1, here) := by
          rw [step]
          unfold tst
          rw [if_pos hlt]
        wtm_at "r"
        refine go_cut (fun σ F1 => ∃ h2 fo2, tfo A' B' (cs.take (i + 1)) st = (fo2 ++ [c], st1, h2) ∧ fo2.length ≤ 401 ∧ σ = [some (.ref s), some (.ref t), some (.int st1), some (.int (A'.length : Nat)), some (.ref q), some (.int h2), some (.int c)] ∧ Ex H F1 ∧ F1 q = some (.lst (il fo2))) ?_ ?_
        · wtm_at "r"
          refine ⟨fun hne => ?_, fun heq => ?_⟩
          · have hne : st1 ≠ here := by simpa using hne
            wtm_at "r"
            refine wp_common (ex_t e hS) g hcc.1 hlt ?_
            wtm_at "r"
            refine ⟨fun hb => ?_, fun hb => ?_⟩
            · have hb : cmn A' B' c = false := by simpa using hb
              wtm_at "r"
              refine wp_bmL ?_
              wtm_at "r"
              refine ⟨q, _, rfl, SqL.of hF, ?_⟩
              wtm_at "r"
              refine wp_append hF (by rw [List.length_map]; show fo.length < _; have : fo.length ≤ _ := hl; omega) ?_
              wtm_at "r"
              refine go_turn rfl ⟨st1, fo ++ [(A'.length : Int) + st1], ?_, ?_, rfl, ex_mut e hq, ?_⟩
              · rw [step, if_pos ⟨hne, hb⟩]
              · have : fo.length ≤ _ := hl
                rw [List.length_append, List.length_singleton]
                omega
              · rw [upd_same]
                exact congrArg (fun z => some (HO.lst z)) (il_snoc fo _)
            · have hb : cmn A' B' c = true := by simpa using hb
              wtm_at "r"
              apply go_turn rfl
              refine ⟨here, fo, ?_, ?_, rfl, e, hF⟩
              · rw [step, if_neg fun z => by rw [hb] at z; cases z.2]
              · have : fo.length ≤ _ := hl
                omega
          · have heq : st1 = here := by simpa using heq
            refine bF rfl ?_
            refine go_turn rfl ⟨here, fo, ?_, ?_, rfl, e, hF⟩
            · rw [step, if_neg fun z => z.1 heq]
            · have : fo.length ≤ _ := hl
              omega
        · rintro σ F1 ⟨h2, fo2, es, el, rfl, e1, q1⟩
          wtm_at "r"
          refine wp_bmL ?_
          wtm_at "r"
          refine ⟨q, _, rfl, SqL.of q1, ?_⟩
          wtm_at "r"
          refine wp_append q1 (by rw [List.length_map]; omega) ?_
          wtm_at "r"
          refine go_turn rfl ⟨some (.int c), ?_, ex_mut e1 hq, ?_⟩
          · rw [es]
          · rw [es, upd_same]
            exact congrArg (fun z => some (HO.lst z)) (il_snoc fo2 _)
    · rintro σ F ⟨y0, rfl, e, hF⟩
      rw [List.length_map, List.take_length, tfo_trim] at hF
      wtm_at "r"
      exact k.out e hq hF
end
section
variable {P : Program} {w : World} {K : PySem.W.Frag} {mg : Str → Option Value} {base : Heap}
abbrev s_q_trimmed : Stmt := topS 24
abbrev n_q_trimmed : List Str := ["_law_sets_here", "_law_tape_here", "_law_state", "_law_many", "_law_needs", "_law_here", "_law_code", "_law_found", "_law_wanted"]
theorem sc_q_trimmed : FnScope n_q_trimmed ["_law_sets_here", "_law_tape_here", "_law_state"] (defScope s_q_trimmed) := ⟨rfl, rfl, rfl, by decide +kernel, rfl, by decide +kernel, by decide +kernel⟩

theorem pm_qtrimmed (D : DefAt K mg "_law_trimmed" s_q_trimmed) (B : Bl mg) : Pm P w K mg base CX0 1 "_law_trimmed" ["_law_sets_here", "_law_tape_here", "_law_state"] (sp_trimmed K) := by
  obtain ⟨f, fd, F, hm⟩ := D
  refine ⟨f, fd, ?_, hm, F.kp, F.binds fun _ _ _ _ _ _ us hl => match us, hl with | [_, _, _], _ => rfl⟩
  refine F.ok sc_q_trimmed (fun vs H Q E h => ?_) (fun cdv A outer s H vs Q E hr h => ?_)
  · obtain ⟨_, _, _, _, _, _, rfl, _⟩ := h
    rfl
  · obtain ⟨s, t, A', B', cs, st, rfl, hS, hT, g, hc, cl, hst, k⟩ := h
    have n10 := g.n10
    have ge := g.eq
    refine ⟨_, (pss_cons (ps_set (i := 3) sc_q_trimmed.nd rfl (Or.inl rfl) (pe_callB (lenK K rfl) (by rfl) B.len PySem.boot_len (pa_cons (pe_ix (ixK K rfl) (pv 0) pe_int (fun _ _ => rfl)) pa_nil)))
 (pss_cons (ps_set (i := 4) sc_q_trimmed.nd rfl (Or.inl rfl) (pe_lst pa_nil))
 (pss_cons (ps_set (i := 5) sc_q_trimmed.nd rfl (Or.inl rfl) (pv 2))
 (pss_cons (ps_for PassesOwn.never rfl (piL K rfl (pv 1)) (pg_name (i := 6) sc_q_trimmed.nd rfl (Or.inl rfl))
 (pss_cons (ps_if (pt_cmpR op_lt (pv 6) (pv 3) (nomark _))
 (pss_cons (ps_expr (bmK K rfl PySem.F.plainAttrs_list PySem.F.slot_list_append PySem.F.type_list_append mt_append (pv 4) (pa_cons (pe_tup (pa_cons (pv 6) (pa_cons (pv 5) pa_nil))) pa_nil)))
 pss_nil)
 (pss_cons (ps_set (i := 5) sc_q_trimmed.nd rfl (Or.inl rfl) (pe_op op_sub (pv 6) (pv 3)))
 pss_nil))
 pss_nil))
 (pss_cons (ps_set (i := 7) sc_q_trimmed.nd rfl (Or.inl rfl) (pe_lst pa_nil))
 (pss_cons (ps_for PassesOwn.never rfl (piL K rfl (pv 4)) (pgT K rfl (n := 2) rfl (pgs_cons (pg_name (i := 6) sc_q_trimmed.nd rfl (Or.inl rfl)) (pgs_cons (pg_name (i := 8) sc_q_trimmed.nd rfl (Or.inl rfl)) pgs_nil)))
 (Evl.pss_cut (ps_if (PW.pt (pw_and (pt_cmpR (neK K rfl hr.units) (pv 8) (pv 2) (nomark _)) (pw_and1 (pt_cmpR (neK K rfl hr.units) (pe_ix (ixK K rfl) (pe_ix (ixK K rfl) (pv 0) pe_int (fun _ _ => rfl)) (pv 6) (fun _ _ => rfl)) (pe_ix (ixK K rfl) (pe_ix (ixK K rfl) (pv 0) pe_int (fun _ _ => rfl)) (pv 6) (fun _ _ => rfl)) (nomark _)))))
 (pss_cons (ps_set (i := 2) sc_q_trimmed.nd rfl (Or.inl rfl) (pv 8))
 (pss_cons (ps_expr (bmK K rfl PySem.F.plainAttrs_list PySem.F.slot_list_append PySem.F.type_list_append mt_append (pv 7) (pa_cons (pe_op op_addP (pv 3) (pv 8)) pa_nil)))
 pss_nil))
 pss_nil)
 (pss_cons (ps_expr (bmK K rfl PySem.F.plainAttrs_list PySem.F.slot_list_append PySem.F.type_list_append mt_append (pv 7) (pa_cons (pv 6) pa_nil)))
 pss_nil)))
 (pss_cons (ps_ret (pv 7))
 pss_nil))))))), ?_⟩
    refine go_st (σ := [some (.ref s), some (.ref t), some (.int st), none, none, none, none, none, none]) rfl ?_
    wtm_at "r"
    refine ⟨Nat.zero_le _, fun q hq => ?_⟩
    wtm_at "r"
    refine go_forL (fun i σ F => ∃ (y : Option V) (ts : List (Addr × (Int × Int))), ts.map (·.2) = (nfo A'.length (cs.take i) st).1 ∧ σ = [some (.ref s), some (.ref t), some (.int st), some (.int (A'.length : Nat)), some (.ref q), some (.int (nfo A'.length (cs.take i) st).2), y, none, none] ∧ Ex H F ∧ F q = some (.lst (ts.map fun t => V.ref t.1)) ∧ ∀ u ∈ ts, F u.1 = some (.tup [.int u.2.1, .int u.2.2])) ?_
    wtm_at "r"
    refine ⟨t, il cs, rfl, ex_l (ex_new hq) hT, ⟨none, [], rfl, rfl, ex_new hq, upd_same, fun u hu => by cases hu⟩, fun i σ F hi ⟨_, _, _, _, e, _⟩ => ex_l e hT, ?_, ?_⟩
    · rintro i y σ F hy ⟨y0, ts, hts, rfl, e, hF, hu⟩
      obtain ⟨c, hcy, rfl, hmem⟩ := il_at hy
      have step := nfo_take (n := A'.length) (st := st) hcy
      have hl0 : (ts.map (·.2)).length ≤ cs.length := by
        rw [hts, nfo_nd]
        have := (nd_ok (st := st) (hc.take i) hst).2
        have hl2 : (cs.take i).length ≤ cs.length := List.length_take_le' _ _
        omega
      rw [List.length_map] at hl0
      revert step hts
      generalize nfo A'.length (cs.take i) st = X
      obtain ⟨fo, st1⟩ := X
      intro hts step
      wtm_at "r"
      refine ⟨fun hlt => ?_, fun hge => ?_⟩
      · have hlt : c < (A'.length : Int) := of_decide_eq_true hlt
        have step : nfo A'.length (cs.take (i + 1)) st = (fo ++ [(c, st1)], st1) := by
          rw [step]
          unfold nst
          rw [if_pos hlt]
        wtm_at "r"
        refine wp_bmL ?_
        wtm_at "r"
        refine ⟨q, _, rfl, SqL.of hF, ?_⟩
        wtm_at "r"
        refine ⟨(by show 2 ≤ 100000; decide), fun p hp => ?_⟩
        wtm_at "r"
        refine wp_append (at_ne hF hp) (by rw [List.length_map]; omega) ?_
        wtm_at "r"
        refine go_turn rfl ⟨some (.int c), ts ++ [(p, (c, st1))], ?_, ?_, ex_mut (e.trans (ex_new hp)) hq, ?_, fun u hm => ?_⟩
        · rw [step, List.map_append, hts]
          rfl
        · rw [step]
          rfl
        · rw [upd_same, List.map_append]
          rfl
        · have nq : ∀ {v : Addr} {x y : Int}, upd F p (.tup [.int c, .int st1]) v = some (.tup [.int x, .int y]) → v ≠ q := fun h z => by
            rw [z, at_ne hF hp] at h
            cases h
          have h1 : upd F p (.tup [.int c, .int st1]) u.1 = some (.tup [.int u.2.1, .int u.2.2]) := by
            rcases List.mem_append.mp hm with h | h
            · exact at_ne (hu u h) hp
            · rw [List.mem_singleton.mp h]
              exact upd_same
          rw [upd_ne (nq h1)]
          exact h1
      · have hge : ¬ c < (A'.length : Int) := of_decide_eq_false hge
        have step : nfo A'.length (cs.take (i + 1)) st = (fo, c - (A'.length : Int)) := by
          rw [step]
          unfold nst
          rw [if_neg hge]
        wtm_at "r"
        refine go_turn rfl ⟨some (.int c), ts, ?_, ?_, e, hF, hu⟩
        · rw [step, hts]
        · rw [step]
          rfl
    · rintro σ F ⟨y0, ts, hts, rfl, e, hF, hu⟩
      rw [List.length_map, List.take_length] at hts
      rw [nfo_nd] at hts
      obtain ⟨nok, nln⟩ := nd_ok (n := A'.length) (st := st) hc hst
      rw [List.length_map, List.take_length]
      generalize (nfo A'.length cs st).2 = w5
      have hlt : ts.length ≤ cs.length := by
        have := congrArg List.length hts
        rw [List.length_map] at this
        omega
      wtm_at "r"
      refine ⟨Nat.zero_le _, fun r hr2 => ?_⟩
      have hrH : H r = none := e.free hr2
      wtm_at "r"
      refine go_forL (fun i σ F2 => ∃ (y z : Option V), σ = [some (.ref s), some (.ref t), some (.int (t2o A' B' ((ndL A'.length cs st).take i) st).2), some (.int (A'.length : Nat)), some (.ref q), some (.int w5), y, some (.ref r), z] ∧ Ex F F2 ∧ F2 r = some (.lst (il (t2o A' B' ((ndL A'.length cs st).take i) st).1)) ∧ (t2o A' B' ((ndL A'.length cs st).take i) st).1.length ≤ 2 * i) ?_
      wtm_at "r"
      refine ⟨q, ts.map fun t => V.ref t.1, rfl, SqL.of ((ex_new hr2) _ _ hF), ⟨_, _, rfl, ex_new hr2, upd_same, Nat.le_refl _⟩, fun i σ F2 hi ⟨_, _, _, e2, _⟩ => SqL.of (e2 _ _ hF), ?_, ?_⟩
      · rintro i y σ F2 hy ⟨y0, z0, rfl, e2, q2, l2⟩
        rw [List.getElem?_map] at hy
        obtain ⟨u, hty, rfl⟩ : ∃ u, ts[i]? = some u ∧ y = .ref u.1 := by
          cases hq2 : ts[i]? with
          | none => rw [hq2] at hy; cases hy
          | some t => rw [hq2] at hy; exact ⟨t, rfl, (Option.some.inj hy).symm⟩
        have hu1 := e2 _ _ (hu u (List.mem_of_getElem? hty))
        have hi : i < ts.length := (List.getElem?_eq_some_iff.mp hty).1
        have hnd : (ndL A'.length cs st)[i]? = some u.2 := by
          rw [← hts, List.getElem?_map, hty]
          rfl
        obtain ⟨c0, c1, cst⟩ := nok _ (List.mem_of_getElem? hnd)
        have step := t2o_take (A := A') (B := B') (st := st) hnd
        obtain ⟨ua, c, wt⟩ := u
        have c0 : 0 ≤ c := c0
        have c1 : c < (A'.length : Int) := c1
        have a0 := at_sgn (A := A') (B := B') (st := 0) g.eq c0 c1
        have a1 := at_sgn (A := A') (B := B') (st := 1) g.eq c0 c1
        revert step l2 q2
        generalize t2o A' B' ((ndL A'.length cs st).take i) st = X
        obtain ⟨fo, here⟩ := X
        intro q2 l2 step
        have l2 : fo.length ≤ 2 * i := l2
        have step : t2o A' B' ((ndL A'.length cs st).take (i + 1)) st = if wt ≠ here ∧ cmn A' B' c = false then (fo ++ [(A'.length : Int) + wt] ++ [c], wt) else (fo ++ [c], here) := step
        wtm_at "r"
        have hS2 := ex_t (e.trans e2) hS
        refine go_cut (fun σ F1 => ∃ h2 fo2, t2o A' B' ((ndL A'.length cs st).take (i + 1)) st = (fo2 ++ [c], h2) ∧ fo2.length ≤ 2 * i + 1 ∧ σ = [some (.ref s), some (.ref t), some (.int h2), some (.int (A'.length : Nat)), some (.ref q), some (.int w5), some (.int c), some (.ref r), some (.int wt)] ∧ Ex F F1 ∧ F1 r = some (.lst (il fo2))) ?_ ?_
        · wtm_at "r"
          refine ⟨fun hne => ?_, fun heq => ?_⟩
          · have hne : wt ≠ here := by simpa using hne
            wtm_at "r"
            try (refine wp_ixT hS2 rfl ?_)
            wtm_at "r"
            refine wp_ixS (l := A') (by omega) a0 ?_
            wtm_at "r"
            try (refine wp_ixT hS2 rfl ?_)
            wtm_at "r"
            refine wp_ixS (l := B') (by omega) a1 ?_
            refine wp_neS (i := [sgn A' B' 0 c]) (j := [sgn A' B' 1 c]) ?_
            wtm_at "r"
            have ec : decide ([sgn A' B' 0 c] = [sgn A' B' 1 c]) = cmn A' B' c := by
              unfold cmn
              simp
            rw [ec]
            refine ⟨fun hb => ?_, fun hb => ?_⟩
            · have hb : cmn A' B' c = false := by simpa using hb
              wtm_at "r"
              refine wp_bmL ?_
              wtm_at "r"
              refine ⟨r, _, rfl, SqL.of q2, ?_⟩
              wtm_at "r"
              refine wp_append q2 (by rw [List.length_map]; show fo.length < _; omega) ?_
              wtm_at "r"
              refine go_turn rfl ⟨wt, fo ++ [(A'.length : Int) + wt], ?_, ?_, rfl, ex_mut e2 hr2, ?_⟩
              · rw [step, if_pos ⟨hne, hb⟩]
              · rw [List.length_append, List.length_singleton]
                omega
              · rw [upd_same]
                exact congrArg (fun z => some (HO.lst z)) (il_snoc fo _)
            · have hb : cmn A' B' c = true := by simpa using hb
              refine go_turn rfl ⟨here, fo, ?_, by omega, rfl, e2, q2⟩
              rw [step, if_neg fun z => by rw [hb] at z; cases z.2]
          · have heq : wt = here := by simpa using heq
            refine bF rfl ?_
            refine go_turn rfl ⟨here, fo, ?_, by omega, rfl, e2, q2⟩
            rw [step, if_neg fun z => z.1 heq]
        · rintro σ F1 ⟨h2, fo2, es, el, rfl, e1, q1⟩
          wtm_at "r"
          refine wp_bmL ?_
          wtm_at "r"
          refine ⟨r, _, rfl, SqL.of q1, ?_⟩
          wtm_at "r"
          refine wp_append q1 (by rw [List.length_map]; omega) ?_
          wtm_at "r"
          refine go_turn rfl ⟨some (.int c), some (.int wt), ?_, ex_mut e1 hr2, ?_, ?_⟩
          · rw [es]
          · rw [es, upd_same]
            exact congrArg (fun z => some (HO.lst z)) (il_snoc fo2 _)
          · rw [es]
            show (fo2 ++ [c]).length ≤ _
            rw [List.length_append, List.length_singleton]
            omega
      · rintro σ F2 ⟨y0, z0, rfl, e2, q2, l2⟩
        have e5 : (ndL A'.length cs st).take (ts.map fun t => V.ref t.1).length = ndL A'.length cs st := by
          rw [← hts, List.length_map]
          exact List.take_of_length_le (by rw [List.length_map]; exact Nat.le_refl _)
        rw [e5, t2o_trim] at q2
        wtm_at "r"
        exact k.out (e.trans e2) hrH q2
end
section
variable {K : PySem.W.Frag} {F : Hp} {σ : L2.St} {D : Ends} {tz : TS}
/-- what the law is asked -/
def spLaw (K : PySem.W.Frag) : Sp := fun vs H Q _ => ∃ (a : Addr) (ns : List Int), vs = [.ref a] ∧ SqL K H a (il ns) ∧ ns.length ≤ 63 ∧ ∀ H1, Q (.bl true) H1
/-- the dice are made: from here on they stand apart -/
theorem go_dice {i : Nat} {E : XK} {a : Addr} {ns : List Int} (h0 : σ[0]? = some (some (.ref a))) (hA : SqL K F a (il ns)) (hl : ns.length ≤ 63) (k : ∀ d, F d = none → Go (some d) tz D (σ.set i (some (.ref d))) F) :
    Go none (tSeq (tAsg (tCall (sp_dice K) [] E (tCons (tVar 0) (tCons (tC (.int 0)) tNil))) (gName i)) tz) D σ F := fun H w =>
  ⟨.ref a, h0, a, 0, ns, rfl, w.l hA, hl, fun p H1 n e dc => k p (w.fr n) H1 ⟨w.ex.trans e, fun b z => by cases z; exact ⟨w.fr n, dc⟩⟩⟩
/-- data of what reading tells -/
theorem dp_pair {p : Addr} {l : List Nat} {st : Int} (h : F p = some (.tup [.str (tx l), .int st])) : Dp K F (.ref p) (.tuple [.str (tx l), .int st]) := .tup (SqT.of h) (.cons (.str _) (.cons (.int _) .nil))
theorem dn_pair (l : List Nat) (st : Int) : DpN 1 (.tuple [.str (tx l), .int st]) := .inr ⟨_, .inr rfl, by simp, fun e he => by
  simp only [List.mem_cons, List.not_mem_nil, or_false] at he
  rcases he with rfl | rfl <;> rfl⟩
end
theorem lost_ok2 {n : Nat} {cs : List Int} (h : CodesOk n cs) (i : Nat) : CodesOk n (cutAt cs i) := (h.take i).app (h.drop (i + 1))
theorem cutAt_len (cs : List Int) (i : Nat) : (cutAt cs i).length ≤ cs.length := by
  unfold cutAt
  rw [List.length_append, List.length_take, List.length_drop]
  omega
theorem dn_J {cs : List Int} (h : cs.length ≤ 1000) : DpN 1 (.list (dI cs)) := .inr ⟨_, .inl rfl, by rw [List.length_map]; exact h, fun d hd => by
  obtain ⟨c, _, rfl⟩ := List.mem_map.mp hd
  rfl⟩
theorem filt_take {cs : List Int} {n : Int} {i : Nat} {c : Int} (h : cs[i]? = some c) : (cs.take (i + 1)).filter (fun c => decide (c < n)) = (cs.take i).filter (fun c => decide (c < n)) ++ if c < n then [c] else [] := by
  rw [take_more h, List.filter_append, List.filter_cons, List.filter_nil]
  by_cases e : c < n
  · rw [if_pos (decide_eq_true e), if_pos e]
  · rw [if_neg (by rw [decide_eq_false e]; decide), if_neg e]
section
variable {P : Program} {w : World} {K : PySem.W.Frag} {mg : Str → Option Value} {base : Heap}
abbrev s_law : Stmt := topS 25
abbrev n_law : List Str := ["_law_script", "_law_d", "_law_sets_here", "_law_many", "_law_turn", "_law_tape_here", "_law_state", "_law_handed", "_law_found", "_law_text", "_law_at", "_law_less", "_law_code"]
theorem sc_law : FnScope n_law ["_law_script"] (defScope s_law) := ⟨rfl, rfl, rfl, by decide +kernel, rfl, by decide +kernel, by decide +kernel⟩

theorem ok_law {f : Addr} {fd : FuncData} (F : Fun K "law" "law" s_law f fd) (B : Bl mg) (g_q_dice : Pm P w K mg base CX0 1 "_law_dice" ["_law_script", "_law_k"] (sp_dice K))
    (g_q_sets : Pm P w K mg base CX0 3 "_law_sets" ["_law_d"] (sp_sets K)) (g_q_tape : Pm P w K mg base CX0 2 "_law_tape" ["_law_d", "_law_sets_here", "_law_most"] (sp_tape K))
    (g_trimmed : Pm P w K mg base CX0 3 "trimmed" ["sets", "tape", "state"] (sp_trimmed K)) (g_q_trimmed : Pm P w K mg base CX0 1 "_law_trimmed" ["_law_sets_here", "_law_tape_here", "_law_state"] (sp_trimmed K))
    (g_read : Pm P w K mg base CX0 3 "read" ["sets", "tape", "state"] (sp_read K)) (g_q_alike : Pm P w K mg base CX0 2 "_law_alike" ["_law_found", "_law_due"] (spA K 2)) : FnOk P w K mg base CX0 4 f fd ["_law_script"] (spLaw K) := by
  refine F.ok sc_law (fun vs H Q E h => ?_) (fun cdv A outer s H vs Q E hr h => ?_)
  · obtain ⟨_, _, rfl, _⟩ := h
    rfl
  · obtain ⟨a, ns, rfl, hA, hl, k⟩ := h
    refine ⟨_, (pss_cons (ps_set (i := 1) sc_law.nd rfl (Or.inl rfl) (pe_pm g_q_dice (hr.mono (by decide)) pass0 (pa_cons (pv 0) (pa_cons pe_int pa_nil))))
 (pss_cons (ps_set (i := 2) sc_law.nd rfl (Or.inl rfl) (pe_pm g_q_sets (hr.mono (by decide)) pass0 (pa_cons (pv 1) pa_nil)))
 (pss_cons (ps_set (i := 3) sc_law.nd rfl (Or.inr rfl) (pe_callB (lenK K rfl) (by rfl) B.len PySem.boot_len (pa_cons (pe_ix (ixK K rfl) (pv 2) pe_int (fun _ _ => rfl)) pa_nil)))
 (pss_cons (ps_for PassesOwn.never rfl (pi_range1 (by rfl) B.range (pa_cons pe_int pa_nil)) (pg_name (i := 4) sc_law.nd rfl (Or.inl rfl))
 (pss_cons (ps_set (i := 5) sc_law.nd rfl (Or.inl rfl) (pe_pm g_q_tape (hr.mono (by decide)) pass0 (pa_cons (pv 1) (pa_cons (pv 2) (pa_cons (pe_ix (ixK K rfl) (pe_lst (pa_cons pe_int (pa_cons pe_int (pa_cons pe_int (pa_cons pe_int pa_nil))))) (pv 4) (fun _ _ => rfl)) pa_nil)))))
 (pss_cons (ps_for PassesOwn.never rfl (pi_range1 (by rfl) B.range (pa_cons pe_int pa_nil)) (pg_name (i := 6) sc_law.nd rfl (Or.inl rfl))
 (pss_cons (ps_set (i := 7) sc_law.nd rfl (Or.inl rfl) (pe_callTy (listK K rfl rfl) (by rfl) B.list (by decide +kernel) (pa_cons (pv 5) pa_nil)))
 (pss_cons (ps_set (i := 8) sc_law.nd rfl (Or.inl rfl) (pe_pm g_trimmed (hr.mono (by decide)) pass0 (pa_cons (pv 2) (pa_cons (pv 7) (pa_cons (pv 6) pa_nil)))))
 (pss_cons (ps_if (PW.pt (pw_or (pt_not (pt_val (pe_pm g_q_alike (hr.mono (by decide)) pass0 (pa_cons (pv 8) (pa_cons (pe_pm g_q_trimmed (hr.mono (by decide)) pass0 (pa_cons (pv 2) (pa_cons (pv 5) (pa_cons (pv 6) pa_nil)))) pa_nil))))) (pw_or (pt_cmpR (neK K rfl hr.units) (pv 7) (pv 5) (nomark _)) (pw_or1 (pt_cmpR op_gt (pe_callB (lenK K rfl) (by rfl) B.len PySem.boot_len (pa_cons (pv 8) pa_nil)) (pe_callB (lenK K rfl) (by rfl) B.len PySem.boot_len (pa_cons (pv 5) pa_nil)) (nomark _))))))
 (pss_cons (ps_ret pe_bl)
 pss_nil)
 pss_nil)
 (pss_cons (ps_if (pt_cmpR (neK K rfl hr.units) (pe_ix (ixK K rfl) (pe_pm g_read (hr.mono (by decide)) pass0 (pa_cons (pv 2) (pa_cons (pv 8) (pa_cons (pv 6) pa_nil)))) pe_int (fun _ _ => rfl)) (pe_ix (ixK K rfl) (pe_pm g_read (hr.mono (by decide)) pass0 (pa_cons (pv 2) (pa_cons (pv 5) (pa_cons (pv 6) pa_nil)))) pe_int (fun _ _ => rfl)) (nomark _))
 (pss_cons (ps_ret pe_bl)
 pss_nil)
 pss_nil)
 (pss_cons (ps_if (pt_cmpR (neK K rfl hr.units) (pe_lc (own := [("_law_code", 12)]) (g := gName 12) rfl sc_law.nd (piL K rfl (pv 8)) (blkOk_by (N := n_law) (sc := defScope s_law) (by decide +kernel)) (fun _ _ _ _ _ => pg_name (i := 12) sc_law.nd rfl (Or.inl rfl)) (fun _ _ _ _ _ => (pts_one (pt_cmpR op_lt (pv 12) (pv 3) (nomark _)))) (fun _ _ _ _ _ => (pv 12))) (pe_lc (own := [("_law_code", 12)]) (g := gName 12) rfl sc_law.nd (piL K rfl (pv 5)) (blkOk_by (N := n_law) (sc := defScope s_law) (by decide +kernel)) (fun _ _ _ _ _ => pg_name (i := 12) sc_law.nd rfl (Or.inl rfl)) (fun _ _ _ _ _ => (pts_one (pt_cmpR op_lt (pv 12) (pv 3) (nomark _)))) (fun _ _ _ _ _ => (pv 12))) (nomark _))
 (pss_cons (ps_ret pe_bl)
 pss_nil)
 pss_nil)
 (pss_cons (ps_set (i := 9) sc_law.nd rfl (Or.inl rfl) (pe_ix (ixK K rfl) (pe_pm g_read (hr.mono (by decide)) pass0 (pa_cons (pv 2) (pa_cons (pv 5) (pa_cons (pv 6) pa_nil)))) pe_int (fun _ _ => rfl)))
 (pss_cons (ps_for PassesOwn.never rfl (pi_range1 (by rfl) B.range (pa_cons (pe_callB (lenK K rfl) (by rfl) B.len PySem.boot_len (pa_cons (pv 8) pa_nil)) pa_nil)) (pg_name (i := 10) sc_law.nd rfl (Or.inl rfl))
 (pss_cons (ps_set (i := 11) sc_law.nd rfl (Or.inl rfl) (pe_op op_addP (pe_slice (slK K rfl) (pv 8) po_none (po_some (pv 10))) (pe_slice (slK K rfl) (pv 8) (po_some (pe_op op_addP (pv 10) pe_int)) po_none)))
 (pss_cons (ps_if (PW.pt (pw_and (pt_cmpR op_ge (pe_ix (ixK K rfl) (pv 8) (pv 10) (fun _ _ => rfl)) (pv 3) (nomark _)) (pw_and1 (pt_cmpR (eqK K rfl hr.units) (pe_ix (ixK K rfl) (pe_pm g_read (hr.mono (by decide)) pass0 (pa_cons (pv 2) (pa_cons (pv 11) (pa_cons (pv 6) pa_nil)))) pe_int (fun _ _ => rfl)) (pv 9) (nomark _)))))
 (pss_cons (ps_ret pe_bl)
 pss_nil)
 pss_nil)
 pss_nil)))
 (pss_cons (ps_if (pt_not (pt_val (pe_pm g_q_alike (hr.mono (by decide)) pass0 (pa_cons (pe_pm g_trimmed (hr.mono (by decide)) pass0 (pa_cons (pv 2) (pa_cons (pv 8) (pa_cons (pv 6) pa_nil)))) (pa_cons (pv 8) pa_nil)))))
 (pss_cons (ps_ret pe_bl)
 pss_nil)
 pss_nil)
 (pss_cons (ps_expr (bmK K rfl PySem.F.plainAttrs_list PySem.F.slot_list_append PySem.F.type_list_append mt_append (pv 8) (pa_cons pe_int pa_nil)))
 pss_nil))))))))))
 pss_nil)))
 (pss_cons (ps_ret pe_bl)
 pss_nil))))), ?_⟩
    refine go_st (σ := [some (.ref a), none, none, none, none, none, none, none, none, none, none, none, none]) rfl ?_
    refine go_dice rfl hA hl fun d hd0 => ?_
    wtm_at "r"
    refine wp_sets fun s A' B' hs g _ _ => ?_
    have n10 := g.n10
    obtain ⟨F1, hF1⟩ : ∃ F1, F1 = upd H s (.tup [.str (tx A'), .str (tx B')]) := ⟨_, rfl⟩
    rw [← hF1]
    have hS1 : SetsAt K F1 s A' B' := SqT.of (by rw [hF1]; exact upd_same)
    wtm_at "r"
    refine go_forR (fun i σ F => ∃ (v4 v5 v6 v7 v8 v9 v10 v11 : Option V), σ = [some (.ref a), some (.ref d), some (.ref s), some (.int (A'.length : Nat)), v4, v5, v6, v7, v8, v9, v10, v11, none] ∧ Ex F1 F) ?_
    wtm_at "r"
    refine ⟨4, rfl, by decide, ⟨_, _, _, _, _, _, _, _, rfl, exr F1⟩, ?_, ?_⟩
    · rintro i σ F hi ⟨v4, v5, v6, v7, v8, v9, v10, v11, rfl, e⟩
      obtain ⟨most, hmo, hm2⟩ : ∃ most : Nat, atI [V.int 40, V.int 40, V.int 40, V.int 200] ((i : Nat) : Int) = some (.int (most : Int)) ∧ most ≤ 200 := by
        match i, hi with
        | 0, _ => exact ⟨40, atI_nat (j := 0) rfl, by decide⟩
        | 1, _ => exact ⟨40, atI_nat (j := 1) rfl, by decide⟩
        | 2, _ => exact ⟨40, atI_nat (j := 2) rfl, by decide⟩
        | 3, _ => exact ⟨200, atI_nat (j := 3) rfl, by decide⟩
        | n + 4, h => omega
      wtm_at "r"
      refine ⟨(by show 4 ≤ 100000; decide), ?_⟩
      wtm_at "gz"
      intro p1 hp1 F2 q2 e2
      have e2 := e.trans e2
      wtm_at "r"
      refine wp_ixL (SqL.of q2) hmo ?_
      wtm_at "r"
      refine wp_tape (ex_t e2 hS1) g.n1 g.n10 (by omega) fun t cs ht hc hcl => ?_
      have cl : cs.length ≤ 200 := by omega
      revert t
      wtm_at "gz"
      intro t ht F3 hT e3
      have e3 := e2.trans e3
      have hS3 := ex_t e3 hS1
      wtm_at "r"
      refine go_forR (fun i σ F => ∃ (w4 w6 w7 w8 w9 w10 w11 : Option V), σ = [some (.ref a), some (.ref d), some (.ref s), some (.int (A'.length : Nat)), w4, some (.ref t), w6, w7, w8, w9, w10, w11, none] ∧ Ex F3 F) ?_
      wtm_at "r"
      refine ⟨2, rfl, by decide, ⟨_, _, _, _, _, _, _, rfl, exr F3⟩, ?_, ?_⟩
      · rintro st σ F hst ⟨w4, w6, w7, w8, w9, w10, w11, rfl, e4⟩
        have hs : StOk (st : Int) := by unfold StOk; omega
        have hS := ex_t e4 hS3
        have hT := e4 _ _ hT
        have lx := trim_len A' B' cs st
        have okx := trim_ok (A := A') (B := B') (here := (st : Int)) hc hs
        have lg1 := gon_len A' B' st cs
        have lg2 := gon_len A' B' st (trimR A' B' cs st st)
        wtm_at "r"
        refine wp_listL (SqL.of hT) ?_
        wtm_at "gz"
        intro h hh F5 hH f5
        wtm_at "r"
        refine wp_trimmed (ex_t f5 hS) (SqL.of hH) g hc cl hs ?_
        wtm_at "gz"
        intro x hx F6 hX f6
        have hH := f6 _ _ hH
        have nx : F x = none := f5.free hx
        have f6 := f5.trans f6
        wtm_at "r"
        refine wp_trimmed (ex_t f6 hS) (SqL.of (f6 _ _ hT)) g hc cl hs ?_
        wtm_at "gz"
        intro y hy F7 hY f7
        have hH := f7 _ _ hH
        have hX := f7 _ _ hX
        have f7 := f6.trans f7
        wtm_at "r"
        refine wp_alike (dp_I (SqL.of hX)) (dp_I (SqL.of hY)) (dn_J (by omega)) ?_
        wtm_at "r"
        refine bF rfl ?_
        wtm_at "r"
        refine wp_neIL (SqL.of hH) (SqL.of (f7 _ _ hT)) ?_
        wtm_at "r"
        refine bF (by simp) ?_
        wtm_at "r"
        try (refine wp_lenL (SqL.of hX) ?_)
        wtm_at "r"
        try (refine wp_lenL (SqL.of (f7 _ _ hT)) ?_)
        wtm_at "r"
        refine bF (by simp; omega) ?_
        wtm_at "r"
        refine wp_read (ex_t f7 hS) (SqL.of hX) g okx (by omega) hs ?_
        wtm_at "gz"
        intro p8 hp8 F8 q8 f8
        have hX := f8 _ _ hX
        have f8 := f7.trans f8
        wtm_at "r"
        refine wp_read (ex_t f8 hS) (SqL.of (f8 _ _ hT)) g hc cl hs ?_
        wtm_at "gz"
        intro p9 hp9 F9 q9 f9
        have hX := f9 _ _ hX
        have f9 := f8.trans f9
        wtm_at "r"
        refine bF (by rw [trim_read hc hs hs]; simp) ?_
        wtm_at "r"
        refine wp_lcL (fun _ => rfl) ?_
        wtm_at "r"
        refine ⟨x, _, rfl, SqL.of hX, fun D1 hD1 => ⟨fun i acc F => acc = il (((trimR A' B' cs st st).take i).filter fun c => decide (c < (A'.length : Int))) ∧ Ex F9 F, ⟨rfl, ex_new hD1⟩, fun i acc F ⟨_, e⟩ => SqL.of (e _ _ hX), ?_, ?_⟩⟩
        · rintro i y acc F10 hy2 hD ⟨rfl, e10⟩
          obtain ⟨c, hcy, rfl, hmem⟩ := il_at hy2
          have hli : (((trimR A' B' cs st st).take i).filter fun c => decide (c < (A'.length : Int))).length ≤ ((trimR A' B' cs st st).take i).length := List.length_filter_le _ _
          have hl3 : ((trimR A' B' cs st st).take i).length ≤ (trimR A' B' cs st st).length := List.length_take_le' _ _
          have st2 := filt_take (n := (A'.length : Int)) hcy
          show Wp _ _ _ _
          wtm_at "r"
          refine ⟨fun hlt => ?_, fun hge => ?_⟩
          · have hlt := of_decide_eq_true hlt
            wtm_at "r"
            refine ⟨hD, by rw [List.length_map]; omega, ?_, ex_mut e10 hD1⟩
            rw [st2, if_pos hlt]
            exact il_snoc _ c
          · have hge := of_decide_eq_false hge
            refine ⟨hD, ?_, e10⟩
            rw [st2, if_neg hge, List.append_nil]
        · rintro acc F10 hD ⟨rfl, e10⟩
          rw [List.length_map, List.take_length, trim_signs hc hs] at hD
          have f10 := f9.trans e10
          have hX := e10 _ _ hX
          have hT10 := f10 _ _ hT
          wtm_at "r"
          refine wp_lcL (fun _ => rfl) ?_
          wtm_at "r"
          refine ⟨t, _, rfl, SqL.of hT10, fun D2 hD2 => ⟨fun i acc F => acc = il ((cs.take i).filter fun c => decide (c < (A'.length : Int))) ∧ Ex F10 F, ⟨rfl, ex_new hD2⟩, fun i acc F ⟨_, e⟩ => SqL.of (e _ _ hT10), ?_, ?_⟩⟩
          · rintro i y acc F11 hy2 hD3 ⟨rfl, e11⟩
            obtain ⟨c, hcy, rfl, hmem⟩ := il_at hy2
            have hli : ((cs.take i).filter fun c => decide (c < (A'.length : Int))).length ≤ (cs.take i).length := List.length_filter_le _ _
            have hl3 : (cs.take i).length ≤ cs.length := List.length_take_le' _ _
            have st2 := filt_take (n := (A'.length : Int)) hcy
            show Wp _ _ _ _
            wtm_at "r"
            refine ⟨fun hlt => ?_, fun hge => ?_⟩
            · have hlt := of_decide_eq_true hlt
              wtm_at "r"
              refine ⟨hD3, by rw [List.length_map]; omega, ?_, ex_mut e11 hD2⟩
              rw [st2, if_pos hlt]
              exact il_snoc _ c
            · have hge := of_decide_eq_false hge
              refine ⟨hD3, ?_, e11⟩
              rw [st2, if_neg hge, List.append_nil]
          · rintro acc F11 hD3 ⟨rfl, e11⟩
            rw [List.length_map, List.take_length] at hD3
            have hD := e11 _ _ hD
            have f11 := f10.trans e11
            have hX := e11 _ _ hX
            refine wp_neIL (SqL.of hD) (SqL.of hD3) ?_
            wtm_at "r"
            refine bF (by simp) ?_
            wtm_at "r"
            refine wp_read (ex_t f11 hS) (SqL.of (f11 _ _ hT)) g hc cl hs ?_
            wtm_at "gz"
            intro p12 hp12 F12 q12 f12
            have hX := f12 _ _ hX
            have f12 := f11.trans f12
            wtm_at "r"
            have hS12 := ex_t f12 hS
            refine go_forR (fun i σ F => ∃ (x4 x10 x11 : Option V), σ = [some (.ref a), some (.ref d), some (.ref s), some (.int (A'.length : Nat)), x4, some (.ref t), some (.int (st : Int)), some (.ref h), some (.ref x), some (.str (tx (gon A' B' cs st).1)), x10, x11, none] ∧ Ex F12 F) ?_
            wtm_at "r"
            try (refine wp_lenL (SqL.of hX) ?_)
            wtm_at "r"
            refine ⟨(trimR A' B' cs st st).length, by rw [List.length_map], by omega, ⟨_, _, _, rfl, exr F12⟩, ?_, ?_⟩
            · rintro j σ F13 hj ⟨x4, x10, x11, rfl, e13⟩
              have hS13 := ex_t e13 hS12
              have hX13 := e13 _ _ hX
              have hz : (trimR A' B' cs st st)[j]? = some (trimR A' B' cs st st)[j] := List.getElem?_eq_getElem hj
              have okl := lost_ok2 okx j
              have lel := cutAt_len (trimR A' B' cs st st) j
              have lgl := gon_len A' B' st (cutAt (trimR A' B' cs st st) j)
              wtm_at "r"
              refine wp_slTake (n := j) (SqL.of hX13) rfl ?_
              wtm_at "gz"
              intro p14 hp14 F14 q14 f14
              have hX14 := f14 _ _ hX13
              wtm_at "r"
              refine wp_slDrop (n := j + 1) (SqL.of hX14) (by omega) ?_
              wtm_at "gz"
              intro p15 hp15 F15 q15 f15
              have q14 := f15 _ _ q14
              have hX15 := f15 _ _ hX14
              have f15 := f14.trans f15
              refine wp_addL q14 q15 (by rw [List.length_map, List.length_map, List.length_take, List.length_drop]; omega) ?_
              wtm_at "gz"
              intro p16 hp16 F16 q16 f16
              rw [← List.map_append, show (trimR A' B' cs st st).take j ++ (trimR A' B' cs st st).drop (j + 1) = cutAt (trimR A' B' cs st st) j from rfl] at q16
              have hX16 := f16 _ _ hX15
              have f16 := f15.trans f16
              wtm_at "r"
              refine wp_ixL (SqL.of hX16) (v := .int (trimR A' B' cs st st)[j]) (atI_nat (by rw [List.getElem?_map, hz]; rfl)) ?_
              wtm_at "r"
              refine ⟨fun hge => ?_, fun hlt => ?_⟩
              · have hge : ¬ (trimR A' B' cs st st)[j] < (A'.length : Int) := by have := of_decide_eq_true hge; omega
                wtm_at "r"
                refine wp_read (ex_t f16 hS13) (SqL.of q16) g okl (by omega) hs ?_
                wtm_at "gz"
                intro p17 hp17 F17 q17 f17
                have f17 := f16.trans f17
                wtm_at "r"
                refine bF ?_ ?_
                · have nn := trim_needs hc hs hs hz hge
                  rw [trim_read hc hs hs] at nn
                  simpa using nn
                · wtm_at "r"
                  exact go_turn rfl ⟨_, _, _, rfl, e13.trans f17⟩
              · refine bF rfl ?_
                wtm_at "r"
                exact go_turn rfl ⟨_, _, _, rfl, e13.trans f16⟩
            · rintro σ F13 ⟨x4, x10, x11, rfl, e13⟩
              have hX13 := e13 _ _ hX
              have f13 := f12.trans e13
              wtm_at "r"
              refine wp_trimmed (ex_t f13 hS) (SqL.of hX13) g okx (by omega) hs ?_
              wtm_at "gz"
              intro z hz F14 q14 f14
              have hX14 := f14 _ _ hX13
              have f14 := f13.trans f14
              rw [trim_again hc hs hs] at q14
              wtm_at "r"
              refine wp_alike (dp_I (SqL.of q14)) (dp_I (SqL.of hX14)) (dn_J (by omega)) ?_
              wtm_at "r"
              refine bF rfl ?_
              wtm_at "r"
              refine wp_bmL ?_
              wtm_at "r"
              refine ⟨x, _, rfl, SqL.of hX14, ?_⟩
              wtm_at "r"
              refine wp_append hX14 (by rw [List.length_map]; omega) ?_
              wtm_at "r"
              exact go_turn rfl ⟨_, _, _, _, _, _, _, rfl, e4.trans (ex_mut f14 nx)⟩
      · rintro σ F ⟨w4, w6, w7, w8, w9, w10, w11, rfl, e4⟩
        exact go_turn rfl ⟨_, _, _, _, _, _, _, _, rfl, e3.trans e4⟩
    · rintro σ F ⟨v4, v5, v6, v7, v8, v9, v10, v11, rfl, e⟩
      wtm_at "r"
      exact fun H1 _ => k H1
end
theorem all_mk {l : PySem.W.OpenLaw} {w : World} {K : PySem.W.Frag} {h : Heap} {mg : Str → Option Value} {fa f0 f1 f2 f3 f4 f5 f6 f7 f8 f9 f10 f11 f12 f13 f14 f15 : Addr} (X : K.In h) (G : h.Ns mainGlobals mg) (hfa : mg "law" = some (.ref fa))
    {od0 an0 od1 an1 od2 an2 od3 an3 od4 an4 od5 an5 od6 an6 od7 an7 od8 an8 od9 an9 od10 an10 od11 an11 od12 an12 od13 an13 od14 an14 od15 an15 : Option Addr} {sl0 sl1 sl2 sl3 sl4 sl5 sl6 sl7 sl8 sl9 sl10 sl11 sl12 sl13 sl14 sl15 : Array (Option Value)} {oc0 kV0 dc0 pm0 cd0 ct0 oc1 kV1 dc1 pm1 cd1 ct1 oc2 kV2 dc2 pm2 cd2 ct2 oc3 kV3 dc3 pm3 cd3 ct3 oc4 kV4 dc4 pm4 cd4 ct4 oc5 kV5 dc5 pm5 cd5 ct5 oc6 kV6 dc6 pm6 cd6 ct6 oc7 kV7 dc7 pm7 cd7 ct7 oc8 kV8 dc8 pm8 cd8 ct8 oc9 kV9 dc9 pm9 cd9 ct9 oc10 kV10 dc10 pm10 cd10 ct10 oc11 kV11 dc11 pm11 cd11 ct11 oc12 kV12 dc12 pm12 cd12 ct12 oc13 kV13 dc13 pm13 cd13 ct13 oc14 kV14 dc14 pm14 cd14 ct14 oc15 kV15 dc15 pm15 cd15 ct15 : Value} {t_MOST_SIGNS t_MOST_CODES : Tok}
    (a0 : PySem.W.nsIn K mainGlobals "need_sets" = some (some (.ref f0))) (l0 : K.lookup f0 = some ⟨oc0, od0, .func (PySem.W.fnOf "need_sets" "need_sets" (defArgs s_need_sets) (defBody s_need_sets) (defScope s_need_sets) .none kV0 dc0 pm0 an0 cd0 ct0), sl0⟩) (c0 : PySem.W.codeIn K cd0 "need_sets" = true) (k0 : PySem.W.keepIn K (.ref f0) = true)
    (a1 : PySem.W.nsIn K mainGlobals "need_tape" = some (some (.ref f1))) (l1 : K.lookup f1 = some ⟨oc1, od1, .func (PySem.W.fnOf "need_tape" "need_tape" (defArgs s_need_tape) (defBody s_need_tape) (defScope s_need_tape) .none kV1 dc1 pm1 an1 cd1 ct1), sl1⟩) (c1 : PySem.W.codeIn K cd1 "need_tape" = true) (k1 : PySem.W.keepIn K (.ref f1) = true)
    (a2 : PySem.W.nsIn K mainGlobals "need_state" = some (some (.ref f2))) (l2 : K.lookup f2 = some ⟨oc2, od2, .func (PySem.W.fnOf "need_state" "need_state" (defArgs s_need_state) (defBody s_need_state) (defScope s_need_state) .none kV2 dc2 pm2 an2 cd2 ct2), sl2⟩) (c2 : PySem.W.codeIn K cd2 "need_state" = true) (k2 : PySem.W.keepIn K (.ref f2) = true)
    (a3 : PySem.W.nsIn K mainGlobals "need_all" = some (some (.ref f3))) (l3 : K.lookup f3 = some ⟨oc3, od3, .func (PySem.W.fnOf "need_all" "need_all" (defArgs s_need_all) (defBody s_need_all) (defScope s_need_all) .none kV3 dc3 pm3 an3 cd3 ct3), sl3⟩) (c3 : PySem.W.codeIn K cd3 "need_all" = true) (k3 : PySem.W.keepIn K (.ref f3) = true)
    (a4 : PySem.W.nsIn K mainGlobals "is_common" = some (some (.ref f4))) (l4 : K.lookup f4 = some ⟨oc4, od4, .func (PySem.W.fnOf "is_common" "is_common" (defArgs s_is_common) (defBody s_is_common) (defScope s_is_common) .none kV4 dc4 pm4 an4 cd4 ct4), sl4⟩) (c4 : PySem.W.codeIn K cd4 "is_common" = true) (k4 : PySem.W.keepIn K (.ref f4) = true)
    (a5 : PySem.W.nsIn K mainGlobals "gone" = some (some (.ref f5))) (l5 : K.lookup f5 = some ⟨oc5, od5, .func (PySem.W.fnOf "gone" "gone" (defArgs s_gone) (defBody s_gone) (defScope s_gone) .none kV5 dc5 pm5 an5 cd5 ct5), sl5⟩) (c5 : PySem.W.codeIn K cd5 "gone" = true) (k5 : PySem.W.keepIn K (.ref f5) = true)
    (a6 : PySem.W.nsIn K mainGlobals "read" = some (some (.ref f6))) (l6 : K.lookup f6 = some ⟨oc6, od6, .func (PySem.W.fnOf "read" "read" (defArgs s_read) (defBody s_read) (defScope s_read) .none kV6 dc6 pm6 an6 cd6 ct6), sl6⟩) (c6 : PySem.W.codeIn K cd6 "read" = true) (k6 : PySem.W.keepIn K (.ref f6) = true)
    (a7 : PySem.W.nsIn K mainGlobals "trimmed" = some (some (.ref f7))) (l7 : K.lookup f7 = some ⟨oc7, od7, .func (PySem.W.fnOf "trimmed" "trimmed" (defArgs s_trimmed) (defBody s_trimmed) (defScope s_trimmed) .none kV7 dc7 pm7 an7 cd7 ct7), sl7⟩) (c7 : PySem.W.codeIn K cd7 "trimmed" = true) (k7 : PySem.W.keepIn K (.ref f7) = true)
    (a8 : PySem.W.nsIn K mainGlobals "_law_dice" = some (some (.ref f8))) (l8 : K.lookup f8 = some ⟨oc8, od8, .func (PySem.W.fnOf "_law_dice" "_law_dice" (defArgs s_q_dice) (defBody s_q_dice) (defScope s_q_dice) .none kV8 dc8 pm8 an8 cd8 ct8), sl8⟩) (c8 : PySem.W.codeIn K cd8 "_law_dice" = true) (k8 : PySem.W.keepIn K (.ref f8) = true)
    (a9 : PySem.W.nsIn K mainGlobals "_law_off" = some (some (.ref f9))) (l9 : K.lookup f9 = some ⟨oc9, od9, .func (PySem.W.fnOf "_law_off" "_law_off" (defArgs s_q_off) (defBody s_q_off) (defScope s_q_off) .none kV9 dc9 pm9 an9 cd9 ct9), sl9⟩) (c9 : PySem.W.codeIn K cd9 "_law_off" = true) (k9 : PySem.W.keepIn K (.ref f9) = true)
    (a10 : PySem.W.nsIn K mainGlobals "_law_alike" = some (some (.ref f10))) (l10 : K.lookup f10 = some ⟨oc10, od10, .func (PySem.W.fnOf "_law_alike" "_law_alike" (defArgs s_q_alike) (defBody s_q_alike) (defScope s_q_alike) .none kV10 dc10 pm10 an10 cd10 ct10), sl10⟩) (c10 : PySem.W.codeIn K cd10 "_law_alike" = true) (k10 : PySem.W.keepIn K (.ref f10) = true)
    (a11 : PySem.W.nsIn K mainGlobals "_law_mixed" = some (some (.ref f11))) (l11 : K.lookup f11 = some ⟨oc11, od11, .func (PySem.W.fnOf "_law_mixed" "_law_mixed" (defArgs s_q_mixed) (defBody s_q_mixed) (defScope s_q_mixed) .none kV11 dc11 pm11 an11 cd11 ct11), sl11⟩) (c11 : PySem.W.codeIn K cd11 "_law_mixed" = true) (k11 : PySem.W.keepIn K (.ref f11) = true)
    (a12 : PySem.W.nsIn K mainGlobals "_law_sets" = some (some (.ref f12))) (l12 : K.lookup f12 = some ⟨oc12, od12, .func (PySem.W.fnOf "_law_sets" "_law_sets" (defArgs s_q_sets) (defBody s_q_sets) (defScope s_q_sets) .none kV12 dc12 pm12 an12 cd12 ct12), sl12⟩) (c12 : PySem.W.codeIn K cd12 "_law_sets" = true) (k12 : PySem.W.keepIn K (.ref f12) = true)
    (a13 : PySem.W.nsIn K mainGlobals "_law_tape" = some (some (.ref f13))) (l13 : K.lookup f13 = some ⟨oc13, od13, .func (PySem.W.fnOf "_law_tape" "_law_tape" (defArgs s_q_tape) (defBody s_q_tape) (defScope s_q_tape) .none kV13 dc13 pm13 an13 cd13 ct13), sl13⟩) (c13 : PySem.W.codeIn K cd13 "_law_tape" = true) (k13 : PySem.W.keepIn K (.ref f13) = true)
    (a14 : PySem.W.nsIn K mainGlobals "_law_trimmed" = some (some (.ref f14))) (l14 : K.lookup f14 = some ⟨oc14, od14, .func (PySem.W.fnOf "_law_trimmed" "_law_trimmed" (defArgs s_q_trimmed) (defBody s_q_trimmed) (defScope s_q_trimmed) .none kV14 dc14 pm14 an14 cd14 ct14), sl14⟩) (c14 : PySem.W.codeIn K cd14 "_law_trimmed" = true) (k14 : PySem.W.keepIn K (.ref f14) = true)
    (a15 : PySem.W.nsIn K mainGlobals "law" = some (some (.ref f15))) (l15 : K.lookup f15 = some ⟨oc15, od15, .func (PySem.W.fnOf "law" "law" (defArgs s_law) (defBody s_law) (defScope s_law) .none kV15 dc15 pm15 an15 cd15 ct15), sl15⟩) (c15 : PySem.W.codeIn K cd15 "law" = true) (k15 : PySem.W.keepIn K (.ref f15) = true)
    (v_MOST_SIGNS : PySem.W.nsIn K mainGlobals "MOST_SIGNS" = some (some (.int 10 t_MOST_SIGNS)))
    (v_MOST_CODES : PySem.W.nsIn K mainGlobals "MOST_CODES" = some (some (.int 200 t_MOST_CODES)))
    (z_len : PySem.W.nsIn K mainGlobals "len" = some none)
    (z_list : PySem.W.nsIn K mainGlobals "list" = some none)
    (z_range : PySem.W.nsIn K mainGlobals "range" = some none)
    (z_abs : PySem.W.nsIn K mainGlobals "abs" = some none)
    (z_int_ : PySem.W.nsIn K mainGlobals "int" = some none)
    (z_bool_ : PySem.W.nsIn K mainGlobals "bool" = some none)
    (z_str_ : PySem.W.nsIn K mainGlobals "str" = some none)
    (z_isinstance : PySem.W.nsIn K mainGlobals "isinstance" = some none)
    (z_all : PySem.W.nsIn K mainGlobals "all" = some none)
    (z_enumerate : PySem.W.nsIn K mainGlobals "enumerate" = some none)
    (z_max : PySem.W.nsIn K mainGlobals "max" = some none)
    (z_min : PySem.W.nsIn K mainGlobals "min" = some none)
    (z_set : PySem.W.nsIn K mainGlobals "set" = some none)
    (z_sorted : PySem.W.nsIn K mainGlobals "sorted" = some none)
    (z_tuple : PySem.W.nsIn K mainGlobals "tuple" = some none)
    : ∃ fd : FuncData, (∀ (s : Shared) (v : Value), BindsTo s fd ⟨[v], []⟩ [("_law_script", v)]) ∧ ∀ base : Heap, K.In base → base.Ns mainGlobals mg → FnOk l.prog w K mg base CX0 4 fa fd ["_law_script"] (spLaw K) := by
  have D_need_sets : DefAt K mg "need_sets" s_need_sets := defAt_mk X G a0 l0 c0 k0
  have D_need_tape : DefAt K mg "need_tape" s_need_tape := defAt_mk X G a1 l1 c1 k1
  have D_need_state : DefAt K mg "need_state" s_need_state := defAt_mk X G a2 l2 c2 k2
  have D_need_all : DefAt K mg "need_all" s_need_all := defAt_mk X G a3 l3 c3 k3
  have D_is_common : DefAt K mg "is_common" s_is_common := defAt_mk X G a4 l4 c4 k4
  have D_gone : DefAt K mg "gone" s_gone := defAt_mk X G a5 l5 c5 k5
  have D_read : DefAt K mg "read" s_read := defAt_mk X G a6 l6 c6 k6
  have D_trimmed : DefAt K mg "trimmed" s_trimmed := defAt_mk X G a7 l7 c7 k7
  have D_q_dice : DefAt K mg "_law_dice" s_q_dice := defAt_mk X G a8 l8 c8 k8
  have D_q_off : DefAt K mg "_law_off" s_q_off := defAt_mk X G a9 l9 c9 k9
  have D_q_alike : DefAt K mg "_law_alike" s_q_alike := defAt_mk X G a10 l10 c10 k10
  have D_q_mixed : DefAt K mg "_law_mixed" s_q_mixed := defAt_mk X G a11 l11 c11 k11
  have D_q_sets : DefAt K mg "_law_sets" s_q_sets := defAt_mk X G a12 l12 c12 k12
  have D_q_tape : DefAt K mg "_law_tape" s_q_tape := defAt_mk X G a13 l13 c13 k13
  have D_q_trimmed : DefAt K mg "_law_trimmed" s_q_trimmed := defAt_mk X G a14 l14 c14 k14
  have c_MOST_SIGNS : ∃ t, mg "MOST_SIGNS" = some (.int 10 t) := ⟨t_MOST_SIGNS, PySem.W.mg_of X G v_MOST_SIGNS⟩
  have c_MOST_CODES : ∃ t, mg "MOST_CODES" = some (.int 200 t) := ⟨t_MOST_CODES, PySem.W.mg_of X G v_MOST_CODES⟩
  have B : Bl mg := ⟨PySem.W.mg_none_of X G z_len, PySem.W.mg_none_of X G z_list, PySem.W.mg_none_of X G z_range, PySem.W.mg_none_of X G z_abs, PySem.W.mg_none_of X G z_int_, PySem.W.mg_none_of X G z_bool_, PySem.W.mg_none_of X G z_str_, PySem.W.mg_none_of X G z_isinstance, PySem.W.mg_none_of X G z_all, PySem.W.mg_none_of X G z_enumerate, PySem.W.mg_none_of X G z_max, PySem.W.mg_none_of X G z_min, PySem.W.mg_none_of X G z_set, PySem.W.mg_none_of X G z_sorted, PySem.W.mg_none_of X G z_tuple⟩
  have e := hfa.symm.trans (PySem.W.mg_of X G a15)
  cases e
  have F_law := fun_mk (st := s_law) l15 c15 k15
  refine ⟨PySem.W.fnOf "law" "law" (defArgs s_law) (defBody s_law) (defScope s_law) .none kV15 dc15 pm15 an15 cd15 ct15, fun s v => .of_eq rfl, fun base _ _ => ?_⟩
  have g_need_sets := pm_need_sets (P := l.prog) (w := w) (K := K) (mg := mg) (base := base) D_need_sets B c_MOST_SIGNS
  have g_need_tape := pm_need_tape (P := l.prog) (w := w) (K := K) (mg := mg) (base := base) D_need_tape B c_MOST_CODES
  have g_need_state := pm_need_state (P := l.prog) (w := w) (K := K) (mg := mg) (base := base) D_need_state
  have g_need_all := pm_need_all (P := l.prog) (w := w) (K := K) (mg := mg) (base := base) D_need_all g_need_sets g_need_tape g_need_state
  have g_is_common := pm_common (P := l.prog) (w := w) (K := K) (mg := mg) (base := base) D_is_common B
  have g_gone := pm_gone (P := l.prog) (w := w) (K := K) (mg := mg) (base := base) D_gone B
  have g_read := pm_read (P := l.prog) (w := w) (K := K) (mg := mg) (base := base) D_read g_need_all g_gone
  have g_trimmed := pm_trimmed (P := l.prog) (w := w) (K := K) (mg := mg) (base := base) D_trimmed B g_need_all g_is_common
  have g_q_dice := pm_dice (P := l.prog) (w := w) (K := K) (mg := mg) (base := base) D_q_dice B
  have g_q_off := pm_off (P := l.prog) (w := w) (K := K) (mg := mg) (base := base) D_q_off B
  have g_q_alike := pm_alike (P := l.prog) (w := w) (K := K) (mg := mg) (base := base) D_q_alike B 2
  have g_q_mixed := pm_mixed (P := l.prog) (w := w) (K := K) (mg := mg) (base := base) D_q_mixed B g_q_off
  have g_q_sets := pm_sets (P := l.prog) (w := w) (K := K) (mg := mg) (base := base) D_q_sets B g_q_off g_q_mixed
  have g_q_tape := pm_tape (P := l.prog) (w := w) (K := K) (mg := mg) (base := base) D_q_tape B g_q_off
  have g_q_trimmed := pm_qtrimmed (P := l.prog) (w := w) (K := K) (mg := mg) (base := base) D_q_trimmed B
  exact ok_law F_law B g_q_dice g_q_sets g_q_tape g_trimmed g_q_trimmed g_read g_q_alike
end Sr
open PySem PySem.W PyProof.Rows
set_option maxRecDepth 100000 in
set_option maxHeartbeats 0 in
theorem PySem.Challenge.cw_shiftrow_k08_whole_without_needless_shif_holds : PySem.Challenge.rw_shiftrow_k08_whole_without_needless_shif.Holds := by
  w_on; o_law; k_head; (case hw => w_witness2)
  k_fill
  refine L2.walk_of (l := PySem.Challenge.rw_shiftrow_k08_whole_without_needless_shif) (n := 63) (k := 4) (x := "_law_script") (CX := fun _ => L2.CX0) (sp := fun w => Sr.spLaw _) rfl (by decide) rfl ⟨rfl, by decide, by decide⟩ (fun w h Y => PySem.W.kIn_of Y) ?F (fun _ _ a ns hl _ hS => ⟨a, ns, rfl, hS, hl, fun _ => rfl⟩) (fun _ _ _ _ _ h => h)
  case F =>
    intro w mg fa h KX G hmg
    refine' Sr.all_mk KX G hmg ?a0 ?l0 ?c0 ?k0 ?a1 ?l1 ?c1 ?k1 ?a2 ?l2 ?c2 ?k2 ?a3 ?l3 ?c3 ?k3 ?a4 ?l4 ?c4 ?k4 ?a5 ?l5 ?c5 ?k5 ?a6 ?l6 ?c6 ?k6 ?a7 ?l7 ?c7 ?k7 ?a8 ?l8 ?c8 ?k8 ?a9 ?l9 ?c9 ?k9 ?a10 ?l10 ?c10 ?k10 ?a11 ?l11 ?c11 ?k11 ?a12 ?l12 ?c12 ?k12 ?a13 ?l13 ?c13 ?k13 ?a14 ?l14 ?c14 ?k14 ?a15 ?l15 ?c15 ?k15 ?v_MOST_SIGNS ?v_MOST_CODES ?z_len ?z_list ?z_range ?z_abs ?z_int_ ?z_bool_ ?z_str_ ?z_isinstance ?z_all ?z_enumerate ?z_max ?z_min ?z_set ?z_sorted ?z_tuple
    (case a0 => k_is)
    (case l0 => k_is)
    (case c0 => k_is)
    (case k0 => k_is)
    (case a1 => k_is)
    (case l1 => k_is)
    (case c1 => k_is)
    (case k1 => k_is)
    (case a2 => k_is)
    (case l2 => k_is)
    (case c2 => k_is)
    (case k2 => k_is)
    (case a3 => k_is)
    (case l3 => k_is)
    (case c3 => k_is)
    (case k3 => k_is)
    (case a4 => k_is)
    (case l4 => k_is)
    (case c4 => k_is)
    (case k4 => k_is)
    (case a5 => k_is)
    (case l5 => k_is)
    (case c5 => k_is)
    (case k5 => k_is)
    (case a6 => k_is)
    (case l6 => k_is)
    (case c6 => k_is)
    (case k6 => k_is)
    (case a7 => k_is)
    (case l7 => k_is)
    (case c7 => k_is)
    (case k7 => k_is)
    (case a8 => k_is)
    (case l8 => k_is)
    (case c8 => k_is)
    (case k8 => k_is)
    (case a9 => k_is)
    (case l9 => k_is)
    (case c9 => k_is)
    (case k9 => k_is)
    (case a10 => k_is)
    (case l10 => k_is)
    (case c10 => k_is)
    (case k10 => k_is)
    (case a11 => k_is)
    (case l11 => k_is)
    (case c11 => k_is)
    (case k11 => k_is)
    (case a12 => k_is)
    (case l12 => k_is)
    (case c12 => k_is)
    (case k12 => k_is)
    (case a13 => k_is)
    (case l13 => k_is)
    (case c13 => k_is)
    (case k13 => k_is)
    (case a14 => k_is)
    (case l14 => k_is)
    (case c14 => k_is)
    (case k14 => k_is)
    (case a15 => k_is)
    (case l15 => k_is)
    (case c15 => k_is)
    (case k15 => k_is)
    (case v_MOST_SIGNS => k_is)
    (case v_MOST_CODES => k_is)
    (case z_len => k_is)
    (case z_list => k_is)
    (case z_range => k_is)
    (case z_abs => k_is)
    (case z_int_ => k_is)
    (case z_bool_ => k_is)
    (case z_str_ => k_is)
    (case z_isinstance => k_is)
    (case z_all => k_is)
    (case z_enumerate => k_is)
    (case z_max => k_is)
    (case z_min => k_is)
    (case z_set => k_is)
    (case z_sorted => k_is)
    (case z_tuple => k_is)
