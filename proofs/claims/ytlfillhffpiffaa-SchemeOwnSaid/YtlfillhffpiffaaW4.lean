/-
  Parts of the proof, 4.
-/
import Derived.Test.YtlfillhffpiffaaW3
namespace Go.Proofs.Ytlfillhffpiffaa
set_option linter.unusedSimpArgs false
set_option linter.unusedVariables false
set_option maxRecDepth 8000
open Go Go.Fx Go.Proofs

theorem ix_mem {v : Int} : ∀ {l : List Int}, ixL l v < l.length → v ∈ l
  | [], h => by simp [ixL] at h
  | x :: l, h => by
    simp only [ixL] at h
    split at h
    · rename_i e; exact List.mem_cons.2 (.inl e.symm)
    · rw [List.length_cons] at h; exact List.mem_cons_of_mem _ (ix_mem (by omega))
theorem mem_ix {v : Int} : ∀ {l : List Int}, v ∈ l → ixL l v < l.length
  | x :: l, h => by
    simp only [ixL]
    split
    · simp
    · rename_i e
      rcases List.mem_cons.1 h with h | h
      · exact absurd h.symm e
      · rw [List.length_cons]; have := mem_ix h; omega
theorem inL_iff {v : Int} {l : List Int} : inL l v = true ↔ v ∈ l := by
  unfold inL; rw [decide_eq_true_eq]; exact ⟨ix_mem, mem_ix⟩
def NdV (l : List Int) : Prop := (∀ x ∈ l, 0 ≤ x ∧ x < 4096) ∧ l.Pairwise (· ≠ ·)
theorem vm_of {l : List Int} (h : NdV l) : vmS l = true := by
  unfold vmS
  rw [List.all_eq_true]
  intro i hi
  rw [List.mem_range] at hi
  unfold vm1
  rw [getD_at hi]
  have h2 : inL (l.take i) l[i] = false := by
    cases hh : inL (l.take i) l[i] with
    | false => rfl
    | true =>
      obtain ⟨j, hj, e⟩ := List.mem_iff_getElem.1 (inL_iff.1 hh)
      rw [List.length_take] at hj
      rw [List.getElem_take] at e
      exact absurd e (List.pairwise_iff_getElem.1 h.2 j i (by omega) hi (by omega))
  rw [h2, decide_eq_true (h.1 _ (List.getElem_mem hi))]; rfl
theorem nd_add {l : List Int} {v : Int} (h : NdV l) (hv : 0 ≤ v ∧ v < 4096) : NdV (addL l v) := by
  unfold addL
  split
  · exact h
  · rename_i hn
    refine ⟨fun x hx => ?_, List.pairwise_append.2 ⟨h.2, by simp, fun x hx y hy => ?_⟩⟩
    · rcases List.mem_append.1 hx with hx | hx
      · exact h.1 x hx
      · rw [List.mem_singleton.1 hx]; exact hv
    · rw [List.mem_singleton.1 hy]
      rintro rfl
      exact hn (inL_iff.2 hx)
theorem nd_see {N : Nms} {x : List Int} (h : NdV N.1 ∧ NdV N.2) (hx : nodM x = true) (h9 : x.length = 9) : NdV (see N x).1 ∧ NdV (see N x).2 := by
  unfold see
  unfold nodM at hx
  split
  · rename_i h2
    rw [if_neg (by omega), if_pos h2] at hx
    simp only [Bool.and_eq_true, decide_eq_true_eq] at hx
    exact ⟨nd_add h.1 hx.1, h.2⟩
  · split
    · rename_i h2 h3
      rw [if_pos h3.1] at hx
      simp only [Bool.and_eq_true] at hx
      have ht := rowM_t hx.1
      rw [drop4_tail' h9] at ht
      exact ⟨h.1, nd_add h.2 (by omega)⟩
    · exact h
theorem nd_nms : ∀ (l : List (List Int)) {N : Nms}, NdV N.1 ∧ NdV N.2 → (∀ x ∈ l, x = [] ∨ nodM x = true ∧ x.length = 9) → NdV (nms N l).1 ∧ NdV (nms N l).2
  | [], N, h, _ => h
  | x :: l, N, h, hl => by
    rw [nms_cons]
    refine nd_nms l ?_ (fun y hy => hl y (List.mem_cons_of_mem _ hy))
    rcases hl x List.mem_cons_self with rfl | ⟨h1, h2⟩
    · exact h
    · exact nd_see h h1 h2
theorem ord_el {L : List (List Int)} : ∀ (f : Nat) (z : Int), ∀ x ∈ ord L f z, ∃ z', x = el L z'
  | 0, z, x, h => by cases h
  | f + 1, z, x, h => by
    rw [ord_succ] at h
    split at h
    · exact ⟨z, List.mem_singleton.1 h⟩
    · rcases List.mem_append.1 h with h | h
      · exact ord_el f _ x h
      · rcases List.mem_cons.1 h with h | h
        · exact ⟨z, h⟩
        · exact ord_el f _ x h
theorem el_or (L : List (List Int)) (z : Int) : el L z = [] ∨ el L z ∈ L := by
  unfold el
  rw [List.getD_eq_getElem?_getD]
  cases h : L[z.toNat]? with
  | none => exact .inl rfl
  | some x => exact .inr (List.mem_of_getElem? h)
theorem nd_vars {L : List (List Int)} (hL : Nine L) (h : typM L = true) : NdV (varsS L ([], [])).1 ∧ NdV (varsS L ([], [])).2 := by
  refine nd_nms _ ⟨⟨(fun x hx => nomatch hx), List.Pairwise.nil⟩, ⟨(fun x hx => nomatch hx), List.Pairwise.nil⟩⟩ (fun x hx => ?_)
  obtain ⟨z, rfl⟩ := ord_el _ _ x hx
  rcases el_or L z with h0 | h0
  · exact .inl h0
  · refine .inr ⟨?_, hL _ h0⟩
    unfold typM at h
    simp only [Bool.and_eq_true, List.all_eq_true] at h
    exact h.1.2 _ h0
def slf (vs us : List Int) : List Bt := vs.map (fun v => Bt.t v (.var v)) ++ us.map (fun v => Bt.r v [0, 0, 0, 0, v])
theorem slf_T (v : Int) : ∀ (vs us : List Int), findT (slf vs us) v = none ∨ findT (slf vs us) v = some (.var v)
  | [], [] => .inl rfl
  | [], u :: us => slf_T v [] us
  | w :: vs, us => by
    show (if w = v then some (Tm.var w) else findT (slf vs us) v) = none ∨ (if w = v then some (Tm.var w) else findT (slf vs us) v) = some (.var v)
    by_cases h : w = v
    · rw [if_pos h, h]; exact .inr rfl
    · rw [if_neg h]; exact slf_T v vs us
theorem slf_R (v : Int) : ∀ (vs us : List Int), findR (slf vs us) v = none ∨ findR (slf vs us) v = some [0, 0, 0, 0, v]
  | [], [] => .inl rfl
  | [], u :: us => by
    show (if u = v then some [0, 0, 0, 0, u] else findR (slf [] us) v) = none ∨ (if u = v then some [0, 0, 0, 0, u] else findR (slf [] us) v) = some [0, 0, 0, 0, v]
    by_cases h : u = v
    · rw [if_pos h, h]; exact .inr rfl
    · rw [if_neg h]; exact slf_R v [] us
  | w :: vs, us => slf_R v vs us
theorem slf_row {vs us : List Int} {r : List Int} (h5 : r.length = 5) (hr : rowM r = true) : rwS (slf vs us) r = some r := by
  unfold rwS
  split
  · rfl
  · rename_i h0
    rcases slf_R (r.getD 4 0) vs us with h | h
    · rw [h]
    · rw [h]
      have h4 := rowM_t hr
      have hz : rowM [0, 0, 0, 0, r.getD 4 0] = true := by
        unfold rowM
        rw [Bool.and_eq_true]
        exact ⟨rfl, decide_eq_true (by show -1 ≤ r.getD 4 0 ∧ r.getD 4 0 < 4096; exact h4)⟩
      have hs : sumR r [0, 0, 0, 0, r.getD 4 0] = r := by rw [sumR_ad h5 hr rfl hz, adR_z h5]
      have hok : sumOk r [0, 0, 0, 0, r.getD 4 0] = true := by
        unfold sumOk
        rw [List.all_eq_true]
        intro i hi
        rw [List.mem_range] at hi
        rw [decide_eq_true_eq]
        have e : (sumR r [0, 0, 0, 0, r.getD 4 0]).getD i 0 = sm r [0, 0, 0, 0, r.getD 4 0] i := by
          match i, hi with
          | 0, _ => rfl
          | 1, _ => rfl
          | 2, _ => rfl
          | 3, _ => rfl
        rw [← e, hs]
        exact (rowM_all hr hi h5).2
      dsimp only
      rw [hok, hs]; rfl
theorem slf_sub {vs us : List Int} : ∀ (t : Tm), t.ok → sub (slf vs us) t = some t
  | .bas k, _ => rfl
  | .var v, _ => by
    simp only [sub]
    rcases slf_T v vs us with h | h <;> rw [h]
  | .fn a r b, h => by
    simp only [sub, slf_sub a h.1, slf_row h.2.1 h.2.2.1, slf_sub b h.2.2.2]
theorem nd_wo {l k : List Int} (h : NdV l) : NdV (wo l k) := ⟨fun x hx => h.1 x (List.mem_filter.1 hx).1, h.2.filter _⟩
theorem zipT_pl : ∀ {vs : List Int} {ts : List Td}, ts.map (·.nodes) = vs.map (fun v => [vNode v]) → (List.zipWith bT vs ts).map pl = (vs.map (fun v => Bt.t v (.var v))).map Bt.pl
  | [], [], _ => rfl
  | [], _ :: _, h => by simp at h
  | _ :: _, [], h => by simp at h
  | v :: vs, t :: ts, h => by
    simp only [List.map_cons, List.cons.injEq] at h
    simp only [List.zipWith_cons_cons, List.map_cons, zipT_pl h.2]
    congr 1
    show (v, false, t.nodes, noRow) = (v, false, [vNode v], noRow)
    rw [h.1]
theorem zipR_pl : ∀ (us : List Int), (List.zipWith bR us (us.map (fun v => ([0, 0, 0, 0, v] : List Int)))).map pl = (us.map (fun v => Bt.r v [0, 0, 0, 0, v])).map Bt.pl
  | [] => rfl
  | u :: us => by
    simp only [List.map_cons, List.zipWith_cons_cons, zipR_pl us]; rfl
theorem bindM_bt {b : Bd} {c : Bt} (h : pl b = c.pl) (hc : c.ok) (hv : 0 ≤ b.var ∧ b.var < 4096) : bindM b = true := by
  unfold bindM
  cases c with
  | t v u =>
    have e1 : b.isRow = false := congrArg (fun p => p.2.1) h
    have e2 : b.nodes = u.enc 0 := congrArg (fun p => p.2.2.1) h
    have e3 : b.row = noRow := congrArg (fun p => p.2.2.2) h
    rw [decide_eq_true hv, e1, e2, e3, enc_typ hc.1 hc.2]; simp
  | r v s =>
    have e1 : b.isRow = true := congrArg (fun p => p.2.1) h
    have e2 : b.nodes = [] := congrArg (fun p => p.2.2.1) h
    have e3 : b.row = s := congrArg (fun p => p.2.2.2) h
    rw [decide_eq_true hv, e1, e2, e3, hc.2]; rfl
theorem slf_ok {vs us : List Int} (h1 : NdV vs) (h2 : NdV us) : ∀ c ∈ slf vs us, c.ok ∧ (0 ≤ c.pl.1 ∧ c.pl.1 < 4096) := by
  intro c hc
  rcases List.mem_append.1 hc with hc | hc
  · obtain ⟨v, hv, rfl⟩ := List.mem_map.1 hc
    exact ⟨⟨h1.1 v hv, (by decide : 1 ≤ 256)⟩, h1.1 v hv⟩
  · obtain ⟨v, hv, rfl⟩ := List.mem_map.1 hc
    have h4 := h2.1 v hv
    refine ⟨⟨rfl, ?_⟩, h4⟩
    unfold rowM
    rw [Bool.and_eq_true]
    exact ⟨rfl, decide_eq_true (by show -1 ≤ v ∧ v < 4096; omega)⟩
theorem own_self {L : List (List Int)} {ks ms : List Int} {ts : List Td} {rs : List (List Int)} (hL : Nine L) (h : typM L = true) (ht : ts.map (·.nodes) = (cloV L ks).map (fun v => [vNode v])) (hr : rs = (cloR L ms).map (fun v => ([0, 0, 0, 0, v] : List Int))) :
    takT (cloV L ks) ts (cloR L ms) rs L = some L := by
  obtain ⟨g1, g2⟩ := nd_vars hL h
  obtain ⟨v1, v2⟩ := vars_256 h
  have l1 : (cloV L ks).length ≤ 256 := by unfold cloV; rw [h]; exact Nat.le_trans (List.length_filter_le _ _) v1
  have l2 : (cloR L ms).length ≤ 256 := by unfold cloR; rw [h]; exact Nat.le_trans (List.length_filter_le _ _) v2
  have d1 : NdV (cloV L ks) := by unfold cloV; rw [h]; exact nd_wo g1
  have d2 : NdV (cloR L ms) := by unfold cloR; rw [h]; exact nd_wo g2
  generalize cloV L ks = vs at *
  generalize cloR L ms = us at *
  subst hr
  have hlt : ts.length = vs.length := by have := congrArg List.length ht; simpa using this
  have hpl : (takB vs ts us (us.map (fun v => ([0, 0, 0, 0, v] : List Int)))).map pl = (slf vs us).map Bt.pl := by
    unfold takB slf
    rw [List.map_append, List.map_append, zipT_pl ht, zipR_pl us]
  have hok := slf_ok d1 d2
  obtain ⟨t, hto, rfl, htz⟩ := typ_dec hL h
  have htO : takO vs ts us (us.map (fun v => ([0, 0, 0, 0, v] : List Int))) = true := by
    unfold takO
    rw [vm_of d1, vm_of d2, decide_eq_true hlt, decide_eq_true (List.length_map _)]; rfl
  have hlen : (takB vs ts us (us.map (fun v => ([0, 0, 0, 0, v] : List Int)))).length = (slf vs us).length := by have := congrArg List.length hpl; simpa using this
  have hbm : bindsM (takB vs ts us (us.map (fun v => ([0, 0, 0, 0, v] : List Int)))) = true := by
    unfold bindsM
    rw [Bool.and_eq_true]
    refine ⟨decide_eq_true (by rw [hlen]; unfold slf; simp; omega), ?_⟩
    rw [List.all_eq_true]
    intro b hb
    obtain ⟨i, hi, rfl⟩ := List.mem_iff_getElem.1 hb
    have hpi := pl_at hpl hi (by rw [← hlen]; exact hi)
    obtain ⟨k1, k2⟩ := hok _ (List.getElem_mem (show i < (slf vs us).length by rw [← hlen]; exact hi))
    refine bindM_bt hpi k1 ?_
    rw [← hpi] at k2
    exact k2
  unfold takT
  rw [if_pos htO]
  unfold subT
  rw [if_pos ⟨hbm, h⟩, typS_tys hpl (fun b hb => (hok b hb).1) t]
  unfold tys
  rw [slf_sub t hto]
  dsimp only
  rw [if_pos htz]; rfl
end Go.Proofs.Ytlfillhffpiffaa

namespace Go.Proofs.Ytlfillhffpiffaa
set_option linter.unusedSimpArgs false
set_option linter.unusedVariables false
set_option maxRecDepth 8000
set_option maxHeartbeats 600000
open Go Go.Fx Go.Proofs
namespace FactsUniNH
theorem ag25 : ag Try.prog 25 = some 1 := by kernel_rfl
theorem ag56 : ag Try.prog 56 = some 3 := by kernel_rfl
theorem apt57 : appT Try.prog 57 = some (25, 1, 24) := by kernel_rfl
theorem apt58 : appT Try.prog 58 = some (28, 5, 40) := by kernel_rfl
theorem es54 : esz Try.prog 54 = some 1 := by kernel_rfl
theorem fo56_0 : foff Try.prog 56 0 = some 0 := by kernel_rfl
theorem fo56_1 : foff Try.prog 56 1 = some 1 := by kernel_rfl
theorem isl54 : isSl Try.prog 54 = true := by kernel_rfl
theorem pl25 : places Try.prog 25 = some [(0, 1)] := by kernel_rfl
theorem pl28 : places Try.prog 28 = some [(0, 4), (4, 1)] := by kernel_rfl
theorem pl47 : places Try.prog 47 = some [(0, 1), (1, 1), (2, 1), (3, 1), (4, 5)] := by kernel_rfl
theorem sc3 : sc Try.prog 3 = true := by kernel_rfl
theorem sc54 : sc Try.prog 54 = true := by kernel_rfl
theorem slA23 : slA Try.prog 23 = some (47, 9) := by kernel_rfl
theorem slA57 : slA Try.prog 57 = some (25, 1) := by kernel_rfl
theorem slA58 : slA Try.prog 58 = some (28, 5) := by kernel_rfl
theorem zc25 : zc Try.prog 25 = some [.slice none 0 0] := by kernel_rfl
theorem zc28 : zc Try.prog 28 = some [.int .i64 0, .int .i64 0, .int .i64 0, .int .i64 0, .int .i64 0] := by kernel_rfl
theorem zc47 : zc Try.prog 47 = some [.int .i64 0, .int .i64 0, .int .i64 0, .int .i64 0, .int .i64 0, .int .i64 0, .int .i64 0, .int .i64 0, .int .i64 0] := by kernel_rfl
theorem zc56 : zc Try.prog 56 = some [.slice none 0 0, .slice none 0 0, .slice none 0 0] := by kernel_rfl
end FactsUniNH
open FactsUniNH

structure OwT (H : Heap) (lo : Nat) (A : Option Addr) (cap : Nat) (ts : List Td) (vs : List Int) : Prop where
  g : Gs H lo 25 1 A cap ts.length (ts.flatMap encT)
  ok : ∀ t ∈ ts, t.Ok H ∧ ob t.A ≠ ob A
  nd : ts.map (·.nodes) = vs.map (fun v => [vNode v])
theorem OwT.ext {H H' : Heap} {lo cap : Nat} {A : Option Addr} {ts : List Td} {vs : List Int} (h : OwT H lo A cap ts vs) (he : Ext H H') : OwT H' lo A cap ts vs :=
  ⟨h.g.ext he, fun t ht => ⟨⟨(h.ok t ht).1.sl.ext he, (h.ok t ht).1.nine, (h.ok t ht).1.fits⟩, (h.ok t ht).2⟩, h.nd⟩
theorem OwT.len {H : Heap} {lo cap : Nat} {A : Option Addr} {ts : List Td} {vs : List Int} (h : OwT H lo A cap ts vs) : ts.length = vs.length := by have := congrArg List.length h.nd; simpa using this
theorem OwT.lt {H : Heap} {lo cap : Nat} {A : Option Addr} {ts : List Td} {vs : List Int} (h : OwT H lo A cap ts vs) : ob A < H.size ∧ (ob A = -1 ∨ (lo : Int) ≤ ob A) := h.g.lt
theorem OwT.one {H : Heap} {lo cap : Nat} {A : Option Addr} {ts : List Td} {vs : List Int} (h : OwT H lo A cap ts vs) : ∀ t ∈ ts, ob t.A < H.size := by
  intro t ht
  have h1 : t.nodes ∈ vs.map (fun v => [vNode v]) := by rw [← h.nd]; exact List.mem_map.2 ⟨t, ht, rfl⟩
  obtain ⟨v, _, hv⟩ := List.mem_map.1 h1
  rcases (h.ok t ht).1.sl.lt with h2 | h2
  · rw [← hv] at h2; cases h2
  · exact h2.2
theorem OwT.app {H H' : Heap} {lo cap cap' : Nat} {A A' : Option Addr} {ts : List Td} {vs : List Int} {v : Int} {b k : Nat} (h : OwT H lo A cap ts vs) (hs : SlT H Is 9 (.slice (some ⟨b, 0, none⟩) 1 1) [vNode v]) (hb : (b : Int) ≠ ob A) (hb' : b < k) (hk : k ≤ H.size)
    (ht : ∀ t ∈ ts, ob t.A < k) (hbut : But (fun g => (g : Int) = ob A) H H') (ha : ob A' = ob A ∨ ob A' = k)
    (hg : Gs H' lo 25 1 A' cap' (ts ++ [(Td.mk (some ⟨b, 0, none⟩) 1 [vNode v])]).length ((ts ++ [(Td.mk (some ⟨b, 0, none⟩) 1 [vNode v])]).flatMap encT)) :
    OwT H' lo A' cap' (ts ++ [(Td.mk (some ⟨b, 0, none⟩) 1 [vNode v])]) (vs ++ [v]) := by
  refine ⟨hg, fun t htm => ?_, by rw [List.map_append, List.map_append, h.nd]; rfl⟩
  rcases List.mem_append.1 htm with htm | htm
  · obtain ⟨k1, k2⟩ := h.ok t htm
    have k3 := ht t htm
    exact ⟨⟨k1.sl.via hbut (fun _ g hg e => by have e' : (g : Int) = ob A := e; omega), k1.nine, k1.fits⟩, by omega⟩
  · rw [List.mem_singleton.1 htm]
    refine ⟨⟨hs.via hbut (fun _ g hg e => by rw [ob_some] at hg; have e' : (g : Int) = ob A := e; omega), nine1 rfl, Nat.le_of_ble_eq_true rfl⟩, ?_⟩
    show ob (some ⟨b, 0, none⟩) ≠ ob A'
    rw [ob_some]; omega
theorem takB_nine {vs us : List Int} {ts : List Td} {rs : List (List Int)} (h1 : ∀ t ∈ ts, Nine t.nodes) (h2 : Five rs) : ∀ b ∈ takB vs ts us rs, Nine b.nodes ∧ b.row.length = 5 := by
  intro b hb
  unfold takB at hb
  rcases List.mem_append.1 hb with hb | hb
  · obtain ⟨i, hi, rfl⟩ := List.mem_iff_getElem.1 hb
    rw [List.getElem_zipWith]
    exact ⟨h1 _ (List.getElem_mem _), rfl⟩
  · obtain ⟨i, hi, rfl⟩ := List.mem_iff_getElem.1 hb
    rw [List.getElem_zipWith]
    exact ⟨(fun x hx => nomatch hx), h2 _ (List.getElem_mem _)⟩
theorem schemeOwn_law {A Ak Am At_ Ar : Option Addr} {cap ck cm ct cr : Nat} {T : List (List Int)} {ks ms : List Int} {ts : List Td} {rs : List (List Int)} {H : Heap} (hS : SlT H Is 9 (.slice A T.length cap) T) (hT9 : Nine T) (hm : T.length * 72 ≤ 140737488351232)
    (hk : SlT H e1 1 (.slice Ak ks.length ck) ks) (hmk : ks.length ≤ 9223372036854775807) (hr : SlT H e1 1 (.slice Am ms.length cm) ms) (hmr : ms.length ≤ 9223372036854775807)
    (hTs : Tds H (.slice At_ ts.length ct) ts) (hRs : SlT H Is 5 (.slice Ar rs.length cr) rs) (h5 : Five rs) (hrm : rs.length ≤ 9223372036854775807) :
    Ret Try.prog 14 [Ty A T.length cap, .slice Ak ks.length ck, .slice Am ms.length cm, .slice At_ ts.length ct, .slice Ar rs.length cr] H (fun v H' => v = .bool true ∧ Ext H H') := by
  have hlens : (cloV T ks).length ≤ 9223372036854775807 ∧ (cloR T ms).length ≤ 9223372036854775807 ∧ (cloT T).length ≤ 9223372036854775807 := clo_len T ks ms (by omega)
  refine Ret.of_at (N := 113) Try.call14 Try.func14 rfl rfl rfl ?_
  have hE := Ext.refl H
  refine At.region rfl rfl ?_
  refine Reg.op rfl rfl rfl rfl (Does.box rfl rfl) ?_
  rintro _ H0_0 ⟨rfl, hn0_0⟩
  have z0_0 := hn0_0.size
  replace hE := hE.ext hn0_0.ext
  have o0_0 := hn0_0.own
  refine Reg.pur rfl rfl rfl rfl (Pur.asg rfl) ?_
  refine Reg.nil ?_
  refine At.region rfl rfl ?_
  refine Reg.op rfl rfl rfl rfl (Does.call rfl (awake12_ok _)) ?_
  rintro _ H1_0 ⟨rfl, hE1_0⟩
  have z1_0 := hE1_0.lt
  replace hE := hE.ext hE1_0
  replace o0_0 := o0_0.ext hE1_0
  refine Reg.pur rfl rfl rfl rfl (Pur.not rfl) ?_
  refine Reg.nil ?_
  refine At.condF rfl rfl rfl ?_
  refine At.region rfl rfl ?_
  refine Reg.lod rfl rfl rfl rfl (Lod.ldn ag25 rfl o0_0.blk (by first | exact whole rfl | rfl | (simp only [List.drop_succ_cons, List.drop_zero, List.take_succ_cons, List.take_zero]; rfl)) (by first | rfl | (simp [*]; done))) ?_
  refine Reg.pur rfl rfl rfl rfl (Pur.mv rfl) ?_
  refine Reg.pur rfl rfl rfl rfl (Pur.mv rfl) ?_
  refine Reg.op rfl rfl rfl rfl (Does.call rfl (close_ok hT9 (hS.ext hE) hm (hk.ext hE) hmk (hr.ext hE) hmr)) ?_
  rintro _ H3_3 ⟨hE3_3, C1, f1, C2, f2, C3, f3, rfl, hca⟩
  have z3_3 := hE3_3.lt
  replace hE := hE.ext hE3_3
  replace o0_0 := o0_0.ext hE3_3
  have hE3 := Ext.refl H3_3
  have z_hE3 := hE3.lt
  refine Reg.pur rfl rfl rfl rfl (Pur.mv rfl) ?_
  refine Reg.pur rfl rfl rfl rfl (Pur.ext rfl rfl) ?_
  refine Reg.pur rfl rfl rfl rfl (Pur.ext rfl rfl) ?_
  refine Reg.op rfl rfl rfl rfl (Does.alloc zc56) ?_
  rintro _ H3_7 ⟨rfl, hn3_7⟩
  have z3_7 := hn3_7.size
  replace hE := hE.ext hn3_7.ext
  replace o0_0 := o0_0.ext hn3_7.ext
  replace hE3 := hE3.ext hn3_7.ext
  have o3_7 := hn3_7.own
  refine Reg.op0 rfl rfl rfl (Does.stn ag56 rfl rfl (by first | rfl | exact ones_Is _) (by first | rfl | (simp [*]; done)) o3_7 (by first | decide | (simp; done) | (simp; omega) | omega)) ?_
  rintro _ H3_8 hu3_8
  have z3_8 := hu3_8.size
  replace hE := hE.upw hu3_8 (by omega)
  replace o0_0 := o0_0.upw hu3_8 (by omega)
  replace hE3 := hE3.upw hu3_8 (by omega)
  replace o3_7 := hu3_8.own
  first | rw [over (by first | rfl | (simp; done))] at o3_7 | skip
  refine Reg.pur rfl rfl rfl rfl (Pur.asg rfl) ?_
  refine Reg.nil ?_
  refine At.region rfl rfl ?_
  refine Reg.pur rfl rfl rfl rfl (Pur.mv rfl) ?_
  refine Reg.op rfl rfl rfl rfl (Does.call rfl (numE_ok _ _)) ?_
  rintro _ H3_8 ⟨rfl, rfl⟩
  refine Reg.pur rfl rfl rfl rfl (Pur.neq rfl rfl) ?_
  refine Reg.nil ?_
  refine At.cond rfl rfl (fun q34 => ?_) (fun q34 => ?_)
  · first | (simp only [decide_eq_true_eq, decide_eq_false_iff_not, Bool.not_eq_true', Bool.not_eq_false', ne_eq, Decidable.not_not, Bool.not_eq_true, Bool.not_eq_false] at q34) | (dsimp only at q34) | skip
    have hM : typM T = false := by { cases h : typM T with | false => rfl | true => rw [h] at q34; exact (q34 rfl).elim }
    refine At.region rfl rfl ?_
    refine Reg.pur rfl rfl rfl rfl (Pur.mv rfl) ?_
    refine Reg.op rfl rfl rfl rfl (Does.call rfl (numE_ok _ _)) ?_
    rintro _ H3_8 ⟨rfl, rfl⟩
    refine Reg.pur rfl rfl rfl rfl (Pur.eql rfl rfl) ?_
    refine Reg.pur rfl rfl rfl rfl (Pur.asg rfl) ?_
    refine Reg.nil ?_
    refine At.ret rfl Try.func14 rfl ?_
    exact ⟨congrArg Value.bool (decide_eq_true (by rw [hM]; rfl)), hE⟩
  first | (simp only [decide_eq_true_eq, decide_eq_false_iff_not, Bool.not_eq_true', Bool.not_eq_false', ne_eq, Decidable.not_not, Bool.not_eq_true, Bool.not_eq_false] at q34) | (dsimp only at q34) | skip
  have hM : typM T = true := by { cases h : typM T with | true => rfl | false => rw [h] at q34; cases q34 }
  have h256 := vars_256 hM
  have hcV : cloV T ks = wo (varsS T ([], [])).1 ks := by unfold cloV; rw [hM]; rfl
  have hcR : cloR T ms = wo (varsS T ([], [])).2 ms := by unfold cloR; rw [hM]; rfl
  have hcT : cloT T = T := by unfold cloT; rw [hM]; rfl
  have hvl : (cloV T ks).length ≤ 256 := by rw [hcV]; exact Nat.le_trans (List.length_filter_le _ _) h256.1
  have hrl : (cloR T ms).length ≤ 256 := by rw [hcR]; exact Nat.le_trans (List.length_filter_le _ _) h256.2
  have hself := fun (xs : List Td) (ys : List (List Int)) => own_self (ks := ks) (ms := ms) (ts := xs) (rs := ys) hT9 hM
  refine At.region rfl rfl ?_
  refine Reg.pur rfl rfl rfl rfl (Pur.asg rfl) ?_
  refine Reg.nil ?_
  refine At.region rfl rfl ?_
  refine Reg.pur rfl rfl rfl rfl (Pur.asg rfl) ?_
  refine Reg.nil ?_
  refine At.region rfl rfl ?_
  refine Reg.pur rfl rfl rfl rfl (Pur.asg rfl) ?_
  refine Reg.nil ?_
  refine At.loop (σ := Nat × List Td × Option Addr × Nat) (fun (i, xs, B, c) => [(15, I i), (13, .slice B xs.length c), (14, .slice none 0 0), (11, ptr H3_3.size 0), (5, ptr H.size 0), (3, .slice At_ ts.length ct), (4, .slice Ar rs.length cr)]) (fun (i, xs, B, c) H' => i ≤ (cloV T ks).length ∧ OwT H' (H3_3.size + 1) B c xs ((cloV T ks).take i) ∧ Own H' H3_3.size [.slice C1 (cloV T ks).length f1, .slice C2 (cloR T ms).length f2, .slice C3 (cloT T).length f3] ∧ Own H' H.size [.slice A T.length cap] ∧ Ext H3_3 H' ∧ Ext H H' ∧ H.size < H3_3.size) (fun (i, xs, B, c) => (cloV T ks).length - i) (0, [], none, 0) rfl ⟨rfl, rfl, rfl, rfl, rfl, rfl, rfl, trivial⟩ ⟨by omega, ⟨OwnS.nilG, (fun t ht => nomatch ht), rfl⟩, o3_7, o0_0, hE3, hE, by omega⟩ ?_
  clear o3_7 o0_0 hE3 hE
  rintro ⟨i, xs, B, c⟩ Hl ⟨hi, hO, o3_7, o0_0, hE3, hE, hHH⟩ ih
  dsimp only at hi hO o3_7 o0_0 hE3 hE ih
  have z_hE := hE.lt
  have z_hE3 := hE3.lt
  have z_o0_0 := o0_0.lt
  have z_o3_7 := o3_7.lt
  have z_hO := hO.lt
  refine At.region rfl rfl ?_
  refine Reg.pur rfl rfl rfl rfl (Pur.mv rfl) ?_
  refine Reg.pur rfl rfl rfl rfl (Pur.fld _ fo56_0 rfl) ?_
  refine Reg.lod rfl rfl rfl rfl (Lod.ld sc54 rfl o3_7.blk rfl) ?_
  refine Reg.pur rfl rfl rfl rfl (Pur.lenS isl54 rfl) ?_
  refine Reg.pur rfl rfl rfl rfl (Pur.lss rfl rfl) ?_
  refine Reg.nil ?_
  refine At.cond rfl rfl (fun q42 => ?_) (fun q42 => ?_)
  · first | (simp only [decide_eq_true_eq, decide_eq_false_iff_not, Bool.not_eq_true', Bool.not_eq_false', ne_eq, Decidable.not_not, Bool.not_eq_true, Bool.not_eq_false] at q42) | (dsimp only at q42) | skip
    have hlt : i < (cloV T ks).length := by omega
    have hgO := hO.g.lt
    have hxl := hO.len
    rw [List.length_take] at hxl
    have hob := hO.one
    obtain ⟨b, o, cc, rfl, hB, hc⟩ := int_at (hca.r.ext hE3).s1 hlt
    refine At.region rfl rfl ?_
    refine Reg.pur rfl rfl rfl rfl (Pur.mv rfl) ?_
    refine Reg.pur rfl rfl rfl rfl (Pur.fld _ fo56_0 rfl) ?_
    refine Reg.lod rfl rfl rfl rfl (Lod.ld sc54 rfl o3_7.blk rfl) ?_
    refine Reg.pur rfl rfl rfl rfl (Pur.mv rfl) ?_
    refine Reg.pur rfl rfl rfl rfl (Pur.idx _ es54 rfl rfl (by omega) (by omega)) ?_
    refine Reg.lod rfl rfl rfl rfl (Lod.ld sc3 rfl hB hc) ?_
    refine Reg.pur rfl rfl rfl rfl (Pur.bld (cs := [_, _, _, _, _, _, _, _, _]) pl47 zc47 rfl rfl ⟨rfl, rfl, rfl, rfl, rfl, rfl, rfl, rfl, rfl, rfl⟩) ?_
    refine Reg.op rfl rfl rfl rfl (Does.bslA ([[_, _, _, _, _, _, _, _, _]]) slA23 rfl rfl rfl rfl rfl rfl) ?_
    rintro _ H11_7 ⟨rfl, hp11_7⟩
    have hn11_7 := New.of_eq hp11_7
    have z11_7 := hn11_7.size
    replace hE := hE.ext hn11_7.ext
    replace hE3 := hE3.ext hn11_7.ext
    replace o0_0 := o0_0.ext hn11_7.ext
    replace o3_7 := o3_7.ext hn11_7.ext
    replace hO := hO.ext hn11_7.ext
    have o11_7 := hn11_7.own
    have hTd : SlT H11_7 Is 9 (.slice (some ⟨Hl.size, 0, none⟩) 1 1) [vNode (cloV T ks)[i]] := sl_new (L := [vNode _]) (wide9 (nine1 rfl)) (by decide) hn11_7 (Nat.le_of_ble_eq_true rfl)
    have z_hTd := hTd.lt
    refine Reg.pur rfl rfl rfl rfl (Pur.bld (cs := [_]) pl25 zc25 rfl rfl ⟨rfl, rfl⟩) ?_
    refine Reg.op rfl rfl rfl rfl (Does.bslA ([[_]]) slA57 rfl rfl rfl rfl rfl rfl) ?_
    rintro _ H11_9 ⟨rfl, hp11_9⟩
    have hn11_9 := New.of_eq hp11_9
    have z11_9 := hn11_9.size
    replace hE := hE.ext hn11_9.ext
    replace hE3 := hE3.ext hn11_9.ext
    replace o0_0 := o0_0.ext hn11_9.ext
    replace o3_7 := o3_7.ext hn11_9.ext
    replace hO := hO.ext hn11_9.ext
    replace o11_7 := o11_7.ext hn11_9.ext
    replace hTd := hTd.ext hn11_9.ext
    have o11_9 := hn11_9.own
    have hg := hO.g
    have hO' := hO


    refine Reg.op rfl rfl rfl rfl (Does.appL apt57 rfl rfl (by decide) hg (wideT _) (sl_new (L := [(Td.mk (some ⟨Hl.size, 0, none⟩) 1 [vNode (cloV T ks)[i]])]) (wideT _) (by decide) hn11_9 (by simp)) (by simp [ones, Value.oneCell']) (by simp; omega) (by omega)) ?_
    rintro _ H11_10 ⟨A11_10, cap11_10, rfl, g11_10, hbut11_10, ha11_10⟩
    have z11_10 := hbut11_10.lt
    replace hE := hE.via hbut11_10 (by first | omega | (intro g; omega) | (intro g hg; omega) | (intro g hg h; omega))
    replace hE3 := hE3.via hbut11_10 (by first | omega | (intro g; omega) | (intro g hg; omega) | (intro g hg h; omega))
    replace o0_0 := o0_0.via hbut11_10 (by first | omega | (intro g; omega) | (intro g hg; omega) | (intro g hg h; omega))
    replace o3_7 := o3_7.via hbut11_10 (by first | omega | (intro g; omega) | (intro g hg; omega) | (intro g hg h; omega))
    replace o11_7 := o11_7.via hbut11_10 (by first | omega | (intro g; omega) | (intro g hg; omega) | (intro g hg h; omega))
    replace o11_9 := o11_9.via hbut11_10 (by first | omega | (intro g; omega) | (intro g hg; omega) | (intro g hg h; omega))
    replace hg := g11_10
    have zg11_10 := g11_10.lt
    refine Reg.pur rfl rfl rfl rfl (Pur.asg rfl) ?_
    refine Reg.nil ?_
    refine At.region rfl rfl ?_
    refine Reg.pur rfl rfl rfl rfl (Pur.mv rfl) ?_
    first | refine Reg.pur rfl rfl rfl rfl (Pur.add64 rfl rfl (by omega)) ?_ | refine Reg.pur rfl rfl rfl rfl (Pur.add64 rfl rfl (by assumption)) ?_ | refine Reg.pur rfl rfl rfl rfl (Pur.add rfl rfl) ?_
    refine Reg.pur rfl rfl rfl rfl (Pur.asg rfl) ?_
    refine Reg.nil ?_
    have hst := ih (i + 1, xs ++ [Td.mk (some ⟨Hl.size, 0, none⟩) 1 [vNode (cloV T ks)[i]]], A11_10, cap11_10) _ ⟨by omega, by rw [List.take_succ_eq_append_getElem hlt]; exact OwT.app (k := H11_9.size) hO' hTd (by omega) (by omega) (Nat.le_refl _) (fun t ht => by have := hob t ht; omega) hbut11_10 ha11_10 hg, o3_7, o0_0, hE3, hE, hHH⟩ (by dsimp only; omega)
    exact At.meets rfl hst ⟨rfl, rfl, rfl, rfl, rfl, rfl, rfl, trivial⟩
  first | (simp only [decide_eq_true_eq, decide_eq_false_iff_not, Bool.not_eq_true', Bool.not_eq_false', ne_eq, Decidable.not_not, Bool.not_eq_true, Bool.not_eq_false] at q42) | (dsimp only at q42) | skip
  refine At.region rfl rfl ?_
  refine Reg.pur rfl rfl rfl rfl (Pur.asg rfl) ?_
  refine Reg.nil ?_
  obtain rfl : i = (cloV T ks).length := by omega
  rw [List.take_length] at hO
  clear ih
  refine At.loop (σ := Nat × List (List Int) × Option Addr × Nat) (fun (j, ys, D, d) => [(16, I j), (14, .slice D ys.length d), (13, .slice B xs.length c), (11, ptr H3_3.size 0), (5, ptr H.size 0), (3, .slice At_ ts.length ct), (4, .slice Ar rs.length cr)]) (fun (j, ys, D, d) H' => j ≤ (cloR T ms).length ∧ Gs H' Hl.size 28 5 D d ys.length (ys.flatMap Is) ∧ ys = ((cloR T ms).take j).map (fun v => ([0, 0, 0, 0, v] : List Int)) ∧ Ext Hl H') (fun (j, ys, D, d) => (cloR T ms).length - j) (0, [], none, 0) rfl ⟨rfl, rfl, rfl, rfl, rfl, rfl, rfl, trivial⟩ ⟨by omega, OwnS.nilG, rfl, Ext.refl Hl⟩ ?_
  rintro ⟨j, ys, D, d⟩ Hk ⟨hj, hG, hys, hE5⟩ jh
  dsimp only at hj hG hys hE5 jh
  replace o3_7 := o3_7.ext hE5
  replace o0_0 := o0_0.ext hE5
  replace hE3 := hE3.ext hE5
  replace hE := hE.ext hE5
  have zk := hE5.1
  have zl := o3_7.lt
  have z_hE5 := hE5.lt
  have z_hE := hE.lt
  have z_hE3 := hE3.lt
  have z_o0_0 := o0_0.lt
  have z_o3_7 := o3_7.lt
  have z_hG := hG.lt
  refine At.region rfl rfl ?_
  refine Reg.pur rfl rfl rfl rfl (Pur.mv rfl) ?_
  refine Reg.pur rfl rfl rfl rfl (Pur.fld _ fo56_1 rfl) ?_
  refine Reg.lod rfl rfl rfl rfl (Lod.ld sc54 rfl o3_7.blk rfl) ?_
  refine Reg.pur rfl rfl rfl rfl (Pur.lenS isl54 rfl) ?_
  refine Reg.pur rfl rfl rfl rfl (Pur.lss rfl rfl) ?_
  refine Reg.nil ?_
  refine At.cond rfl rfl (fun q60 => ?_) (fun q60 => ?_)
  · first | (simp only [decide_eq_true_eq, decide_eq_false_iff_not, Bool.not_eq_true', Bool.not_eq_false', ne_eq, Decidable.not_not, Bool.not_eq_true, Bool.not_eq_false] at q60) | (dsimp only at q60) | skip
    have hlt2 : j < (cloR T ms).length := by omega
    have hyl : ys.length = j := by rw [hys]; simp; omega
    obtain ⟨b, o, cc, rfl, hB, hc⟩ := int_at (hca.r.ext hE3).s2 hlt2
    refine At.region rfl rfl ?_
    refine Reg.pur rfl rfl rfl rfl (Pur.mv rfl) ?_
    refine Reg.pur rfl rfl rfl rfl (Pur.fld _ fo56_1 rfl) ?_
    refine Reg.lod rfl rfl rfl rfl (Lod.ld sc54 rfl o3_7.blk rfl) ?_
    refine Reg.pur rfl rfl rfl rfl (Pur.mv rfl) ?_
    refine Reg.pur rfl rfl rfl rfl (Pur.idx _ es54 rfl rfl (by omega) (by omega)) ?_
    refine Reg.lod rfl rfl rfl rfl (Lod.ld sc3 rfl hB hc) ?_
    refine Reg.pur rfl rfl rfl rfl (Pur.bld (cs := [_, _, _, _, _]) pl28 zc28 rfl rfl ⟨rfl, rfl, rfl, rfl, rfl, rfl⟩) ?_
    refine Reg.op rfl rfl rfl rfl (Does.bslA ([[_, _, _, _, _]]) slA58 rfl rfl rfl rfl rfl rfl) ?_
    rintro _ H15_7 ⟨rfl, hp15_7⟩
    have hn15_7 := New.of_eq hp15_7
    have z15_7 := hn15_7.size
    replace hE5 := hE5.ext hn15_7.ext
    replace hE := hE.ext hn15_7.ext
    replace hE3 := hE3.ext hn15_7.ext
    replace o0_0 := o0_0.ext hn15_7.ext
    replace o3_7 := o3_7.ext hn15_7.ext
    replace hG := hG.ext hn15_7.ext
    have o15_7 := hn15_7.own
    refine Reg.op rfl rfl rfl rfl (Does.appL apt58 rfl rfl (by decide) hG (wide5 (five1 rfl)) (sl_new (L := [[0, 0, 0, 0, (cloR T ms)[j]]]) (wide5 (five1 rfl)) (by decide) hn15_7 (by simp)) (ones_flat _) (by simp; omega) (by omega)) ?_
    rintro _ H15_8 ⟨A15_8, cap15_8, rfl, g15_8, hbut15_8, ha15_8⟩
    have z15_8 := hbut15_8.lt
    replace hE5 := hE5.via hbut15_8 (by first | omega | (intro g; omega) | (intro g hg; omega) | (intro g hg h; omega))
    replace hE := hE.via hbut15_8 (by first | omega | (intro g; omega) | (intro g hg; omega) | (intro g hg h; omega))
    replace hE3 := hE3.via hbut15_8 (by first | omega | (intro g; omega) | (intro g hg; omega) | (intro g hg h; omega))
    replace o0_0 := o0_0.via hbut15_8 (by first | omega | (intro g; omega) | (intro g hg; omega) | (intro g hg h; omega))
    replace o3_7 := o3_7.via hbut15_8 (by first | omega | (intro g; omega) | (intro g hg; omega) | (intro g hg h; omega))
    replace o15_7 := o15_7.via hbut15_8 (by first | omega | (intro g; omega) | (intro g hg; omega) | (intro g hg h; omega))
    replace hG := g15_8
    have zg15_8 := g15_8.lt
    refine Reg.pur rfl rfl rfl rfl (Pur.asg rfl) ?_
    refine Reg.nil ?_
    refine At.region rfl rfl ?_
    refine Reg.pur rfl rfl rfl rfl (Pur.mv rfl) ?_
    first | refine Reg.pur rfl rfl rfl rfl (Pur.add64 rfl rfl (by omega)) ?_ | refine Reg.pur rfl rfl rfl rfl (Pur.add64 rfl rfl (by assumption)) ?_ | refine Reg.pur rfl rfl rfl rfl (Pur.add rfl rfl) ?_
    refine Reg.pur rfl rfl rfl rfl (Pur.asg rfl) ?_
    refine Reg.nil ?_
    have hst := jh (j + 1, ys ++ [[0, 0, 0, 0, (cloR T ms)[j]]], A15_8, cap15_8) _ ⟨by omega, hG, by rw [List.take_succ_eq_append_getElem hlt2, List.map_append, ← hys]; rfl, hE5⟩ (by dsimp only; omega)
    exact At.meets rfl hst ⟨rfl, rfl, rfl, rfl, rfl, rfl, rfl, trivial⟩
  first | (simp only [decide_eq_true_eq, decide_eq_false_iff_not, Bool.not_eq_true', Bool.not_eq_false', ne_eq, Decidable.not_not, Bool.not_eq_true, Bool.not_eq_false] at q60) | (dsimp only at q60) | skip
  obtain rfl : j = (cloR T ms).length := by omega
  rw [List.take_length] at hys
  have hO' := hO.ext hE5
  clear jh
  have hst1 : takT (cloV T ks) xs (cloR T ms) ys (cloT T) = some T := by rw [hcT]; exact hself xs ys hO'.nd hys
  have hmL : (cloT T).length * 72 ≤ 140737488351232 := by rw [hcT]; exact hm
  have hy5 : Five ys := by rw [hys]; intro x hx; obtain ⟨v, _, rfl⟩ := List.mem_map.1 hx; rfl
  have hxl := hO'.len
  have hyl : ys.length = (cloR T ms).length := by rw [hys]; simp
  have hTd1 : Tds Hk (.slice B xs.length c) xs := ⟨own_sl (wideT xs) (by decide) hO'.g, fun t ht => (hO'.ok t ht).1, by omega⟩
  refine At.region rfl rfl ?_
  refine Reg.lod rfl rfl rfl rfl (Lod.ldn ag56 rfl o3_7.blk (whole rfl) rfl) ?_
  refine Reg.pur rfl rfl rfl rfl (Pur.mv rfl) ?_
  refine Reg.pur rfl rfl rfl rfl (Pur.mv rfl) ?_
  refine Reg.op rfl rfl rfl rfl (Does.call rfl (take_ok (hca.r.ext hE3) ⟨by omega, by omega⟩ hmL hTd1 (own_sl (wide5 hy5) (by decide) hG) hy5 (by omega))) ?_
  rintro v16_3 H16_3 ⟨hE16_3, hTv16_3⟩
  have z16_3 := hE16_3.lt
  replace hE5 := hE5.ext hE16_3
  replace hE := hE.ext hE16_3
  replace hE3 := hE3.ext hE16_3
  replace o0_0 := o0_0.ext hE16_3
  replace o3_7 := o3_7.ext hE16_3
  replace hG := hG.ext hE16_3
  rw [hst1] at hTv16_3
  obtain ⟨A5, cap5, rfl, ho5, hN5, hl5⟩ := hTv16_3
  have z_ho5 := ho5.lt
  refine Reg.pur rfl rfl rfl rfl (Pur.mv rfl) ?_
  refine Reg.pur rfl rfl rfl rfl (Pur.ext rfl rfl) ?_
  refine Reg.pur rfl rfl rfl rfl (Pur.ext rfl rfl) ?_
  refine Reg.op rfl rfl rfl rfl (Does.alloc zc25) ?_
  rintro _ H16_7 ⟨rfl, hn16_7⟩
  have z16_7 := hn16_7.size
  replace hE5 := hE5.ext hn16_7.ext
  replace hE := hE.ext hn16_7.ext
  replace hE3 := hE3.ext hn16_7.ext
  replace o0_0 := o0_0.ext hn16_7.ext
  replace o3_7 := o3_7.ext hn16_7.ext
  replace hG := hG.ext hn16_7.ext
  replace ho5 := ho5.ext hn16_7.ext
  have o16_7 := hn16_7.own
  refine Reg.op0 rfl rfl rfl (Does.stn ag25 rfl rfl (by first | rfl | exact ones_Is _) (by first | rfl | (simp [*]; done)) o16_7 (by first | decide | (simp; done) | (simp; omega) | omega)) ?_
  rintro _ H16_8 hu16_8
  have z16_8 := hu16_8.size
  replace hE5 := hE5.upw hu16_8 (by omega)
  replace hE := hE.upw hu16_8 (by omega)
  replace hE3 := hE3.upw hu16_8 (by omega)
  replace o0_0 := o0_0.upw hu16_8 (by omega)
  replace o3_7 := o3_7.upw hu16_8 (by omega)
  replace hG := hG.upw hu16_8 (by omega)
  replace ho5 := ho5.upw hu16_8 (by omega)
  replace o16_7 := hu16_8.own
  first | rw [over (by first | rfl | (simp; done))] at o16_7 | skip
  refine Reg.pur rfl rfl rfl rfl (Pur.asg rfl) ?_
  refine Reg.nil ?_
  refine At.region rfl rfl ?_
  refine Reg.lod rfl rfl rfl rfl (Lod.ldn ag56 rfl o3_7.blk (whole rfl) rfl) ?_
  refine Reg.pur rfl rfl rfl rfl (Pur.mv rfl) ?_
  refine Reg.pur rfl rfl rfl rfl (Pur.mv rfl) ?_
  refine Reg.op rfl rfl rfl rfl (Does.call rfl (take_ok (hca.r.ext hE3) ⟨by omega, by omega⟩ hmL (hTs.ext hE) (hRs.ext hE) h5 hrm)) ?_
  rintro v17_3 H17_3 ⟨hE17_3, hTv17_3⟩
  have z17_3 := hE17_3.lt
  replace hE5 := hE5.ext hE17_3
  replace hE := hE.ext hE17_3
  replace hE3 := hE3.ext hE17_3
  replace o0_0 := o0_0.ext hE17_3
  replace o3_7 := o3_7.ext hE17_3
  replace hG := hG.ext hE17_3
  replace ho5 := ho5.ext hE17_3
  replace o16_7 := o16_7.ext hE17_3
  generalize hW : takT (cloV T ks) ts (cloR T ms) rs (cloT T) = W at hTv17_3
  obtain ⟨A6, cap6, rfl, ho6, hN6, hl6⟩ := hTv17_3
  have z_ho6 := ho6.lt
  refine Reg.pur rfl rfl rfl rfl (Pur.mv rfl) ?_
  refine Reg.pur rfl rfl rfl rfl (Pur.ext rfl rfl) ?_
  refine Reg.pur rfl rfl rfl rfl (Pur.ext rfl rfl) ?_
  refine Reg.op rfl rfl rfl rfl (Does.alloc zc25) ?_
  rintro _ H17_7 ⟨rfl, hn17_7⟩
  have z17_7 := hn17_7.size
  replace hE5 := hE5.ext hn17_7.ext
  replace hE := hE.ext hn17_7.ext
  replace hE3 := hE3.ext hn17_7.ext
  replace o0_0 := o0_0.ext hn17_7.ext
  replace o3_7 := o3_7.ext hn17_7.ext
  replace hG := hG.ext hn17_7.ext
  replace ho5 := ho5.ext hn17_7.ext
  replace o16_7 := o16_7.ext hn17_7.ext
  replace ho6 := ho6.ext hn17_7.ext
  have o17_7 := hn17_7.own
  refine Reg.op0 rfl rfl rfl (Does.stn ag25 rfl rfl (by first | rfl | exact ones_Is _) (by first | rfl | (simp [*]; done)) o17_7 (by first | decide | (simp; done) | (simp; omega) | omega)) ?_
  rintro _ H17_8 hu17_8
  have z17_8 := hu17_8.size
  replace hE5 := hE5.upw hu17_8 (by omega)
  replace hE := hE.upw hu17_8 (by omega)
  replace hE3 := hE3.upw hu17_8 (by omega)
  replace o0_0 := o0_0.upw hu17_8 (by omega)
  replace o3_7 := o3_7.upw hu17_8 (by omega)
  replace hG := hG.upw hu17_8 (by omega)
  replace ho5 := ho5.upw hu17_8 (by omega)
  replace o16_7 := o16_7.upw hu17_8 (by omega)
  replace ho6 := ho6.upw hu17_8 (by omega)
  replace o17_7 := hu17_8.own
  first | rw [over (by first | rfl | (simp; done))] at o17_7 | skip
  refine Reg.pur rfl rfl rfl rfl (Pur.asg rfl) ?_
  refine Reg.nil ?_
  refine At.region rfl rfl ?_
  refine Reg.pur rfl rfl rfl rfl (Pur.mv rfl) ?_
  refine Reg.op rfl rfl rfl rfl (Does.call rfl (numE_ok _ _)) ?_
  rintro _ H17_8 ⟨rfl, rfl⟩
  refine Reg.pur rfl rfl rfl rfl (Pur.neq rfl rfl) ?_
  refine Reg.pur rfl rfl rfl rfl (Pur.mv rfl) ?_
  refine Reg.known (b' := false) 89 rfl rfl ?_
  refine Reg.glod rfl rfl rfl rfl rfl rfl (Lod.ldn ag25 rfl o16_7.blk (whole rfl) rfl) ?_
  refine Reg.glod rfl rfl rfl rfl rfl rfl (Lod.ldn ag25 rfl o0_0.blk (whole rfl) rfl) ?_
  refine Reg.gop rfl rfl rfl rfl rfl rfl (Does.call rfl (sameType_ok hN5 hT9 (own_sl (wide9 hN5) (by decide) ho5) (hS.ext hE) (by omega))) ?_
  rintro _ H18_6 ⟨rfl, hE18_6⟩
  have z18_6 := hE18_6.lt
  replace hE5 := hE5.ext hE18_6
  replace hE := hE.ext hE18_6
  replace hE3 := hE3.ext hE18_6
  replace o0_0 := o0_0.ext hE18_6
  replace o3_7 := o3_7.ext hE18_6
  replace hG := hG.ext hE18_6
  replace ho5 := ho5.ext hE18_6
  replace o16_7 := o16_7.ext hE18_6
  replace ho6 := ho6.ext hE18_6
  replace o17_7 := o17_7.ext hE18_6
  refine Reg.gpur rfl rfl rfl rfl rfl rfl (Pur.not rfl) ?_
  refine Reg.pur rfl rfl rfl rfl (Pur.pickF rfl rfl) ?_
  refine Reg.nil ?_
  refine At.condF rfl rfl (by simp) ?_
  refine At.region rfl rfl ?_
  refine Reg.pur rfl rfl rfl rfl (Pur.mv rfl) ?_
  refine Reg.op rfl rfl rfl rfl (Does.call rfl (numE_ok _ _)) ?_
  rintro _ H18_6 ⟨rfl, rfl⟩
  refine Reg.pur rfl rfl rfl rfl (Pur.neq rfl rfl) ?_
  refine Reg.nil ?_
  refine At.cond rfl rfl (fun q97 => ?_) (fun q97 => ?_)
  · first | (simp only [decide_eq_true_eq, decide_eq_false_iff_not, Bool.not_eq_true', Bool.not_eq_false', ne_eq, Decidable.not_not, Bool.not_eq_true, Bool.not_eq_false] at q97) | (dsimp only at q97) | skip
    refine At.region rfl rfl ?_
    refine Reg.pur rfl rfl rfl rfl (Pur.mv rfl) ?_
    refine Reg.op rfl rfl rfl rfl (Does.call rfl (numE_ok _ _)) ?_
    rintro _ H18_6 ⟨rfl, rfl⟩
    refine Reg.pur rfl rfl rfl rfl (Pur.eql rfl rfl) ?_
    refine Reg.pur rfl rfl rfl rfl (Pur.asg rfl) ?_
    refine Reg.nil ?_
    refine At.ret rfl Try.func14 rfl ?_
    refine ⟨?_, hE⟩
    cases W <;> simp_all [cs]
  first | (simp only [decide_eq_true_eq, decide_eq_false_iff_not, Bool.not_eq_true', Bool.not_eq_false', ne_eq, Decidable.not_not, Bool.not_eq_true, Bool.not_eq_false] at q97) | (dsimp only at q97) | skip
  obtain ⟨w0, rfl⟩ : ∃ w, W = some w := by { cases W with | none => cases q97 | some w => exact ⟨w, rfl⟩ }
  have hsub : subT (takB (cloV T ks) ts (cloR T ms) rs) T = some w0 := by { unfold takT at hW; rw [hcT] at hW; split at hW; exact hW; cases hW }
  obtain ⟨t, w, hTe, rfl, hto, hwo, htz, hwz, hins⟩ := own_inst (takB_nine (fun t ht => (hTs.ok t ht).nine) h5) hT9 hsub
  subst hTe
  refine At.region rfl rfl ?_
  refine Reg.lod rfl rfl rfl rfl (Lod.ldn ag25 rfl o0_0.blk (whole rfl) rfl) ?_
  refine Reg.lod rfl rfl rfl rfl (Lod.ldn ag25 rfl o17_7.blk (whole rfl) rfl) ?_
  refine Reg.op rfl rfl rfl rfl (Does.call rfl (instance_ok hto htz hwo hwz (hS.ext hE) (own_sl (wide9 hN6) (by decide) ho6))) ?_
  rintro _ H22_2 ⟨rfl, hE22_2⟩
  have z22_2 := hE22_2.lt
  replace hE5 := hE5.ext hE22_2
  replace hE := hE.ext hE22_2
  replace hE3 := hE3.ext hE22_2
  replace o0_0 := o0_0.ext hE22_2
  replace o3_7 := o3_7.ext hE22_2
  replace hG := hG.ext hE22_2
  replace ho5 := ho5.ext hE22_2
  replace o16_7 := o16_7.ext hE22_2
  replace ho6 := ho6.ext hE22_2
  replace o17_7 := o17_7.ext hE22_2
  refine Reg.pur rfl rfl rfl rfl (Pur.mv rfl) ?_
  refine Reg.pur rfl rfl rfl rfl (Pur.ext rfl rfl) ?_
  refine Reg.pur rfl rfl rfl rfl (Pur.ext rfl rfl) ?_
  refine Reg.pur rfl rfl rfl rfl (Pur.asg rfl) ?_
  refine Reg.pur rfl rfl rfl rfl (Pur.asg rfl) ?_
  refine Reg.nil ?_
  refine At.region rfl rfl ?_
  refine Reg.pur rfl rfl rfl rfl (Pur.mv rfl) ?_
  refine Reg.pur rfl rfl rfl rfl (Pur.mv rfl) ?_
  refine Reg.known (b' := true) 108 rfl hins ?_
  refine Reg.gpur rfl rfl rfl rfl rfl rfl (Pur.mv rfl) ?_
  refine Reg.gop rfl rfl rfl rfl rfl rfl (Does.call rfl (numE_ok _ _)) ?_
  rintro _ H22_2 ⟨rfl, rfl⟩
  refine Reg.gpur rfl rfl rfl rfl rfl rfl (Pur.eql rfl rfl) ?_
  refine Reg.pur rfl rfl rfl rfl (Pur.pickT rfl rfl) ?_
  refine Reg.pur rfl rfl rfl rfl (Pur.asg rfl) ?_
  refine Reg.nil ?_
  refine At.ret rfl Try.func14 rfl ?_
  exact ⟨rfl, hE⟩
end Go.Proofs.Ytlfillhffpiffaa

namespace Go.Proofs.Ytlfillhffpiffaa
set_option linter.unusedSimpArgs false
set_option linter.unusedVariables false
set_option maxRecDepth 8000
open Go Go.Fx Go.Proofs

theorem ints_of_fits {H : Heap} {v : Value} (h : fitc H (.sl 8 [.int .i64]) v) : ∃ (A : Option Addr) (cap : Nat) (l : List Int), v = .slice A l.length cap ∧ SlT H e1 1 (.slice A l.length cap) l ∧ l.length * 8 ≤ 140737488351232 := by
  obtain ⟨L, _, hS, hb⟩ := SlT.of_fits (p := fun _ : Int => True) (enc := e1) h (fun cs h => by obtain ⟨n, rfl, _⟩ := fit_int h; exact ⟨n, trivial, rfl⟩)
  have hS' := hS
  obtain ⟨A, cap, rfl, _⟩ := hS'
  exact ⟨A, cap, L, rfl, hS, by rw [show reachBytes = 140737488351232 from rfl] at hb; omega⟩
theorem rows_of_fits {H : Heap} {v : Value} (h : fitc H (.sl 40 (List.replicate 5 (.int .i64))) v) : ∃ (A : Option Addr) (cap : Nat) (L : List (List Int)), v = .slice A L.length cap ∧ SlT H Is 5 (.slice A L.length cap) L ∧ Five L ∧ L.length * 40 ≤ 140737488351232 := by
  obtain ⟨L, hL, hS, hb⟩ := SlT.of_fits (p := fun x : List Int => x.length = 5) (enc := Is) h (fun cs h => by obtain ⟨xs, rfl, hl, _⟩ := fit_ints h; exact ⟨xs, hl, rfl⟩)
  have hS' := hS
  obtain ⟨A, cap, rfl, _⟩ := hS'
  exact ⟨A, cap, L, rfl, hS, hL, by rw [show reachBytes = 140737488351232 from rfl] at hb; omega⟩
theorem types_of_fits {H : Heap} {v : Value} (h : fitc H (.sl 24 [.sl 72 (List.replicate 9 (.int .i64))]) v) : ∃ (A : Option Addr) (cap : Nat) (L : List Td), v = .slice A L.length cap ∧ Tds H (.slice A L.length cap) L := by
  obtain ⟨L, hL, hS, hb⟩ := SlT.of_fits (p := fun t : Td => t.Ok H) (enc := encT) h (fun cs h => by
    obtain ⟨v, rfl, hv⟩ := fit_one h
    obtain ⟨A, cap, L, rfl, h9, hS, hm⟩ := type_of_fits hv
    exact ⟨⟨A, cap, L⟩, ⟨hS, h9, hm⟩, rfl⟩)
  have hS' := hS
  obtain ⟨A, cap, rfl, _⟩ := hS'
  exact ⟨A, cap, L, rfl, hS, hL, by rw [show reachBytes = 140737488351232 from rfl] at hb; omega⟩
end Go.Proofs.Ytlfillhffpiffaa

