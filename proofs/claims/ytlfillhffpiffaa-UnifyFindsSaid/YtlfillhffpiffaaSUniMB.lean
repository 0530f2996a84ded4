/-
  The reference's matcher: types.
-/
import Derived.Test.YtlfillhffpiffaaSUniMA
import Derived.Test.YtlfillhffpiffaaS1
namespace Go.Proofs.Ytlfillhffpiffaa
set_option linter.unusedSimpArgs false
set_option linter.unusedVariables false
set_option maxRecDepth 8000
set_option maxHeartbeats 4000000
open Go Go.Fx Go.Proofs
namespace FactsUniMB
theorem ag25 : ag Try.prog 25 = some 1 := by kernel_rfl
theorem ag28 : ag Try.prog 28 = some 5 := by kernel_rfl
theorem ag47 : ag Try.prog 47 = some 9 := by kernel_rfl
theorem apt22 : appT Try.prog 22 = some (49, 8, 80) := by kernel_rfl
theorem es22 : esz Try.prog 22 = some 8 := by kernel_rfl
theorem es23 : esz Try.prog 23 = some 9 := by kernel_rfl
theorem fo137_0 : foff Try.prog 137 0 = some 0 := by kernel_rfl
theorem fo137_1 : foff Try.prog 137 1 = some 1 := by kernel_rfl
theorem fo25_0 : foff Try.prog 25 0 = some 0 := by kernel_rfl
theorem fo47_0 : foff Try.prog 47 0 = some 0 := by kernel_rfl
theorem fo47_1 : foff Try.prog 47 1 = some 1 := by kernel_rfl
theorem fo47_2 : foff Try.prog 47 2 = some 2 := by kernel_rfl
theorem fo47_3 : foff Try.prog 47 3 = some 3 := by kernel_rfl
theorem fo47_4 : foff Try.prog 47 4 = some 4 := by kernel_rfl
theorem fo49_0 : foff Try.prog 49 0 = some 0 := by kernel_rfl
theorem fo49_1 : foff Try.prog 49 1 = some 1 := by kernel_rfl
theorem fo49_2 : foff Try.prog 49 2 = some 2 := by kernel_rfl
theorem isl22 : isSl Try.prog 22 = true := by kernel_rfl
theorem mixed : Try.prog.follows .mixedOrders = true := by kernel_rfl
theorem pl49 : places Try.prog 49 = some [(0, 1), (1, 1), (2, 1), (3, 5)] := by kernel_rfl
theorem sc22 : sc Try.prog 22 = true := by kernel_rfl
theorem sc23 : sc Try.prog 23 = true := by kernel_rfl
theorem sc3 : sc Try.prog 3 = true := by kernel_rfl
theorem sc4 : sc Try.prog 4 = true := by kernel_rfl
theorem slA22 : slA Try.prog 22 = some (49, 8) := by kernel_rfl
theorem zc25 : zc Try.prog 25 = some [.slice none 0 0] := by kernel_rfl
theorem zc47 : zc Try.prog 47 = some [.int .i64 0, .int .i64 0, .int .i64 0, .int .i64 0, .int .i64 0, .int .i64 0, .int .i64 0, .int .i64 0, .int .i64 0] := by kernel_rfl
theorem zc49 : zc Try.prog 49 = some [.int .i64 0, .bool false, .slice none 0 0, .int .i64 0, .int .i64 0, .int .i64 0, .int .i64 0, .int .i64 0] := by kernel_rfl
end FactsUniMB
open FactsUniMB

/-- a type's last node, where it begins at place k -/
def Tm.lstK (k : Int) : Tm → List Int
  | .bas b => bNode b
  | .var v => vNode v
  | .fn a r b => fNode (k + a.sz - 1) (k + a.sz + b.sz - 1) r
theorem lstK_el : ∀ (t : Tm) (pre post : List (List Int)), el (pre ++ t.enc pre.length ++ post) ((pre.length : Int) + t.sz - 1) = t.lstK pre.length
  | .bas b, pre, post => by
    rw [show (pre.length : Int) + (Tm.bas b).sz - 1 = pre.length by simp only [Tm.sz]; omega]
    simp only [Tm.enc, List.append_assoc, List.singleton_append]
    rw [el_mid]; rfl
  | .var v, pre, post => by
    rw [show (pre.length : Int) + (Tm.var v).sz - 1 = pre.length by simp only [Tm.sz]; omega]
    simp only [Tm.enc, List.append_assoc, List.singleton_append]
    rw [el_mid]; rfl
  | .fn a r b, pre, post => by
    have hL1 : pre ++ (Tm.fn a r b).enc pre.length ++ post = (pre ++ a.enc pre.length ++ b.enc ((pre.length : Int) + a.sz)) ++ fNode ((pre.length : Int) + a.sz - 1) ((pre.length : Int) + a.sz + b.sz - 1) r :: post := by
      simp only [Tm.enc, List.append_assoc, List.singleton_append]
    have hp2 : ((pre ++ a.enc pre.length ++ b.enc ((pre.length : Int) + a.sz)).length : Int) = (pre.length : Int) + a.sz + b.sz := by rw [List.length_append, List.length_append, Tm.enc_len, Tm.enc_len]; omega
    rw [hL1, show (pre.length : Int) + (Tm.fn a r b).sz - 1 = ((pre ++ a.enc pre.length ++ b.enc ((pre.length : Int) + a.sz)).length : Int) by rw [hp2]; simp only [Tm.sz]; omega, el_mid]
    rfl
theorem lstK_nine {t : Tm} (h : t.ok) (k : Int) : (t.lstK k).length = 9 := by
  cases t with
  | bas k => rfl
  | var v => rfl
  | fn a r b => simp [Tm.lstK, h.2.1]
theorem lstK_at {t : Tm} (h : t.ok) (k : Int) (i : Nat) (hi : i < 9) : (Is (t.lstK k))[0 + i]? = some (I ((t.lstK k).getD i 0)) := by
  rw [Nat.zero_add]; exact at_Is (by rw [lstK_nine h]; exact hi)
theorem lstK_var {t : Tm} {k : Int} (h : (t.lstK k).getD 0 0 = 2) : ∃ v, t = .var v := by
  cases t with
  | bas b => cases b <;> simp [Tm.lstK] at h
  | var v => exact ⟨v, rfl⟩
  | fn a r b => simp [Tm.lstK] at h
theorem lstK_fn {t : Tm} {k : Int} (h : (t.lstK k).getD 0 0 = 3) : ∃ a r b, t = .fn a r b := by
  cases t with
  | bas b => cases b <;> simp [Tm.lstK] at h
  | var v => simp [Tm.lstK] at h
  | fn a r b => exact ⟨a, r, b, rfl⟩
theorem inst_ne {M : List Bt} {p q : Tm} {k k' : Int} (h2 : (p.lstK k).getD 0 0 ≠ 2) (h : (p.lstK k).getD 0 0 ≠ (q.lstK k').getD 0 0) : inst M p q = none := by
  cases p with
  | var v => exact (h2 rfl).elim
  | bas b =>
    cases q with
    | var v => rfl
    | bas l =>
      have : b ≠ l := fun e => h (by rw [e]; rfl)
      simp [inst, this]
    | fn a r b => rfl
  | fn a r b =>
    cases q with
    | var v => rfl
    | bas l => rfl
    | fn a' r' b' => exact (h rfl).elim
theorem inst_eq {M : List Bt} {p q : Tm} {k k' : Int} (h2 : (p.lstK k).getD 0 0 ≠ 2) (h3 : (p.lstK k).getD 0 0 ≠ 3) (h : (p.lstK k).getD 0 0 = (q.lstK k').getD 0 0) : inst M p q = some M := by
  cases p with
  | var v => exact (h2 rfl).elim
  | fn a r b => exact (h3 rfl).elim
  | bas b =>
    cases q with
    | var v => cases b <;> simp [Tm.lstK] at h
    | fn a r c => cases b <;> simp [Tm.lstK] at h
    | bas l =>
      have : b = l := by cases b <;> cases l <;> simp [Tm.lstK] at h <;> rfl
      simp [inst, this]
theorem mt_fn {M M' M'' M3 : List Bt} {a a' b b' : Tm} {r r' : List Int} {ok1 ok2 ok3 : Bool} (h1 : ok1 = (true && (inst M a a').isSome)) (k1 : ∀ M2, inst M a a' = some M2 → M' = M2) (h2 : ok2 = (ok1 && (instR M' r r').isSome)) (k2 : ok1 = true → ∀ M2, instR M' r r' = some M2 → M'' = M2) (h3 : ok3 = (ok2 && (inst M'' b b').isSome)) (k3 : ok2 = true → ∀ M2, inst M'' b b' = some M2 → M3 = M2) :
    ok3 = (true && (inst M (.fn a r b) (.fn a' r' b')).isSome) ∧ ∀ M2, inst M (.fn a r b) (.fn a' r' b') = some M2 → M3 = M2 := by
  simp only [inst]
  cases e1 : inst M a a' with
  | none =>
    rw [e1] at h1
    have : ok1 = false := h1
    subst this
    have : ok2 = false := h2
    subst this
    exact ⟨h3, fun M2 h => by cases h⟩
  | some M1 =>
    obtain rfl := k1 _ e1
    rw [e1] at h1
    have : ok1 = true := h1
    subst this
    dsimp only
    cases e2 : instR M' r r' with
    | none =>
      rw [e2] at h2
      have : ok2 = false := h2
      subst this
      exact ⟨h3, fun M2 h => by cases h⟩
    | some M2 =>
      obtain rfl := k2 rfl _ e2
      rw [e2] at h2
      have : ok2 = true := h2
      subst this
      exact ⟨h3, k3 rfl⟩
/-- the part of a type's nodes -/
theorem seg_mid {t : Tm} {pre post : List (List Int)} (hl : (pre ++ t.enc pre.length ++ post).length ≤ 256) : (seg (pre ++ t.enc pre.length ++ post) pre.length ((pre.length : Int) + t.sz - 1)).map (movS (-(pre.length : Int))) = t.enc 0 := by
  have hs : seg (pre ++ t.enc pre.length ++ post) pre.length ((pre.length : Int) + t.sz - 1) = t.enc pre.length := by
    unfold seg
    rw [List.append_assoc, Int.toNat_natCast, List.drop_left, show ((pre.length : Int) + t.sz - 1 + 1 - pre.length).toNat = (t.enc pre.length).length by rw [Tm.enc_len]; omega, List.take_left]
  simp only [List.length_append, Tm.enc_len] at hl
  rw [hs, Tm.enc_mov t pre.length (-(pre.length : Int)) (by omega) (by omega) (by omega) (by omega) (by omega) (by omega)]
  congr 1; omega
theorem spM_ld {c : List Value} {x : Bd} {i : Nat} (hd : (c.drop (i * 8)).take 8 = encB x) : (c.drop (0 + (i : Int).toNat * 8 + 2)).take 1 = [x.sl] := by
  rw [Int.toNat_natCast, Nat.zero_add, ← List.drop_drop, take_mid hd (by decide)]
  rfl
theorem mwalk_ok : ∀ (n : Nat) {gt st : Tm} (hn : gt.sz ≤ n) {H : Heap} {lo sb cap : Nat} {A : Option Addr} {Bs : List Bd} {M : List Bt} {ok : Bool} (h : Mts H lo sb A cap Bs M) (ho : Own H sb [.slice A Bs.length cap, .bool ok]) (hl : Bs.length + 2 * gt.sz ≤ 90000) (hg : gt.ok) (hst : st.ok) {pre post pre' post' L K : List (List Int)} (hL : L = pre ++ gt.enc pre.length ++ post) (hK : K = pre' ++ st.enc pre'.length ++ post') (hL9 : Nine L) (hK9 : Nine K) (hLl : L.length ≤ 256) (hKl : K.length ≤ 256) {A1 A2 : Option Addr} {c1 c2 : Nat} (hS1 : SlT H Is 9 (.slice A1 L.length c1) L) (hS2 : SlT H Is 9 (.slice A2 K.length c2) K) (hm1 : ob A1 < lo) (hm2 : ob A2 < lo),
    Ret Try.prog 81 [ptr sb 0, Ty A1 L.length c1, I ((pre.length : Int) + gt.sz - 1), Ty A2 K.length c2, I ((pre'.length : Int) + st.sz - 1)] H (fun _ => MtP H lo sb A Bs (2 * gt.sz) ok (inst M gt st))
  | 0, gt, _, hn, _, _, _, _, _, _, _, _, _, _, _, _, _, _, _, _, _, _, _, _, _, _, _, _, _, _, _, _, _, _, _, _, _ => by have := gt.sz_pos; omega
  | n + 1, gt, st, hn, H, lo, sb, cap, A, Bs, M, ok, h, ho, hl, hg, hst, pre, post, pre', post', L, K, hL, hK, hL9, hK9, hLl, hKl, A1, A2, c1, c2, hS1, hS2, hm1, hm2 => by
    have hgl := h.lt
    have hgz := gt.sz_pos
    have hsz := st.sz_pos
    have hLn : L.length = pre.length + gt.sz + post.length := by rw [hL, List.length_append, List.length_append, Tm.enc_len]
    have hKn : K.length = pre'.length + st.sz + post'.length := by rw [hK, List.length_append, List.length_append, Tm.enc_len]
    have hxg := lstK_nine hg pre.length
    have hxs := lstK_nine hst pre'.length
    refine Ret.of_at (N := 132) Try.call81 Try.func81 rfl rfl rfl ?_
    have hE := Ext.refl H
    have z_hE := hE.lt
    have z_ho := ho.lt
    refine At.region rfl rfl ?_
    refine Reg.op rfl rfl rfl rfl (Does.box rfl rfl) ?_
    rintro _ H0_0 ⟨rfl, hn0_0⟩
    have z0_0 := hn0_0.size
    replace hE := hE.ext hn0_0.ext
    replace ho := ho.ext hn0_0.ext
    have o0_0 := hn0_0.own
    refine Reg.op rfl rfl rfl rfl (Does.box rfl rfl) ?_
    rintro _ H0_1 ⟨rfl, hn0_1⟩
    have z0_1 := hn0_1.size
    replace hE := hE.ext hn0_1.ext
    replace ho := ho.ext hn0_1.ext
    replace o0_0 := o0_0.ext hn0_1.ext
    have o0_1 := hn0_1.own
    refine Reg.nil ?_
    obtain ⟨bg, og, kg, rfl, hBg, hdg, _, _⟩ := el_cells hL9 (hS1.ext hE) (z := (pre.length : Int) + gt.sz - 1) (by omega) (by omega)
    obtain ⟨bs, os, ks, rfl, hBs, hds, _, _⟩ := el_cells hK9 (hS2.ext hE) (z := (pre'.length : Int) + st.sz - 1) (by omega) (by omega)
    have hlg := lstK_el gt pre post
    have hls := lstK_el st pre' post'
    rw [← hL] at hlg
    rw [← hK] at hls
    rw [hlg] at hdg
    rw [hls] at hds
    have z_hBg := hBg.lt
    have z_hBs := hBs.lt
    refine At.drawJ (σ := Nat × Nat) (fun (b10, b11) => [(10, ptr b10 0), (11, ptr b11 0), (8, ptr H0_0.size 0), (6, ptr H.size 0), (0, ptr sb 0), (4, I ((pre'.length : Int) + st.sz - 1))]) (fun (b10, b11) H' => Own H' b10 (Is (gt.lstK pre.length)) ∧ Own H' b11 (Is (st.lstK pre'.length)) ∧ Own H' H.size [.slice (some ⟨bg, og, none⟩) L.length c1] ∧ Own H' H0_0.size [.slice (some ⟨bs, os, none⟩) K.length c2] ∧ Own H' sb [.slice A Bs.length cap, .bool ok] ∧ Ext H H' ∧ H.size ≤ b10 ∧ H.size ≤ b11) ((Bks.cons o0_0.blk (Bks.cons o0_1.blk (Bks.cons hBg.blk (Bks.cons hBs.blk Bks.nil))))) [13] mixed rfl rfl ?_ (fun s H_r1 hs => ?_)
    · refine RegD.tpur (i := 0) rfl rfl rfl rfl (by kernel_rfl) (Pur.fld _ fo25_0 rfl) ?_
      refine RegD.take (i := 1) rfl rfl rfl rfl (by kernel_rfl) (Bks.cons o0_0.blk (Bks.cons o0_1.blk (Bks.cons hBg.blk (Bks.cons hBs.blk Bks.nil)))) (fun H hS => Lod.ld sc23 rfl hS.hd rfl) ?_
      refine RegD.tpur (i := 2) rfl rfl rfl rfl (by kernel_rfl) (Pur.mv rfl) ?_
      refine RegD.tpur (i := 3) rfl rfl rfl rfl (by kernel_rfl) (Pur.idx _ es23 rfl rfl (by omega) (by omega)) ?_
      refine RegD.take (i := 4) rfl rfl rfl rfl (by kernel_rfl) (Bks.cons o0_0.blk (Bks.cons o0_1.blk (Bks.cons hBg.blk (Bks.cons hBs.blk Bks.nil)))) (fun H hS => Lod.ldn ag47 rfl hS.tl.tl.hd hdg (by rw [List.length_map]; exact hxg)) ?_
      refine RegD.tpur (i := 5) rfl rfl rfl rfl (by kernel_rfl) (Pur.fld _ fo25_0 rfl) ?_
      refine RegD.take (i := 6) rfl rfl rfl rfl (by kernel_rfl) (Bks.cons o0_0.blk (Bks.cons o0_1.blk (Bks.cons hBg.blk (Bks.cons hBs.blk Bks.nil)))) (fun H hS => Lod.ld sc23 rfl hS.tl.hd rfl) ?_
      refine RegD.tpur (i := 7) rfl rfl rfl rfl (by kernel_rfl) (Pur.mv rfl) ?_
      refine RegD.tpur (i := 8) rfl rfl rfl rfl (by kernel_rfl) (Pur.idx _ es23 rfl rfl (by omega) (by omega)) ?_
      refine RegD.take (i := 9) rfl rfl rfl rfl (by kernel_rfl) (Bks.cons o0_0.blk (Bks.cons o0_1.blk (Bks.cons hBg.blk (Bks.cons hBs.blk Bks.nil)))) (fun H hS => Lod.ldn ag47 rfl hS.tl.tl.tl.hd hds (by rw [List.length_map]; exact hxs)) ?_
      refine RegD.fork2 (i := 10) (j := 11) (by kernel_rfl) ?_ ?_
      · refine RegOp.one (i := 10) rfl rfl rfl rfl (Does.alloc zc47) ?_
        rintro _ H1_10 ⟨rfl, hn1_10⟩
        have z1_10 := hn1_10.size
        replace hE := hE.ext hn1_10.ext
        replace ho := ho.ext hn1_10.ext
        replace o0_0 := o0_0.ext hn1_10.ext
        replace o0_1 := o0_1.ext hn1_10.ext
        replace hBg := hBg.ext hn1_10.ext
        replace hBs := hBs.ext hn1_10.ext
        have o1_10 := hn1_10.own
        refine ⟨fun _ _ => (Bks.cons o0_0.blk (Bks.cons o0_1.blk (Bks.cons hBg.blk (Bks.cons hBs.blk Bks.nil)))), ?_⟩
        refine RegD.one (i := 11) (by kernel_rfl) rfl rfl rfl rfl (Does.alloc zc47) ?_
        rintro _ H1_11 ⟨rfl, hn1_11⟩
        have z1_11 := hn1_11.size
        replace hE := hE.ext hn1_11.ext
        replace ho := ho.ext hn1_11.ext
        replace o0_0 := o0_0.ext hn1_11.ext
        replace o0_1 := o0_1.ext hn1_11.ext
        replace hBg := hBg.ext hn1_11.ext
        replace hBs := hBs.ext hn1_11.ext
        replace o1_10 := o1_10.ext hn1_11.ext
        have o1_11 := hn1_11.own
        refine ⟨fun _ _ => (Bks.cons o0_0.blk (Bks.cons o0_1.blk (Bks.cons hBg.blk (Bks.cons hBs.blk Bks.nil)))), ?_⟩
        refine RegD.one0 (i := 12) (by kernel_rfl) rfl rfl rfl (Does.stn ag47 rfl rfl (ones_Is _) (by rw [List.length_map]; exact hxg) o1_10 (Nat.le_refl _)) ?_
        rintro _ H1_12 hu1_12
        have z1_12 := hu1_12.size
        replace hE := hE.upw hu1_12 (by omega)
        replace ho := ho.upw hu1_12 (by omega)
        replace o0_0 := o0_0.upw hu1_12 (by omega)
        replace o0_1 := o0_1.upw hu1_12 (by omega)
        replace hBg := hBg.upw hu1_12 (by omega)
        replace hBs := hBs.upw hu1_12 (by omega)
        replace o1_11 := o1_11.upw hu1_12 (by omega)
        replace o1_10 := hu1_12.own
        first | rw [over (by first | rfl | (simp; done))] at o1_10 | skip
        replace o1_10 := o1_10.of (c' := Is (gt.lstK pre.length)) (by simp)
        refine ⟨fun _ _ => (Bks.cons o0_0.blk (Bks.cons o0_1.blk (Bks.cons hBg.blk (Bks.cons hBs.blk Bks.nil)))), ?_⟩
        refine RegD.one0 (i := 13) (by kernel_rfl) rfl rfl rfl (Does.stn ag47 rfl rfl (ones_Is _) (by rw [List.length_map]; exact hxs) o1_11 (Nat.le_refl _)) ?_
        rintro _ H1_13 hu1_13
        have z1_13 := hu1_13.size
        replace hE := hE.upw hu1_13 (by omega)
        replace ho := ho.upw hu1_13 (by omega)
        replace o0_0 := o0_0.upw hu1_13 (by omega)
        replace o0_1 := o0_1.upw hu1_13 (by omega)
        replace hBg := hBg.upw hu1_13 (by omega)
        replace hBs := hBs.upw hu1_13 (by omega)
        replace o1_10 := o1_10.upw hu1_13 (by omega)
        replace o1_11 := hu1_13.own
        first | rw [over (by first | rfl | (simp; done))] at o1_11 | skip
        replace o1_11 := o1_11.of (c' := Is (st.lstK pre'.length)) (by simp)
        refine ⟨fun h => (by cases h), ?_⟩
        refine RegD.done (by kernel_rfl) ?_
        exact ⟨(_, _), ⟨o1_10, o1_11, o0_0, o0_1, ho, hE, by omega, by omega⟩, ⟨rfl, rfl, rfl, rfl, rfl, rfl, trivial⟩⟩
      refine RegOp.one (i := 11) rfl rfl rfl rfl (Does.alloc zc47) ?_
      rintro _ H1_11 ⟨rfl, hn1_11⟩
      have z1_11 := hn1_11.size
      replace hE := hE.ext hn1_11.ext
      replace ho := ho.ext hn1_11.ext
      replace o0_0 := o0_0.ext hn1_11.ext
      replace o0_1 := o0_1.ext hn1_11.ext
      replace hBg := hBg.ext hn1_11.ext
      replace hBs := hBs.ext hn1_11.ext
      have o1_11 := hn1_11.own
      refine ⟨fun _ _ => (Bks.cons o0_0.blk (Bks.cons o0_1.blk (Bks.cons hBg.blk (Bks.cons hBs.blk Bks.nil)))), ?_⟩
      refine RegD.one (i := 10) (by kernel_rfl) rfl rfl rfl rfl (Does.alloc zc47) ?_
      rintro _ H1_10 ⟨rfl, hn1_10⟩
      have z1_10 := hn1_10.size
      replace hE := hE.ext hn1_10.ext
      replace ho := ho.ext hn1_10.ext
      replace o0_0 := o0_0.ext hn1_10.ext
      replace o0_1 := o0_1.ext hn1_10.ext
      replace hBg := hBg.ext hn1_10.ext
      replace hBs := hBs.ext hn1_10.ext
      replace o1_11 := o1_11.ext hn1_10.ext
      have o1_10 := hn1_10.own
      refine ⟨fun _ _ => (Bks.cons o0_0.blk (Bks.cons o0_1.blk (Bks.cons hBg.blk (Bks.cons hBs.blk Bks.nil)))), ?_⟩
      refine RegD.one0 (i := 12) (by kernel_rfl) rfl rfl rfl (Does.stn ag47 rfl rfl (ones_Is _) (by rw [List.length_map]; exact hxg) o1_10 (Nat.le_refl _)) ?_
      rintro _ H1_12 hu1_12
      have z1_12 := hu1_12.size
      replace hE := hE.upw hu1_12 (by omega)
      replace ho := ho.upw hu1_12 (by omega)
      replace o0_0 := o0_0.upw hu1_12 (by omega)
      replace o0_1 := o0_1.upw hu1_12 (by omega)
      replace hBg := hBg.upw hu1_12 (by omega)
      replace hBs := hBs.upw hu1_12 (by omega)
      replace o1_11 := o1_11.upw hu1_12 (by omega)
      replace o1_10 := hu1_12.own
      first | rw [over (by first | rfl | (simp; done))] at o1_10 | skip
      replace o1_10 := o1_10.of (c' := Is (gt.lstK pre.length)) (by simp)
      refine ⟨fun _ _ => (Bks.cons o0_0.blk (Bks.cons o0_1.blk (Bks.cons hBg.blk (Bks.cons hBs.blk Bks.nil)))), ?_⟩
      refine RegD.one0 (i := 13) (by kernel_rfl) rfl rfl rfl (Does.stn ag47 rfl rfl (ones_Is _) (by rw [List.length_map]; exact hxs) o1_11 (Nat.le_refl _)) ?_
      rintro _ H1_13 hu1_13
      have z1_13 := hu1_13.size
      replace hE := hE.upw hu1_13 (by omega)
      replace ho := ho.upw hu1_13 (by omega)
      replace o0_0 := o0_0.upw hu1_13 (by omega)
      replace o0_1 := o0_1.upw hu1_13 (by omega)
      replace hBg := hBg.upw hu1_13 (by omega)
      replace hBs := hBs.upw hu1_13 (by omega)
      replace o1_10 := o1_10.upw hu1_13 (by omega)
      replace o1_11 := hu1_13.own
      first | rw [over (by first | rfl | (simp; done))] at o1_11 | skip
      replace o1_11 := o1_11.of (c' := Is (st.lstK pre'.length)) (by simp)
      refine ⟨fun h => (by cases h), ?_⟩
      refine RegD.done (by kernel_rfl) ?_
      exact ⟨(_, _), ⟨o1_10, o1_11, o0_0, o0_1, ho, hE, by omega, by omega⟩, ⟨rfl, rfl, rfl, rfl, rfl, rfl, trivial⟩⟩
    have ho0 := ho.lt
    clear o0_0 o0_1 ho hE hBg hBs
    obtain ⟨b10, b11⟩ := s
    obtain ⟨o10, o11, o6, o8, ho, hE, hb10, hb11⟩ := hs
    rw [ob_some] at hm1 hm2
    have z_hE := hE.lt
    have z_ho := ho.lt
    have z_o6 := o6.lt
    have z_o8 := o8.lt
    have z_o10 := o10.lt
    have z_o11 := o11.lt
    refine At.region rfl rfl ?_
    refine Reg.pur rfl rfl rfl rfl (Pur.fld _ fo47_0 rfl) ?_
    refine Reg.lod rfl rfl rfl rfl (Lod.ld sc3 rfl o10.blk (lstK_at hg _ 0 (by decide))) ?_
    refine Reg.pur rfl rfl rfl rfl (Pur.eql rfl rfl) ?_
    refine Reg.nil ?_
    refine At.cond rfl rfl (fun q26 => ?_) (fun q26 => ?_)
    · first | (simp only [decide_eq_true_eq, decide_eq_false_iff_not, Bool.not_eq_true', Bool.not_eq_false', ne_eq, Decidable.not_not, Bool.not_eq_true, Bool.not_eq_false] at q26) | (dsimp only at q26) | skip
      obtain ⟨v, rfl⟩ := lstK_var q26
      have hbg2 := enc_bgn st K.length pre' post' (by omega)
      rw [← hK] at hbg2
      have hsg := seg_mid (t := st) (pre := pre') (post := post') (by rw [← hK]; exact hKl)
      rw [← hK] at hsg
      have h9s := st.enc_nine 0 hst
      refine At.region rfl rfl ?_
      refine Reg.lod rfl rfl rfl rfl (Lod.ldn ag25 rfl o8.blk (whole rfl) rfl) ?_
      refine Reg.pur rfl rfl rfl rfl (Pur.mv rfl) ?_
      refine Reg.op rfl rfl rfl rfl (Does.call rfl (partR_ok hK9 (hS2.ext hE) hKl (z := (pre'.length : Int) + st.sz - 1) (p := pre'.length) (by omega) (by omega) hbg2 (by omega))) ?_
      rintro v3_2 H3_2 ⟨hT, hE3_2⟩
      have z3_2 := hE3_2.lt
      replace hE := hE.ext hE3_2
      replace ho := ho.ext hE3_2
      replace o6 := o6.ext hE3_2
      replace o8 := o8.ext hE3_2
      replace o10 := o10.ext hE3_2
      replace o11 := o11.ext hE3_2
      rw [hsg] at hT
      obtain ⟨Ap, cp, rfl, hSp, hfp⟩ := hT
      have z_hSp := hSp.lt
      refine Reg.op rfl rfl rfl rfl (Does.alloc zc25) ?_
      rintro _ H3_3 ⟨rfl, hn3_3⟩
      have z3_3 := hn3_3.size
      replace hE := hE.ext hn3_3.ext
      replace ho := ho.ext hn3_3.ext
      replace o6 := o6.ext hn3_3.ext
      replace o8 := o8.ext hn3_3.ext
      replace o10 := o10.ext hn3_3.ext
      replace o11 := o11.ext hn3_3.ext
      replace hSp := hSp.ext hn3_3.ext
      have o3_3 := hn3_3.own
      refine Reg.op0 rfl rfl rfl (Does.stn ag25 rfl rfl (by first | rfl | exact ones_Is _) (by first | rfl | (simp [*]; done)) o3_3 (by first | decide | (simp; done) | (simp; omega) | omega)) ?_
      rintro _ H3_4 hu3_4
      have z3_4 := hu3_4.size
      replace hE := hE.upw hu3_4 (by omega)
      replace ho := ho.upw hu3_4 (by omega)
      replace o6 := o6.upw hu3_4 (by omega)
      replace o8 := o8.upw hu3_4 (by omega)
      replace o10 := o10.upw hu3_4 (by omega)
      replace o11 := o11.upw hu3_4 (by omega)
      replace hSp := hSp.upw hu3_4 (by omega)
      replace o3_3 := hu3_4.own
      first | rw [over (by first | rfl | (simp; done))] at o3_3 | skip
      refine Reg.nil ?_
      refine At.region rfl rfl ?_
      refine Reg.pur rfl rfl rfl rfl (Pur.asg rfl) ?_
      refine Reg.nil ?_
      have hMt := h.ext hE
      have hlT := h.lenT
      generalize hHH : H3_4 = Hc at *
      refine At.loop (σ := Nat) (fun i => [(13, I i), (12, ptr H3_2.size 0), (10, ptr b10 0), (0, ptr sb 0)]) (fun i H' => i ≤ Bs.length ∧ H' = Hc ∧ findT (M.take i) v = none) (fun i => Bs.length - i) 0 rfl ⟨rfl, rfl, rfl, rfl, trivial⟩ ⟨by omega, rfl, rfl⟩ ?_
      clear hHH
      rintro i H3' ⟨hi, rfl, hnf⟩ ih
      have z_hE := hE.lt
      have z_ho := ho.lt
      have z_o10 := o10.lt
      have z_o3_3 := o3_3.lt
      have z_hSp := hSp.lt
      refine At.region rfl rfl ?_
      refine Reg.pur rfl rfl rfl rfl (Pur.mv rfl) ?_
      refine Reg.pur rfl rfl rfl rfl (Pur.mv rfl) ?_
      refine Reg.pur rfl rfl rfl rfl (Pur.nilc rfl) ?_
      refine Reg.pur rfl rfl rfl rfl (Pur.fld _ fo137_0 rfl) ?_
      refine Reg.lod rfl rfl rfl rfl (Lod.ld sc22 rfl ho.blk rfl) ?_
      refine Reg.pur rfl rfl rfl rfl (Pur.lenS isl22 rfl) ?_
      refine Reg.pur rfl rfl rfl rfl (Pur.lss rfl rfl) ?_
      refine Reg.nil ?_
      refine At.cond rfl rfl (fun q36 => ?_) (fun q36 => ?_)
      · first | (simp only [decide_eq_true_eq, decide_eq_false_iff_not, Bool.not_eq_true', Bool.not_eq_false', ne_eq, Decidable.not_not, Bool.not_eq_true, Bool.not_eq_false] at q36) | (dsimp only at q36) | skip
        have hib : i < Bs.length := by omega
        have hjm : i < M.length := by omega
        obtain ⟨gq, cq, rfl, hBq, hcq⟩ := hMt.blk (by omega)
        have hdi := row_rd hMt.wide hib hcq
        have hpi := pl_at hMt.pl hib hjm
        have hok7 := hMt.ok _ (List.getElem_mem hib)
        have hsl7 := hok7.sl
        have z_hBq := hBq.lt
        have z_hsl7 := hsl7.lt
        refine At.drawE ((Bks.cons hBq.blk (Bks.cons ho.blk (Bks.cons o10.blk Bks.nil)))) [] mixed rfl rfl ?_
        refine RegD.tpur (i := 0) rfl rfl rfl rfl (by kernel_rfl) (Pur.mv rfl) ?_
        refine RegD.tpur (i := 1) rfl rfl rfl rfl (by kernel_rfl) (Pur.nilc rfl) ?_
        refine RegD.tpur (i := 2) rfl rfl rfl rfl (by kernel_rfl) (Pur.fld _ fo137_0 rfl) ?_
        refine RegD.take (i := 3) rfl rfl rfl rfl (by kernel_rfl) (Bks.cons hBq.blk (Bks.cons ho.blk (Bks.cons o10.blk Bks.nil))) (fun H hS => Lod.ld sc22 rfl hS.tl.hd rfl) ?_
        refine RegD.tpur (i := 4) rfl rfl rfl rfl (by kernel_rfl) (Pur.mv rfl) ?_
        refine RegD.tpur (i := 5) rfl rfl rfl rfl (by kernel_rfl) (Pur.idx _ es22 rfl rfl (by omega) (by omega)) ?_
        refine RegD.tpur (i := 6) rfl rfl rfl rfl (by kernel_rfl) (Pur.fld _ fo49_1 rfl) ?_
        refine RegD.take (i := 7) rfl rfl rfl rfl (by kernel_rfl) (Bks.cons hBq.blk (Bks.cons ho.blk (Bks.cons o10.blk Bks.nil))) (fun H hS => Lod.ld sc4 rfl hS.hd (by rw [Int.toNat_natCast, Nat.zero_add]; exact at_tk hdi (j := 1) (by decide) rfl)) ?_
        refine RegD.tpur (i := 8) rfl rfl rfl rfl (by kernel_rfl) (Pur.not rfl) ?_
        refine RegD.tpur (i := 9) rfl rfl rfl rfl (by kernel_rfl) (Pur.mv rfl) ?_
        refine RegD.case 48 rfl (fun q48 => ?_) (fun q48 => ?_)
        · first | (simp only [decide_eq_true_eq, decide_eq_false_iff_not, Bool.not_eq_true', Bool.not_eq_false', ne_eq, Decidable.not_not, Bool.not_eq_true, Bool.not_eq_false] at q48) | (dsimp only at q48) | skip
          refine RegD.gtpur (i := 10) rfl rfl rfl rfl rfl rfl (by kernel_rfl) (Pur.mv rfl) ?_
          refine RegD.gtpur (i := 11) rfl rfl rfl rfl rfl rfl (by kernel_rfl) (Pur.nilc rfl) ?_
          refine RegD.gtpur (i := 12) rfl rfl rfl rfl rfl rfl (by kernel_rfl) (Pur.fld _ fo137_0 rfl) ?_
          refine RegD.gtake (i := 13) rfl rfl rfl rfl rfl rfl (by kernel_rfl) (Bks.cons hBq.blk (Bks.cons ho.blk (Bks.cons o10.blk Bks.nil))) (fun H hS => Lod.ld sc22 rfl hS.tl.hd rfl) ?_
          refine RegD.gtpur (i := 14) rfl rfl rfl rfl rfl rfl (by kernel_rfl) (Pur.mv rfl) ?_
          refine RegD.gtpur (i := 15) rfl rfl rfl rfl rfl rfl (by kernel_rfl) (Pur.idx _ es22 rfl rfl (by omega) (by omega)) ?_
          refine RegD.gtpur (i := 16) rfl rfl rfl rfl rfl rfl (by kernel_rfl) (Pur.fld _ fo49_0 rfl) ?_
          refine RegD.gtake (i := 17) rfl rfl rfl rfl rfl rfl (by kernel_rfl) (Bks.cons hBq.blk (Bks.cons ho.blk (Bks.cons o10.blk Bks.nil))) (fun H hS => Lod.ld sc3 rfl hS.hd (by rw [Int.toNat_natCast, Nat.zero_add]; exact at_tk hdi (j := 0) (by decide) rfl)) ?_
          refine RegD.gtpur (i := 18) rfl rfl rfl rfl rfl rfl (by kernel_rfl) (Pur.fld _ fo47_1 rfl) ?_
          refine RegD.gtake (i := 19) rfl rfl rfl rfl rfl rfl (by kernel_rfl) (Bks.cons hBq.blk (Bks.cons ho.blk (Bks.cons o10.blk Bks.nil))) (fun H hS => Lod.ld sc3 rfl hS.tl.tl.hd (lstK_at hg _ 1 (by decide))) ?_
          refine RegD.gtpur (i := 20) rfl rfl rfl rfl rfl rfl (by kernel_rfl) (Pur.eql rfl rfl) ?_
          refine RegD.tpur (i := 21) rfl rfl rfl rfl (by kernel_rfl) (Pur.pickT rfl rfl) ?_
          refine RegD.done (by kernel_rfl) ?_
          refine At.cond rfl rfl (fun q60 => ?_) (fun q60 => ?_)
          · first | (simp only [decide_eq_true_eq, decide_eq_false_iff_not, Bool.not_eq_true', Bool.not_eq_false', ne_eq, Decidable.not_not, Bool.not_eq_true, Bool.not_eq_false] at q60) | (dsimp only at q60) | skip
            obtain ⟨u, hd1⟩ : ∃ u, M[i] = .t v u := by { generalize M[i] = x at hpi; cases x with | t v' w => (have e1 : Bs[i].var = v' := congrArg (fun p => p.1) hpi; exact ⟨w, by rw [show v = v' from (e1.symm.trans q60).symm]⟩) | r v' w => (have e1 : Bs[i].isRow = true := congrArg (fun p => p.2.1) hpi; rw [e1] at q48; cases q48) }
            have hhit := hit_findT hjm hnf hd1
            have hnod : Bs[i].nodes = u.enc 0 := by { rw [hd1] at hpi; exact congrArg (fun p => p.2.2.1) hpi }
            have huo := h.tok v u (by rw [← hd1]; exact List.getElem_mem hjm)
            have hi1 : inst M (.var v) st = if u = st then some M else none := by simp only [inst]; rw [hhit]
            have hdec : decide (Bs[i].nodes = st.enc 0) = decide (u = st) := by { rw [hnod]; by_cases hus : u = st; (rw [hus]; simp); (rw [decide_eq_false hus, decide_eq_false]; exact fun e => hus (enc_inj hst huo (by omega) e.symm).symm) }
            refine At.drawE ((Bks.cons ho.blk (Bks.cons hBq.blk (Bks.cons o3_3.blk Bks.nil)))) [19] mixed rfl rfl ?_
            refine RegD.tpur (i := 0) rfl rfl rfl rfl (by kernel_rfl) (Pur.mv rfl) ?_
            refine RegD.tpur (i := 1) rfl rfl rfl rfl (by kernel_rfl) (Pur.mv rfl) ?_
            refine RegD.tpur (i := 2) rfl rfl rfl rfl (by kernel_rfl) (Pur.nilc rfl) ?_
            refine RegD.tpur (i := 3) rfl rfl rfl rfl (by kernel_rfl) (Pur.fld _ fo137_1 rfl) ?_
            refine RegD.take (i := 4) rfl rfl rfl rfl (by kernel_rfl) (Bks.cons ho.blk (Bks.cons hBq.blk (Bks.cons o3_3.blk Bks.nil))) (fun H hS => Lod.ld sc4 rfl hS.hd rfl) ?_
            refine RegD.tpur (i := 5) rfl rfl rfl rfl (by kernel_rfl) (Pur.mv rfl) ?_
            refine RegD.case 66 rfl (fun q66 => ?_) (fun q66 => ?_)
            · first | (simp only [decide_eq_true_eq, decide_eq_false_iff_not, Bool.not_eq_true', Bool.not_eq_false', ne_eq, Decidable.not_not, Bool.not_eq_true, Bool.not_eq_false] at q66) | (dsimp only at q66) | skip
              refine RegD.gtpur (i := 6) rfl rfl rfl rfl rfl rfl (by kernel_rfl) (Pur.mv rfl) ?_
              refine RegD.gtpur (i := 7) rfl rfl rfl rfl rfl rfl (by kernel_rfl) (Pur.nilc rfl) ?_
              refine RegD.gtpur (i := 8) rfl rfl rfl rfl rfl rfl (by kernel_rfl) (Pur.fld _ fo137_0 rfl) ?_
              refine RegD.gtake (i := 9) rfl rfl rfl rfl rfl rfl (by kernel_rfl) (Bks.cons ho.blk (Bks.cons hBq.blk (Bks.cons o3_3.blk Bks.nil))) (fun H hS => Lod.ld sc22 rfl hS.hd rfl) ?_
              refine RegD.gtpur (i := 10) rfl rfl rfl rfl rfl rfl (by kernel_rfl) (Pur.mv rfl) ?_
              refine RegD.gtpur (i := 11) rfl rfl rfl rfl rfl rfl (by kernel_rfl) (Pur.idx _ es22 rfl rfl (by omega) (by omega)) ?_
              refine RegD.gtpur (i := 12) rfl rfl rfl rfl rfl rfl (by kernel_rfl) (Pur.fld _ fo49_2 rfl) ?_
              refine RegD.gtake (i := 13) rfl rfl rfl rfl rfl rfl (by kernel_rfl) (Bks.cons ho.blk (Bks.cons hBq.blk (Bks.cons o3_3.blk Bks.nil))) (fun H hS => Lod.ldn ag25 rfl hS.tl.hd (spM_ld hdi) rfl) ?_
              refine RegD.gtake (i := 14) rfl rfl rfl rfl rfl rfl (by kernel_rfl) (Bks.cons ho.blk (Bks.cons hBq.blk (Bks.cons o3_3.blk Bks.nil))) (fun H hS => Lod.ldn ag25 rfl hS.tl.tl.hd (whole rfl) rfl) ?_
              refine RegD.gone (i := 15) (by kernel_rfl) rfl rfl rfl rfl rfl rfl (Does.call rfl (sameR_ok hok7.nine h9s hsl7 hSp hok7.max)) ?_
              rintro _ H8_15 ⟨rfl, hE8_15⟩
              have z8_15 := hE8_15.lt
              replace hE := hE.ext hE8_15
              replace ho := ho.ext hE8_15
              replace o10 := o10.ext hE8_15
              replace o3_3 := o3_3.ext hE8_15
              replace hSp := hSp.ext hE8_15
              replace hBq := hBq.ext hE8_15
              replace hsl7 := hsl7.ext hE8_15
              refine ⟨fun _ _ => (Bks.cons ho.blk (Bks.cons hBq.blk (Bks.cons o3_3.blk Bks.nil))), ?_⟩
              refine RegD.tpur (i := 16) rfl rfl rfl rfl (by kernel_rfl) (Pur.pickT rfl rfl) ?_
              refine RegD.tpur (i := 17) rfl rfl rfl rfl (by kernel_rfl) (Pur.nilc rfl) ?_
              refine RegD.tpur (i := 18) rfl rfl rfl rfl (by kernel_rfl) (Pur.fld _ fo137_1 rfl) ?_
              have hE8 := hE

              refine RegD.one0 (i := 19) (by kernel_rfl) rfl rfl rfl (Does.st sc4 rfl rfl rfl ho (by first | decide | (simp; done) | (simp; omega) | omega)) ?_
              rintro _ H8_19 hu8_19
              have z8_19 := hu8_19.size
              replace ho := hu8_19.own
              refine ⟨fun h => (by cases h), ?_⟩
              refine RegD.done (by kernel_rfl) ?_
              refine At.ret rfl Try.func81 rfl ?_
              refine ⟨_, cap, Bs, M, _, (h.ext hE8).sb hu8_19, ho, (Md.of_ext hE8).trans ⟨hu8_19.but.mono (fun b hb e => Or.inl e), .inl rfl⟩, by omega, ?_, fun hok M2 hM2 => ?_⟩
              · rw [hdec, hi1, q66]; by_cases hus : u = st <;> simp [hus]
              · rw [hi1] at hM2; split at hM2 <;> cases hM2; rfl
            first | (simp only [decide_eq_true_eq, decide_eq_false_iff_not, Bool.not_eq_true', Bool.not_eq_false', ne_eq, Decidable.not_not, Bool.not_eq_true, Bool.not_eq_false] at q66) | (dsimp only at q66) | skip
            refine RegD.skip (i := 6) rfl rfl rfl rfl rfl rfl rfl (by kernel_rfl) ?_
            refine RegD.skip (i := 7) rfl rfl rfl rfl rfl rfl rfl (by kernel_rfl) ?_
            refine RegD.skip (i := 8) rfl rfl rfl rfl rfl rfl rfl (by kernel_rfl) ?_
            refine RegD.skip (i := 9) rfl rfl rfl rfl rfl rfl rfl (by kernel_rfl) ?_
            refine RegD.skip (i := 10) rfl rfl rfl rfl rfl rfl rfl (by kernel_rfl) ?_
            refine RegD.skip (i := 11) rfl rfl rfl rfl rfl rfl rfl (by kernel_rfl) ?_
            refine RegD.skip (i := 12) rfl rfl rfl rfl rfl rfl rfl (by kernel_rfl) ?_
            refine RegD.skip (i := 13) rfl rfl rfl rfl rfl rfl rfl (by kernel_rfl) ?_
            refine RegD.skip (i := 14) rfl rfl rfl rfl rfl rfl rfl (by kernel_rfl) ?_
            refine RegD.skip (i := 15) rfl rfl rfl rfl rfl rfl rfl (by kernel_rfl) ?_
            refine RegD.tpur (i := 16) rfl rfl rfl rfl (by kernel_rfl) (Pur.pickF rfl rfl) ?_
            refine RegD.tpur (i := 17) rfl rfl rfl rfl (by kernel_rfl) (Pur.nilc rfl) ?_
            refine RegD.tpur (i := 18) rfl rfl rfl rfl (by kernel_rfl) (Pur.fld _ fo137_1 rfl) ?_
            have hE8 := hE

            refine RegD.one0 (i := 19) (by kernel_rfl) rfl rfl rfl (Does.st sc4 rfl rfl rfl ho (by first | decide | (simp; done) | (simp; omega) | omega)) ?_
            rintro _ H8_19 hu8_19
            have z8_19 := hu8_19.size
            replace ho := hu8_19.own
            refine ⟨fun h => (by cases h), ?_⟩
            refine RegD.done (by kernel_rfl) ?_
            refine At.ret rfl Try.func81 rfl ?_
            refine ⟨_, cap, Bs, M, _, (h.ext hE8).sb hu8_19, ho, (Md.of_ext hE8).trans ⟨hu8_19.but.mono (fun b hb e => Or.inl e), .inl rfl⟩, by omega, by rw [q66]; rfl, fun hok M2 hM2 => by rw [hok] at q66; cases q66⟩
          first | (simp only [decide_eq_true_eq, decide_eq_false_iff_not, Bool.not_eq_true', Bool.not_eq_false', ne_eq, Decidable.not_not, Bool.not_eq_true, Bool.not_eq_false] at q60) | (dsimp only at q60) | skip
          refine At.region rfl rfl ?_
          refine Reg.pur rfl rfl rfl rfl (Pur.mv rfl) ?_
          first | refine Reg.pur rfl rfl rfl rfl (Pur.add64 rfl rfl (by omega)) ?_ | refine Reg.pur rfl rfl rfl rfl (Pur.add64 rfl rfl (by assumption)) ?_ | refine Reg.pur rfl rfl rfl rfl (Pur.add rfl rfl) ?_
          refine Reg.pur rfl rfl rfl rfl (Pur.asg rfl) ?_
          refine Reg.nil ?_
          have hnx : findT (M.take (i + 1)) v = none := by { rw [take_findT hjm hnf]; generalize M[i] = x at hpi; cases x with | r v' w => rfl | t v' w => (have e1 : Bs[i].var = v' := congrArg (fun p => p.1) hpi; have e2 : Bs[i].isRow = false := congrArg (fun p => p.2.1) hpi; simp only [findT]; rw [if_neg (fun e => by first | (rw [e2] at q48; cases q48; done) | exact q60 (e1.trans e))]) }
          exact At.via (ih (i + 1) _ ⟨by omega, rfl, hnx⟩ (by omega)) ⟨rfl, rfl, rfl, rfl, trivial⟩
        first | (simp only [decide_eq_true_eq, decide_eq_false_iff_not, Bool.not_eq_true', Bool.not_eq_false', ne_eq, Decidable.not_not, Bool.not_eq_true, Bool.not_eq_false] at q48) | (dsimp only at q48) | skip
        refine RegD.skip (i := 10) rfl rfl rfl rfl rfl rfl rfl (by kernel_rfl) ?_
        refine RegD.skip (i := 11) rfl rfl rfl rfl rfl rfl rfl (by kernel_rfl) ?_
        refine RegD.skip (i := 12) rfl rfl rfl rfl rfl rfl rfl (by kernel_rfl) ?_
        refine RegD.skip (i := 13) rfl rfl rfl rfl rfl rfl rfl (by kernel_rfl) ?_
        refine RegD.skip (i := 14) rfl rfl rfl rfl rfl rfl rfl (by kernel_rfl) ?_
        refine RegD.skip (i := 15) rfl rfl rfl rfl rfl rfl rfl (by kernel_rfl) ?_
        refine RegD.skip (i := 16) rfl rfl rfl rfl rfl rfl rfl (by kernel_rfl) ?_
        refine RegD.skip (i := 17) rfl rfl rfl rfl rfl rfl rfl (by kernel_rfl) ?_
        refine RegD.skip (i := 18) rfl rfl rfl rfl rfl rfl rfl (by kernel_rfl) ?_
        refine RegD.skip (i := 19) rfl rfl rfl rfl rfl rfl rfl (by kernel_rfl) ?_
        refine RegD.skip (i := 20) rfl rfl rfl rfl rfl rfl rfl (by kernel_rfl) ?_
        refine RegD.tpur (i := 21) rfl rfl rfl rfl (by kernel_rfl) (Pur.pickF rfl rfl) ?_
        refine RegD.done (by kernel_rfl) ?_
        refine At.condF rfl rfl rfl ?_
        refine At.region rfl rfl ?_
        refine Reg.pur rfl rfl rfl rfl (Pur.mv rfl) ?_
        first | refine Reg.pur rfl rfl rfl rfl (Pur.add64 rfl rfl (by omega)) ?_ | refine Reg.pur rfl rfl rfl rfl (Pur.add64 rfl rfl (by assumption)) ?_ | refine Reg.pur rfl rfl rfl rfl (Pur.add rfl rfl) ?_
        refine Reg.pur rfl rfl rfl rfl (Pur.asg rfl) ?_
        refine Reg.nil ?_
        have hnx : findT (M.take (i + 1)) v = none := by { rw [take_findT hjm hnf]; generalize M[i] = x at hpi; cases x with | r v' w => rfl | t v' w => (have e1 : Bs[i].var = v' := congrArg (fun p => p.1) hpi; have e2 : Bs[i].isRow = false := congrArg (fun p => p.2.1) hpi; simp only [findT]; rw [if_neg (fun e => by first | (rw [e2] at q48; cases q48; done) | exact q60 (e1.trans e))]) }
        exact At.via (ih (i + 1) _ ⟨by omega, rfl, hnx⟩ (by omega)) ⟨rfl, rfl, rfl, rfl, trivial⟩
      first | (simp only [decide_eq_true_eq, decide_eq_false_iff_not, Bool.not_eq_true', Bool.not_eq_false', ne_eq, Decidable.not_not, Bool.not_eq_true, Bool.not_eq_false] at q36) | (dsimp only at q36) | skip
      have hpl := hSp.lt
      refine At.drawE ((Bks.cons ho.blk (Bks.cons o10.blk (Bks.cons o3_3.blk Bks.nil)))) [13] mixed rfl rfl ?_
      refine RegD.tpur (i := 0) rfl rfl rfl rfl (by kernel_rfl) (Pur.mv rfl) ?_
      refine RegD.tpur (i := 1) rfl rfl rfl rfl (by kernel_rfl) (Pur.mv rfl) ?_
      refine RegD.tpur (i := 2) rfl rfl rfl rfl (by kernel_rfl) (Pur.nilc rfl) ?_
      refine RegD.tpur (i := 3) rfl rfl rfl rfl (by kernel_rfl) (Pur.fld _ fo137_0 rfl) ?_
      refine RegD.take (i := 4) rfl rfl rfl rfl (by kernel_rfl) (Bks.cons ho.blk (Bks.cons o10.blk (Bks.cons o3_3.blk Bks.nil))) (fun H hS => Lod.ld sc22 rfl hS.hd rfl) ?_
      refine RegD.tpur (i := 5) rfl rfl rfl rfl (by kernel_rfl) (Pur.fld _ fo47_1 rfl) ?_
      refine RegD.take (i := 6) rfl rfl rfl rfl (by kernel_rfl) (Bks.cons ho.blk (Bks.cons o10.blk (Bks.cons o3_3.blk Bks.nil))) (fun H hS => Lod.ld sc3 rfl hS.tl.hd (lstK_at hg _ 1 (by decide))) ?_
      refine RegD.take (i := 7) rfl rfl rfl rfl (by kernel_rfl) (Bks.cons ho.blk (Bks.cons o10.blk (Bks.cons o3_3.blk Bks.nil))) (fun H hS => Lod.ldn ag25 rfl hS.tl.tl.hd (whole rfl) rfl) ?_
      refine RegD.tpur (i := 8) rfl rfl rfl rfl (by kernel_rfl) (Pur.bld (cs := [_, _, _, _, _, _, _, _]) pl49 zc49 rfl rfl ⟨rfl, rfl, rfl, rfl, rfl, rfl, rfl, rfl, rfl⟩) ?_
      refine RegD.one (i := 9) (by kernel_rfl) rfl rfl rfl rfl (Does.bslA ([encB ⟨v, false, Ap, cp, st.enc 0, noRow⟩]) slA22 rfl rfl rfl rfl rfl rfl) ?_
      rintro _ H9_9 ⟨rfl, hp9_9⟩
      have hn9_9 := New.of_eq hp9_9
      have z9_9 := hn9_9.size
      replace hE := hE.ext hn9_9.ext
      replace ho := ho.ext hn9_9.ext
      replace o10 := o10.ext hn9_9.ext
      replace o3_3 := o3_3.ext hn9_9.ext
      replace hSp := hSp.ext hn9_9.ext
      have o9_9 := hn9_9.own
      refine ⟨fun _ _ => (Bks.cons ho.blk (Bks.cons o10.blk (Bks.cons o3_3.blk Bks.nil))), ?_⟩
      have hgs := hMt.g.ext hn9_9.ext
      have hE9 := hE
      have hSp9 := hSp

      have z_hgs := hgs.lt
      refine RegD.one (i := 10) (by kernel_rfl) rfl rfl rfl rfl (Does.appL apt22 rfl rfl (by decide) hgs (fun x hx ↦ by rw [List.mem_singleton.1 hx]; rfl) (sl_one (x := ⟨v, false, Ap, cp, st.enc 0, noRow⟩) rfl (by decide) hn9_9) (ones_fl _) (by simp; omega) (by omega)) ?_
      rintro _ H9_10 ⟨A9_10, cap9_10, rfl, g9_10, hbut9_10, ha9_10⟩
      have z9_10 := hbut9_10.lt
      replace ho := ho.via hbut9_10 (by first | omega | (intro g; omega) | (intro g hg; omega) | (intro g hg h; omega))
      replace o10 := o10.via hbut9_10 (by first | omega | (intro g; omega) | (intro g hg; omega) | (intro g hg h; omega))
      replace o3_3 := o3_3.via hbut9_10 (by first | omega | (intro g; omega) | (intro g hg; omega) | (intro g hg h; omega))
      replace o9_9 := o9_9.via hbut9_10 (by first | omega | (intro g; omega) | (intro g hg; omega) | (intro g hg h; omega))
      replace hgs := g9_10
      have zg9_10 := g9_10.lt
      refine ⟨fun _ _ => (Bks.cons ho.blk (Bks.cons o10.blk (Bks.cons o3_3.blk Bks.nil))), ?_⟩
      refine RegD.tpur (i := 11) rfl rfl rfl rfl (by kernel_rfl) (Pur.nilc rfl) ?_
      refine RegD.tpur (i := 12) rfl rfl rfl rfl (by kernel_rfl) (Pur.fld _ fo137_0 rfl) ?_
      refine RegD.one0 (i := 13) (by kernel_rfl) rfl rfl rfl (Does.st sc22 rfl rfl rfl ho (by first | decide | (simp; done) | (simp; omega) | omega)) ?_
      rintro _ H9_13 hu9_13
      have z9_13 := hu9_13.size
      replace o10 := o10.upw hu9_13 (by omega)
      replace o3_3 := o3_3.upw hu9_13 (by omega)
      replace o9_9 := o9_9.upw hu9_13 (by omega)
      replace hgs := hgs.upw hu9_13 (by omega)
      replace ho := hu9_13.own
      refine ⟨fun h => (by cases h), ?_⟩
      refine RegD.done (by kernel_rfl) ?_
      refine At.ret rfl Try.func81 rfl ?_
      have hbs : But (fun x => x = sb ∨ (x : Int) = ob A) H9_9 H9_13 := (hbut9_10.mono (fun b hb e => Or.inr e)).trans (hu9_13.but.mono (fun b hb e => Or.inl e))
      have hnn : findT M v = none := by rw [List.take_of_length_le (by omega)] at hnf; exact hnf
      have hsn := st.enc_len 0
      have hap := (h.ext hE9).app (bd := ⟨v, false, Ap, cp, st.enc 0, noRow⟩) (b := .t v st) rfl ⟨hSp9, h9s, rfl, by dsimp only; omega⟩ (.inr ⟨by dsimp only; omega, by dsimp only; omega⟩) (fun v' u e => by cases e; exact hst) hgs hbs (by omega) (by omega)
      have hi1 : inst M (.var v) st = some (M ++ [.t v st]) := by simp only [inst]; rw [hnn]
      refine ⟨_, _, _, _, _, hap, ho, (Md.of_ext hE9).trans ⟨hbs, by omega⟩, by simp; omega, by rw [hi1]; simp, fun hok M2 hM2 => ?_⟩
      rw [hi1] at hM2; exact Option.some.inj hM2
    first | (simp only [decide_eq_true_eq, decide_eq_false_iff_not, Bool.not_eq_true', Bool.not_eq_false', ne_eq, Decidable.not_not, Bool.not_eq_true, Bool.not_eq_false] at q26) | (dsimp only at q26) | skip
    refine At.region rfl rfl ?_
    refine Reg.pur rfl rfl rfl rfl (Pur.fld _ fo47_0 rfl) ?_
    refine Reg.lod rfl rfl rfl rfl (Lod.ld sc3 rfl o10.blk (lstK_at hg _ 0 (by decide))) ?_
    refine Reg.pur rfl rfl rfl rfl (Pur.fld _ fo47_0 rfl) ?_
    refine Reg.lod rfl rfl rfl rfl (Lod.ld sc3 rfl o11.blk (lstK_at hst _ 0 (by decide))) ?_
    refine Reg.pur rfl rfl rfl rfl (Pur.neq rfl rfl) ?_
    refine Reg.nil ?_
    refine At.cond rfl rfl (fun q97 => ?_) (fun q97 => ?_)
    · first | (simp only [decide_eq_true_eq, decide_eq_false_iff_not, Bool.not_eq_true', Bool.not_eq_false', ne_eq, Decidable.not_not, Bool.not_eq_true, Bool.not_eq_false] at q97) | (dsimp only at q97) | skip
      refine At.region rfl rfl ?_
      refine Reg.pur rfl rfl rfl rfl (Pur.mv rfl) ?_
      refine Reg.pur rfl rfl rfl rfl (Pur.nilc rfl) ?_
      refine Reg.pur rfl rfl rfl rfl (Pur.fld _ fo137_1 rfl) ?_
      have hE11 := hE

      refine Reg.op0 rfl rfl rfl (Does.st sc4 rfl rfl rfl ho (by first | decide | (simp; done) | (simp; omega) | omega)) ?_
      rintro _ H11_3 hu11_3
      have z11_3 := hu11_3.size
      replace o6 := o6.upw hu11_3 (by omega)
      replace o8 := o8.upw hu11_3 (by omega)
      replace o10 := o10.upw hu11_3 (by omega)
      replace o11 := o11.upw hu11_3 (by omega)
      replace ho := hu11_3.own
      refine Reg.nil ?_
      refine At.region rfl rfl ?_
      refine Reg.pur rfl rfl rfl rfl (Pur.mv rfl) ?_
      refine Reg.pur rfl rfl rfl rfl (Pur.nilc rfl) ?_
      refine Reg.pur rfl rfl rfl rfl (Pur.fld _ fo137_1 rfl) ?_
      refine Reg.lod rfl rfl rfl rfl (Lod.ld sc4 rfl ho.blk rfl) ?_
      refine Reg.pur rfl rfl rfl rfl (Pur.mv rfl) ?_
      refine Reg.case 105 rfl (fun q105 => ?_) (fun q105 => ?_)
      · first | (simp only [decide_eq_true_eq, decide_eq_false_iff_not, Bool.not_eq_true', Bool.not_eq_false', ne_eq, Decidable.not_not, Bool.not_eq_true, Bool.not_eq_false] at q105) | (dsimp only at q105) | skip
        cases q105
      first | (simp only [decide_eq_true_eq, decide_eq_false_iff_not, Bool.not_eq_true', Bool.not_eq_false', ne_eq, Decidable.not_not, Bool.not_eq_true, Bool.not_eq_false] at q105) | (dsimp only at q105) | skip
      refine Reg.skip rfl rfl rfl rfl rfl rfl rfl ?_
      refine Reg.skip rfl rfl rfl rfl rfl rfl rfl ?_
      refine Reg.skip rfl rfl rfl rfl rfl rfl rfl ?_
      refine Reg.pur rfl rfl rfl rfl (Pur.pickF rfl rfl) ?_
      refine Reg.nil ?_
      refine At.condF rfl rfl rfl ?_
      refine At.fall rfl Try.func81 rfl ?_
      first | exact ⟨_, cap, Bs, M, _, h.ext hE, ho, Md.of_ext hE, by omega, by rw [q105]; rfl, fun hok => by rw [hok] at q105; cases q105⟩ | exact ⟨_, cap, Bs, M, _, (h.ext hE11).sb hu11_3, ho, (Md.of_ext hE11).trans ⟨hu11_3.but.mono (fun b hb e => Or.inl e), .inl rfl⟩, by omega, by rw [inst_ne (M := M) q26 q97]; simp, fun hok M2 hM2 => by rw [inst_ne (M := M) q26 q97] at hM2; cases hM2⟩
    first | (simp only [decide_eq_true_eq, decide_eq_false_iff_not, Bool.not_eq_true', Bool.not_eq_false', ne_eq, Decidable.not_not, Bool.not_eq_true, Bool.not_eq_false] at q97) | (dsimp only at q97) | skip
    refine At.region rfl rfl ?_
    refine Reg.pur rfl rfl rfl rfl (Pur.mv rfl) ?_
    refine Reg.pur rfl rfl rfl rfl (Pur.nilc rfl) ?_
    refine Reg.pur rfl rfl rfl rfl (Pur.fld _ fo137_1 rfl) ?_
    refine Reg.lod rfl rfl rfl rfl (Lod.ld sc4 rfl ho.blk rfl) ?_
    refine Reg.pur rfl rfl rfl rfl (Pur.mv rfl) ?_
    refine Reg.case 105 rfl (fun q105 => ?_) (fun q105 => ?_)
    · first | (simp only [decide_eq_true_eq, decide_eq_false_iff_not, Bool.not_eq_true', Bool.not_eq_false', ne_eq, Decidable.not_not, Bool.not_eq_true, Bool.not_eq_false] at q105) | (dsimp only at q105) | skip
      refine Reg.gpur rfl rfl rfl rfl rfl rfl (Pur.fld _ fo47_0 rfl) ?_
      refine Reg.glod rfl rfl rfl rfl rfl rfl (Lod.ld sc3 rfl o10.blk (lstK_at hg _ 0 (by decide))) ?_
      refine Reg.gpur rfl rfl rfl rfl rfl rfl (Pur.eql rfl rfl) ?_
      refine Reg.pur rfl rfl rfl rfl (Pur.pickT rfl rfl) ?_
      refine Reg.nil ?_
      refine At.cond rfl rfl (fun q109 => ?_) (fun q109 => ?_)
      · first | (simp only [decide_eq_true_eq, decide_eq_false_iff_not, Bool.not_eq_true', Bool.not_eq_false', ne_eq, Decidable.not_not, Bool.not_eq_true, Bool.not_eq_false] at q109) | (dsimp only at q109) | skip
        obtain ⟨x1, r1, x2, rfl⟩ := lstK_fn q109
        obtain ⟨y1, r2, y2, rfl⟩ := lstK_fn (q97.symm.trans q109)
        have hok1 : ok = true := q105
        have hps := hn
        simp only [Tm.sz] at hps hLn hKn hl
        have hLa : L = pre ++ x1.enc pre.length ++ (x2.enc ((pre.length : Int) + x1.sz) ++ fNode ((pre.length : Int) + x1.sz - 1) ((pre.length : Int) + x1.sz + x2.sz - 1) r1 :: post) := by rw [hL]; simp only [Tm.enc, List.append_assoc, List.singleton_append]
        have hKa : K = pre' ++ y1.enc pre'.length ++ (y2.enc ((pre'.length : Int) + y1.sz) ++ fNode ((pre'.length : Int) + y1.sz - 1) ((pre'.length : Int) + y1.sz + y2.sz - 1) r2 :: post') := by rw [hK]; simp only [Tm.enc, List.append_assoc, List.singleton_append]
        have hpl1 : (((pre ++ x1.enc pre.length).length : Nat) : Int) = (pre.length : Int) + x1.sz := by rw [List.length_append, Tm.enc_len]; omega
        have hpl2 : (((pre' ++ y1.enc pre'.length).length : Nat) : Int) = (pre'.length : Int) + y1.sz := by rw [List.length_append, Tm.enc_len]; omega
        have hLb : L = (pre ++ x1.enc pre.length) ++ x2.enc ((pre ++ x1.enc pre.length).length : Nat) ++ (fNode ((pre.length : Int) + x1.sz - 1) ((pre.length : Int) + x1.sz + x2.sz - 1) r1 :: post) := by rw [hpl1, hLa]; simp only [List.append_assoc]
        have hKb : K = (pre' ++ y1.enc pre'.length) ++ y2.enc ((pre' ++ y1.enc pre'.length).length : Nat) ++ (fNode ((pre'.length : Int) + y1.sz - 1) ((pre'.length : Int) + y1.sz + y2.sz - 1) r2 :: post') := by rw [hpl2, hKa]; simp only [List.append_assoc]
        have hrp : ((Is (Tm.lstK pre.length (Tm.fn x1 r1 x2))).drop (0 + 4)).take 5 = Is r1 := nod_row (o := 0) (by rw [List.drop_zero, List.take_of_length_le (by rw [List.length_map, hxg]; decide)]; rfl) hg.2.1
        have hrq : ((Is (Tm.lstK pre'.length (Tm.fn y1 r2 y2))).drop (0 + 4)).take 5 = Is r2 := nod_row (o := 0) (by rw [List.drop_zero, List.take_of_length_le (by rw [List.length_map, hxs]; decide)]; rfl) hst.2.1
        refine At.region rfl rfl ?_
        refine Reg.pur rfl rfl rfl rfl (Pur.mv rfl) ?_
        refine Reg.lod rfl rfl rfl rfl (Lod.ldn ag25 rfl o6.blk (whole rfl) rfl) ?_
        refine Reg.pur rfl rfl rfl rfl (Pur.fld _ fo47_2 rfl) ?_
        refine Reg.lod rfl rfl rfl rfl (Lod.ld sc3 rfl o10.blk (lstK_at hg _ 2 (by decide))) ?_
        refine Reg.lod rfl rfl rfl rfl (Lod.ldn ag25 rfl o8.blk (whole rfl) rfl) ?_
        refine Reg.pur rfl rfl rfl rfl (Pur.fld _ fo47_2 rfl) ?_
        refine Reg.lod rfl rfl rfl rfl (Lod.ld sc3 rfl o11.blk (lstK_at hst _ 2 (by decide))) ?_
        refine Reg.op rfl rfl rfl rfl (Does.call rfl (mwalk_ok n (gt := x1) (st := y1) (by omega) (h.ext hE) ho (by omega) hg.1 hst.1 hLa hKa hL9 hK9 hLl hKl (hS1.ext hE) (hS2.ext hE) (by rw [ob_some]; exact hm1) (by rw [ob_some]; exact hm2))) ?_
        rintro w13_7 H13_7 hP1
        obtain ⟨A1', cp1, Bs1, M1, ok1, hMt1, ho1, hM1, hl1, hk1, hMM1⟩ := hP1
        have hMda := (Md.of_ext hE).trans hM1
        have hg1 := hMt1.lt
        have hob1 := hM1.2
        have hsz1 := hM1.1.1
        have hS1a := (hS1.ext hE).via hM1.1 (fun h0 g hg hh => by rw [ob_some] at hg; omega)
        have hS2a := (hS2.ext hE).via hM1.1 (fun h0 g hg hh => by rw [ob_some] at hg; omega)
        replace o6 := o6.via hM1.1 (by omega)
        replace o8 := o8.via hM1.1 (by omega)
        replace o10 := o10.via hM1.1 (by omega)
        replace o11 := o11.via hM1.1 (by omega)
        have z_ho1 := ho1.lt
        have z_o6 := o6.lt
        have z_o8 := o8.lt
        have z_o10 := o10.lt
        have z_o11 := o11.lt
        have z_hS1a := hS1a.lt
        have z_hS2a := hS2a.lt
        refine Reg.nil ?_
        refine At.region rfl rfl ?_
        refine Reg.pur rfl rfl rfl rfl (Pur.mv rfl) ?_
        refine Reg.pur rfl rfl rfl rfl (Pur.fld _ fo47_4 rfl) ?_
        refine Reg.lod rfl rfl rfl rfl (Lod.ldn ag28 rfl o10.blk hrp (by rw [List.length_map]; exact hg.2.1)) ?_
        refine Reg.pur rfl rfl rfl rfl (Pur.fld _ fo47_4 rfl) ?_
        refine Reg.lod rfl rfl rfl rfl (Lod.ldn ag28 rfl o11.blk hrq (by rw [List.length_map]; exact hst.2.1)) ?_
        refine Reg.op rfl rfl rfl rfl (Does.call rfl (mrow_ok hMt1 ho1 (by omega) hg.2.1 hg.2.2.1 hst.2.1 hst.2.2.1)) ?_
        rintro w14_5 H14_5 hP2
        obtain ⟨A2', cp2, Bs2, M2, ok2, hMt2, ho2, hM2, hl2, hk2, hMM2⟩ := hP2
        have hg2 := hMt2.lt
        have hob2 := hM2.2
        have hsz2 := hM2.1.1
        replace hS1a := hS1a.via hM2.1 (fun h0 g hg hh => by rw [ob_some] at hg; omega)
        replace hS2a := hS2a.via hM2.1 (fun h0 g hg hh => by rw [ob_some] at hg; omega)
        replace o6 := o6.via hM2.1 (by omega)
        replace o8 := o8.via hM2.1 (by omega)
        replace o10 := o10.via hM2.1 (by omega)
        replace o11 := o11.via hM2.1 (by omega)
        have z_ho2 := ho2.lt
        have z_o6 := o6.lt
        have z_o8 := o8.lt
        have z_o10 := o10.lt
        have z_o11 := o11.lt
        have z_hS1a := hS1a.lt
        have z_hS2a := hS2a.lt
        refine Reg.nil ?_
        have hcall := mwalk_ok n (gt := x2) (st := y2) (by omega) hMt2 ho2 (by omega) hg.2.2.2 hst.2.2.2 hLb hKb hL9 hK9 hLl hKl hS1a hS2a (by rw [ob_some]; exact hm1) (by rw [ob_some]; exact hm2)
        rw [hpl1, hpl2] at hcall
        refine At.region rfl rfl ?_
        refine Reg.pur rfl rfl rfl rfl (Pur.mv rfl) ?_
        refine Reg.lod rfl rfl rfl rfl (Lod.ldn ag25 rfl o6.blk (whole rfl) rfl) ?_
        refine Reg.pur rfl rfl rfl rfl (Pur.fld _ fo47_3 rfl) ?_
        refine Reg.lod rfl rfl rfl rfl (Lod.ld sc3 rfl o10.blk (lstK_at hg _ 3 (by decide))) ?_
        refine Reg.lod rfl rfl rfl rfl (Lod.ldn ag25 rfl o8.blk (whole rfl) rfl) ?_
        refine Reg.pur rfl rfl rfl rfl (Pur.fld _ fo47_3 rfl) ?_
        refine Reg.lod rfl rfl rfl rfl (Lod.ld sc3 rfl o11.blk (lstK_at hst _ 3 (by decide))) ?_
        refine Reg.op rfl rfl rfl rfl (Does.call rfl (hcall)) ?_
        rintro w15_7 H15_7 hP3
        refine Reg.nil ?_
        refine At.fall rfl Try.func81 rfl ?_
        obtain ⟨A3', cp3, Bs3, M3, ok3, hMt3, ho3, hM3, hl3, hk3, hMM3⟩ := hP3
        rw [hok1] at hk1
        obtain ⟨k1, k2⟩ := mt_fn (a := x1) (a' := y1) (b := x2) (b' := y2) (r := r1) (r' := r2) hk1 (hMM1 hok1) hk2 hMM2 hk3 hMM3
        exact ⟨A3', cp3, Bs3, M3, ok3, hMt3, ho3, (hMda.trans hM2).trans hM3, by simp only [Tm.sz]; omega, by rw [hok1]; exact k1, fun _ => k2⟩
      first | (simp only [decide_eq_true_eq, decide_eq_false_iff_not, Bool.not_eq_true', Bool.not_eq_false', ne_eq, Decidable.not_not, Bool.not_eq_true, Bool.not_eq_false] at q109) | (dsimp only at q109) | skip
      refine At.fall rfl Try.func81 rfl ?_
      have hi1 := inst_eq (M := M) q26 q109 q97
      exact ⟨_, cap, Bs, M, _, h.ext hE, ho, Md.of_ext hE, by omega, by rw [hi1]; simp, fun hok M2 hM2 => by rw [hi1] at hM2; exact Option.some.inj hM2⟩
    first | (simp only [decide_eq_true_eq, decide_eq_false_iff_not, Bool.not_eq_true', Bool.not_eq_false', ne_eq, Decidable.not_not, Bool.not_eq_true, Bool.not_eq_false] at q105) | (dsimp only at q105) | skip
    refine Reg.skip rfl rfl rfl rfl rfl rfl rfl ?_
    refine Reg.skip rfl rfl rfl rfl rfl rfl rfl ?_
    refine Reg.skip rfl rfl rfl rfl rfl rfl rfl ?_
    refine Reg.pur rfl rfl rfl rfl (Pur.pickF rfl rfl) ?_
    refine Reg.nil ?_
    refine At.condF rfl rfl rfl ?_
    refine At.fall rfl Try.func81 rfl ?_
    first | exact ⟨_, cap, Bs, M, _, h.ext hE, ho, Md.of_ext hE, by omega, by rw [q105]; rfl, fun hok => by rw [hok] at q105; cases q105⟩ | exact ⟨_, cap, Bs, M, _, (h.ext hE11).sb hu11_3, ho, (Md.of_ext hE11).trans ⟨hu11_3.but.mono (fun b hb e => Or.inl e), .inl rfl⟩, by omega, by rw [inst_ne (M := M) q26 q97]; simp, fun hok M2 hM2 => by rw [inst_ne (M := M) q26 q97] at hM2; cases hM2⟩
end Go.Proofs.Ytlfillhffpiffaa
