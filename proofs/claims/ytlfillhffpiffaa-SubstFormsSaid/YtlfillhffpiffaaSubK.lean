/-
  Binds put into a type: the walk of OfType.
-/
import Derived.Test.YtlfillhffpiffaaSubJ
namespace Go.Proofs.Ytlfillhffpiffaa
set_option linter.unusedSimpArgs false
set_option linter.unusedVariables false
set_option maxRecDepth 8000
open Go Go.Fx Go.Proofs
namespace FactsSubK
theorem ag25 : ag Try.prog 25 = some 1 := by kernel_rfl
theorem ag28 : ag Try.prog 28 = some 5 := by kernel_rfl
theorem ag47 : ag Try.prog 47 = some 9 := by kernel_rfl
theorem apt23 : appT Try.prog 23 = some (47, 9, 72) := by kernel_rfl
theorem es23 : esz Try.prog 23 = some 9 := by kernel_rfl
theorem es54 : esz Try.prog 54 = some 1 := by kernel_rfl
theorem fo25_0 : foff Try.prog 25 0 = some 0 := by kernel_rfl
theorem fo47_0 : foff Try.prog 47 0 = some 0 := by kernel_rfl
theorem fo47_1 : foff Try.prog 47 1 = some 1 := by kernel_rfl
theorem fo47_2 : foff Try.prog 47 2 = some 2 := by kernel_rfl
theorem fo47_3 : foff Try.prog 47 3 = some 3 := by kernel_rfl
theorem fo47_4 : foff Try.prog 47 4 = some 4 := by kernel_rfl
theorem fo49_2 : foff Try.prog 49 2 = some 2 := by kernel_rfl
theorem isPt143 : isPt Try.prog 143 = true := by kernel_rfl
theorem isl23 : isSl Try.prog 23 = true := by kernel_rfl
theorem mixed : Try.prog.follows .mixedOrders = true := by kernel_rfl
theorem mkT54 : mkT Try.prog 54 = some (3, .int .i64 0, 8) := by kernel_rfl
theorem pl25 : places Try.prog 25 = some [(0, 1)] := by kernel_rfl
theorem sc23 : sc Try.prog 23 = true := by kernel_rfl
theorem sc3 : sc Try.prog 3 = true := by kernel_rfl
theorem slA23 : slA Try.prog 23 = some (47, 9) := by kernel_rfl
theorem zc25 : zc Try.prog 25 = some [.slice none 0 0] := by kernel_rfl
theorem zc28 : zc Try.prog 28 = some [.int .i64 0, .int .i64 0, .int .i64 0, .int .i64 0, .int .i64 0] := by kernel_rfl
theorem zc47 : zc Try.prog 47 = some [.int .i64 0, .int .i64 0, .int .i64 0, .int .i64 0, .int .i64 0, .int .i64 0, .int .i64 0, .int .i64 0, .int .i64 0] := by kernel_rfl
end FactsSubK
open FactsSubK

def TypB (B : Nat) (H' : Heap) (v : Value) (o : Option (List (List Int))) : Prop :=
  match o with
  | none => v = .tuple #[Ty none 0 0, .bool false]
  | some out => ∃ A' cap', v = .tuple #[Ty A' out.length cap', .bool true] ∧ OwnS H' B 47 9 (.slice A' out.length cap') out.length (out.flatMap Is) ∧ Nine out ∧ out.length ≤ 256

theorem nine1 {x : List Int} (h : x.length = 9) : Nine [x] := by intro y hy; simp at hy; subst hy; exact h
theorem ends_at {ends : List Int} {m : Nat} {z : Int} (h0 : 0 ≤ z) (h : z < ends.length) : (Is (ends ++ List.replicate m 0))[0 + z.toNat * 1]? = some (I (ends.getD z.toNat 0)) := by
  rw [show 0 + z.toNat * 1 = z.toNat by omega]
  simp only [Is, List.getElem?_map]
  rw [List.getElem?_append_left (by omega), List.getD_eq_getElem?_getD, List.getElem?_eq_getElem (by omega)]; rfl
theorem more_nil {Bs : List Bd} {out : List (List Int)} {ends : List Int} {k v p q c0 c1 c2 c3 t : Int} {a : Option Addr} {P' : Bd → Nat → Nat → List Value → Prop} (hk : k = 2)
    (hf : match Bs.find? (mt false v) with | none => a = none | some bd => (∃ b o c, a = some ⟨b, o, none⟩ ∧ P' bd b o c)) (hb : (!a.isNone) = false) : moreS Bs out ends [k, v, p, q, c0, c1, c2, c3, t] = some [[k, v, p, q, c0, c1, c2, c3, t]] := by
  subst hk
  cases hq : Bs.find? (mt false v) with
  | none => simp [moreS, hq]
  | some bd => rw [hq] at hf; obtain ⟨b, o, c, rfl, _⟩ := hf; cases hb
theorem more_else {Bs : List Bd} {out : List (List Int)} {ends : List Int} {k v p q c0 c1 c2 c3 t : Int} (h2 : ¬ k = 2) (h3 : ¬ k = 3) : moreS Bs out ends [k, v, p, q, c0, c1, c2, c3, t] = some [[k, v, p, q, c0, c1, c2, c3, t]] := by
  simp [moreS, h2, h3]
theorem ends_set {ends : List Int} {n i : Nat} (hl : ends.length = i) (hi : i < n) (z : Int) : (Is (ends ++ List.replicate (n - i) 0)).set (0 + (i : Int).toNat * 1) (I z) = Is ((ends ++ [z]) ++ List.replicate (n - (i + 1)) 0) := by
  rw [show 0 + (i : Int).toNat * 1 = i by omega, Is_set, List.set_append_right _ _ (by omega), hl, Nat.sub_self, show n - i = (n - (i + 1)) + 1 by omega, List.replicate_succ, List.set_cons_zero, List.append_assoc]; rfl
theorem nod3 {k v p q c0 c1 c2 c3 t : Int} (h : nodM [k, v, p, q, c0, c1, c2, c3, t] = true) (hk : k = 3) : rowM [c0, c1, c2, c3, t] = true := by
  subst hk; simp [nodM] at h; exact h.1
theorem row_tail {r : List Int} (h : rowM r = true) : -1 ≤ r.getD 4 0 := by
  unfold rowM at h; simp only [Bool.and_eq_true, decide_eq_true_eq] at h; exact h.2.1

theorem ofType_ok {A A1 : Option Addr} {cap cap1 bt ot : Nat} {ct : List Value} {Bs : List Bd} {L : List (List Int)} {H : Heap} (hB : Bds H (.slice A Bs.length cap) Bs) (hS : SlT H Is 9 (.slice A1 L.length cap1) L) (hL : Nine L) (hM : typM L = true)
    (hT : Blk H bt ct) (hct : ct[ot]? = some (.slice A1 L.length cap1)) :
    Ret Try.prog 55 [.slice A Bs.length cap, ptr bt ot] H (fun v H' => Ext H H' ∧ TypB H.size H' v (typS Bs L)) := by
  have hlen : 1 ≤ L.length ∧ L.length ≤ 256 := by unfold typM at hM; simp only [Bool.and_eq_true, decide_eq_true_eq] at hM; exact hM.1.1
  refine Ret.of_at (N := 101) Try.call55 Try.func55 rfl rfl rfl ?_
  refine At.region rfl rfl ?_
  refine Reg.op rfl rfl rfl rfl (Does.alloc zc25) ?_
  rintro _ H1 ⟨rfl, hn1⟩
  refine Reg.pur rfl rfl rfl rfl (Pur.asg rfl) ?_
  refine Reg.nil ?_
  have hT1 := hT.ext hn1.ext
  refine At.region rfl rfl ?_
  refine Reg.pur rfl rfl rfl rfl (Pur.asg rfl) ?_
  refine Reg.nil ?_
  refine At.region rfl rfl ?_
  refine Reg.pur rfl rfl rfl rfl (Pur.mv rfl) ?_
  refine Reg.pur rfl rfl rfl rfl (Pur.nilc rfl) ?_
  refine Reg.pur rfl rfl rfl rfl (Pur.fld _ fo25_0 rfl) ?_
  refine Reg.lod rfl rfl rfl rfl (Lod.ld sc23 rfl hT1 (by simpa using hct)) ?_
  refine Reg.pur rfl rfl rfl rfl (Pur.lenS isl23 rfl) ?_
  refine Reg.op rfl rfl rfl rfl (Does.mks mkT54 rfl rfl (by omega) (by omega)) ?_
  rintro _ H2 ⟨rfl, hp2⟩
  refine Reg.pur rfl rfl rfl rfl (Pur.asg rfl) ?_
  refine Reg.nil ?_
  have hn2 : New H1 H2 (List.replicate L.length (I 0)) := ⟨_, hp2⟩
  have hEn : Own H2 H1.size (Is ([] ++ List.replicate (L.length - 0) 0)) := by have := hn2.own; rwa [show (List.replicate L.length (I 0)) = Is ([] ++ List.replicate (L.length - 0) 0) by simp [Is]] at this
  have hRb : Own H2 H.size [.slice none 0 0] := hn1.own.ext hn2.ext
  have hE2 := hn1.ext.trans hn2.ext
  have hlt1 := hn1.own.lt
  have hlt2 := hn2.own.lt
  refine At.region rfl rfl ?_
  refine Reg.pur rfl rfl rfl rfl (Pur.mv rfl) ?_
  refine Reg.pur rfl rfl rfl rfl (Pur.nilc rfl) ?_
  refine Reg.pur rfl rfl rfl rfl (Pur.fld _ fo25_0 rfl) ?_
  refine Reg.lod rfl rfl rfl rfl (Lod.ld sc23 rfl (hT1.ext hn2.ext) (by simpa using hct)) ?_
  refine Reg.pur rfl rfl rfl rfl (Pur.lenS isl23 rfl) ?_
  refine Reg.pur rfl rfl rfl rfl (Pur.mv rfl) ?_
  refine Reg.nil ?_
  refine At.loop (σ := Nat × List (List Int) × List Int × Option Addr × Nat) (fun s => [(25, I s.1), (24, I L.length), (23, .slice A1 L.length cap1), (6, .slice s.2.2.2.1 s.2.1.length s.2.2.2.2), (7, .slice (some ⟨H1.size, 0, none⟩) L.length L.length), (0, .slice A Bs.length cap), (4, ptr H.size 0)]) (fun s H' => s.1 ≤ L.length ∧ s.2.1.length ≤ 256 ∧ s.2.2.1.length = s.1 ∧ Nine s.2.1 ∧ OwnS H' H2.size 47 9 (.slice s.2.2.2.1 s.2.1.length s.2.2.2.2) s.2.1.length (s.2.1.flatMap Is) ∧ Own H' H1.size (Is (s.2.2.1 ++ List.replicate (L.length - s.1) 0)) ∧ Own H' H.size [.slice none 0 0] ∧ Ext H1 H' ∧ goS Bs (L.drop s.1) s.2.1 s.2.2.1 = typS Bs L) (fun s => L.length - s.1) (0, [], [], none, 0) rfl ⟨rfl, rfl, rfl, rfl, rfl, rfl, rfl, trivial⟩ ⟨by omega, by simp, rfl, (fun x hx => by cases hx), OwnS.nil _ _ _ _, hEn, hRb, hn2.ext, rfl⟩ ?_
  clear hEn hRb
  rintro ⟨i, out, ends, A', cap'⟩ H3 ⟨hi, hol, hel, hN, hO, hEn, hRb, hE, hgo⟩ ih
  dsimp only at hi hol hel hN hO hEn hRb hE hgo ⊢
  refine At.region rfl rfl ?_
  refine Reg.pur rfl rfl rfl rfl (Pur.lss rfl rfl) ?_
  refine Reg.nil ?_
  refine At.cond rfl rfl (fun hb1 => ?_) (fun hb1 => ?_)
  · simp only [decide_eq_true_eq] at hb1
    have hlt : i < L.length := by omega
    have hE3 := hn1.ext.trans hE
    obtain ⟨b, o, c, rfl, hB0, hd, h9⟩ := sl_at (wide9 hL) (hS.ext hE3) hlt
    have h9' := hL _ (List.getElem_mem hlt)
    have hfun := typM_all hM hlt
    have hnod := typM_nod hM hlt
    rw [dropL hlt, goS] at hgo
    generalize L[i] = x at hgo hd h9 h9' hfun hnod
    obtain ⟨k, v, p, q, c0, c1, c2, c3, t, rfl⟩ : ∃ k v p q c0 c1 c2 c3 t, x = [k, v, p, q, c0, c1, c2, c3, t] := by match x, h9' with | [k, v, p, q, c0, c1, c2, c3, t], _ => exact ⟨_, _, _, _, _, _, _, _, _, rfl⟩
    refine At.region rfl rfl ?_
    refine Reg.pur rfl rfl rfl rfl (Pur.mv rfl) ?_
    refine Reg.pur rfl rfl rfl rfl (Pur.idx _ es23 rfl rfl (by omega) hb1) ?_
    refine Reg.lod rfl rfl rfl rfl (Lod.ldn ag47 rfl hB0 hd h9) ?_
    refine Reg.op rfl rfl rfl rfl (Does.alloc zc47) ?_
    rintro _ H4 ⟨rfl, hn4⟩
    refine Reg.pur rfl rfl rfl rfl (Pur.asg rfl) ?_
    refine Reg.op0 rfl rfl rfl (Does.stn ag47 rfl rfl (ones_Is _) h9 hn4.own (by decide)) ?_
    rintro _ H5 hu5
    refine Reg.nil ?_
    have hX : Own H5 H3.size (Is [k, v, p, q, c0, c1, c2, c3, t]) := by have := hu5.own; rwa [over (by rfl)] at this
    have hE5 : Ext H3 H5 := hn4.ext.upd hu5 (Nat.le_refl _)
    refine At.region rfl rfl ?_
    refine Reg.lod rfl rfl rfl rfl (Lod.ldn ag47 rfl hX.blk (whole rfl) rfl) ?_
    refine Reg.op rfl rfl rfl rfl (Does.bslA ([[_, _, _, _, _, _, _, _, _]]) slA23 rfl rfl rfl rfl rfl rfl) ?_
    rintro _ H6 ⟨rfl, hp6⟩
    refine Reg.pur rfl rfl rfl rfl (Pur.asg rfl) ?_
    refine Reg.nil ?_
    have hn6 : New H5 H6 (Is [k, v, p, q, c0, c1, c2, c3, t]) := ⟨_, hp6⟩
    have hX6 := hX.ext hn6.ext
    have hE6 := hE5.trans hn6.ext
    have hY := hn6.own
    refine At.region rfl rfl ?_
    refine Reg.pur rfl rfl rfl rfl (Pur.fld _ fo47_0 rfl) ?_
    refine Reg.lod rfl rfl rfl rfl (Lod.ld sc3 rfl hX6.blk rfl) ?_
    refine Reg.nil ?_
    refine At.region rfl rfl ?_
    refine Reg.pur rfl rfl rfl rfl (Pur.eql rfl rfl) ?_
    refine Reg.pur rfl rfl rfl rfl (Pur.asg rfl) ?_
    refine Reg.nil ?_
    refine At.joinc (σ := List (List Int) × Option Addr × Nat) (fun s => [(10, .slice s.2.1 s.1.length s.2.2), (6, .slice A' out.length cap'), (7, .slice (some ⟨H1.size, 0, none⟩) L.length L.length), (8, I i), (25, I i), (24, I L.length), (23, .slice (some ⟨b, o, none⟩) L.length cap1), (0, .slice A Bs.length cap), (4, ptr H.size 0)]) (fun s H' => moreS Bs out ends [k, v, p, q, c0, c1, c2, c3, t] = some s.1 ∧ SlT H' Is 9 (.slice s.2.1 s.1.length s.2.2) s.1 ∧ Nine s.1 ∧ s.1.length ≤ 1954687338212 ∧ Ext H3 H') rfl (fun hJ => ?_) (fun s H7 ⟨hmo, hSm, hNm, hml, hE7⟩ => ?_)
    · refine At.cond rfl rfl (fun hb2 => ?_) (fun hb2 => ?_)
      · refine At.region rfl rfl ?_
        refine Reg.pur rfl rfl rfl rfl (Pur.mv rfl) ?_
        refine Reg.pur rfl rfl rfl rfl (Pur.fld _ fo47_1 rfl) ?_
        refine Reg.lod rfl rfl rfl rfl (Lod.ld sc3 rfl hX6.blk rfl) ?_
        refine Reg.op rfl rfl rfl rfl (Does.call rfl (find_ok (hB.ext (hE3.trans hE6)) false v)) ?_
        rintro _ H6 ⟨rfl, a, rfl, hf⟩
        refine Reg.pur rfl rfl rfl rfl (Pur.asg rfl) ?_
        refine Reg.nil ?_
        refine At.region rfl rfl ?_
        refine Reg.pur rfl rfl rfl rfl (Pur.mv rfl) ?_
        refine Reg.pur rfl rfl rfl rfl (Pur.nePN isPt143 rfl rfl) ?_
        refine Reg.nil ?_
        refine At.cond rfl rfl (fun hb3 => ?_) (fun hb3 => ?_)
        · obtain ⟨bd, hq, b', o', c', rfl, hB', hd', hok, _⟩ : ∃ bd, Bs.find? (mt false v) = some bd ∧ ∃ b o c, a = some ⟨b, o, none⟩ ∧ Blk H6 b c ∧ (c.drop o).take 8 = encB bd ∧ bd.Ok H6 ∧ ∃ oa, A = some ⟨b, oa, none⟩ := by
            cases hq : Bs.find? (mt false v) with
            | none => rw [hq] at hf; subst hf; cases hb3
            | some bd => rw [hq] at hf; exact ⟨bd, rfl, hf⟩
          refine At.region rfl rfl ?_
          refine Reg.pur rfl rfl rfl rfl (Pur.mv rfl) ?_
          refine Reg.pur rfl rfl rfl rfl (Pur.nilc rfl) ?_
          refine Reg.pur rfl rfl rfl rfl (Pur.fld _ fo49_2 rfl) ?_
          refine Reg.pur rfl rfl rfl rfl (Pur.fld _ fo25_0 rfl) ?_
          refine Reg.lod rfl rfl rfl rfl (Lod.ld sc23 rfl hB' (at_tk (j := 2) hd' (by decide) rfl)) ?_
          refine Reg.pur rfl rfl rfl rfl (Pur.mv rfl) ?_
          refine Reg.pur rfl rfl rfl rfl (Pur.lenS isl23 rfl) ?_
          refine Reg.op rfl rfl rfl rfl (Does.call rfl (moved_ok hok.nine hok.sl hok.fits out.length)) ?_
          rintro _ H7 ⟨⟨A2, cap2, rfl, _⟩, hS2, hE7⟩
          refine Reg.pur rfl rfl rfl rfl (Pur.asg rfl) ?_
          refine Reg.nil ?_
          have hS1 : ∀ H', Ext H6 H' → SlT H' Is 9 (.slice (some ⟨H5.size, 0, none⟩) 1 1) [[k, v, p, q, c0, c1, c2, c3, t]] := fun H' h => (sl_of (L := [[k, v, p, q, c0, c1, c2, c3, t]]) (cap := 1) (o := 0) (wide9 (nine1 rfl)) (by decide) hY.blk rfl (by simp) (by decide)).ext h
          first | exact At.meets rfl (hJ (bd.nodes.map (movS out.length), A2, cap2) _ ⟨by have hk2 : k = 2 := of_decide_eq_true hb2; subst hk2; simp [moreS, hq], by simp only [List.length_map]; exact hS2, nine_mov hok.nine, by simp only [List.length_map]; have := hok.fits; omega, hE6.trans hE7⟩) ⟨by simp only [List.length_map]; rfl, rfl, rfl, rfl, rfl, rfl, rfl, rfl, rfl, trivial⟩ | exact At.meets rfl (hJ ([[k, v, p, q, c0, c1, c2, c3, t]], some ⟨H5.size, 0, none⟩, 1) _ ⟨more_nil (of_decide_eq_true hb2) hf hb3, hS1 _ (Ext.refl _), nine1 rfl, by simp, hE6⟩) ⟨rfl, rfl, rfl, rfl, rfl, rfl, rfl, rfl, rfl, trivial⟩ | exact At.meets rfl (hJ ([[k, v, p, q, c0, c1, c2, c3, t]], some ⟨H5.size, 0, none⟩, 1) _ ⟨more_else (of_decide_eq_false hb2) (of_decide_eq_false hb4), hS1 _ (Ext.refl _), nine1 rfl, by simp, hE6⟩) ⟨rfl, rfl, rfl, rfl, rfl, rfl, rfl, rfl, rfl, trivial⟩ | exact At.meets rfl (hJ ([funS [k, v, p, q, c0, c1, c2, c3, t] (ends.getD p.toNat 0) (ends.getD q.toNat 0) (rowS Bs [c0, c1, c2, c3, t]).1], some ⟨H5.size, 0, none⟩, 1) _ ⟨by subst hk3; simp at hb5; simp [moreS, hb5], sl_of (L := [funS [k, v, p, q, c0, c1, c2, c3, t] (ends.getD p.toNat 0) (ends.getD q.toNat 0) (rowS Bs [c0, c1, c2, c3, t]).1]) (cap := 1) (o := 0) (wide9 (nine1 hFl)) (by decide) hF.blk (by rw [List.drop_zero, List.take_of_length_le (by simpa [Is] using Nat.le_of_eq hFl)]; simp) (by simp) (by decide), nine1 hFl, by simp, hEc⟩) ⟨rfl, rfl, rfl, rfl, rfl, rfl, rfl, rfl, rfl, trivial⟩
        · have hS1 : ∀ H', Ext H6 H' → SlT H' Is 9 (.slice (some ⟨H5.size, 0, none⟩) 1 1) [[k, v, p, q, c0, c1, c2, c3, t]] := fun H' h => (sl_of (L := [[k, v, p, q, c0, c1, c2, c3, t]]) (cap := 1) (o := 0) (wide9 (nine1 rfl)) (by decide) hY.blk rfl (by simp) (by decide)).ext h
          first | exact At.meets rfl (hJ (bd.nodes.map (movS out.length), A2, cap2) _ ⟨by have hk2 : k = 2 := of_decide_eq_true hb2; subst hk2; simp [moreS, hq], by simp only [List.length_map]; exact hS2, nine_mov hok.nine, by simp only [List.length_map]; have := hok.fits; omega, hE6.trans hE7⟩) ⟨by simp only [List.length_map]; rfl, rfl, rfl, rfl, rfl, rfl, rfl, rfl, rfl, trivial⟩ | exact At.meets rfl (hJ ([[k, v, p, q, c0, c1, c2, c3, t]], some ⟨H5.size, 0, none⟩, 1) _ ⟨more_nil (of_decide_eq_true hb2) hf hb3, hS1 _ (Ext.refl _), nine1 rfl, by simp, hE6⟩) ⟨rfl, rfl, rfl, rfl, rfl, rfl, rfl, rfl, rfl, trivial⟩ | exact At.meets rfl (hJ ([[k, v, p, q, c0, c1, c2, c3, t]], some ⟨H5.size, 0, none⟩, 1) _ ⟨more_else (of_decide_eq_false hb2) (of_decide_eq_false hb4), hS1 _ (Ext.refl _), nine1 rfl, by simp, hE6⟩) ⟨rfl, rfl, rfl, rfl, rfl, rfl, rfl, rfl, rfl, trivial⟩ | exact At.meets rfl (hJ ([funS [k, v, p, q, c0, c1, c2, c3, t] (ends.getD p.toNat 0) (ends.getD q.toNat 0) (rowS Bs [c0, c1, c2, c3, t]).1], some ⟨H5.size, 0, none⟩, 1) _ ⟨by subst hk3; simp at hb5; simp [moreS, hb5], sl_of (L := [funS [k, v, p, q, c0, c1, c2, c3, t] (ends.getD p.toNat 0) (ends.getD q.toNat 0) (rowS Bs [c0, c1, c2, c3, t]).1]) (cap := 1) (o := 0) (wide9 (nine1 hFl)) (by decide) hF.blk (by rw [List.drop_zero, List.take_of_length_le (by simpa [Is] using Nat.le_of_eq hFl)]; simp) (by simp) (by decide), nine1 hFl, by simp, hEc⟩) ⟨rfl, rfl, rfl, rfl, rfl, rfl, rfl, rfl, rfl, trivial⟩
      · refine At.region rfl rfl ?_
        refine Reg.pur rfl rfl rfl rfl (Pur.eql rfl rfl) ?_
        refine Reg.pur rfl rfl rfl rfl (Pur.asg rfl) ?_
        refine Reg.nil ?_
        refine At.cond rfl rfl (fun hb4 => ?_) (fun hb4 => ?_)
        · have hk3 : k = 3 := of_decide_eq_true hb4
          have hf3 : q = (i : Int) - 1 ∧ 0 ≤ p ∧ p < (i : Int) - 1 ∧ 1 ≤ i := hfun hk3
          have htl := row_tail (nod3 hnod hk3)
          refine At.region rfl rfl ?_
          refine Reg.pur rfl rfl rfl rfl (Pur.mv rfl) ?_
          refine Reg.pur rfl rfl rfl rfl (Pur.fld _ fo47_4 rfl) ?_
          refine Reg.lod rfl rfl rfl rfl (Lod.ldn ag28 rfl hX6.blk (show _ = Is [c0, c1, c2, c3, t] from rfl) rfl) ?_
          refine Reg.op rfl rfl rfl rfl (Does.call rfl (ofRow_ok (hB.ext (hE3.trans hE6)) [c0, c1, c2, c3, t] rfl htl)) ?_
          rintro _ H7 ⟨rfl, hrl, hE7⟩
          refine Reg.pur rfl rfl rfl rfl (Pur.mv rfl) ?_
          refine Reg.pur rfl rfl rfl rfl (Pur.ext rfl rfl) ?_
          refine Reg.pur rfl rfl rfl rfl (Pur.ext rfl rfl) ?_
          refine Reg.op rfl rfl rfl rfl (Does.alloc zc28) ?_
          rintro _ H8 ⟨rfl, hn8⟩
          refine Reg.op0 rfl rfl rfl (Does.stn ag28 rfl rfl (ones_Is _) (by simp [hrl]) hn8.own (by decide)) ?_
          rintro _ H9 hu9
          refine Reg.pur rfl rfl rfl rfl (Pur.asg rfl) ?_
          refine Reg.nil ?_
          have hl36 : H3.size < H6.size := hX6.lt
          have hl56 : H5.size < H6.size := hY.lt
          have hl67 := hE7.1
          have hl13 : H1.size < H3.size := hEn.lt
          have hl13' : H3.size < H5.size := hX.lt
          have hE9 : Ext H3 H9 := (((hE6.trans hE7).trans hn8.ext)).upd hu9 (by omega)
          have hX9 := ((hX6.ext hE7).ext hn8.ext).upd hu9 (by omega)
          have hY9 := ((hY.ext hE7).ext hn8.ext).upd hu9 (by omega)
          have hEn9 := hEn.ext hE9
          have hRb9 := hRb.ext hE9
          have hZ : Own H9 H7.size (Is (rowS Bs [c0, c1, c2, c3, t]).1) := by have := hu9.own; rwa [over (by rfl)] at this
          refine At.region rfl rfl ?_
          refine Reg.pur rfl rfl rfl rfl (Pur.mv rfl) ?_
          refine Reg.pur rfl rfl rfl rfl (Pur.not rfl) ?_
          refine Reg.nil ?_
          refine At.cond rfl rfl (fun hb5 => ?_) (fun hb5 => ?_)
          · refine At.region rfl rfl ?_
            refine Reg.pur rfl rfl rfl rfl (Pur.bld (cs := [_]) pl25 zc25 rfl rfl ⟨rfl, rfl⟩) ?_
            refine Reg.op0 rfl rfl rfl (Does.stn ag25 rfl rfl rfl rfl hRb9 (by simp)) ?_
            rintro _ H10 hu10
            refine Reg.pur rfl rfl rfl rfl (Pur.asg rfl) ?_
            refine Reg.nil ?_
            have hR : Own H10 H.size [.slice none 0 0] := hu10.own
            have hRl : ([.slice none 0 0] : List Value).length = 1 := rfl
            refine At.retC rfl Try.func55 ⟨_, _, _, _, rfl, rfl, ⟨_, hR.blk, .inr ⟨_, _, ag25, (whole hRl), hRl, rfl⟩⟩, ⟨_, _, rfl, rfl, rfl⟩⟩ ?_
            first | (refine ⟨(hn1.ext.trans (hE.trans hE9)).upd hu10 (Nat.le_refl _), ?_⟩; rw [← hgo, show moreS Bs out ends [k, v, p, q, c0, c1, c2, c3, t] = none by subst hk3; simp at hb5; simp [moreS, hb5]]; exact rfl) | (refine ⟨(hn1.ext.trans (hE.trans hE7)).upd hu10 (Nat.le_refl _), ?_⟩; rw [← hgo, if_pos (by simp only [decide_eq_true_eq] at hb6; omega)]; exact rfl) | (refine ⟨(hn1.ext.trans hE).upd hu10 (Nat.le_refl _), ?_⟩; simp only [decide_eq_false_iff_not] at hb1; rw [List.drop_of_length_le (by omega)] at hgo; rw [← hgo]; exact ⟨A', cap', rfl, (hO.mono (by have := hn1.ext.1; omega)).but hu10.but (fun g hg he => by obtain ⟨_, _, _, hown⟩ := own_slice hO; have := hown g hg; omega), hN, hol⟩)
          · refine At.draw (fun H' => Blk H' H3.size (Is [k, v, p, q, c0, c1, c2, c3, t]) ∧ Blk H' H1.size (Is (ends ++ List.replicate (L.length - i) 0)) ∧ Blk H' H7.size (Is (rowS Bs [c0, c1, c2, c3, t]).1)) [22] mixed rfl rfl ?_
            refine RegD.tpur (i := 0) rfl rfl rfl rfl (by kernel_rfl) (Pur.mv rfl) ?_
            refine RegD.tpur (i := 1) rfl rfl rfl rfl (by kernel_rfl) (Pur.mv rfl) ?_
            refine RegD.tpur (i := 2) rfl rfl rfl rfl (by kernel_rfl) (Pur.mv rfl) ?_
            refine RegD.tpur (i := 3) rfl rfl rfl rfl (by kernel_rfl) (Pur.mv rfl) ?_
            refine RegD.tpur (i := 4) rfl rfl rfl rfl (by kernel_rfl) (Pur.fld _ fo47_2 rfl) ?_
            refine RegD.take (i := 5) rfl rfl rfl rfl (by kernel_rfl) ⟨hX9.blk, hEn9.blk, hZ.blk⟩ (fun H hS => Lod.ld sc3 rfl hS.1 rfl) ?_
            refine RegD.tpur (i := 6) rfl rfl rfl rfl (by kernel_rfl) (Pur.idx _ es54 rfl rfl (by omega) (by omega)) ?_
            refine RegD.take (i := 7) rfl rfl rfl rfl (by kernel_rfl) ⟨hX9.blk, hEn9.blk, hZ.blk⟩ (fun H hS => Lod.ld sc3 rfl hS.2.1 (ends_at (by omega) (by omega))) ?_
            refine RegD.tpur (i := 8) rfl rfl rfl rfl (by kernel_rfl) (Pur.mv rfl) ?_
            refine RegD.tpur (i := 9) rfl rfl rfl rfl (by kernel_rfl) (Pur.fld _ fo47_3 rfl) ?_
            refine RegD.take (i := 10) rfl rfl rfl rfl (by kernel_rfl) ⟨hX9.blk, hEn9.blk, hZ.blk⟩ (fun H hS => Lod.ld sc3 rfl hS.1 rfl) ?_
            refine RegD.tpur (i := 11) rfl rfl rfl rfl (by kernel_rfl) (Pur.idx _ es54 rfl rfl (by omega) (by omega)) ?_
            refine RegD.take (i := 12) rfl rfl rfl rfl (by kernel_rfl) ⟨hX9.blk, hEn9.blk, hZ.blk⟩ (fun H hS => Lod.ld sc3 rfl hS.2.1 (ends_at (by omega) (by omega))) ?_
            refine RegD.take (i := 13) rfl rfl rfl rfl (by kernel_rfl) ⟨hX9.blk, hEn9.blk, hZ.blk⟩ (fun H hS => Lod.ldn ag28 rfl hS.2.2 (whole (by simp [hrl])) (by simp [hrl])) ?_
            refine RegD.tpur (i := 14) rfl rfl rfl rfl (by kernel_rfl) (Pur.idx _ es23 rfl rfl (by omega) (by omega)) ?_
            refine RegD.tpur (i := 15) rfl rfl rfl rfl (by kernel_rfl) (Pur.fld _ fo47_2 rfl) ?_
            refine RegD.one0 (i := 16) (by kernel_rfl) rfl rfl rfl (Does.st sc3 rfl rfl rfl hY9 (by simp)) ?_
            rintro _ Ha hua
            have hXa := hX9.upd hua (by omega)
            have hEna := hEn9.upd hua (by omega)
            have hZa := hZ.upd hua (by omega)
            refine ⟨fun _ _ => ⟨hXa.blk, hEna.blk, hZa.blk⟩, ?_⟩
            refine RegD.tpur (i := 17) rfl rfl rfl rfl (by kernel_rfl) (Pur.idx _ es23 rfl rfl (by omega) (by omega)) ?_
            refine RegD.tpur (i := 18) rfl rfl rfl rfl (by kernel_rfl) (Pur.fld _ fo47_3 rfl) ?_
            refine RegD.one0 (i := 19) (by kernel_rfl) rfl rfl rfl (Does.st sc3 rfl rfl rfl hua.own (by simp)) ?_
            rintro _ Hb hub
            have hXb := hXa.upd hub (by omega)
            have hEnb := hEna.upd hub (by omega)
            have hZb := hZa.upd hub (by omega)
            refine ⟨fun _ _ => ⟨hXb.blk, hEnb.blk, hZb.blk⟩, ?_⟩
            refine RegD.tpur (i := 20) rfl rfl rfl rfl (by kernel_rfl) (Pur.idx _ es23 rfl rfl (by omega) (by omega)) ?_
            refine RegD.tpur (i := 21) rfl rfl rfl rfl (by kernel_rfl) (Pur.fld _ fo47_4 rfl) ?_
            refine RegD.one0 (i := 22) (by kernel_rfl) rfl rfl rfl (Does.stn ag28 rfl rfl (ones_Is _) (by simp [hrl]) hub.own (by simp)) ?_
            rintro _ Hc huc
            refine ⟨fun h => (by cases h), ?_⟩
            refine RegD.done (by kernel_rfl) ?_
            have hF : Own Hc H5.size (Is (funS [k, v, p, q, c0, c1, c2, c3, t] (ends.getD p.toNat 0) (ends.getD q.toNat 0) (rowS Bs [c0, c1, c2, c3, t]).1)) := by have := huc.own; simpa [Is, funS] using this
            have hEc : Ext H3 Hc := ((hE9.upd hua (by omega)).upd hub (by omega)).upd huc (by omega)
            have hFl : (funS [k, v, p, q, c0, c1, c2, c3, t] (ends.getD p.toNat 0) (ends.getD q.toNat 0) (rowS Bs [c0, c1, c2, c3, t]).1).length = 9 := by simp [funS, hrl]
            have hS1 : ∀ H', Ext H6 H' → SlT H' Is 9 (.slice (some ⟨H5.size, 0, none⟩) 1 1) [[k, v, p, q, c0, c1, c2, c3, t]] := fun H' h => (sl_of (L := [[k, v, p, q, c0, c1, c2, c3, t]]) (cap := 1) (o := 0) (wide9 (nine1 rfl)) (by decide) hY.blk rfl (by simp) (by decide)).ext h
            first | exact At.meets rfl (hJ (bd.nodes.map (movS out.length), A2, cap2) _ ⟨by have hk2 : k = 2 := of_decide_eq_true hb2; subst hk2; simp [moreS, hq], by simp only [List.length_map]; exact hS2, nine_mov hok.nine, by simp only [List.length_map]; have := hok.fits; omega, hE6.trans hE7⟩) ⟨by simp only [List.length_map]; rfl, rfl, rfl, rfl, rfl, rfl, rfl, rfl, rfl, trivial⟩ | exact At.meets rfl (hJ ([[k, v, p, q, c0, c1, c2, c3, t]], some ⟨H5.size, 0, none⟩, 1) _ ⟨more_nil (of_decide_eq_true hb2) hf hb3, hS1 _ (Ext.refl _), nine1 rfl, by simp, hE6⟩) ⟨rfl, rfl, rfl, rfl, rfl, rfl, rfl, rfl, rfl, trivial⟩ | exact At.meets rfl (hJ ([[k, v, p, q, c0, c1, c2, c3, t]], some ⟨H5.size, 0, none⟩, 1) _ ⟨more_else (of_decide_eq_false hb2) (of_decide_eq_false hb4), hS1 _ (Ext.refl _), nine1 rfl, by simp, hE6⟩) ⟨rfl, rfl, rfl, rfl, rfl, rfl, rfl, rfl, rfl, trivial⟩ | exact At.meets rfl (hJ ([funS [k, v, p, q, c0, c1, c2, c3, t] (ends.getD p.toNat 0) (ends.getD q.toNat 0) (rowS Bs [c0, c1, c2, c3, t]).1], some ⟨H5.size, 0, none⟩, 1) _ ⟨by subst hk3; simp at hb5; simp [moreS, hb5], sl_of (L := [funS [k, v, p, q, c0, c1, c2, c3, t] (ends.getD p.toNat 0) (ends.getD q.toNat 0) (rowS Bs [c0, c1, c2, c3, t]).1]) (cap := 1) (o := 0) (wide9 (nine1 hFl)) (by decide) hF.blk (by rw [List.drop_zero, List.take_of_length_le (by simpa [Is] using Nat.le_of_eq hFl)]; simp) (by simp) (by decide), nine1 hFl, by simp, hEc⟩) ⟨rfl, rfl, rfl, rfl, rfl, rfl, rfl, rfl, rfl, trivial⟩
        · have hS1 : ∀ H', Ext H6 H' → SlT H' Is 9 (.slice (some ⟨H5.size, 0, none⟩) 1 1) [[k, v, p, q, c0, c1, c2, c3, t]] := fun H' h => (sl_of (L := [[k, v, p, q, c0, c1, c2, c3, t]]) (cap := 1) (o := 0) (wide9 (nine1 rfl)) (by decide) hY.blk rfl (by simp) (by decide)).ext h
          first | exact At.meets rfl (hJ (bd.nodes.map (movS out.length), A2, cap2) _ ⟨by have hk2 : k = 2 := of_decide_eq_true hb2; subst hk2; simp [moreS, hq], by simp only [List.length_map]; exact hS2, nine_mov hok.nine, by simp only [List.length_map]; have := hok.fits; omega, hE6.trans hE7⟩) ⟨by simp only [List.length_map]; rfl, rfl, rfl, rfl, rfl, rfl, rfl, rfl, rfl, trivial⟩ | exact At.meets rfl (hJ ([[k, v, p, q, c0, c1, c2, c3, t]], some ⟨H5.size, 0, none⟩, 1) _ ⟨more_nil (of_decide_eq_true hb2) hf hb3, hS1 _ (Ext.refl _), nine1 rfl, by simp, hE6⟩) ⟨rfl, rfl, rfl, rfl, rfl, rfl, rfl, rfl, rfl, trivial⟩ | exact At.meets rfl (hJ ([[k, v, p, q, c0, c1, c2, c3, t]], some ⟨H5.size, 0, none⟩, 1) _ ⟨more_else (of_decide_eq_false hb2) (of_decide_eq_false hb4), hS1 _ (Ext.refl _), nine1 rfl, by simp, hE6⟩) ⟨rfl, rfl, rfl, rfl, rfl, rfl, rfl, rfl, rfl, trivial⟩ | exact At.meets rfl (hJ ([funS [k, v, p, q, c0, c1, c2, c3, t] (ends.getD p.toNat 0) (ends.getD q.toNat 0) (rowS Bs [c0, c1, c2, c3, t]).1], some ⟨H5.size, 0, none⟩, 1) _ ⟨by subst hk3; simp at hb5; simp [moreS, hb5], sl_of (L := [funS [k, v, p, q, c0, c1, c2, c3, t] (ends.getD p.toNat 0) (ends.getD q.toNat 0) (rowS Bs [c0, c1, c2, c3, t]).1]) (cap := 1) (o := 0) (wide9 (nine1 hFl)) (by decide) hF.blk (by rw [List.drop_zero, List.take_of_length_le (by simpa [Is] using Nat.le_of_eq hFl)]; simp) (by simp) (by decide), nine1 hFl, by simp, hEc⟩) ⟨rfl, rfl, rfl, rfl, rfl, rfl, rfl, rfl, rfl, trivial⟩
    · obtain ⟨m, A2, cap2⟩ := s
      dsimp only at hmo hSm hNm hml ⊢
      rw [hmo] at hgo
      dsimp only at hgo
      have hl13 : H1.size < H3.size := hEn.lt
      have hO7 := hO.ext hE7
      have hEn7 := hEn.ext hE7
      have hRb7 := hRb.ext hE7
      obtain ⟨_, _, _, hown⟩ := own_slice hO
      refine At.region rfl rfl ?_
      refine Reg.pur rfl rfl rfl rfl (Pur.mv rfl) ?_
      refine Reg.pur rfl rfl rfl rfl (Pur.lenS isl23 rfl) ?_
      refine Reg.pur rfl rfl rfl rfl (Pur.mv rfl) ?_
      refine Reg.pur rfl rfl rfl rfl (Pur.lenS isl23 rfl) ?_
      first | refine Reg.pur rfl rfl rfl rfl (Pur.add64 rfl rfl (by omega)) ?_ | refine Reg.pur rfl rfl rfl rfl (Pur.add64 rfl rfl (by assumption)) ?_ | refine Reg.pur rfl rfl rfl rfl (Pur.add rfl rfl) ?_
      refine Reg.pur rfl rfl rfl rfl (Pur.gtr rfl rfl) ?_
      refine Reg.nil ?_
      refine At.cond rfl rfl (fun hb6 => ?_) (fun hb6 => ?_)
      · refine At.region rfl rfl ?_
        refine Reg.pur rfl rfl rfl rfl (Pur.bld (cs := [_]) pl25 zc25 rfl rfl ⟨rfl, rfl⟩) ?_
        refine Reg.op0 rfl rfl rfl (Does.stn ag25 rfl rfl rfl rfl hRb7 (by simp)) ?_
        rintro _ H10 hu10
        refine Reg.pur rfl rfl rfl rfl (Pur.asg rfl) ?_
        refine Reg.nil ?_
        have hR : Own H10 H.size [.slice none 0 0] := hu10.own
        have hRl : ([.slice none 0 0] : List Value).length = 1 := rfl
        refine At.retC rfl Try.func55 ⟨_, _, _, _, rfl, rfl, ⟨_, hR.blk, .inr ⟨_, _, ag25, (whole hRl), hRl, rfl⟩⟩, ⟨_, _, rfl, rfl, rfl⟩⟩ ?_
        first | (refine ⟨(hn1.ext.trans (hE.trans hE9)).upd hu10 (Nat.le_refl _), ?_⟩; rw [← hgo, show moreS Bs out ends [k, v, p, q, c0, c1, c2, c3, t] = none by subst hk3; simp at hb5; simp [moreS, hb5]]; exact rfl) | (refine ⟨(hn1.ext.trans (hE.trans hE7)).upd hu10 (Nat.le_refl _), ?_⟩; rw [← hgo, if_pos (by simp only [decide_eq_true_eq] at hb6; omega)]; exact rfl) | (refine ⟨(hn1.ext.trans hE).upd hu10 (Nat.le_refl _), ?_⟩; simp only [decide_eq_false_iff_not] at hb1; rw [List.drop_of_length_le (by omega)] at hgo; rw [← hgo]; exact ⟨A', cap', rfl, (hO.mono (by have := hn1.ext.1; omega)).but hu10.but (fun g hg he => by obtain ⟨_, _, _, hown⟩ := own_slice hO; have := hown g hg; omega), hN, hol⟩)
      · have hsm : out.length + m.length ≤ 256 := by simp only [decide_eq_false_iff_not] at hb6; omega
        refine At.region rfl rfl ?_
        refine Reg.pur rfl rfl rfl rfl (Pur.mv rfl) ?_
        refine Reg.pur rfl rfl rfl rfl (Pur.mv rfl) ?_
        refine Reg.op rfl rfl rfl rfl (Does.app apt23 rfl rfl hO7 (sl_src (wide9 hNm) hSm) (ones_flat m) (by rw [show maxLen = 9223372036854775807 from rfl]; omega) (by omega) (by have := hn2.size; have := hE7.1; omega)) ?_
        rintro v8 H8 ⟨ho8, hbut, _, _⟩
        refine Reg.pur rfl rfl rfl rfl (Pur.asg rfl) ?_
        refine Reg.nil ?_
        obtain ⟨A8, cap8, rfl, hB8⟩ := own_slice ho8
        have hE8 : Ext H1 H8 := (hE.trans hE7).trBut hbut (fun b hb h => by have := hown b h; omega)
        have hEn8 := hEn7.but hbut (fun h => by have := hown _ h; omega)
        have hRb8 := hRb7.but hbut (fun h => by have := hown _ h; omega)
        refine At.region rfl rfl ?_
        refine Reg.pur rfl rfl rfl rfl (Pur.mv rfl) ?_
        refine Reg.pur rfl rfl rfl rfl (Pur.mv rfl) ?_
        refine Reg.pur rfl rfl rfl rfl (Pur.mv rfl) ?_
        refine Reg.pur rfl rfl rfl rfl (Pur.lenS isl23 rfl) ?_
        first | refine Reg.pur rfl rfl rfl rfl (Pur.sub64 rfl rfl (by omega)) ?_ | refine Reg.pur rfl rfl rfl rfl (Pur.sub64 rfl rfl (by assumption)) ?_ | refine Reg.pur rfl rfl rfl rfl (Pur.sub rfl rfl) ?_
        refine Reg.pur rfl rfl rfl rfl (Pur.idx _ es54 rfl rfl (by omega) (by omega)) ?_
        refine Reg.op0 rfl rfl rfl (Does.st sc3 rfl rfl rfl hEn8 (by simp; omega)) ?_
        rintro _ H9 hu9
        refine Reg.nil ?_
        refine At.region rfl rfl ?_
        first | refine Reg.pur rfl rfl rfl rfl (Pur.add64 rfl rfl (by omega)) ?_ | refine Reg.pur rfl rfl rfl rfl (Pur.add64 rfl rfl (by assumption)) ?_ | refine Reg.pur rfl rfl rfl rfl (Pur.add rfl rfl) ?_
        refine Reg.pur rfl rfl rfl rfl (Pur.mv rfl) ?_
        refine Reg.nil ?_
        have hla : (out ++ m).length = out.length + m.length := List.length_append
        have hoN : OwnS H9 H2.size 47 9 (.slice A8 (out ++ m).length cap8) (out ++ m).length ((out ++ m).flatMap Is) := by rw [hla, List.flatMap_append]; exact ho8.but hu9.but (fun g hg he => by have := hB8 g hg; omega)
        have hEn9 : Own H9 H1.size (Is ((ends ++ [((out.length + m.length : Nat) : Int) - 1]) ++ List.replicate (L.length - (i + 1)) 0)) := by rw [← ends_set hel hlt]; exact hu9.own
        have hgo9 : goS Bs (L.drop (i + 1)) (out ++ m) (ends ++ [((out.length + m.length : Nat) : Int) - 1]) = typS Bs L := by rw [← hgo, if_neg (by omega)]
        rw [← hla]
        exact At.via (ih (i + 1, out ++ m, ends ++ [((out.length + m.length : Nat) : Int) - 1], A8, cap8) H9 ⟨by omega, by simp only [hla]; omega, by simp [hel], (fun x hx => (List.mem_append.1 hx).elim (hN x) (hNm x)), hoN, hEn9, hRb8.upd hu9 (by omega), hE8.upd hu9 (Nat.le_refl _), hgo9⟩ (by simp only; omega)) ⟨rfl, rfl, rfl, rfl, rfl, rfl, rfl, trivial⟩
  · refine At.region rfl rfl ?_
    refine Reg.pur rfl rfl rfl rfl (Pur.mv rfl) ?_
    refine Reg.pur rfl rfl rfl rfl (Pur.bld (cs := [_]) pl25 zc25 rfl rfl ⟨rfl, rfl⟩) ?_
    refine Reg.op0 rfl rfl rfl (Does.stn ag25 rfl rfl rfl rfl hRb (by simp)) ?_
    rintro _ H10 hu10
    refine Reg.pur rfl rfl rfl rfl (Pur.asg rfl) ?_
    refine Reg.nil ?_
    have hR : Own H10 H.size [.slice A' out.length cap'] := hu10.own
    have hRl : ([.slice A' out.length cap'] : List Value).length = 1 := rfl
    refine At.retC rfl Try.func55 ⟨_, _, _, _, rfl, rfl, ⟨_, hR.blk, .inr ⟨_, _, ag25, (whole hRl), hRl, rfl⟩⟩, ⟨_, _, rfl, rfl, rfl⟩⟩ ?_
    first | (refine ⟨(hn1.ext.trans (hE.trans hE9)).upd hu10 (Nat.le_refl _), ?_⟩; rw [← hgo, show moreS Bs out ends [k, v, p, q, c0, c1, c2, c3, t] = none by subst hk3; simp at hb5; simp [moreS, hb5]]; exact rfl) | (refine ⟨(hn1.ext.trans (hE.trans hE7)).upd hu10 (Nat.le_refl _), ?_⟩; rw [← hgo, if_pos (by simp only [decide_eq_true_eq] at hb6; omega)]; exact rfl) | (refine ⟨(hn1.ext.trans hE).upd hu10 (Nat.le_refl _), ?_⟩; simp only [decide_eq_false_iff_not] at hb1; rw [List.drop_of_length_le (by omega)] at hgo; rw [← hgo]; exact ⟨A', cap', rfl, (hO.mono (by have := hn1.ext.1; omega)).but hu10.but (fun g hg he => by obtain ⟨_, _, _, hown⟩ := own_slice hO; have := hown g hg; omega), hN, hol⟩)
end Go.Proofs.Ytlfillhffpiffaa
