/- Contracts of functions that ReserveBest reaches, a text of this session's own. -/
import Derived.Test.YtekpnmeikibioaaBox2
import Derived.Test.YtekpnmeikibioaaHReserveBesty0
import Derived.Test.YtekpnmeikibioaaHReserveBesty1
import Derived.Test.YtekpnmeikibioaaHReserveBesty2
namespace Go.Proofs.Ytekpnmeikibioaa.PReserveBest
open Go.RowKit Go.Proofs.YtekpnmeikibioaaW.PrintWords Go.Proofs.YtekpnmeikibioaaW.PrintLast Go.Proofs.YtekpnmeikibioaaW.PrintMore
attribute [local go_sem] max2_int min2_int max_two min_two max_three min_three max_four min_four   -- for this text's walks alone
set_option linter.unusedVariables false
set_option linter.unusedSimpArgs false

/-! ### gridhalllaw3_unitsError: function 13 -/
mutual
def gridhalllaw3_unitsError.l0 : Nat → List (S32) → List (S29) → List (S32) → Int → Int → Option (Int)
 | 0, _, _, _, _, _ => none
 | k + 1, x0, x3, x9, x10, x11 => if x11 < x10 then (if 0 ≤ x11 then (if x11 < (x9.length : Int) then (if x3.length < 3518437208883 then (gridhalllaw3_unitsError.l0 k x0 (x3 ++ [(⟨(rd_T32 x9 x11).f0.f0, (rd_T32 x9 x11).f0.f1⟩ : S29)]) x9 x10 (wrap64 (x11 + 1))) else (none)) else (none)) else (none)) else ((gridhallref3_OffersError.f k x3).bind fun t133 => (if t133 = 0 then (gridhalllaw3_unitsError.l1 k x0 (x0.length : Int) 0) else (some t133)))
def gridhalllaw3_unitsError.l1 : Nat → List (S32) → Int → Int → Option (Int)
 | 0, _, _, _ => none
 | k + 1, x26, x27, x28 => if x28 < x27 then (if 0 ≤ x28 then (if x28 < (x26.length : Int) then ((gridhallref3_In.f ((rd_T32 x26 x28).f1) 0 100000).bind fun t136 => (if t136 = true then (gridhalllaw3_unitsError.l1 k x26 x27 (wrap64 (x28 + 1))) else (some 4))) else (none)) else (none)) else (some 0)
end
def gridhalllaw3_unitsError.f (k : Nat) (l0 : List (S32)) : Option (Int) := gridhalllaw3_unitsError.l0 k l0 ([] : List (S29)) l0 (l0.length : Int) 0
theorem gridhalllaw3_unitsError.mono_l : ∀ k, (∀ y0 y1 y2 y3 y4, LeO (gridhalllaw3_unitsError.l0 k y0 y1 y2 y3 y4) (gridhalllaw3_unitsError.l0 (k + 1) y0 y1 y2 y3 y4)) ∧ (∀ y0 y1 y2, LeO (gridhalllaw3_unitsError.l1 k y0 y1 y2) (gridhalllaw3_unitsError.l1 (k + 1) y0 y1 y2))
 | 0 => ⟨fun _ _ _ _ _ r h => by simp [gridhalllaw3_unitsError.l0] at h, fun _ _ _ r h => by simp [gridhalllaw3_unitsError.l1] at h⟩
 | k + 1 => by
  obtain ⟨ih0, ih1⟩:=gridhalllaw3_unitsError.mono_l k
  refine ⟨?_, ?_⟩
  ·intro y0 y1 y2 y3 y4
   unfold gridhalllaw3_unitsError.l0
   repeat' first|(with_reducible first|exact ih0 _ _ _ _ _|exact ih1 _ _ _|exact gridhallref3_OffersError.mono _ _|exact LeO.refl _|exact LeO.none _|refine LeO.ite ?_ ?_|refine LeO.bind ?_ (fun _=>?_))|exact ih0 _ _ _ _ _|exact ih1 _ _ _|exact gridhallref3_OffersError.mono _ _|exact LeO.none _|refine LeO.ite ?_ ?_|refine LeO.bind ?_ (fun _=>?_)
  ·intro y0 y1 y2
   unfold gridhalllaw3_unitsError.l1
   repeat' first|(with_reducible first|exact ih0 _ _ _ _ _|exact ih1 _ _ _|exact gridhallref3_OffersError.mono _ _|exact LeO.refl _|exact LeO.none _|refine LeO.ite ?_ ?_|refine LeO.bind ?_ (fun _=>?_))|exact ih0 _ _ _ _ _|exact ih1 _ _ _|exact gridhallref3_OffersError.mono _ _|exact LeO.none _|refine LeO.ite ?_ ?_|refine LeO.bind ?_ (fun _=>?_)
theorem gridhalllaw3_unitsError.mono : ∀ a0 k, LeO (gridhalllaw3_unitsError.f k a0) (gridhalllaw3_unitsError.f (k + 1) a0) := by
 intro a0 k
 obtain ⟨ih0, ih1⟩:=gridhalllaw3_unitsError.mono_l k
 unfold gridhalllaw3_unitsError.f
 repeat' first|(with_reducible first|exact ih0 _ _ _ _ _|exact ih1 _ _ _|exact gridhallref3_OffersError.mono _ _|exact LeO.refl _|exact LeO.none _|refine LeO.ite ?_ ?_|refine LeO.bind ?_ (fun _=>?_))|exact ih0 _ _ _ _ _|exact ih1 _ _ _|exact gridhallref3_OffersError.mono _ _|exact LeO.none _|refine LeO.ite ?_ ?_|refine LeO.bind ?_ (fun _=>?_)
set_option maxHeartbeats 8000000 in
set_option maxRecDepth 100000 in
theorem gridhalllaw3_unitsError.calls (k : Nat) (P0_ : Nat → Prop) (A0 : Option Addr) (c0 : Nat) (l0 : List (S32)) (r : Int) (w : World) (hs0 : Kd.V k32 32 w w.heap.size (fun k_ => P0_ k_) (.slice A0 l0.length c0) l0) (h : gridhalllaw3_unitsError.f k l0 = some r) :
  Calls Try.prog 13 #[.slice A0 l0.length c0] w fun e w' => e = .returned (.int .i64 r) ∧ Below w.heap.size w w' := by
 have hu32:=Try.underlying32;have hu29:=Try.underlying29;have HO0:=k0_ (show Kd.V k32 32 w w.heap.size (fun k_=>(P0_ k_ ∨ w.heap.size ≤ k_)) (.slice A0 l0.length c0) l0 from Kd.V_mono hs0 (fun k_ hk=>.inl hk));have HB:=k0_ (Below.refl w.heap.size w);have H : (gridhalllaw3_unitsError.l0 k l0 ([] : List (S29)) l0 (l0.length : Int) 0) = some r:=h;clear h;have H':=k0_ H;clear H
 go_enter Try.func13, Try.ntmps13
 go_wp2;(try simp only [Act.put, q1_,q3_,q2_])
 go_loopg [3, 11] k (fun kq v3 v11 w'=>∃ (x3_1 : List (S29)) (x11_1 : Int), v11 = .int .i64 x11_1∧Aside0 (gridhalllaw3_unitsError.l0 kq l0 x3_1 l0 (l0.length : Int) x11_1 = some r)∧Aside0 (kq ≤ k)∧Aside0 (Kd.V k32 32 w' w.heap.size (fun k_=>(P0_ k_ ∨ w.heap.size ≤ k_)∧some k_ ≠ (v3 : Value).ownBlock) (.slice A0 l0.length c0) l0)∧Aside0 (Kd.N k29 29 w' w.heap.size (fun k_=>(P0_ k_ ∨ w.heap.size ≤ k_)) v3 x3_1)∧Aside0 (Kd.V k32 32 w' w.heap.size (fun k_=>(P0_ k_ ∨ w.heap.size ≤ k_)∧some k_ ≠ (v3 : Value).ownBlock) (.slice A0 l0.length c0) l0)∧Aside0 (Below w.heap.size w w'))
 case atStart=>exact ⟨(([] : List (S29))),(0),rs_, H', ⟨Nat.le_refl _⟩,⟨by (with_reducible repeat (first|apply Kd.V_alloc|apply Kd.V_drewN|apply Kd.V_drew));exact Kd.V_mono HO0.out (fun _ hk=>⟨hk, (by simp [Value.ownBlock])⟩)⟩,⟨by first|exact Kd.S_nil _ _ _ _ _|exact Kd.N_nil _ _ _ _ _|exact Kd.V_nil _ _ _ _ _|exact Kd.Q_nil _ _ _ _ _|exact Kd.R_nil _ _ _ _ _⟩,⟨by (with_reducible repeat (first|apply Kd.V_alloc|apply Kd.V_drewN|apply Kd.V_drew));exact Kd.V_mono HO0.out (fun _ hk=>⟨hk, (by simp [Value.ownBlock])⟩)⟩,⟨hb0_ HB.out⟩⟩
 clear H';(try clear c1);obtain ⟨x3_1, x11_1, rfl, HA, HK1, HO_0, HO_3, HO_9, HB⟩:=hrel;obtain _|k1:=gk
 ·exact absurd HA.out (by simp [gridhalllaw3_unitsError.l0])
 have H:=HA.out;clear HA;simp only [gridhalllaw3_unitsError.l0] at H
 by_cases c2 : x11_1 < (l0.length : Int)
 ·rw [if_pos c2] at H
  have c2b0:=decide_eq_true c2;clear c2
  obtain ⟨c3,H⟩:=gi_ H;have c3b0:=decide_eq_true c3;clear c3
  obtain ⟨c4,H⟩:=gi_ H;have c4b0:=decide_eq_true c4;clear c4
  obtain ⟨c5,H⟩:=gi_ H;have LMc5:=k0_ c5;clear c5;obtain ⟨y130, hy130⟩ : ∃ y_ : List (S29), y_ = (x3_1 ++ [(⟨(rd_T32 l0 x11_1).f0.f0, (rd_T32 l0 x11_1).f0.f1⟩ : S29)]):=⟨_, rfl⟩;replace H : (gridhalllaw3_unitsError.l0 k1 l0 y130 l0 (l0.length : Int) (wrap64 (x11_1 + 1))) = some r:=by first|(rw [hy130];with_reducible exact H)|(have H2_:=(Option.bind_some _ _).symm.trans H;rw [hy130];with_reducible exact H2_)|(have H2_:=(Option.bind_some _ _).symm.trans H;with_reducible exact H2_)|with_reducible exact H|(rw [hy130];exact H)|exact H
  have Ny130:=k0_ hy130;clear hy130;have H':=k0_ H;clear H;have p128 : 0 ≤ (x11_1 : Int):=of_decide_eq_true as_;have q128 : x11_1 < (l0.length : Int):=of_decide_eq_true as_;obtain ⟨ad128, A128_1, c128_1, e128, hx128_0, hx128_1, hx128_2, hl128_1, hi128_1⟩:=at_T32 (Kd.V_reads' HO_9.out).2.2 x11_1 p128 q128;cases e128;obtain ⟨ce128, hce128, hMe128, hcc128⟩:=Kd.V_get HO_9.out z32 x11_1 p128 (by first|exact q128|exact of_decide_eq_true as_|(have e_:=(Kd.V_reads' HO_9.out).1;omega));obtain ⟨ua128_1, uc128_1, rfl, ul128_1, ge128_1⟩:=k32_openF hMe128;have hv128_1:=hcc128 1 _ rfl;rw [add_field _ _ 1 (by omega)] at hv128_1;replace hv128_1:=Option.some.inj (hv128_1.symm.trans hx128_1)
  injection hv128_1 with hva_ hvn_ hvc_
  rw [hva_] at ge128_1;rw [hvc_] at ul128_1;have HL128_1:=k0_ (show Kd.V k41 41 _ w.heap.size _ _ ((rd_T32 l0 x11_1).f0.f1) from Kd.V_mk ul128_1 ge128_1);clear hva_ hvn_ hvc_ ge128_1 ul128_1;clear hcc128 hce128;have HR128_1:=k0_ hi128_1;have HC128_1:=k0_ hl128_1;clear hi128_1 hl128_1;replace p128:=eq_true p128;replace q128:=eq_true q128
  go_wp2_with (first|((with_reducible refine gate_dst (N:=5) rfl ?_);refine box_event ?hg (N:=5) ?hd (cs:=#[.string (⟨#[]⟩ : ByteArray), .slice none 0 0, .int .i64 0]) (t:=32) ?hr ?_;(case hd=>rfl);(case hg=>rfl);(case hr=>first|(go_simp;done)|(go_simp;rfl));intro gb129 hg w6 hbox hb;replace HO_0:=k0_ (Kd.V_below (Kd.V_elderB (vq_ HO_0.out) gb129 (Nat.le_of_eq hg.symm)) hb);replace HO_3:=k0_ (Kd.N_below (Kd.N_elderB (nq_ HO_3.out) gb129 (Nat.le_of_eq hg.symm)) hb);replace HO_9:=k0_ (Kd.V_below (Kd.V_elderB (vq_ HO_9.out) gb129 (Nat.le_of_eq hg.symm)) hb);replace HL128_1:=k0_ (Kd.V_below (Kd.V_elderB (vq_ HL128_1.out) gb129 (Nat.le_of_eq hg.symm)) hb);replace HR128_1:=k0_ (Kd.C_below (by repeat (first|(with_reducible exact HR128_1.out)|(with_reducible refine Kd.C_alloc ?_ _)|(with_reducible refine Kd.C_drewN ?_ _)|(with_reducible refine Kd.C_drew ?_)|exact HR128_1.out)) hb);have BK129:=k0_ (hbox);have GW129:=k0_ ((by rw [hg];exact (below_size (hb0_ HB.out)) : w.heap.size ≤ gb129));have GE129:=k0_ ((by rw [hg];exact (below_size (hb0_ HB.out)) : w.heap.size ≤ gb129));replace HB:=k0_ (below_step (hb0_ HB.out) hb);clear hb hbox hg;obtain ⟨hcz7_0,hcz7_1,hcz7_2⟩:=bc3_ BK129.out;obtain ⟨hfz7_0,hfz7_1,hfz7_2⟩:=bf3_ BK129.out)|((with_reducible refine gate_store (t:=32) (p:=5) rfl ?_);refine store_event (t:=32) (p:=5) (v:=?vo_w8) (w1:=(((w6.setCell ⟨gb129, 0, none⟩ (.string ((rd_T32 l0 x11_1).f0.f0))).setCell ⟨gb129, 1, none⟩ (.slice A128_1 ((rd_T32 l0 x11_1).f0.f1).length c128_1)).setCell ⟨gb129, 2, none⟩ (.int .i64 ((rd_T32 l0 x11_1).f1)))) ?hg ?ho ?hn ?hr ?_;(case ho=>rfl);(case hg=>rfl);(case hn=>rfl);(case hr=>first|(go_simp;done)|(go_simp;rfl));intro w8 hw;have n0_ : Aside0 (Kd.V k32 32 w8 w.heap.size (fun k_=>(P0_ k_ ∨ w.heap.size ≤ k_)∧some k_ ≠ (u3 : Value).ownBlock∧k_ ≠ gb129) (.slice (some ad128) l0.length c0) l0):=⟨(by rw [hw];exact (by (with_reducible repeat (first|apply Kd.V_alloc|apply Kd.V_drewN|apply Kd.V_drew));exact Kd.V_mono (Kd.V_far (p:=⟨gb129, 2, none⟩) (Kd.V_far (p:=⟨gb129, 1, none⟩) (Kd.V_far (p:=⟨gb129, 0, none⟩) (Kd.V_mono HO_0.out (fun k_ hk=>(⟨hk, hk.2⟩ : _∧k_ ≠ gb129))) (fun _ hk=>hk.2) (.string ((rd_T32 l0 x11_1).f0.f0))) (fun _ hk=>hk.2) (.slice A128_1 ((rd_T32 l0 x11_1).f0.f1).length c128_1)) (fun _ hk=>hk.2) (.int .i64 ((rd_T32 l0 x11_1).f1))) (fun _ hk=>⟨hk.1.1.1, ⟨hk.1.1.2, hk.1.2⟩⟩)))⟩;have n1_ : Aside0 (Kd.N k29 29 w8 w.heap.size (fun k_=>(P0_ k_ ∨ w.heap.size ≤ k_)∧k_ ≠ gb129) u3 x3_1):=⟨(by rw [hw];exact (by (with_reducible repeat (first|apply Kd.N_alloc|apply Kd.N_drewN|apply Kd.N_drew));exact Kd.N_mono (Kd.N_far (p:=⟨gb129, 2, none⟩) (Kd.N_far (p:=⟨gb129, 1, none⟩) (Kd.N_far (p:=⟨gb129, 0, none⟩) (Kd.N_mono HO_3.out (fun k_ hk=>(⟨hk, hk.2⟩ : _∧k_ ≠ gb129))) (fun _ hk=>hk.2) (.string ((rd_T32 l0 x11_1).f0.f0))) (fun _ hk=>hk.2) (.slice A128_1 ((rd_T32 l0 x11_1).f0.f1).length c128_1)) (fun _ hk=>hk.2) (.int .i64 ((rd_T32 l0 x11_1).f1))) (fun _ hk=>⟨hk.1.1, hk.1.2⟩)))⟩;have n2_ : Aside0 (Kd.V k32 32 w8 w.heap.size (fun k_=>(P0_ k_ ∨ w.heap.size ≤ k_)∧some k_ ≠ (u3 : Value).ownBlock∧k_ ≠ gb129) (.slice (some ad128) l0.length c0) l0):=⟨(by rw [hw];exact (by (with_reducible repeat (first|apply Kd.V_alloc|apply Kd.V_drewN|apply Kd.V_drew));exact Kd.V_mono (Kd.V_far (p:=⟨gb129, 2, none⟩) (Kd.V_far (p:=⟨gb129, 1, none⟩) (Kd.V_far (p:=⟨gb129, 0, none⟩) (Kd.V_mono HO_9.out (fun k_ hk=>(⟨hk, hk.2⟩ : _∧k_ ≠ gb129))) (fun _ hk=>hk.2) (.string ((rd_T32 l0 x11_1).f0.f0))) (fun _ hk=>hk.2) (.slice A128_1 ((rd_T32 l0 x11_1).f0.f1).length c128_1)) (fun _ hk=>hk.2) (.int .i64 ((rd_T32 l0 x11_1).f1))) (fun _ hk=>⟨hk.1.1.1, ⟨hk.1.1.2, hk.1.2⟩⟩)))⟩;have n3_ : Aside0 (Kd.V k41 41 w8 w.heap.size (fun k_=>(P0_ k_ ∨ w.heap.size ≤ k_)∧some k_ ≠ (u3 : Value).ownBlock∧k_ ≠ gb129) (.slice A128_1 ((rd_T32 l0 x11_1).f0.f1).length c128_1) ((rd_T32 l0 x11_1).f0.f1)):=⟨(by rw [hw];exact (by (with_reducible repeat (first|apply Kd.V_alloc|apply Kd.V_drewN|apply Kd.V_drew));exact Kd.V_mono (Kd.V_far (p:=⟨gb129, 2, none⟩) (Kd.V_far (p:=⟨gb129, 1, none⟩) (Kd.V_far (p:=⟨gb129, 0, none⟩) (Kd.V_mono HL128_1.out (fun k_ hk=>(⟨hk, hk.2⟩ : _∧k_ ≠ gb129))) (fun _ hk=>hk.2) (.string ((rd_T32 l0 x11_1).f0.f0))) (fun _ hk=>hk.2) (.slice A128_1 ((rd_T32 l0 x11_1).f0.f1).length c128_1)) (fun _ hk=>hk.2) (.int .i64 ((rd_T32 l0 x11_1).f1))) (fun _ hk=>⟨hk.1.1.1, ⟨hk.1.1.2, hk.1.2⟩⟩)))⟩;have n4_ : Aside0 (w8.heap[gb129]? = some (.cells #[.string ((rd_T32 l0 x11_1).f0.f0), .slice A128_1 ((rd_T32 l0 x11_1).f0.f1).length c128_1, .int .i64 ((rd_T32 l0 x11_1).f1)] 32 (0, 0))):=⟨(by rw [hw];exact (by (with_reducible repeat (first|refine blk_drewN ?_ _|refine blk_drew ?_|refine blk_alloc ?_ _));refine blk_put (cs:=#[.string ((rd_T32 l0 x11_1).f0.f0), .slice A128_1 ((rd_T32 l0 x11_1).f0.f1).length c128_1, .int .i64 0]) ?_ 2 _ rfl;(with_reducible repeat (first|refine blk_drewN ?_ _|refine blk_drew ?_|refine blk_alloc ?_ _));refine blk_put (cs:=#[.string ((rd_T32 l0 x11_1).f0.f0), .slice none 0 0, .int .i64 0]) ?_ 1 _ rfl;(with_reducible repeat (first|refine blk_drewN ?_ _|refine blk_drew ?_|refine blk_alloc ?_ _));refine blk_put (cs:=#[.string (⟨#[]⟩ : ByteArray), .slice none 0 0, .int .i64 0]) ?_ 0 _ rfl;(with_reducible repeat (first|refine blk_drewN ?_ _|refine blk_drew ?_|refine blk_alloc ?_ _));exact BK129.out))⟩;have n5_ : Aside0 (Below w.heap.size w w8):=⟨(by rw [hw];exact (hb1_ HB.out GE129.out))⟩;clear hw;clear HO_0;clear HO_3;clear HO_9;clear HL128_1;clear BK129;clear HB;have HO_0:=n0_;have HO_3:=n1_;have HO_9:=n2_;have HL128_1:=n3_;have BK129:=n4_;have HB:=n5_;clear n0_ n1_ n2_ n3_ n4_ n5_;obtain ⟨hcz9_0,hcz9_1,hcz9_2⟩:=bc3_ BK129.out;obtain ⟨hfz9_0,hfz9_1,hfz9_2⟩:=bf3_ BK129.out)|((with_reducible refine gate_builtin (b:=.append) (xs:=#[.tmp 15, .tmp 18]) rfl ?_);at_builtin;refine Kd.N_append k29 (w0:=w) w.heap.size rfl (.tmp 15) (.tmp 18) 50 29 (.agg #[(.string ⟨#[]⟩),(.slice none 0 0)]) 40 rfl Try.underlying50 info29 rfl (by decide) (by omega) u3 x3_1 (⟨(rd_T32 l0 x11_1).f0.f0, (rd_T32 l0 x11_1).f0.f1⟩ : S29) [.string ((rd_T32 l0 x11_1).f0.f0), .slice A128_1 ((rd_T32 l0 x11_1).f0.f1).length c128_1] (fun k_=>(P0_ k_ ∨ w.heap.size ≤ k_)∧k_ ≠ gb129) (fun k_=>((fun k_=>(P0_ k_ ∨ w.heap.size ≤ k_)∧k_ ≠ gb129)) k_∧some k_ ≠ (u3 : Value).ownBlock) rfl rfl ?aP (fun _ hk=>hk) ?aF ?aO ?aB ?aS ?aL ?_;(case aP=>exact (k29_mkF _ _ (⟨(rd_T32 l0 x11_1).f0.f0, (rd_T32 l0 x11_1).f0.f1⟩ : S29) (Kd.V_reads' (Kd.V_mono (ok':=(fun k_=>((fun k_=>(P0_ k_ ∨ w.heap.size ≤ k_)∧k_ ≠ gb129)) k_∧some k_ ≠ (u3 : Value).ownBlock)) (HL128_1.out) (fun k_ hk=>⟨⟨hk.1, hk.2.2⟩, hk.2.1⟩))).2.1 (Kd.V_F (Kd.V_mono (ok':=(fun k_=>((fun k_=>(P0_ k_ ∨ w.heap.size ≤ k_)∧k_ ≠ gb129)) k_∧some k_ ≠ (u3 : Value).ownBlock)) (HL128_1.out) (fun k_ hk=>⟨⟨hk.1, hk.2.2⟩, hk.2.1⟩)))));(case aB=>exact (hb1_ HB.out GE129.out));(case aF=>exact (fun k_ hk=>⟨(.inr (Nat.le_trans (below_size (hb1_ HB.out GE129.out)) hk)), Kd.freshB (g:=gb129) (o:=.cells #[.string ((rd_T32 l0 x11_1).f0.f0), .slice A128_1 ((rd_T32 l0 x11_1).f0.f1).length c128_1, .int .i64 ((rd_T32 l0 x11_1).f1)] 32 (0, 0)) (bq_ BK129.out) k_ hk⟩));(case aO=>exact (nq_ HO_3.out));(case aS=>exact (below_size (hb1_ HB.out GE129.out)));(case aL=>have:=LMc5.out;omega);intro v131 w10 ho hb hg hat;rw [← Ny130.out] at ho;replace HO_0:=k0_ (Kd.V_afterv (ok:=(fun k_=>(P0_ k_ ∨ w.heap.size ≤ k_)∧k_ ≠ gb129)) (by (with_reducible repeat (first|apply Kd.V_alloc|apply Kd.V_drewN|apply Kd.V_drew));exact Kd.V_mono HO_0.out (fun _ hk=>⟨⟨hk.1, hk.2.2⟩, hk.2.1⟩)) hg hat);replace HO_9:=k0_ (Kd.V_afterv (ok:=(fun k_=>(P0_ k_ ∨ w.heap.size ≤ k_)∧k_ ≠ gb129)) (by (with_reducible repeat (first|apply Kd.V_alloc|apply Kd.V_drewN|apply Kd.V_drew));exact Kd.V_mono HO_9.out (fun _ hk=>⟨⟨hk.1, hk.2.2⟩, hk.2.1⟩)) hg hat);replace HL128_1:=k0_ (Kd.V_afterv (ok:=(fun k_=>(P0_ k_ ∨ w.heap.size ≤ k_)∧k_ ≠ gb129)) (by (with_reducible repeat (first|apply Kd.V_alloc|apply Kd.V_drewN|apply Kd.V_drew));exact Kd.V_mono HL128_1.out (fun _ hk=>⟨⟨hk.1, hk.2.2⟩, hk.2.1⟩)) hg hat);replace BK129:=k0_ (blk_grown (g:=gb129) (o:=.cells #[.string ((rd_T32 l0 x11_1).f0.f0), .slice A128_1 ((rd_T32 l0 x11_1).f0.f1).length c128_1, .int .i64 ((rd_T32 l0 x11_1).f1)] 32 (0, 0)) (bq_ BK129.out) hg (Kd.N_ne HO_3.out BK129.out (by decide)));replace HB:=k0_ (hb);have HO132:=k0_ (ho);clear HO_3;clear ho hb hg hat))
  go_roundg k1
  case measure=>have:=HK1.out;omega
  case rel=>exact ⟨(y130),(wrap64 (x11_1 + 1)),rs_, H', ⟨by have:=HK1.out;omega⟩,⟨by (with_reducible repeat (first|apply Kd.V_alloc|apply Kd.V_drewN|apply Kd.V_drew));exact Kd.V_mono HO_0.out (fun _ hk=>⟨hk.1.1, hk.2⟩)⟩,⟨by (with_reducible repeat (first|apply Kd.N_alloc|apply Kd.N_drewN|apply Kd.N_drew));exact Kd.N_mono HO132.out (fun _ hk=>hk.1)⟩,⟨by (with_reducible repeat (first|apply Kd.V_alloc|apply Kd.V_drewN|apply Kd.V_drew));exact Kd.V_mono HO_9.out (fun _ hk=>⟨hk.1.1, hk.2⟩)⟩,⟨hb1_ HB.out GE129.out⟩⟩
 ·rw [if_neg c2] at H
  have c2b0:=decide_eq_false c2;clear c2;replace H:=Option.bind_eq_some_iff.mp H;obtain ⟨t133, A110, H⟩:=H;replace H : (if t133 = 0 then (gridhalllaw3_unitsError.l1 k1 l0 (l0.length : Int) 0) else (some t133)) = some r:=H;have A11:=k0_ A110;clear A110
  by_cases c12 : t133 = 0
  rw [if_pos c12] at H;have c12b0:=beq_iff_eq.mpr c12;have c12b1:=bne_eq_false_iff_eq.mpr c12;clear c12;have H':=k0_ H;clear H;rotate_left;rw [if_neg c12] at H;have c12b0:=beq_eq_false_iff_ne.mpr c12;have c12b1:=bne_iff_ne.mpr c12;obtain rfl:=Option.some.inj H;rotate_left
  all_goals
   obtain ⟨Ao13, co13, eo13⟩:=Kd.N_slice HO_3.out;subst eo13
   go_wp2_with (first|((with_reducible refine gate_callee (f:=24) rfl ?_);refine goesL_ (some 22) rfl rfl Try.func24 (by kernel_rfl) rfl #[.slice Ao13 x3_1.length co13] rfl mt_ ?_;(with_reducible refine (gridhallref3_OffersError.calls k1 _ _ x3_1 t133 _ ?side1 ?side2 A11.out).mono ?_);(case side1=>repeat (first|exact (Kd.N_reads' HO_3.out).2.2|(with_reducible refine Kd.C_alloc ?_ _)|(with_reducible refine Kd.C_drewN ?_ _)|(with_reducible refine Kd.C_drew ?_)));(case side2=>exact (Kd.N_reads' HO_3.out).2.1);rintro e w14 ⟨rfl, hb⟩;refine ⟨_, rfl, ?_⟩;replace HO_0:=k0_ (Kd.V_below (vq_ HO_0.out) hb);replace HO_3:=k0_ (Kd.N_below (nq_ HO_3.out) hb);replace HO_9:=k0_ (Kd.V_below (vq_ HO_9.out) hb);replace HB:=k0_ (below_step (hb0_ HB.out) hb);(try clear hb);(try clear hb2);(try clear hk);(try clear hi)))
  ·try simp only [Act.put, q1_,q3_,q2_]
   go_loopg [28] k1 (fun kq v28 w'=>∃ (x28_2 : Int), v28 = .int .i64 x28_2∧Aside0 (gridhalllaw3_unitsError.l1 kq l0 (l0.length : Int) x28_2 = some r)∧Aside0 (kq ≤ k1)∧Aside0 (Kd.V k32 32 w' w.heap.size (fun k_=>(P0_ k_ ∨ w.heap.size ≤ k_)) (.slice A0 l0.length c0) l0)∧Aside0 (Below w.heap.size w w'))
   case atStart=>exact ⟨(0),rs_, H', ⟨Nat.le_refl _⟩,⟨by (with_reducible repeat (first|apply Kd.V_alloc|apply Kd.V_drewN|apply Kd.V_drew));exact Kd.V_mono HO_0.out (fun _ hk=>hk.1)⟩,⟨hb0_ HB.out⟩⟩
   clear H';(try clear c1);(try clear p1);(try clear q1);(try clear hx1);(try clear c2);(try clear c2b0);(try clear p2);(try clear c3);(try clear c3b0);(try clear c4);(try clear c4b0);(try clear c5);(try clear p6);(try clear c12);(try clear c12b0);(try clear c12b1);(try clear p12);(try clear q12);(try clear hx12);(try clear c13);(try clear hcz7_0);(try clear hcz7_1);(try clear hcz7_2);(try clear hcz9_0);(try clear hcz9_1);(try clear hcz9_2);(try clear hfz7_0);(try clear hfz7_1);(try clear hfz7_2);(try clear hfz9_0);(try clear hfz9_1);(try clear hfz9_2);(try clear hx128_0);(try clear hx128_1);(try clear hx128_2);(try clear p128);(try clear q128);obtain ⟨x28_2, rfl, HA, HK2, HO_26, HB⟩:=hrel;obtain _|k2:=gk
   ·exact absurd HA.out (by simp [gridhalllaw3_unitsError.l1])
   have H:=HA.out;clear HA;simp only [gridhalllaw3_unitsError.l1] at H
   by_cases c15 : x28_2 < (l0.length : Int)
   ·rw [if_pos c15] at H
    have c15b0:=decide_eq_true c15;clear c15
    by_cases c16 : 0 ≤ x28_2
    rw [if_pos c16] at H;have c16b0:=decide_eq_true c16;clear c16
    focus
     by_cases c17 : x28_2 < (l0.length : Int)
     rw [if_pos c17] at H;have c17b0:=decide_eq_true c17;clear c17;replace H:=Option.bind_eq_some_iff.mp H;obtain ⟨t136, A180, H⟩:=H;replace H : (if t136 = true then (gridhalllaw3_unitsError.l1 k2 l0 (l0.length : Int) (wrap64 (x28_2 + 1))) else (some 4)) = some r:=H;have A18:=k0_ A180;clear A180
     focus
      by_cases c19 : t136 = true
      subst c19;have H1 : (gridhalllaw3_unitsError.l1 k2 l0 (l0.length : Int) (wrap64 (x28_2 + 1))) = some r:=by rw [if_pos rfl] at H;exact H
      clear H;have H:=H1;clear H1;have H':=k0_ H;clear H;rotate_left;replace c19:=Bool.eq_false_iff.mpr c19;subst c19;have H1 : (some 4) = some r:=by rw [if_neg (show ¬ (false = true) by decide)] at H;exact H
      clear H;have H:=H1;clear H1;obtain rfl:=Option.some.inj H;rotate_left
     rotate_left 2;rw [if_neg c17] at H
     exact absurd H (by simp)
    rotate_left 2;rw [if_neg c16] at H
    exact absurd H (by simp)
    all_goals
     have p134 : 0 ≤ (x28_2 : Int):=of_decide_eq_true as_;have q134 : x28_2 < (l0.length : Int):=of_decide_eq_true as_;obtain ⟨ad134, A134_1, c134_1, e134, hx134_0, hx134_1, hx134_2, hl134_1, hi134_1⟩:=at_T32 (Kd.V_reads' HO_26.out).2.2 x28_2 p134 q134;cases e134;obtain ⟨ce134, hce134, hMe134, hcc134⟩:=Kd.V_get HO_26.out z32 x28_2 p134 (by first|exact q134|exact of_decide_eq_true as_|(have e_:=(Kd.V_reads' HO_26.out).1;omega));obtain ⟨ua134_1, uc134_1, rfl, ul134_1, ge134_1⟩:=k32_openF hMe134;have hv134_1:=hcc134 1 _ rfl;rw [add_field _ _ 1 (by omega)] at hv134_1;replace hv134_1:=Option.some.inj (hv134_1.symm.trans hx134_1)
     injection hv134_1 with hva_ hvn_ hvc_
     rw [hva_] at ge134_1;rw [hvc_] at ul134_1;have HL134_1:=k0_ (show Kd.V k41 41 _ w.heap.size _ _ ((rd_T32 l0 x28_2).f0.f1) from Kd.V_mk ul134_1 ge134_1);clear hva_ hvn_ hvc_ ge134_1 ul134_1;clear hcc134 hce134;have HR134_1:=k0_ hi134_1;have HC134_1:=k0_ hl134_1;clear hi134_1 hl134_1;replace p134:=eq_true p134;replace q134:=eq_true q134
    ·go_wp2_with (first|((with_reducible refine gate_dst (N:=8) rfl ?_);refine box_event ?hg (N:=8) ?hd (cs:=#[.string (⟨#[]⟩ : ByteArray), .slice none 0 0, .int .i64 0]) (t:=32) ?hr ?_;(case hd=>rfl);(case hg=>rfl);(case hr=>first|(go_simp;done)|(go_simp;rfl));intro gb135 hg w20 hbox hb;replace HO_26:=k0_ (Kd.V_below (Kd.V_elderB (vq_ HO_26.out) gb135 (Nat.le_of_eq hg.symm)) hb);replace HL134_1:=k0_ (Kd.V_below (Kd.V_elderB (vq_ HL134_1.out) gb135 (Nat.le_of_eq hg.symm)) hb);replace HR134_1:=k0_ (Kd.C_below (by repeat (first|(with_reducible exact HR134_1.out)|(with_reducible refine Kd.C_alloc ?_ _)|(with_reducible refine Kd.C_drewN ?_ _)|(with_reducible refine Kd.C_drew ?_)|exact HR134_1.out)) hb);have BK135:=k0_ (hbox);have GW135:=k0_ ((by rw [hg];exact (below_size (hb0_ HB.out)) : w.heap.size ≤ gb135));have GE135:=k0_ ((by rw [hg];exact (below_size (hb0_ HB.out)) : w.heap.size ≤ gb135));replace HB:=k0_ (below_step (hb0_ HB.out) hb);clear hb hbox hg;obtain ⟨hcz21_0,hcz21_1,hcz21_2⟩:=bc3_ BK135.out;obtain ⟨hfz21_0,hfz21_1,hfz21_2⟩:=bf3_ BK135.out)|((with_reducible refine gate_callee (f:=16) rfl ?_);refine goesL_ (some 34) rfl rfl Try.func16 (by kernel_rfl) rfl #[.int .i64 ((rd_T32 l0 x28_2).f1), .int .i64 0, .int .i64 100000] rfl mt_ ?_;(with_reducible refine (gridhallref3_In.calls ((rd_T32 l0 x28_2).f1) 0 100000 true _ A18.out).mono ?_);rintro e w' ⟨rfl, ⟨nd, rfl⟩⟩;refine ⟨_, rfl, ?_⟩))
     go_roundg k2
     case measure=>have:=HK1.out;have:=HK2.out;omega
     case rel=>exact ⟨(wrap64 (x28_2 + 1)),rs_, H', ⟨by have:=HK1.out;have:=HK2.out;omega⟩,⟨by (with_reducible repeat (first|apply Kd.V_alloc|apply Kd.V_drewN|apply Kd.V_drew));exact Kd.V_mono (Kd.V_far (p:=⟨gb135, 2, none⟩) (Kd.V_far (p:=⟨gb135, 1, none⟩) (Kd.V_far (p:=⟨gb135, 0, none⟩) (Kd.V_mono HO_26.out (fun k_ hk=>(⟨hk, hk.2⟩ : _∧k_ ≠ gb135))) (fun _ hk=>hk.2) (.string ((rd_T32 l0 x28_2).f0.f0))) (fun _ hk=>hk.2) (.slice A134_1 ((rd_T32 l0 x28_2).f0.f1).length c134_1)) (fun _ hk=>hk.2) (.int .i64 ((rd_T32 l0 x28_2).f1))) (fun _ hk=>hk.1.1)⟩,⟨hb1_ HB.out GE135.out⟩⟩
    ·go_wp2_with (first|((with_reducible refine gate_dst (N:=8) rfl ?_);refine box_event ?hg (N:=8) ?hd (cs:=#[.string (⟨#[]⟩ : ByteArray), .slice none 0 0, .int .i64 0]) (t:=32) ?hr ?_;(case hd=>rfl);(case hg=>rfl);(case hr=>first|(go_simp;done)|(go_simp;rfl));intro gb135 hg w22 hbox hb;replace HO_26:=k0_ (Kd.V_below (Kd.V_elderB (vq_ HO_26.out) gb135 (Nat.le_of_eq hg.symm)) hb);replace HL134_1:=k0_ (Kd.V_below (Kd.V_elderB (vq_ HL134_1.out) gb135 (Nat.le_of_eq hg.symm)) hb);replace HR134_1:=k0_ (Kd.C_below (by repeat (first|(with_reducible exact HR134_1.out)|(with_reducible refine Kd.C_alloc ?_ _)|(with_reducible refine Kd.C_drewN ?_ _)|(with_reducible refine Kd.C_drew ?_)|exact HR134_1.out)) hb);have BK135:=k0_ (hbox);have GW135:=k0_ ((by rw [hg];exact (below_size (hb0_ HB.out)) : w.heap.size ≤ gb135));have GE135:=k0_ ((by rw [hg];exact (below_size (hb0_ HB.out)) : w.heap.size ≤ gb135));replace HB:=k0_ (below_step (hb0_ HB.out) hb);clear hb hbox hg;obtain ⟨hcz23_0,hcz23_1,hcz23_2⟩:=bc3_ BK135.out;obtain ⟨hfz23_0,hfz23_1,hfz23_2⟩:=bf3_ BK135.out)|((with_reducible refine gate_callee (f:=16) rfl ?_);refine goesL_ (some 34) rfl rfl Try.func16 (by kernel_rfl) rfl #[.int .i64 ((rd_T32 l0 x28_2).f1), .int .i64 0, .int .i64 100000] rfl mt_ ?_;(with_reducible refine (gridhallref3_In.calls ((rd_T32 l0 x28_2).f1) 0 100000 false _ A18.out).mono ?_);rintro e w' ⟨rfl, ⟨nd, rfl⟩⟩;refine ⟨_, rfl, ?_⟩))
     go_ret
     exact ⟨er_, hb1_ HB.out GE135.out⟩
   ·rw [if_neg c15] at H
    have c15b0:=decide_eq_false c15;clear c15;obtain rfl:=Option.some.inj H;go_wp2
    go_ret
    exact ⟨er_, hb0_ HB.out⟩
  ·go_ret
   exact ⟨er_, hb0_ HB.out⟩

/-! ### gridhallref3_All: function 15 -/
def gridhallref3_All.f (k : Nat) (a0_0 : ByteArray) (l0_1 : List (S41)) : Option (Int) := (gridhallref3_Before.f k a0_0 l0_1 (l0_1.length : Int)).bind fun t138 => (some t138)
theorem gridhallref3_All.mono : ∀ a0 a1 k, LeO (gridhallref3_All.f k a0 a1) (gridhallref3_All.f (k + 1) a0 a1) := by
 intro a0 a1 k
 unfold gridhallref3_All.f
 repeat' first|(with_reducible first|exact gridhallref3_Before.mono _ _ _ _|exact LeO.refl _|exact LeO.none _|refine LeO.ite ?_ ?_|refine LeO.bind ?_ (fun _=>?_))|exact gridhallref3_Before.mono _ _ _ _|exact LeO.none _|refine LeO.ite ?_ ?_|refine LeO.bind ?_ (fun _=>?_)
set_option maxHeartbeats 8000000 in
set_option maxRecDepth 100000 in
theorem gridhallref3_All.calls (k : Nat) (a0_0 : ByteArray) (A0_1 : Option Addr) (c0_1 : Nat) (l0_1 : List (S41)) (r : Int) (w : World) (hr0_1 : Kd.C k41 w A0_1 l0_1.length l0_1) (hc0_1 : l0_1.length ≤ c0_1) (h : gridhallref3_All.f k a0_0 l0_1 = some r) :
  Calls Try.prog 15 #[.agg #[.string a0_0, .slice A0_1 l0_1.length c0_1]] w fun e w' => e = .returned (.int .i64 r) ∧ Below w.heap.size w w' := by
 have hu29:=Try.underlying29;have HR0_1:=k0_ hr0_1;have HC0_1:=k0_ hc0_1;clear hr0_1 hc0_1;have HB:=k0_ (Below.refl w.heap.size w);have H : ((gridhallref3_Before.f k a0_0 l0_1 (l0_1.length : Int)).bind fun t138=>(some t138)) = some r:=h;clear h;replace H:=Option.bind_eq_some_iff.mp H;obtain ⟨t138, A20, H⟩:=H;replace H : (some t138) = some r:=H;have A2:=k0_ A20;clear A20;obtain rfl:=Option.some.inj H
 go_enter Try.func15, Try.ntmps15
 go_wp2_with (first|((with_reducible refine gate_dst (N:=1) rfl ?_);refine box_event ?hg (N:=1) ?hd (cs:=#[.string a0_0, .slice A0_1 l0_1.length c0_1]) (t:=29) ?hr ?_;(case hd=>rfl);(case hg=>rfl);(case hr=>first|(go_simp;done)|(go_simp;rfl));intro gb137 hg w3 hbox hb;have BK137:=k0_ (hbox);have GW137:=k0_ ((by rw [hg];exact (below_size (hb0_ HB.out)) : w.heap.size ≤ gb137));have GE137:=k0_ ((by rw [hg];exact (below_size (hb0_ HB.out)) : w.heap.size ≤ gb137));replace HB:=k0_ (below_step (hb0_ HB.out) hb);clear hb hbox hg;obtain ⟨hcz4_0,hcz4_1⟩:=bc2_ BK137.out;obtain ⟨hfz4_0,hfz4_1⟩:=bf2_ BK137.out)|((with_reducible refine gate_callee (f:=38) rfl ?_);refine goesL_ (some 7) rfl rfl Try.func38 (by kernel_rfl) rfl #[.agg #[.string a0_0, .slice A0_1 l0_1.length c0_1], .int .i64 (l0_1.length : Int)] rfl mt_ ?_;(with_reducible refine (gridhallref3_Before.calls k a0_0 _ _ l0_1 (l0_1.length : Int) t138 _ ?side1 ?side2 A2.out).mono ?_);(case side1=>repeat (first|exact (Kd.C_below HR0_1.out HB.out)|(with_reducible refine Kd.C_alloc ?_ _)|(with_reducible refine Kd.C_drewN ?_ _)|(with_reducible refine Kd.C_drew ?_)));(case side2=>exact HC0_1.out);rintro e w5 ⟨rfl, hb⟩;refine ⟨_, rfl, ?_⟩;replace BK137:=k0_ (blk_below (g:=gb137) (o:=.cells #[.string a0_0, .slice A0_1 l0_1.length c0_1] 29 (0, 0)) (bq_ BK137.out) hb);replace HB:=k0_ (below_step (hb1_ HB.out GE137.out) hb);(try clear hb);(try clear hb2);(try clear hk);(try clear hi)))
 go_ret
 exact ⟨er_, hb1_ HB.out GE137.out⟩

/-! ### offer_named: function 68 -/
mutual
def offer_named.j0 : Nat → ByteArray → Bool → Option (Bool)
 | 0, _, _ => none
 | k + 1, x0, x20 => if x20 = true then (some false) else (offer_named.l0 k x0 (x0.size : Int) 0)
def offer_named.l0 : Nat → ByteArray → Int → Int → Option (Bool)
 | 0, _, _, _ => none
 | k + 1, x0, x22, x23 => if x23 < x22 then (if 0 ≤ x23 then (if x23 < (x0.size : Int) then (if (bt x0 x23) < 65 then (if (bt x0 x23) < 48 then (some false) else (if (bt x0 x23) > 57 then (some false) else (offer_named.l0 k x0 x22 (wrap64 (x23 + 1))))) else (if (bt x0 x23) > 90 then (if (bt x0 x23) < 48 then (some false) else (if (bt x0 x23) > 57 then (some false) else (offer_named.l0 k x0 x22 (wrap64 (x23 + 1))))) else (offer_named.l0 k x0 x22 (wrap64 (x23 + 1))))) else (none)) else (none)) else (some true)
end
def offer_named.f (k : Nat) (a0 : ByteArray) : Option (Bool) := if a0.toList = ([] : List UInt8) then (offer_named.j0 k a0 true) else (if (a0.size : Int) > 8 then (offer_named.j0 k a0 true) else (if 0 < (a0.size : Int) then (if (bt a0 0) ≥ 48 then (offer_named.j0 k a0 (decide ((bt a0 0) ≤ 57))) else (offer_named.j0 k a0 false)) else (none)))
theorem offer_named.mono_l : ∀ k, (∀ y0 y1, LeO (offer_named.j0 k y0 y1) (offer_named.j0 (k + 1) y0 y1)) ∧ (∀ y0 y1 y2, LeO (offer_named.l0 k y0 y1 y2) (offer_named.l0 (k + 1) y0 y1 y2))
 | 0 => ⟨fun _ _ r h => by simp [offer_named.j0] at h, fun _ _ _ r h => by simp [offer_named.l0] at h⟩
 | k + 1 => by
  obtain ⟨ih0, ih1⟩:=offer_named.mono_l k
  refine ⟨?_, ?_⟩
  ·intro y0 y1
   unfold offer_named.j0
   repeat' first|(with_reducible first|exact ih0 _ _|exact ih1 _ _ _|exact LeO.refl _|exact LeO.none _|refine LeO.ite ?_ ?_|refine LeO.bind ?_ (fun _=>?_))|exact ih0 _ _|exact ih1 _ _ _|exact LeO.none _|refine LeO.ite ?_ ?_|refine LeO.bind ?_ (fun _=>?_)
  ·intro y0 y1 y2
   unfold offer_named.l0
   repeat' first|(with_reducible first|exact ih0 _ _|exact ih1 _ _ _|exact LeO.refl _|exact LeO.none _|refine LeO.ite ?_ ?_|refine LeO.bind ?_ (fun _=>?_))|exact ih0 _ _|exact ih1 _ _ _|exact LeO.none _|refine LeO.ite ?_ ?_|refine LeO.bind ?_ (fun _=>?_)
theorem offer_named.mono : ∀ a0 k, LeO (offer_named.f k a0) (offer_named.f (k + 1) a0) := by
 intro a0 k
 obtain ⟨ih0, ih1⟩:=offer_named.mono_l k
 unfold offer_named.f
 repeat' first|(with_reducible first|exact ih0 _ _|exact ih1 _ _ _|exact LeO.refl _|exact LeO.none _|refine LeO.ite ?_ ?_|refine LeO.bind ?_ (fun _=>?_))|exact ih0 _ _|exact ih1 _ _ _|exact LeO.none _|refine LeO.ite ?_ ?_|refine LeO.bind ?_ (fun _=>?_)
set_option maxHeartbeats 8000000 in
set_option maxRecDepth 100000 in
theorem offer_named.calls (k : Nat) (a0 : ByteArray) (r : Bool) (w : World) (h : offer_named.f k a0 = some r) :
  Calls Try.prog 68 #[.string a0] w fun e w' => e = .returned (.bool r) ∧ Drawn0 w w' := by
 have H : (if a0.toList = ([] : List UInt8) then (offer_named.j0 k a0 true) else (if (a0.size : Int) > 8 then (offer_named.j0 k a0 true) else (if 0 < (a0.size : Int) then (if (bt a0 0) ≥ 48 then (offer_named.j0 k a0 (decide ((bt a0 0) ≤ 57))) else (offer_named.j0 k a0 false)) else (none)))) = some r:=h;clear h;have HC2:=k0_ H;clear H
 go_enter Try.func68, Try.ntmps68
 go_upto_region 1 with (fail)
 go_cut [20] (fun v20 wc=>∃ (kq : Nat) (x20_1 : Bool), v20 = .bool x20_1∧Aside0 (offer_named.j0 kq a0 x20_1 = some r)∧Aside0 (kq ≤ k)∧Drawn0 w wc)
 case first =>
  have H:=HC2.out;clear HC2
  by_cases c3 : a0.toList = ([] : List UInt8)
  ·rw [if_pos c3] at H
   have c3b0:=beq_iff_eq.mpr c3;have c3b1:=bne_eq_false_iff_eq.mpr c3;clear c3;(first|rw [c3b0]|(simp only [i64_w, i32_w];rw [c3b0])|skip);have H':=k0_ H;clear H;go_wp2
   go_meet
   case rel=>exact ⟨_, (true),rs_, H', ⟨by first|omega|exact Nat.le_refl _⟩, by repeat (first|exact Drawn0.refl _|apply Drawn0.step)⟩
  ·rw [if_neg c3] at H
   have c3b0:=beq_eq_false_iff_ne.mpr c3;have c3b1:=bne_iff_ne.mpr c3;(first|rw [c3b0]|(simp only [i64_w, i32_w];rw [c3b0])|skip)
   by_cases c4 : (a0.size : Int) > 8
   ·rw [if_pos c4] at H
    have c4b0:=decide_eq_true c4;have c4b1 : decide (8 < a0.size) = true:=decide_eq_true (by omega);clear c4;have H':=k0_ H;clear H;go_wp2
    go_meet
    case rel=>exact ⟨_, (true),rs_, H', ⟨by first|omega|exact Nat.le_refl _⟩, by repeat (first|exact Drawn0.refl _|apply Drawn0.step)⟩
   ·rw [if_neg c4] at H
    have c4b0:=decide_eq_false c4;have c4b1 : decide (8 < a0.size) = false:=decide_eq_false (by omega);clear c4
    by_cases c5 : 0 < (a0.size : Int)
    rw [if_pos c5] at H;have c5b0:=decide_eq_true c5;have c5b1 : decide (0 < a0.size) = true:=decide_eq_true (by omega);clear c5
    focus
     by_cases c7 : (bt a0 0) ≥ 48
     rw [if_pos c7] at H;have c7b0:=decide_eq_true c7;clear c7;have H':=k0_ H;clear H;rotate_left;rw [if_neg c7] at H;have c7b0:=decide_eq_false c7;clear c7;have H':=k0_ H;clear H;rotate_left
    rotate_left 2;rw [if_neg c5] at H
    exact absurd H (by simp)
    all_goals
     have p6 : 0 ≤ (0 : Int):=(by omega);have q6 : 0 < a0.size:=(by have : (0 : Int) < (a0.size : Int):=of_decide_eq_true as_;omega);have hx6 : ∀ h : 0 < a0.size, ((a0[0]'h).toNat : Int) = bt a0 0:=bt_at a0 0;clear p6;have qi6 : (0 < (a0.size : Int)) = True:=eq_true (of_decide_eq_true as_);replace q6:=eq_true q6
    ·have p8 : 0 ≤ (0 : Int):=(by omega)
     have q8 : 0 < a0.size:=(by have : (0 : Int) < (a0.size : Int):=of_decide_eq_true as_;omega);have hx8 : ∀ h : 0 < a0.size, ((a0[0]'h).toNat : Int) = bt a0 0:=bt_at a0 0;clear p8;have qi8 : (0 < (a0.size : Int)) = True:=eq_true (of_decide_eq_true as_);replace q8:=eq_true q8;go_wp2
     go_meet
     case rel=>exact ⟨_, (decide ((bt a0 0) ≤ 57)),rs_, H', ⟨by first|omega|exact Nat.le_refl _⟩, by repeat (first|exact Drawn0.refl _|apply Drawn0.step)⟩
    ·go_wp2
     go_meet
     case rel=>exact ⟨_, (false),rs_, H', ⟨by first|omega|exact Nat.le_refl _⟩, by repeat (first|exact Drawn0.refl _|apply Drawn0.step)⟩
 clear HC2;(try clear p2);(try clear c3);(try clear c3b0);(try clear c3b1);(try clear c4);(try clear c4b0);(try clear c4b1);(try clear c5);(try clear c5b0);(try clear c5b1);(try clear c6);(try clear p6);(try clear q6);(try clear hx6);(try clear qi6);(try clear c7);(try clear c7b0);(try clear p8);(try clear q8);(try clear hx8);(try clear qi8);(try clear p6);(try clear p8);(try clear q6);(try clear q8);obtain ⟨kq, x20_1, rfl, HA, HJ1, ⟨mc1, rfl⟩⟩:=hcut;obtain _|kj1:=kq
 ·exact absurd HA.out (by simp [offer_named.j0])
 have H:=HA.out;clear HA;simp only [offer_named.j0] at H
 by_cases c9 : x20_1 = true
 ·subst c9
  have H1 : (some false) = some r:=by rw [if_pos rfl] at H;exact H
  clear H;have H:=H1;clear H1;obtain rfl:=Option.some.inj H;go_wp2
  go_ret
  exact ⟨by first|rfl|(simp;done)|(simp [*];done), by repeat (first|exact Drawn0.refl _|apply Drawn0.step)⟩
 ·replace c9:=Bool.eq_false_iff.mpr c9
  subst c9;have H1 : (offer_named.l0 kj1 a0 (a0.size : Int) 0) = some r:=by rw [if_neg (show ¬ (false = true) by decide)] at H;exact H
  clear H;have H:=H1;clear H1;have H':=k0_ H;clear H;go_wp2;(try simp only [Act.put, q1_,q3_,q2_])
  go_loopg [23] kj1 (fun kq v23 w'=>∃ (x23_2 : Int), v23 = .int .i64 x23_2∧Aside0 (offer_named.l0 kq a0 (a0.size : Int) x23_2 = some r)∧Aside0 (kq ≤ kj1)∧Drawn0 w w')
  case atStart=>exact ⟨(0),rs_, H', ⟨Nat.le_refl _⟩, by repeat (first|exact Drawn0.refl _|apply Drawn0.step)⟩
  clear H';(try clear c1);(try clear p2);(try clear c3);(try clear c3b0);(try clear c3b1);(try clear c4);(try clear c4b0);(try clear c4b1);(try clear c5);(try clear c5b0);(try clear c5b1);(try clear c6);(try clear p6);(try clear q6);(try clear hx6);(try clear qi6);(try clear c7);(try clear c7b0);(try clear p8);(try clear q8);(try clear hx8);(try clear qi8);(try clear c9);(try clear p2);(try clear p6);(try clear p8);(try clear q6);(try clear q8);obtain ⟨x23_2, rfl, HA, HK2, ⟨m2, rfl⟩⟩:=hrel;obtain _|k2:=gk
  ·exact absurd HA.out (by simp [offer_named.l0])
  have H:=HA.out;clear HA;simp only [offer_named.l0] at H
  by_cases c10 : x23_2 < (a0.size : Int)
  ·rw [if_pos c10] at H
   have c10b0:=decide_eq_true c10;clear c10
   by_cases c11 : 0 ≤ x23_2
   rw [if_pos c11] at H;have c11b0:=decide_eq_true c11;clear c11
   focus
    by_cases c12 : x23_2 < (a0.size : Int)
    rw [if_pos c12] at H;have c12b0:=decide_eq_true c12;clear c12
    focus
     by_cases c14 : (bt a0 x23_2) < 65
     rw [if_pos c14] at H;have c14b0:=decide_eq_true c14;clear c14
     focus
      by_cases c16 : (bt a0 x23_2) < 48
      rw [if_pos c16] at H;have c16b0:=decide_eq_true c16;clear c16;obtain rfl:=Option.some.inj H;rotate_left;rw [if_neg c16] at H;have c16b0:=decide_eq_false c16;clear c16
      focus
       by_cases c18 : (bt a0 x23_2) > 57
       rw [if_pos c18] at H;have c18b0:=decide_eq_true c18;clear c18;obtain rfl:=Option.some.inj H;rotate_left;rw [if_neg c18] at H;have c18b0:=decide_eq_false c18;clear c18;have H':=k0_ H;clear H;rotate_left
      rotate_left 2
     rotate_left 3;rw [if_neg c14] at H;have c14b0:=decide_eq_false c14;clear c14
     focus
      by_cases c20 : (bt a0 x23_2) > 90
      rw [if_pos c20] at H;have c20b0:=decide_eq_true c20;clear c20
      focus
       by_cases c22 : (bt a0 x23_2) < 48
       rw [if_pos c22] at H;have c22b0:=decide_eq_true c22;clear c22;obtain rfl:=Option.some.inj H;rotate_left;rw [if_neg c22] at H;have c22b0:=decide_eq_false c22;clear c22
       focus
        by_cases c24 : (bt a0 x23_2) > 57
        rw [if_pos c24] at H;have c24b0:=decide_eq_true c24;clear c24;obtain rfl:=Option.some.inj H;rotate_left;rw [if_neg c24] at H;have c24b0:=decide_eq_false c24;clear c24;have H':=k0_ H;clear H;rotate_left
       rotate_left 2
      rotate_left 3;rw [if_neg c20] at H;have c20b0:=decide_eq_false c20;clear c20;have H':=k0_ H;clear H;rotate_left
     rotate_left 4
    rotate_left 7;rw [if_neg c12] at H
    exact absurd H (by simp)
   rotate_left 7;rw [if_neg c11] at H
   exact absurd H (by simp)
   all_goals
    have p13 : 0 ≤ (x23_2 : Int):=of_decide_eq_true as_;have q13 : x23_2 < (a0.size : Int):=of_decide_eq_true as_;have hx13:=bt_at a0 x23_2;replace p13:=eq_true p13;replace q13:=eq_true q13;have p15 : 0 ≤ (x23_2 : Int):=of_decide_eq_true as_;have q15 : x23_2 < (a0.size : Int):=of_decide_eq_true as_;have hx15:=bt_at a0 x23_2;replace p15:=eq_true p15;replace q15:=eq_true q15
   ·go_wp2
    go_ret
    exact ⟨by first|rfl|(simp;done)|(simp [*];done), by repeat (first|exact Drawn0.refl _|apply Drawn0.step)⟩
   ·have p17 : 0 ≤ (x23_2 : Int):=of_decide_eq_true as_
    have q17 : x23_2 < (a0.size : Int):=of_decide_eq_true as_;have hx17:=bt_at a0 x23_2;replace p17:=eq_true p17;replace q17:=eq_true q17;go_wp2
    go_ret
    exact ⟨by first|rfl|(simp;done)|(simp [*];done), by repeat (first|exact Drawn0.refl _|apply Drawn0.step)⟩
   ·have p17 : 0 ≤ (x23_2 : Int):=of_decide_eq_true as_
    have q17 : x23_2 < (a0.size : Int):=of_decide_eq_true as_;have hx17:=bt_at a0 x23_2;replace p17:=eq_true p17;replace q17:=eq_true q17;go_wp2
    go_roundg k2
    case measure=>have:=HJ1.out;have:=HK2.out;omega
    case rel=>exact ⟨(wrap64 (x23_2 + 1)),rs_, H', ⟨by have:=HJ1.out;have:=HK2.out;omega⟩, by repeat (first|exact Drawn0.refl _|apply Drawn0.step)⟩
   ·have p21 : 0 ≤ (x23_2 : Int):=of_decide_eq_true as_
    have q21 : x23_2 < (a0.size : Int):=of_decide_eq_true as_;have hx21:=bt_at a0 x23_2;replace p21:=eq_true p21;replace q21:=eq_true q21;go_wp2
    go_ret
    exact ⟨by first|rfl|(simp;done)|(simp [*];done), by repeat (first|exact Drawn0.refl _|apply Drawn0.step)⟩
   ·have p21 : 0 ≤ (x23_2 : Int):=of_decide_eq_true as_
    have q21 : x23_2 < (a0.size : Int):=of_decide_eq_true as_;have hx21:=bt_at a0 x23_2;replace p21:=eq_true p21;replace q21:=eq_true q21;have p23 : 0 ≤ (x23_2 : Int):=of_decide_eq_true as_;have q23 : x23_2 < (a0.size : Int):=of_decide_eq_true as_;have hx23:=bt_at a0 x23_2;replace p23:=eq_true p23;replace q23:=eq_true q23;go_wp2
    go_ret
    exact ⟨by first|rfl|(simp;done)|(simp [*];done), by repeat (first|exact Drawn0.refl _|apply Drawn0.step)⟩
   ·have p21 : 0 ≤ (x23_2 : Int):=of_decide_eq_true as_
    have q21 : x23_2 < (a0.size : Int):=of_decide_eq_true as_;have hx21:=bt_at a0 x23_2;replace p21:=eq_true p21;replace q21:=eq_true q21;have p23 : 0 ≤ (x23_2 : Int):=of_decide_eq_true as_;have q23 : x23_2 < (a0.size : Int):=of_decide_eq_true as_;have hx23:=bt_at a0 x23_2;replace p23:=eq_true p23;replace q23:=eq_true q23;go_wp2
    go_roundg k2
    case measure=>have:=HJ1.out;have:=HK2.out;omega
    case rel=>exact ⟨(wrap64 (x23_2 + 1)),rs_, H', ⟨by have:=HJ1.out;have:=HK2.out;omega⟩, by repeat (first|exact Drawn0.refl _|apply Drawn0.step)⟩
   ·go_wp2
    go_roundg k2
    case measure=>have:=HJ1.out;have:=HK2.out;omega
    case rel=>exact ⟨(wrap64 (x23_2 + 1)),rs_, H', ⟨by have:=HJ1.out;have:=HK2.out;omega⟩, by repeat (first|exact Drawn0.refl _|apply Drawn0.step)⟩
  ·rw [if_neg c10] at H
   have c10b0:=decide_eq_false c10;clear c10;obtain rfl:=Option.some.inj H;go_wp2
   go_ret
   exact ⟨by first|rfl|(simp;done)|(simp [*];done), by repeat (first|exact Drawn0.refl _|apply Drawn0.step)⟩

end Go.Proofs.Ytekpnmeikibioaa.PReserveBest
