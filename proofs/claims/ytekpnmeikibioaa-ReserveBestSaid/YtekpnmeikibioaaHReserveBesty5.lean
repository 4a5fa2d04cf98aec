/- Contracts of functions that ReserveBest reaches, a text of this session's own. -/
import Derived.Test.YtekpnmeikibioaaBox2
import Derived.Test.YtekpnmeikibioaaHReserveBesty0
import Derived.Test.YtekpnmeikibioaaHReserveBesty4
namespace Go.Proofs.Ytekpnmeikibioaa.PReserveBest
open Go.RowKit Go.Proofs.YtekpnmeikibioaaW.PrintWords Go.Proofs.YtekpnmeikibioaaW.PrintLast Go.Proofs.YtekpnmeikibioaaW.PrintMore
attribute [local go_sem] max2_int min2_int max_two min_two max_three min_three max_four min_four   -- for this text's walks alone
set_option linter.unusedVariables false
set_option linter.unusedSimpArgs false

/-! ### reserve_Check: function 14 -/
mutual
def reserve_Check.l0 : Nat → List (S32) → List (S29) → List (S32) → Int → Int → Option (Int)
 | 0, _, _, _, _, _ => none
 | k + 1, x0, x3, x9, x10, x11 => if x11 < x10 then (if 0 ≤ x11 then (if x11 < (x9.length : Int) then (if x3.length < 3518437208883 then (reserve_Check.l0 k x0 (x3 ++ [(⟨(rd_T32 x9 x11).f0.f0, (rd_T32 x9 x11).f0.f1⟩ : S29)]) x9 x10 (wrap64 (x11 + 1))) else (none)) else (none)) else (none)) else ((offer_CheckAll.f k x3).bind fun t158 => (if t158 = 0 then (reserve_Check.l1 k x0 (x0.length : Int) 0) else (some t158)))
def reserve_Check.l1 : Nat → List (S32) → Int → Int → Option (Int)
 | 0, _, _, _ => none
 | k + 1, x26, x27, x28 => if x28 < x27 then (if 0 ≤ x28 then (if x28 < (x26.length : Int) then (if ((rd_T32 x26 x28).f1) < 0 then (some 4) else (if ((rd_T32 x26 x28).f1) > 100000 then (some 4) else (reserve_Check.l1 k x26 x27 (wrap64 (x28 + 1))))) else (none)) else (none)) else (some 0)
end
def reserve_Check.f (k : Nat) (l0 : List (S32)) : Option (Int) := reserve_Check.l0 k l0 ([] : List (S29)) l0 (l0.length : Int) 0
theorem reserve_Check.mono_l : ∀ k, (∀ y0 y1 y2 y3 y4, LeO (reserve_Check.l0 k y0 y1 y2 y3 y4) (reserve_Check.l0 (k + 1) y0 y1 y2 y3 y4)) ∧ (∀ y0 y1 y2, LeO (reserve_Check.l1 k y0 y1 y2) (reserve_Check.l1 (k + 1) y0 y1 y2))
 | 0 => ⟨fun _ _ _ _ _ r h => by simp [reserve_Check.l0] at h, fun _ _ _ r h => by simp [reserve_Check.l1] at h⟩
 | k + 1 => by
  obtain ⟨ih0, ih1⟩:=reserve_Check.mono_l k
  refine ⟨?_, ?_⟩
  ·intro y0 y1 y2 y3 y4
   unfold reserve_Check.l0
   repeat' first|(with_reducible first|exact ih0 _ _ _ _ _|exact ih1 _ _ _|exact offer_CheckAll.mono _ _|exact LeO.refl _|exact LeO.none _|refine LeO.ite ?_ ?_|refine LeO.bind ?_ (fun _=>?_))|exact ih0 _ _ _ _ _|exact ih1 _ _ _|exact offer_CheckAll.mono _ _|exact LeO.none _|refine LeO.ite ?_ ?_|refine LeO.bind ?_ (fun _=>?_)
  ·intro y0 y1 y2
   unfold reserve_Check.l1
   repeat' first|(with_reducible first|exact ih0 _ _ _ _ _|exact ih1 _ _ _|exact offer_CheckAll.mono _ _|exact LeO.refl _|exact LeO.none _|refine LeO.ite ?_ ?_|refine LeO.bind ?_ (fun _=>?_))|exact ih0 _ _ _ _ _|exact ih1 _ _ _|exact offer_CheckAll.mono _ _|exact LeO.none _|refine LeO.ite ?_ ?_|refine LeO.bind ?_ (fun _=>?_)
theorem reserve_Check.mono : ∀ a0 k, LeO (reserve_Check.f k a0) (reserve_Check.f (k + 1) a0) := by
 intro a0 k
 obtain ⟨ih0, ih1⟩:=reserve_Check.mono_l k
 unfold reserve_Check.f
 repeat' first|(with_reducible first|exact ih0 _ _ _ _ _|exact ih1 _ _ _|exact offer_CheckAll.mono _ _|exact LeO.refl _|exact LeO.none _|refine LeO.ite ?_ ?_|refine LeO.bind ?_ (fun _=>?_))|exact ih0 _ _ _ _ _|exact ih1 _ _ _|exact offer_CheckAll.mono _ _|exact LeO.none _|refine LeO.ite ?_ ?_|refine LeO.bind ?_ (fun _=>?_)
set_option maxHeartbeats 8000000 in
set_option maxRecDepth 100000 in
theorem reserve_Check.calls (k : Nat) (P0_ : Nat → Prop) (A0 : Option Addr) (c0 : Nat) (l0 : List (S32)) (r : Int) (w : World) (hs0 : Kd.V k32 32 w w.heap.size (fun k_ => P0_ k_) (.slice A0 l0.length c0) l0) (h : reserve_Check.f k l0 = some r) :
  Calls Try.prog 14 #[.slice A0 l0.length c0] w fun e w' => e = .returned (.int .i64 r) ∧ Below w.heap.size w w' := by
 have hu32:=Try.underlying32;have hu29:=Try.underlying29;have HO0:=k0_ (show Kd.V k32 32 w w.heap.size (fun k_=>(P0_ k_ ∨ w.heap.size ≤ k_)) (.slice A0 l0.length c0) l0 from Kd.V_mono hs0 (fun k_ hk=>.inl hk));have HB:=k0_ (Below.refl w.heap.size w);have H : (reserve_Check.l0 k l0 ([] : List (S29)) l0 (l0.length : Int) 0) = some r:=h;clear h;have H':=k0_ H;clear H
 go_enter Try.func14, Try.ntmps14
 go_wp2;(try simp only [Act.put, q1_,q3_,q2_])
 go_loopg [3, 11] k (fun kq v3 v11 w'=>∃ (x3_1 : List (S29)) (x11_1 : Int), v11 = .int .i64 x11_1∧Aside0 (reserve_Check.l0 kq l0 x3_1 l0 (l0.length : Int) x11_1 = some r)∧Aside0 (kq ≤ k)∧Aside0 (Kd.V k32 32 w' w.heap.size (fun k_=>(P0_ k_ ∨ w.heap.size ≤ k_)∧some k_ ≠ (v3 : Value).ownBlock) (.slice A0 l0.length c0) l0)∧Aside0 (Kd.N k29 29 w' w.heap.size (fun k_=>(P0_ k_ ∨ w.heap.size ≤ k_)) v3 x3_1)∧Aside0 (Kd.V k32 32 w' w.heap.size (fun k_=>(P0_ k_ ∨ w.heap.size ≤ k_)∧some k_ ≠ (v3 : Value).ownBlock) (.slice A0 l0.length c0) l0)∧Aside0 (Below w.heap.size w w'))
 case atStart=>exact ⟨(([] : List (S29))),(0),rs_, H', ⟨Nat.le_refl _⟩,⟨by (with_reducible repeat (first|apply Kd.V_alloc|apply Kd.V_drewN|apply Kd.V_drew));exact Kd.V_mono HO0.out (fun _ hk=>⟨hk, (by simp [Value.ownBlock])⟩)⟩,⟨by first|exact Kd.S_nil _ _ _ _ _|exact Kd.N_nil _ _ _ _ _|exact Kd.V_nil _ _ _ _ _|exact Kd.Q_nil _ _ _ _ _|exact Kd.R_nil _ _ _ _ _⟩,⟨by (with_reducible repeat (first|apply Kd.V_alloc|apply Kd.V_drewN|apply Kd.V_drew));exact Kd.V_mono HO0.out (fun _ hk=>⟨hk, (by simp [Value.ownBlock])⟩)⟩,⟨hb0_ HB.out⟩⟩
 clear H';(try clear c1);obtain ⟨x3_1, x11_1, rfl, HA, HK1, HO_0, HO_3, HO_9, HB⟩:=hrel;obtain _|k1:=gk
 ·exact absurd HA.out (by simp [reserve_Check.l0])
 have H:=HA.out;clear HA;simp only [reserve_Check.l0] at H
 by_cases c2 : x11_1 < (l0.length : Int)
 ·rw [if_pos c2] at H
  have c2b0:=decide_eq_true c2;clear c2
  obtain ⟨c3,H⟩:=gi_ H;have c3b0:=decide_eq_true c3;clear c3
  obtain ⟨c4,H⟩:=gi_ H;have c4b0:=decide_eq_true c4;clear c4
  obtain ⟨c5,H⟩:=gi_ H;have LMc5:=k0_ c5;clear c5;obtain ⟨y155, hy155⟩ : ∃ y_ : List (S29), y_ = (x3_1 ++ [(⟨(rd_T32 l0 x11_1).f0.f0, (rd_T32 l0 x11_1).f0.f1⟩ : S29)]):=⟨_, rfl⟩;replace H : (reserve_Check.l0 k1 l0 y155 l0 (l0.length : Int) (wrap64 (x11_1 + 1))) = some r:=by first|(rw [hy155];with_reducible exact H)|(have H2_:=(Option.bind_some _ _).symm.trans H;rw [hy155];with_reducible exact H2_)|(have H2_:=(Option.bind_some _ _).symm.trans H;with_reducible exact H2_)|with_reducible exact H|(rw [hy155];exact H)|exact H
  have Ny155:=k0_ hy155;clear hy155;have H':=k0_ H;clear H;have p153 : 0 ≤ (x11_1 : Int):=of_decide_eq_true as_;have q153 : x11_1 < (l0.length : Int):=of_decide_eq_true as_;obtain ⟨ad153, A153_1, c153_1, e153, hx153_0, hx153_1, hx153_2, hl153_1, hi153_1⟩:=at_T32 (Kd.V_reads' HO_9.out).2.2 x11_1 p153 q153;cases e153;obtain ⟨ce153, hce153, hMe153, hcc153⟩:=Kd.V_get HO_9.out z32 x11_1 p153 (by first|exact q153|exact of_decide_eq_true as_|(have e_:=(Kd.V_reads' HO_9.out).1;omega));obtain ⟨ua153_1, uc153_1, rfl, ul153_1, ge153_1⟩:=k32_openF hMe153;have hv153_1:=hcc153 1 _ rfl;rw [add_field _ _ 1 (by omega)] at hv153_1;replace hv153_1:=Option.some.inj (hv153_1.symm.trans hx153_1)
  injection hv153_1 with hva_ hvn_ hvc_
  rw [hva_] at ge153_1;rw [hvc_] at ul153_1;have HL153_1:=k0_ (show Kd.V k41 41 _ w.heap.size _ _ ((rd_T32 l0 x11_1).f0.f1) from Kd.V_mk ul153_1 ge153_1);clear hva_ hvn_ hvc_ ge153_1 ul153_1;clear hcc153 hce153;have HR153_1:=k0_ hi153_1;have HC153_1:=k0_ hl153_1;clear hi153_1 hl153_1;replace p153:=eq_true p153;replace q153:=eq_true q153
  go_wp2_with (first|((with_reducible refine gate_dst (N:=5) rfl ?_);refine box_event ?hg (N:=5) ?hd (cs:=#[.string (⟨#[]⟩ : ByteArray), .slice none 0 0, .int .i64 0]) (t:=32) ?hr ?_;(case hd=>rfl);(case hg=>rfl);(case hr=>first|(go_simp;done)|(go_simp;rfl));intro gb154 hg w6 hbox hb;replace HO_0:=k0_ (Kd.V_below (Kd.V_elderB (vq_ HO_0.out) gb154 (Nat.le_of_eq hg.symm)) hb);replace HO_3:=k0_ (Kd.N_below (Kd.N_elderB (nq_ HO_3.out) gb154 (Nat.le_of_eq hg.symm)) hb);replace HO_9:=k0_ (Kd.V_below (Kd.V_elderB (vq_ HO_9.out) gb154 (Nat.le_of_eq hg.symm)) hb);replace HL153_1:=k0_ (Kd.V_below (Kd.V_elderB (vq_ HL153_1.out) gb154 (Nat.le_of_eq hg.symm)) hb);replace HR153_1:=k0_ (Kd.C_below (by repeat (first|(with_reducible exact HR153_1.out)|(with_reducible refine Kd.C_alloc ?_ _)|(with_reducible refine Kd.C_drewN ?_ _)|(with_reducible refine Kd.C_drew ?_)|exact HR153_1.out)) hb);have BK154:=k0_ (hbox);have GW154:=k0_ ((by rw [hg];exact (below_size (hb0_ HB.out)) : w.heap.size ≤ gb154));have GE154:=k0_ ((by rw [hg];exact (below_size (hb0_ HB.out)) : w.heap.size ≤ gb154));replace HB:=k0_ (below_step (hb0_ HB.out) hb);clear hb hbox hg;obtain ⟨hcz7_0,hcz7_1,hcz7_2⟩:=bc3_ BK154.out;obtain ⟨hfz7_0,hfz7_1,hfz7_2⟩:=bf3_ BK154.out)|((with_reducible refine gate_store (t:=32) (p:=5) rfl ?_);refine store_event (t:=32) (p:=5) (v:=?vo_w8) (w1:=(((w6.setCell ⟨gb154, 0, none⟩ (.string ((rd_T32 l0 x11_1).f0.f0))).setCell ⟨gb154, 1, none⟩ (.slice A153_1 ((rd_T32 l0 x11_1).f0.f1).length c153_1)).setCell ⟨gb154, 2, none⟩ (.int .i64 ((rd_T32 l0 x11_1).f1)))) ?hg ?ho ?hn ?hr ?_;(case ho=>rfl);(case hg=>rfl);(case hn=>rfl);(case hr=>first|(go_simp;done)|(go_simp;rfl));intro w8 hw;have n0_ : Aside0 (Kd.V k32 32 w8 w.heap.size (fun k_=>(P0_ k_ ∨ w.heap.size ≤ k_)∧some k_ ≠ (u3 : Value).ownBlock∧k_ ≠ gb154) (.slice (some ad153) l0.length c0) l0):=⟨(by rw [hw];exact (by (with_reducible repeat (first|apply Kd.V_alloc|apply Kd.V_drewN|apply Kd.V_drew));exact Kd.V_mono (Kd.V_far (p:=⟨gb154, 2, none⟩) (Kd.V_far (p:=⟨gb154, 1, none⟩) (Kd.V_far (p:=⟨gb154, 0, none⟩) (Kd.V_mono HO_0.out (fun k_ hk=>(⟨hk, hk.2⟩ : _∧k_ ≠ gb154))) (fun _ hk=>hk.2) (.string ((rd_T32 l0 x11_1).f0.f0))) (fun _ hk=>hk.2) (.slice A153_1 ((rd_T32 l0 x11_1).f0.f1).length c153_1)) (fun _ hk=>hk.2) (.int .i64 ((rd_T32 l0 x11_1).f1))) (fun _ hk=>⟨hk.1.1.1, ⟨hk.1.1.2, hk.1.2⟩⟩)))⟩;have n1_ : Aside0 (Kd.N k29 29 w8 w.heap.size (fun k_=>(P0_ k_ ∨ w.heap.size ≤ k_)∧k_ ≠ gb154) u3 x3_1):=⟨(by rw [hw];exact (by (with_reducible repeat (first|apply Kd.N_alloc|apply Kd.N_drewN|apply Kd.N_drew));exact Kd.N_mono (Kd.N_far (p:=⟨gb154, 2, none⟩) (Kd.N_far (p:=⟨gb154, 1, none⟩) (Kd.N_far (p:=⟨gb154, 0, none⟩) (Kd.N_mono HO_3.out (fun k_ hk=>(⟨hk, hk.2⟩ : _∧k_ ≠ gb154))) (fun _ hk=>hk.2) (.string ((rd_T32 l0 x11_1).f0.f0))) (fun _ hk=>hk.2) (.slice A153_1 ((rd_T32 l0 x11_1).f0.f1).length c153_1)) (fun _ hk=>hk.2) (.int .i64 ((rd_T32 l0 x11_1).f1))) (fun _ hk=>⟨hk.1.1, hk.1.2⟩)))⟩;have n2_ : Aside0 (Kd.V k32 32 w8 w.heap.size (fun k_=>(P0_ k_ ∨ w.heap.size ≤ k_)∧some k_ ≠ (u3 : Value).ownBlock∧k_ ≠ gb154) (.slice (some ad153) l0.length c0) l0):=⟨(by rw [hw];exact (by (with_reducible repeat (first|apply Kd.V_alloc|apply Kd.V_drewN|apply Kd.V_drew));exact Kd.V_mono (Kd.V_far (p:=⟨gb154, 2, none⟩) (Kd.V_far (p:=⟨gb154, 1, none⟩) (Kd.V_far (p:=⟨gb154, 0, none⟩) (Kd.V_mono HO_9.out (fun k_ hk=>(⟨hk, hk.2⟩ : _∧k_ ≠ gb154))) (fun _ hk=>hk.2) (.string ((rd_T32 l0 x11_1).f0.f0))) (fun _ hk=>hk.2) (.slice A153_1 ((rd_T32 l0 x11_1).f0.f1).length c153_1)) (fun _ hk=>hk.2) (.int .i64 ((rd_T32 l0 x11_1).f1))) (fun _ hk=>⟨hk.1.1.1, ⟨hk.1.1.2, hk.1.2⟩⟩)))⟩;have n3_ : Aside0 (Kd.V k41 41 w8 w.heap.size (fun k_=>(P0_ k_ ∨ w.heap.size ≤ k_)∧some k_ ≠ (u3 : Value).ownBlock∧k_ ≠ gb154) (.slice A153_1 ((rd_T32 l0 x11_1).f0.f1).length c153_1) ((rd_T32 l0 x11_1).f0.f1)):=⟨(by rw [hw];exact (by (with_reducible repeat (first|apply Kd.V_alloc|apply Kd.V_drewN|apply Kd.V_drew));exact Kd.V_mono (Kd.V_far (p:=⟨gb154, 2, none⟩) (Kd.V_far (p:=⟨gb154, 1, none⟩) (Kd.V_far (p:=⟨gb154, 0, none⟩) (Kd.V_mono HL153_1.out (fun k_ hk=>(⟨hk, hk.2⟩ : _∧k_ ≠ gb154))) (fun _ hk=>hk.2) (.string ((rd_T32 l0 x11_1).f0.f0))) (fun _ hk=>hk.2) (.slice A153_1 ((rd_T32 l0 x11_1).f0.f1).length c153_1)) (fun _ hk=>hk.2) (.int .i64 ((rd_T32 l0 x11_1).f1))) (fun _ hk=>⟨hk.1.1.1, ⟨hk.1.1.2, hk.1.2⟩⟩)))⟩;have n4_ : Aside0 (w8.heap[gb154]? = some (.cells #[.string ((rd_T32 l0 x11_1).f0.f0), .slice A153_1 ((rd_T32 l0 x11_1).f0.f1).length c153_1, .int .i64 ((rd_T32 l0 x11_1).f1)] 32 (0, 0))):=⟨(by rw [hw];exact (by (with_reducible repeat (first|refine blk_drewN ?_ _|refine blk_drew ?_|refine blk_alloc ?_ _));refine blk_put (cs:=#[.string ((rd_T32 l0 x11_1).f0.f0), .slice A153_1 ((rd_T32 l0 x11_1).f0.f1).length c153_1, .int .i64 0]) ?_ 2 _ rfl;(with_reducible repeat (first|refine blk_drewN ?_ _|refine blk_drew ?_|refine blk_alloc ?_ _));refine blk_put (cs:=#[.string ((rd_T32 l0 x11_1).f0.f0), .slice none 0 0, .int .i64 0]) ?_ 1 _ rfl;(with_reducible repeat (first|refine blk_drewN ?_ _|refine blk_drew ?_|refine blk_alloc ?_ _));refine blk_put (cs:=#[.string (⟨#[]⟩ : ByteArray), .slice none 0 0, .int .i64 0]) ?_ 0 _ rfl;(with_reducible repeat (first|refine blk_drewN ?_ _|refine blk_drew ?_|refine blk_alloc ?_ _));exact BK154.out))⟩;have n5_ : Aside0 (Below w.heap.size w w8):=⟨(by rw [hw];exact (hb1_ HB.out GE154.out))⟩;clear hw;clear HO_0;clear HO_3;clear HO_9;clear HL153_1;clear BK154;clear HB;have HO_0:=n0_;have HO_3:=n1_;have HO_9:=n2_;have HL153_1:=n3_;have BK154:=n4_;have HB:=n5_;clear n0_ n1_ n2_ n3_ n4_ n5_;obtain ⟨hcz9_0,hcz9_1,hcz9_2⟩:=bc3_ BK154.out;obtain ⟨hfz9_0,hfz9_1,hfz9_2⟩:=bf3_ BK154.out)|((with_reducible refine gate_builtin (b:=.append) (xs:=#[.tmp 15, .tmp 18]) rfl ?_);at_builtin;refine Kd.N_append k29 (w0:=w) w.heap.size rfl (.tmp 15) (.tmp 18) 50 29 (.agg #[(.string ⟨#[]⟩),(.slice none 0 0)]) 40 rfl Try.underlying50 info29 rfl (by decide) (by omega) u3 x3_1 (⟨(rd_T32 l0 x11_1).f0.f0, (rd_T32 l0 x11_1).f0.f1⟩ : S29) [.string ((rd_T32 l0 x11_1).f0.f0), .slice A153_1 ((rd_T32 l0 x11_1).f0.f1).length c153_1] (fun k_=>(P0_ k_ ∨ w.heap.size ≤ k_)∧k_ ≠ gb154) (fun k_=>((fun k_=>(P0_ k_ ∨ w.heap.size ≤ k_)∧k_ ≠ gb154)) k_∧some k_ ≠ (u3 : Value).ownBlock) rfl rfl ?aP (fun _ hk=>hk) ?aF ?aO ?aB ?aS ?aL ?_;(case aP=>exact (k29_mkF _ _ (⟨(rd_T32 l0 x11_1).f0.f0, (rd_T32 l0 x11_1).f0.f1⟩ : S29) (Kd.V_reads' (Kd.V_mono (ok':=(fun k_=>((fun k_=>(P0_ k_ ∨ w.heap.size ≤ k_)∧k_ ≠ gb154)) k_∧some k_ ≠ (u3 : Value).ownBlock)) (HL153_1.out) (fun k_ hk=>⟨⟨hk.1, hk.2.2⟩, hk.2.1⟩))).2.1 (Kd.V_F (Kd.V_mono (ok':=(fun k_=>((fun k_=>(P0_ k_ ∨ w.heap.size ≤ k_)∧k_ ≠ gb154)) k_∧some k_ ≠ (u3 : Value).ownBlock)) (HL153_1.out) (fun k_ hk=>⟨⟨hk.1, hk.2.2⟩, hk.2.1⟩)))));(case aB=>exact (hb1_ HB.out GE154.out));(case aF=>exact (fun k_ hk=>⟨(.inr (Nat.le_trans (below_size (hb1_ HB.out GE154.out)) hk)), Kd.freshB (g:=gb154) (o:=.cells #[.string ((rd_T32 l0 x11_1).f0.f0), .slice A153_1 ((rd_T32 l0 x11_1).f0.f1).length c153_1, .int .i64 ((rd_T32 l0 x11_1).f1)] 32 (0, 0)) (bq_ BK154.out) k_ hk⟩));(case aO=>exact (nq_ HO_3.out));(case aS=>exact (below_size (hb1_ HB.out GE154.out)));(case aL=>have:=LMc5.out;omega);intro v156 w10 ho hb hg hat;rw [← Ny155.out] at ho;replace HO_0:=k0_ (Kd.V_afterv (ok:=(fun k_=>(P0_ k_ ∨ w.heap.size ≤ k_)∧k_ ≠ gb154)) (by (with_reducible repeat (first|apply Kd.V_alloc|apply Kd.V_drewN|apply Kd.V_drew));exact Kd.V_mono HO_0.out (fun _ hk=>⟨⟨hk.1, hk.2.2⟩, hk.2.1⟩)) hg hat);replace HO_9:=k0_ (Kd.V_afterv (ok:=(fun k_=>(P0_ k_ ∨ w.heap.size ≤ k_)∧k_ ≠ gb154)) (by (with_reducible repeat (first|apply Kd.V_alloc|apply Kd.V_drewN|apply Kd.V_drew));exact Kd.V_mono HO_9.out (fun _ hk=>⟨⟨hk.1, hk.2.2⟩, hk.2.1⟩)) hg hat);replace HL153_1:=k0_ (Kd.V_afterv (ok:=(fun k_=>(P0_ k_ ∨ w.heap.size ≤ k_)∧k_ ≠ gb154)) (by (with_reducible repeat (first|apply Kd.V_alloc|apply Kd.V_drewN|apply Kd.V_drew));exact Kd.V_mono HL153_1.out (fun _ hk=>⟨⟨hk.1, hk.2.2⟩, hk.2.1⟩)) hg hat);replace BK154:=k0_ (blk_grown (g:=gb154) (o:=.cells #[.string ((rd_T32 l0 x11_1).f0.f0), .slice A153_1 ((rd_T32 l0 x11_1).f0.f1).length c153_1, .int .i64 ((rd_T32 l0 x11_1).f1)] 32 (0, 0)) (bq_ BK154.out) hg (Kd.N_ne HO_3.out BK154.out (by decide)));replace HB:=k0_ (hb);have HO157:=k0_ (ho);clear HO_3;clear ho hb hg hat))
  go_roundg k1
  case measure=>have:=HK1.out;omega
  case rel=>exact ⟨(y155),(wrap64 (x11_1 + 1)),rs_, H', ⟨by have:=HK1.out;omega⟩,⟨by (with_reducible repeat (first|apply Kd.V_alloc|apply Kd.V_drewN|apply Kd.V_drew));exact Kd.V_mono HO_0.out (fun _ hk=>⟨hk.1.1, hk.2⟩)⟩,⟨by (with_reducible repeat (first|apply Kd.N_alloc|apply Kd.N_drewN|apply Kd.N_drew));exact Kd.N_mono HO157.out (fun _ hk=>hk.1)⟩,⟨by (with_reducible repeat (first|apply Kd.V_alloc|apply Kd.V_drewN|apply Kd.V_drew));exact Kd.V_mono HO_9.out (fun _ hk=>⟨hk.1.1, hk.2⟩)⟩,⟨hb1_ HB.out GE154.out⟩⟩
 ·rw [if_neg c2] at H
  have c2b0:=decide_eq_false c2;clear c2;replace H:=Option.bind_eq_some_iff.mp H;obtain ⟨t158, A110, H⟩:=H;replace H : (if t158 = 0 then (reserve_Check.l1 k1 l0 (l0.length : Int) 0) else (some t158)) = some r:=H;have A11:=k0_ A110;clear A110
  by_cases c12 : t158 = 0
  rw [if_pos c12] at H;have c12b0:=beq_iff_eq.mpr c12;have c12b1:=bne_eq_false_iff_eq.mpr c12;clear c12;have H':=k0_ H;clear H;rotate_left;rw [if_neg c12] at H;have c12b0:=beq_eq_false_iff_ne.mpr c12;have c12b1:=bne_iff_ne.mpr c12;obtain rfl:=Option.some.inj H;rotate_left
  all_goals
   obtain ⟨Ao13, co13, eo13⟩:=Kd.N_slice HO_3.out;subst eo13
   go_wp2_with (first|((with_reducible refine gate_callee (f:=37) rfl ?_);refine goesL_ (some 22) rfl rfl Try.func37 (by kernel_rfl) rfl #[.slice Ao13 x3_1.length co13] rfl mt_ ?_;(with_reducible refine (offer_CheckAll.calls k1 _ _ x3_1 t158 _ ?side1 ?side2 A11.out).mono ?_);(case side1=>repeat (first|exact (Kd.N_reads' HO_3.out).2.2|(with_reducible refine Kd.C_alloc ?_ _)|(with_reducible refine Kd.C_drewN ?_ _)|(with_reducible refine Kd.C_drew ?_)));(case side2=>exact (Kd.N_reads' HO_3.out).2.1);rintro e w14 ⟨rfl, hb⟩;refine ⟨_, rfl, ?_⟩;replace HO_0:=k0_ (Kd.V_below (vq_ HO_0.out) hb);replace HO_3:=k0_ (Kd.N_below (nq_ HO_3.out) hb);replace HO_9:=k0_ (Kd.V_below (vq_ HO_9.out) hb);replace HB:=k0_ (below_step (hb0_ HB.out) hb);(try clear hb);(try clear hb2);(try clear hk);(try clear hi)))
  ·try simp only [Act.put, q1_,q3_,q2_]
   go_loopg [28] k1 (fun kq v28 w'=>∃ (x28_2 : Int), v28 = .int .i64 x28_2∧Aside0 (reserve_Check.l1 kq l0 (l0.length : Int) x28_2 = some r)∧Aside0 (kq ≤ k1)∧Aside0 (Kd.V k32 32 w' w.heap.size (fun k_=>(P0_ k_ ∨ w.heap.size ≤ k_)) (.slice A0 l0.length c0) l0)∧Aside0 (Below w.heap.size w w'))
   case atStart=>exact ⟨(0),rs_, H', ⟨Nat.le_refl _⟩,⟨by (with_reducible repeat (first|apply Kd.V_alloc|apply Kd.V_drewN|apply Kd.V_drew));exact Kd.V_mono HO_0.out (fun _ hk=>hk.1)⟩,⟨hb0_ HB.out⟩⟩
   clear H';(try clear c1);(try clear p1);(try clear q1);(try clear hx1);(try clear c2);(try clear c2b0);(try clear p2);(try clear c3);(try clear c3b0);(try clear c4);(try clear c4b0);(try clear c5);(try clear p6);(try clear c12);(try clear c12b0);(try clear c12b1);(try clear c14);(try clear hcz7_0);(try clear hcz7_1);(try clear hcz7_2);(try clear hcz9_0);(try clear hcz9_1);(try clear hcz9_2);(try clear hfz7_0);(try clear hfz7_1);(try clear hfz7_2);(try clear hfz9_0);(try clear hfz9_1);(try clear hfz9_2);(try clear hx153_0);(try clear hx153_1);(try clear hx153_2);(try clear p153);(try clear q153);obtain ⟨x28_2, rfl, HA, HK2, HO_26, HB⟩:=hrel;obtain _|k2:=gk
   ·exact absurd HA.out (by simp [reserve_Check.l1])
   have H:=HA.out;clear HA;simp only [reserve_Check.l1] at H
   by_cases c15 : x28_2 < (l0.length : Int)
   ·rw [if_pos c15] at H
    have c15b0:=decide_eq_true c15;clear c15
    by_cases c16 : 0 ≤ x28_2
    rw [if_pos c16] at H;have c16b0:=decide_eq_true c16;clear c16
    focus
     by_cases c17 : x28_2 < (l0.length : Int)
     rw [if_pos c17] at H;have c17b0:=decide_eq_true c17;clear c17
     focus
      by_cases c18 : ((rd_T32 l0 x28_2).f1) < 0
      rw [if_pos c18] at H;have c18b0:=decide_eq_true c18;clear c18;obtain rfl:=Option.some.inj H;rotate_left;rw [if_neg c18] at H;have c18b0:=decide_eq_false c18;clear c18
      focus
       by_cases c21 : ((rd_T32 l0 x28_2).f1) > 100000
       rw [if_pos c21] at H;have c21b0:=decide_eq_true c21;clear c21;obtain rfl:=Option.some.inj H;rotate_left;rw [if_neg c21] at H;have c21b0:=decide_eq_false c21;clear c21;have H':=k0_ H;clear H;rotate_left
      rotate_left 2
     rotate_left 3;rw [if_neg c17] at H
     exact absurd H (by simp)
    rotate_left 3;rw [if_neg c16] at H
    exact absurd H (by simp)
    all_goals
     have p159 : 0 ≤ (x28_2 : Int):=of_decide_eq_true as_;have q159 : x28_2 < (l0.length : Int):=of_decide_eq_true as_;obtain ⟨ad159, A159_1, c159_1, e159, hx159_0, hx159_1, hx159_2, hl159_1, hi159_1⟩:=at_T32 (Kd.V_reads' HO_26.out).2.2 x28_2 p159 q159;cases e159;obtain ⟨ce159, hce159, hMe159, hcc159⟩:=Kd.V_get HO_26.out z32 x28_2 p159 (by first|exact q159|exact of_decide_eq_true as_|(have e_:=(Kd.V_reads' HO_26.out).1;omega));obtain ⟨ua159_1, uc159_1, rfl, ul159_1, ge159_1⟩:=k32_openF hMe159;have hv159_1:=hcc159 1 _ rfl;rw [add_field _ _ 1 (by omega)] at hv159_1;replace hv159_1:=Option.some.inj (hv159_1.symm.trans hx159_1)
     injection hv159_1 with hva_ hvn_ hvc_
     rw [hva_] at ge159_1;rw [hvc_] at ul159_1;have HL159_1:=k0_ (show Kd.V k41 41 _ w.heap.size _ _ ((rd_T32 l0 x28_2).f0.f1) from Kd.V_mk ul159_1 ge159_1);clear hva_ hvn_ hvc_ ge159_1 ul159_1;clear hcc159 hce159;have HR159_1:=k0_ hi159_1;have HC159_1:=k0_ hl159_1;clear hi159_1 hl159_1;replace p159:=eq_true p159;replace q159:=eq_true q159
     go_wp2_with (first|((with_reducible refine gate_dst (N:=8) rfl ?_);refine box_event ?hg (N:=8) ?hd (cs:=#[.string (⟨#[]⟩ : ByteArray), .slice none 0 0, .int .i64 0]) (t:=32) ?hr ?_;(case hd=>rfl);(case hg=>rfl);(case hr=>first|(go_simp;done)|(go_simp;rfl));intro gb160 hg w19 hbox hb;replace HO_26:=k0_ (Kd.V_below (Kd.V_elderB (vq_ HO_26.out) gb160 (Nat.le_of_eq hg.symm)) hb);replace HL159_1:=k0_ (Kd.V_below (Kd.V_elderB (vq_ HL159_1.out) gb160 (Nat.le_of_eq hg.symm)) hb);replace HR159_1:=k0_ (Kd.C_below (by repeat (first|(with_reducible exact HR159_1.out)|(with_reducible refine Kd.C_alloc ?_ _)|(with_reducible refine Kd.C_drewN ?_ _)|(with_reducible refine Kd.C_drew ?_)|exact HR159_1.out)) hb);have BK160:=k0_ (hbox);have GW160:=k0_ ((by rw [hg];exact (below_size (hb0_ HB.out)) : w.heap.size ≤ gb160));have GE160:=k0_ ((by rw [hg];exact (below_size (hb0_ HB.out)) : w.heap.size ≤ gb160));replace HB:=k0_ (below_step (hb0_ HB.out) hb);clear hb hbox hg;obtain ⟨hcz20_0,hcz20_1,hcz20_2⟩:=bc3_ BK160.out;obtain ⟨hfz20_0,hfz20_1,hfz20_2⟩:=bf3_ BK160.out))
    ·go_ret
     exact ⟨er_, hb1_ HB.out GE160.out⟩
    ·go_ret
     exact ⟨er_, hb1_ HB.out GE160.out⟩
    ·go_roundg k2
     case measure=>have:=HK1.out;have:=HK2.out;omega
     case rel=>exact ⟨(wrap64 (x28_2 + 1)),rs_, H', ⟨by have:=HK1.out;have:=HK2.out;omega⟩,⟨by (with_reducible repeat (first|apply Kd.V_alloc|apply Kd.V_drewN|apply Kd.V_drew));exact Kd.V_mono (Kd.V_far (p:=⟨gb160, 2, none⟩) (Kd.V_far (p:=⟨gb160, 1, none⟩) (Kd.V_far (p:=⟨gb160, 0, none⟩) (Kd.V_mono HO_26.out (fun k_ hk=>(⟨hk, hk.2⟩ : _∧k_ ≠ gb160))) (fun _ hk=>hk.2) (.string ((rd_T32 l0 x28_2).f0.f0))) (fun _ hk=>hk.2) (.slice A159_1 ((rd_T32 l0 x28_2).f0.f1).length c159_1)) (fun _ hk=>hk.2) (.int .i64 ((rd_T32 l0 x28_2).f1))) (fun _ hk=>hk.1.1)⟩,⟨hb1_ HB.out GE160.out⟩⟩
   ·rw [if_neg c15] at H
    have c15b0:=decide_eq_false c15;clear c15;obtain rfl:=Option.some.inj H;go_wp2
    go_ret
    exact ⟨er_, hb0_ HB.out⟩
  ·go_ret
   exact ⟨er_, hb0_ HB.out⟩

/-! ### offer_Most: function 35 -/
def offer_Most.l0 : Nat → Int → List (S41) → Int → Int → Option (Int)
 | 0, _, _, _, _ => none
 | k + 1, x3, x7, x8, x9 => if x9 < x8 then (if 0 ≤ x9 then (if x9 < (x7.length : Int) then (offer_Most.l0 k (wrap64 (x3 + ((rd_T41 x7 x9).f0))) x7 x8 (wrap64 (x9 + 1))) else (none)) else (none)) else (some x3)
def offer_Most.f (k : Nat) (a0_0 : ByteArray) (l0_1 : List (S41)) : Option (Int) := offer_Most.l0 k 0 l0_1 (l0_1.length : Int) 0
theorem offer_Most.mono_l : ∀ k, (∀ y0 y1 y2 y3, LeO (offer_Most.l0 k y0 y1 y2 y3) (offer_Most.l0 (k + 1) y0 y1 y2 y3))
 | 0 => fun _ _ _ _ r h => by simp [offer_Most.l0] at h
 | k + 1 => by
  have ih0:=offer_Most.mono_l k
  ·intro y0 y1 y2 y3
   unfold offer_Most.l0
   repeat' first|(with_reducible first|exact ih0 _ _ _ _|exact LeO.refl _|exact LeO.none _|refine LeO.ite ?_ ?_|refine LeO.bind ?_ (fun _=>?_))|exact ih0 _ _ _ _|exact LeO.none _|refine LeO.ite ?_ ?_|refine LeO.bind ?_ (fun _=>?_)
theorem offer_Most.mono : ∀ a0 a1 k, LeO (offer_Most.f k a0 a1) (offer_Most.f (k + 1) a0 a1) := by
 intro a0 a1 k
 have ih0:=offer_Most.mono_l k
 unfold offer_Most.f
 repeat' first|(with_reducible first|exact ih0 _ _ _ _|exact LeO.refl _|exact LeO.none _|refine LeO.ite ?_ ?_|refine LeO.bind ?_ (fun _=>?_))|exact ih0 _ _ _ _|exact LeO.none _|refine LeO.ite ?_ ?_|refine LeO.bind ?_ (fun _=>?_)
set_option maxHeartbeats 8000000 in
set_option maxRecDepth 100000 in
theorem offer_Most.calls (k : Nat) (a0_0 : ByteArray) (A0_1 : Option Addr) (c0_1 : Nat) (l0_1 : List (S41)) (r : Int) (w : World) (hr0_1 : Kd.C k41 w A0_1 l0_1.length l0_1) (hc0_1 : l0_1.length ≤ c0_1) (h : offer_Most.f k a0_0 l0_1 = some r) :
  Calls Try.prog 35 #[.agg #[.string a0_0, .slice A0_1 l0_1.length c0_1]] w fun e w' => e = .returned (.int .i64 r) ∧ Below w.heap.size w w' := by
 have hu29:=Try.underlying29;have hu41:=Try.underlying41;have HR0_1:=k0_ hr0_1;have HC0_1:=k0_ hc0_1;clear hr0_1 hc0_1;have HB:=k0_ (Below.refl w.heap.size w);have H : (offer_Most.l0 k 0 l0_1 (l0_1.length : Int) 0) = some r:=h;clear h;have H':=k0_ H;clear H
 go_enter Try.func35, Try.ntmps35
 go_wp2_with (first|((with_reducible refine gate_dst (N:=1) rfl ?_);refine box_event ?hg (N:=1) ?hd (cs:=#[.string a0_0, .slice A0_1 l0_1.length c0_1]) (t:=29) ?hr ?_;(case hd=>rfl);(case hg=>rfl);(case hr=>first|(go_simp;done)|(go_simp;rfl));intro gb161 hg w2 hbox hb;have BK161:=k0_ (hbox);have GW161:=k0_ ((by rw [hg];exact (below_size (hb0_ HB.out)) : w.heap.size ≤ gb161));have GE161:=k0_ ((by rw [hg];exact (below_size (hb0_ HB.out)) : w.heap.size ≤ gb161));replace HB:=k0_ (below_step (hb0_ HB.out) hb);clear hb hbox hg;obtain ⟨hcz3_0,hcz3_1⟩:=bc2_ BK161.out;obtain ⟨hfz3_0,hfz3_1⟩:=bf2_ BK161.out))
 (try simp only [Act.put, q1_,q3_,q2_])
 go_loopg [3, 9] k (fun kq v3 v9 w'=>∃ (x3_1 : Int) (x9_1 : Int), v3 = .int .i64 x3_1∧v9 = .int .i64 x9_1∧Aside0 (offer_Most.l0 kq x3_1 l0_1 (l0_1.length : Int) x9_1 = some r)∧Aside0 (kq ≤ k)∧Aside0 (w'.heap[gb161]? = some (.cells #[.string a0_0, (.slice A0_1 l0_1.length c0_1)] 29 (0, 0)))∧Aside0 (Below w.heap.size w w'))
 case atStart=>exact ⟨(0),(0),rs_,rs_, H', ⟨Nat.le_refl _⟩,⟨bq_ BK161.out⟩,⟨hb1_ HB.out GE161.out⟩⟩
 clear H';(try clear p2);(try clear c3);(try clear hcz3_0);(try clear hcz3_1);(try clear hfz3_0);(try clear hfz3_1);obtain ⟨x3_1, x9_1, rfl, rfl, HA, HK1, BK161, HB⟩:=hrel;obtain _|k1:=gk
 ·exact absurd HA.out (by simp [offer_Most.l0])
 have H:=HA.out;clear HA;simp only [offer_Most.l0] at H
 by_cases c4 : x9_1 < (l0_1.length : Int)
 ·rw [if_pos c4] at H
  have c4b0:=decide_eq_true c4;clear c4
  obtain ⟨c5,H⟩:=gi_ H;have c5b0:=decide_eq_true c5;clear c5
  obtain ⟨c6,H⟩:=gi_ H;have c6b0:=decide_eq_true c6;clear c6;have H':=k0_ H;clear H;have p162 : 0 ≤ (x9_1 : Int):=of_decide_eq_true as_;have q162 : x9_1 < (l0_1.length : Int):=of_decide_eq_true as_;obtain ⟨ad162, e162, hx162_0, hx162_1⟩:=at_T41 HR0_1.out x9_1 p162 q162;cases e162;replace hx162_0:=bt_ HB.out hx162_0;replace hx162_1:=bt_ HB.out hx162_1;replace p162:=eq_true p162;replace q162:=eq_true q162
  go_wp2_with (first|((with_reducible refine gate_dst (N:=5) rfl ?_);refine box_event ?hg (N:=5) ?hd (cs:=#[.int .i64 0, .int .i64 0]) (t:=41) ?hr ?_;(case hd=>rfl);(case hg=>rfl);(case hr=>first|(go_simp;done)|(go_simp;rfl));intro gb163 hg w7 hbox hb;have BK163:=k0_ (hbox);have GW163:=k0_ ((by rw [hg];exact (below_size (hb1_ HB.out GE161.out)) : w.heap.size ≤ gb163));have GE163:=k0_ ((by rw [hg];exact (below_size (hb1_ HB.out GE161.out)) : w.heap.size ≤ gb163));replace HB:=k0_ (below_step (hb1_ HB.out GE161.out) hb);have NB161_163:=k0_ ((by rw [hg];exact Nat.ne_of_lt (blk_lt (g:=gb161) (o:=.cells #[.string a0_0, .slice (some ad162) l0_1.length c0_1] 29 (0, 0)) (bq_ BK161.out)) : gb161 ≠ gb163));have NB163_161:=k0_ ((by rw [hg];exact Nat.ne_of_gt (blk_lt (g:=gb161) (o:=.cells #[.string a0_0, .slice (some ad162) l0_1.length c0_1] 29 (0, 0)) (bq_ BK161.out)) : gb163 ≠ gb161));replace BK161:=k0_ (blk_below (g:=gb161) (o:=.cells #[.string a0_0, .slice (some ad162) l0_1.length c0_1] 29 (0, 0)) (bq_ BK161.out) hb);clear hb hbox hg;have hnb8:=NB163_161.out;have hnc8:=NB161_163.out;obtain ⟨hcz9_0,hcz9_1⟩:=bc2_ BK163.out;obtain ⟨hfz9_0,hfz9_1⟩:=bf2_ BK163.out))
  go_roundg k1
  case measure=>have:=HK1.out;omega
  case rel=>exact ⟨(wrap64 (x3_1 + ((rd_T41 l0_1 x9_1).f0))),(wrap64 (x9_1 + 1)),rs_,rs_, H', ⟨by have:=HK1.out;omega⟩,⟨by (with_reducible repeat (first|refine blk_drewN ?_ _|refine blk_drew ?_|refine blk_alloc ?_ _));refine blk_far ?_ NB161_163.out _;(with_reducible repeat (first|refine blk_drewN ?_ _|refine blk_drew ?_|refine blk_alloc ?_ _));refine blk_far ?_ NB161_163.out _;(with_reducible repeat (first|refine blk_drewN ?_ _|refine blk_drew ?_|refine blk_alloc ?_ _));exact BK161.out⟩,⟨hb2_ HB.out GE161.out GE163.out⟩⟩
 ·rw [if_neg c4] at H
  have c4b0:=decide_eq_false c4;clear c4;obtain rfl:=Option.some.inj H;go_wp2
  go_ret
  exact ⟨er_, hb1_ HB.out GE161.out⟩

/-! ### reserve_room: function 36 -/
def reserve_room.f (k : Nat) (a0_0 : ByteArray) (l0_1 : List (S41)) (a0_2 : Int) : Option (Int) := (offer_Most.f k a0_0 l0_1).bind fun t165 => (some (mn a0_2 t165))
theorem reserve_room.mono : ∀ a0 a1 a2 k, LeO (reserve_room.f k a0 a1 a2) (reserve_room.f (k + 1) a0 a1 a2) := by
 intro a0 a1 a2 k
 unfold reserve_room.f
 repeat' first|(with_reducible first|exact offer_Most.mono _ _ _|exact LeO.refl _|exact LeO.none _|refine LeO.ite ?_ ?_|refine LeO.bind ?_ (fun _=>?_))|exact offer_Most.mono _ _ _|exact LeO.none _|refine LeO.ite ?_ ?_|refine LeO.bind ?_ (fun _=>?_)
set_option maxHeartbeats 8000000 in
set_option maxRecDepth 100000 in
theorem reserve_room.calls (k : Nat) (a0_0 : ByteArray) (A0_1 : Option Addr) (c0_1 : Nat) (l0_1 : List (S41)) (a0_2 : Int) (r : Int) (w : World) (hr0_1 : Kd.C k41 w A0_1 l0_1.length l0_1) (hc0_1 : l0_1.length ≤ c0_1) (h : reserve_room.f k a0_0 l0_1 a0_2 = some r) :
  Calls Try.prog 36 #[.agg #[.string a0_0, .slice A0_1 l0_1.length c0_1, .int .i64 a0_2]] w fun e w' => e = .returned (.int .i64 r) ∧ Below w.heap.size w w' := by
 have hu32:=Try.underlying32;have hu29:=Try.underlying29;have HR0_1:=k0_ hr0_1;have HC0_1:=k0_ hc0_1;clear hr0_1 hc0_1;have HB:=k0_ (Below.refl w.heap.size w);have H : ((offer_Most.f k a0_0 l0_1).bind fun t165=>(some (mn a0_2 t165))) = some r:=h;clear h;replace H:=Option.bind_eq_some_iff.mp H;obtain ⟨t165, A20, H⟩:=H;replace H : (some (mn a0_2 t165)) = some r:=H;have A2:=k0_ A20;clear A20;obtain ⟨ji3, hji3⟩ : ∃ j_ : Int, (mn a0_2 t165) = j_:=⟨_, rfl⟩;replace H : (some ji3) = some r:=by first|(rw [hji3] at H;exact H)|(simp only [hji3] at H ⊢;exact H)
 (try rw [hji3] at A2);have hji3_ : (if t165 < a0_2 then t165 else a0_2) = ji3:=hji3;obtain rfl:=Option.some.inj H
 go_enter Try.func36, Try.ntmps36
 try go_wp2_with (first|((with_reducible refine gate_dst (N:=1) rfl ?_);refine box_event ?hg (N:=1) ?hd (cs:=#[.string a0_0, .slice A0_1 l0_1.length c0_1, .int .i64 a0_2]) (t:=32) ?hr ?_;(case hd=>rfl);(case hg=>rfl);(case hr=>first|(go_simp;done)|(go_simp;rfl));intro gb164 hg w4 hbox hb;have BK164:=k0_ (hbox);have GW164:=k0_ ((by rw [hg];exact (below_size (hb0_ HB.out)) : w.heap.size ≤ gb164));have GE164:=k0_ ((by rw [hg];exact (below_size (hb0_ HB.out)) : w.heap.size ≤ gb164));replace HB:=k0_ (below_step (hb0_ HB.out) hb);clear hb hbox hg))
 replace BK164:=k0_ (blk_drew BK164.out);replace HB:=k0_ (below_drew1 HB.out);refine start_ (n:=7) (S:=fun w'=>w'.cell? ⟨gb164, 0, none⟩ = some (.string a0_0)∧w'.cell? ⟨gb164, 1, none⟩ = some (.slice A0_1 l0_1.length c0_1)∧w'.cell? ⟨gb164, 2, none⟩ = some (.int .i64 a0_2)) (ds:=[]) (mb_ 7 0) (by kernel_rfl) rfl rfl ⟨(blk_cell BK164.out 0).trans rfl, (blk_cell BK164.out 1).trans rfl, (blk_cell BK164.out 2).trans rfl⟩ (fun hHeld=>?_);generalize w4.drew = w5 at BK164 HB hHeld ⊢;refine pure_ (i:=0) (N:=some 3) (v:=?_) (a':=?_) (mb_ 7 1) rfl rfl (by kernel_rfl) (fun _ _ _ h=>h) (Or.inl ⟨by rfl, ?_⟩) ?_ ?_;rotate_left;(intro w';go_simp;with_reducible rfl);rotate_left;(simp only [Act.put, q1_,q2_,q3_,i64_w,i32_w];rfl);refine pure_ (i:=2) (N:=some 5) (v:=?_) (a':=?_) (mb_ 7 5) rfl rfl (by kernel_rfl) (fun _ _ _ h=>h) (Or.inl ⟨by rfl, ?_⟩) ?_ ?_;rotate_left;(intro w';go_simp;with_reducible rfl);rotate_left;(simp only [Act.put, q1_,q2_,q3_,i64_w,i32_w];rfl);refine take_ (i:=1) (N:=some 4) (v:=?_) (a':=?_) (mb_ 7 7) rfl rfl (by kernel_rfl) (fun _ _ _ h=>h) (Or.inl ⟨by rfl, ?_⟩) hHeld ?_ ?_;rotate_left
 (rintro w' ⟨s0, s1, s2⟩;go_simp;with_reducible rfl)
 rotate_left;(simp only [Act.put, q1_,q2_,q3_,i64_w,i32_w];rfl);refine take_ (i:=3) (N:=some 6) (v:=?_) (a':=?_) (mb_ 7 15) rfl rfl (by kernel_rfl) (fun _ _ _ h=>h) (Or.inl ⟨by rfl, ?_⟩) hHeld ?_ ?_;rotate_left
 (rintro w' ⟨s0, s1, s2⟩;go_simp;with_reducible rfl)
 rotate_left;(simp only [Act.put, q1_,q2_,q3_,i64_w,i32_w];rfl);refine one_ (i:=4) (N:=some 7) (mb_ 7 31) rfl rfl (by kernel_rfl) (by decide) (fun K hK=>?_);refine goes_ Try.func35 (by kernel_rfl) rfl #[.agg #[.string a0_0, .slice A0_1 l0_1.length c0_1]] (by rfl) rfl rfl mt_ ?_
 with_reducible refine (offer_Most.calls k a0_0 _ _ l0_1 t165 _ ?side1 ?side2 A2.out).mono ?_
 (case side1=>repeat (first|exact (Kd.C_below HR0_1.out HB.out)|(with_reducible refine Kd.C_alloc ?_ _)|(with_reducible refine Kd.C_drewN ?_ _)|(with_reducible refine Kd.C_drew ?_)))
 (case side2=>exact HC0_1.out)
 rintro e w6 ⟨rfl, hb⟩;refine ⟨_, rfl, ?_⟩;replace BK164:=k0_ (blk_below (g:=gb164) (o:=.cells #[.string a0_0, .slice A0_1 l0_1.length c0_1, .int .i64 a0_2] 32 (0, 0)) (bq_ BK164.out) hb);replace HB:=k0_ (below_step (hb1_ HB.out GE164.out) hb);(try clear hb);(try clear hb2);(try clear hk);(try clear hi);refine hK.out _ _ ⟨(blk_cell BK164.out 0).trans rfl, (blk_cell BK164.out 1).trans rfl, (blk_cell BK164.out 2).trans rfl⟩ (fun hHeld=>?_);clear hK K;refine norm_ (a':=?_) ?_ ?_;rotate_left
 ·show Act.put _ (some 7) _ = _
  simp only [Act.put, q1_,q2_,q3_,i64_w,i32_w];rfl
 refine pure_ (i:=5) (N:=some 8) (v:=?_) (a':=?_) (mb_ 7 63) rfl rfl (by kernel_rfl) (fun _ _ _ h=>h) (Or.inl ⟨by rfl, ?_⟩) ?_ ?_;rotate_left;(intro w';go_simp;with_reducible rfl);rotate_left;(simp only [Act.put, q1_,q2_,q3_,i64_w,i32_w];rfl);refine pure_ (i:=6) (N:=some 2) (v:=?_) (a':=?_) (mb_ 7 127) rfl rfl (by kernel_rfl) (fun _ _ _ h=>h) (Or.inl ⟨by rfl, ?_⟩) ?_ ?_;rotate_left;(intro w';go_simp;with_reducible rfl);rotate_left;(simp only [Act.put, q1_,q2_,q3_,i64_w,i32_w];rfl);refine done_ (by kernel_rfl) ?_
 try go_wp2
 go_ret
 exact ⟨by first|rfl|(simp [errW_none, errW_some] <;> rfl)|(simp only [← hji3];first|rfl|(simp [errW_none, errW_some] <;> rfl))|(simp [*, errW_none, errW_some] <;> rfl), hb1_ HB.out GE164.out⟩

/-! ### reserve_Possible: function 11 -/
def reserve_Possible.l0 : Nat → Int → List (S32) → Int → Int → Option (Int × Int)
 | 0, _, _, _, _ => none
 | k + 1, x5, x13, x14, x15 => if x15 < x14 then (if 0 ≤ x15 then (if x15 < (x13.length : Int) then ((reserve_room.f k ((rd_T32 x13 x15).f0.f0) ((rd_T32 x13 x15).f0.f1) ((rd_T32 x13 x15).f1)).bind fun t169 => (reserve_Possible.l0 k (wrap64 (x5 + t169)) x13 x14 (wrap64 (x15 + 1)))) else (none)) else (none)) else (some (x5, 0))
def reserve_Possible.f (k : Nat) (l0 : List (S32)) : Option (Int × Int) := (reserve_Check.f k l0).bind fun t166 => (if t166 = 0 then (reserve_Possible.l0 k 0 l0 (l0.length : Int) 0) else (some (0, t166)))
theorem reserve_Possible.mono_l : ∀ k, (∀ y0 y1 y2 y3, LeO (reserve_Possible.l0 k y0 y1 y2 y3) (reserve_Possible.l0 (k + 1) y0 y1 y2 y3))
 | 0 => fun _ _ _ _ r h => by simp [reserve_Possible.l0] at h
 | k + 1 => by
  have ih0:=reserve_Possible.mono_l k
  ·intro y0 y1 y2 y3
   unfold reserve_Possible.l0
   repeat' first|(with_reducible first|exact ih0 _ _ _ _|exact reserve_Check.mono _ _|exact reserve_room.mono _ _ _ _|exact LeO.refl _|exact LeO.none _|refine LeO.ite ?_ ?_|refine LeO.bind ?_ (fun _=>?_))|exact ih0 _ _ _ _|exact reserve_Check.mono _ _|exact reserve_room.mono _ _ _ _|exact LeO.none _|refine LeO.ite ?_ ?_|refine LeO.bind ?_ (fun _=>?_)
theorem reserve_Possible.mono : ∀ a0 k, LeO (reserve_Possible.f k a0) (reserve_Possible.f (k + 1) a0) := by
 intro a0 k
 have ih0:=reserve_Possible.mono_l k
 unfold reserve_Possible.f
 repeat' first|(with_reducible first|exact ih0 _ _ _ _|exact reserve_Check.mono _ _|exact reserve_room.mono _ _ _ _|exact LeO.refl _|exact LeO.none _|refine LeO.ite ?_ ?_|refine LeO.bind ?_ (fun _=>?_))|exact ih0 _ _ _ _|exact reserve_Check.mono _ _|exact reserve_room.mono _ _ _ _|exact LeO.none _|refine LeO.ite ?_ ?_|refine LeO.bind ?_ (fun _=>?_)
set_option maxHeartbeats 8000000 in
set_option maxRecDepth 100000 in
theorem reserve_Possible.calls (k : Nat) (A0 : Option Addr) (c0 : Nat) (l0 : List (S32)) (r1 : Int) (r2 : Int) (w : World) (hr0 : Kd.C k32 w A0 l0.length l0) (hc0 : l0.length ≤ c0) (h : reserve_Possible.f k l0 = some (r1, r2)) :
  Calls Try.prog 11 #[.slice A0 l0.length c0] w fun e w' => e = .returned (.tuple #[.int .i64 r1, .int .i64 r2]) ∧ Below w.heap.size w w' := by
 have hu32:=Try.underlying32;have HR0:=k0_ hr0;have HC0:=k0_ hc0;clear hr0 hc0;have HB:=k0_ (Below.refl w.heap.size w);have H : ((reserve_Check.f k l0).bind fun t166=>(if t166 = 0 then (reserve_Possible.l0 k 0 l0 (l0.length : Int) 0) else (some (0, t166)))) = some (r1, r2):=h;clear h;replace H:=Option.bind_eq_some_iff.mp H;obtain ⟨t166, A20, H⟩:=H;replace H : (if t166 = 0 then (reserve_Possible.l0 k 0 l0 (l0.length : Int) 0) else (some (0, t166))) = some (r1, r2):=H;have A2:=k0_ A20;clear A20
 by_cases c3 : t166 = 0
 ·rw [if_pos c3] at H
  have c3b0:=beq_iff_eq.mpr c3;have c3b1:=bne_eq_false_iff_eq.mpr c3;clear c3;have H':=k0_ H;clear H
  go_enter Try.func11, Try.ntmps11
  go_wp2_with (first|((with_reducible refine gate_callee (f:=14) rfl ?_);refine goesL_ (some 9) rfl rfl Try.func14 (by kernel_rfl) rfl #[.slice A0 l0.length c0] rfl mt_ ?_;(with_reducible refine (reserve_Check.calls k (fun k_=>k_ < w.heap.size) _ _ l0 t166 _ ?side1 A2.out).mono ?_);(case side1=>exact Kd.V_mk HC0.out (Kd.F_below (Kd.C_F k32_heap HR0.out) (hb0_ HB.out)));rintro e w4 ⟨rfl, hb⟩;refine ⟨_, rfl, ?_⟩;replace HB:=k0_ (below_step (hb0_ HB.out) hb);(try clear hb);(try clear hb2);(try clear hk);(try clear hi)))
  (try simp only [Act.put, q1_,q3_,q2_])
  go_loopg [5, 15] k (fun kq v5 v15 w'=>∃ (x5_1 : Int) (x15_1 : Int), v5 = .int .i64 x5_1∧v15 = .int .i64 x15_1∧Aside0 (reserve_Possible.l0 kq x5_1 l0 (l0.length : Int) x15_1 = some (r1, r2))∧Aside0 (kq ≤ k)∧Aside0 (Below w.heap.size w w'))
  case atStart=>exact ⟨(0),(0),rs_,rs_, H', ⟨Nat.le_refl _⟩,⟨hb0_ HB.out⟩⟩
  clear H';(try clear c1);(try clear p2);(try clear c3);(try clear c3b0);(try clear c3b1);obtain ⟨x5_1, x15_1, rfl, rfl, HA, HK1, HB⟩:=hrel;obtain _|k1:=gk
  ·exact absurd HA.out (by simp [reserve_Possible.l0])
  have H:=HA.out;clear HA;simp only [reserve_Possible.l0] at H
  by_cases c5 : x15_1 < (l0.length : Int)
  ·rw [if_pos c5] at H
   have c5b0:=decide_eq_true c5;clear c5
   obtain ⟨c6,H⟩:=gi_ H;have c6b0:=decide_eq_true c6;clear c6
   obtain ⟨c7,H⟩:=gi_ H;have c7b0:=decide_eq_true c7;clear c7;replace H:=Option.bind_eq_some_iff.mp H;obtain ⟨t169, A80, H⟩:=H;replace H : (reserve_Possible.l0 k1 (wrap64 (x5_1 + t169)) l0 (l0.length : Int) (wrap64 (x15_1 + 1))) = some (r1, r2):=H;have A8:=k0_ A80;clear A80;have H':=k0_ H;clear H;have p167 : 0 ≤ (x15_1 : Int):=of_decide_eq_true as_;have q167 : x15_1 < (l0.length : Int):=of_decide_eq_true as_;obtain ⟨ad167, A167_1, c167_1, e167, hx167_0, hx167_1, hx167_2, hl167_1, hi167_1⟩:=at_T32 HR0.out x15_1 p167 q167;cases e167;replace hx167_0:=bt_ HB.out hx167_0;replace hx167_1:=bt_ HB.out hx167_1;replace hx167_2:=bt_ HB.out hx167_2;have HR167_1:=k0_ hi167_1;have HC167_1:=k0_ hl167_1;clear hi167_1 hl167_1;replace p167:=eq_true p167;replace q167:=eq_true q167
   go_wp2_with (first|((with_reducible refine gate_dst (N:=7) rfl ?_);refine box_event ?hg (N:=7) ?hd (cs:=#[.string (⟨#[]⟩ : ByteArray), .slice none 0 0, .int .i64 0]) (t:=32) ?hr ?_;(case hd=>rfl);(case hg=>rfl);(case hr=>first|(go_simp;done)|(go_simp;rfl));intro gb168 hg w9 hbox hb;have BK168:=k0_ (hbox);have GW168:=k0_ ((by rw [hg];exact (below_size (hb0_ HB.out)) : w.heap.size ≤ gb168));have GE168:=k0_ ((by rw [hg];exact (below_size (hb0_ HB.out)) : w.heap.size ≤ gb168));replace HB:=k0_ (below_step (hb0_ HB.out) hb);clear hb hbox hg;obtain ⟨hcz10_0,hcz10_1,hcz10_2⟩:=bc3_ BK168.out;obtain ⟨hfz10_0,hfz10_1,hfz10_2⟩:=bf3_ BK168.out)|((with_reducible refine gate_callee (f:=36) rfl ?_);refine goesL_ (some 21) rfl rfl Try.func36 (by kernel_rfl) rfl #[.agg #[.string ((rd_T32 l0 x15_1).f0.f0), .slice A167_1 ((rd_T32 l0 x15_1).f0.f1).length c167_1, .int .i64 ((rd_T32 l0 x15_1).f1)]] rfl mt_ ?_;(with_reducible refine (reserve_room.calls k1 ((rd_T32 l0 x15_1).f0.f0) _ _ ((rd_T32 l0 x15_1).f0.f1) ((rd_T32 l0 x15_1).f1) t169 _ ?side1 ?side2 A8.out).mono ?_);(case side1=>exact Kd.C_below HR167_1.out (hb1_ HB.out GE168.out));(case side2=>exact HC167_1.out);rintro e w11 ⟨rfl, hb⟩;refine ⟨_, rfl, ?_⟩;replace BK168:=k0_ (blk_below (g:=gb168) (o:=.cells #[.string ((rd_T32 l0 x15_1).f0.f0), .slice A167_1 ((rd_T32 l0 x15_1).f0.f1).length c167_1, .int .i64 ((rd_T32 l0 x15_1).f1)] 32 (0, 0)) (by (with_reducible repeat (first|refine blk_drewN ?_ _|refine blk_drew ?_|refine blk_alloc ?_ _));refine blk_put (cs:=#[.string ((rd_T32 l0 x15_1).f0.f0), .slice A167_1 ((rd_T32 l0 x15_1).f0.f1).length c167_1, .int .i64 0]) ?_ 2 _ rfl;(with_reducible repeat (first|refine blk_drewN ?_ _|refine blk_drew ?_|refine blk_alloc ?_ _));refine blk_put (cs:=#[.string ((rd_T32 l0 x15_1).f0.f0), .slice none 0 0, .int .i64 0]) ?_ 1 _ rfl;(with_reducible repeat (first|refine blk_drewN ?_ _|refine blk_drew ?_|refine blk_alloc ?_ _));refine blk_put (cs:=#[.string (⟨#[]⟩ : ByteArray), .slice none 0 0, .int .i64 0]) ?_ 0 _ rfl;(with_reducible repeat (first|refine blk_drewN ?_ _|refine blk_drew ?_|refine blk_alloc ?_ _));exact BK168.out) hb);replace HB:=k0_ (below_step (hb1_ HB.out GE168.out) hb);(try clear hb);(try clear hb2);(try clear hk);(try clear hi)))
   go_roundg k1
   case measure=>have:=HK1.out;omega
   case rel=>exact ⟨(wrap64 (x5_1 + t169)),(wrap64 (x15_1 + 1)),rs_,rs_, H', ⟨by have:=HK1.out;omega⟩,⟨hb1_ HB.out GE168.out⟩⟩
  ·rw [if_neg c5] at H
   have c5b0:=decide_eq_false c5;clear c5;simp only [Option.some.injEq, Prod.mk.injEq] at H;obtain ⟨rfl, rfl⟩:=H;go_wp2
   go_ret2
   exact ⟨er_, hb0_ HB.out⟩
 ·rw [if_neg c3] at H
  have c3b0:=beq_eq_false_iff_ne.mpr c3;have c3b1:=bne_iff_ne.mpr c3;simp only [Option.some.injEq, Prod.mk.injEq] at H;obtain ⟨rfl, rfl⟩:=H
  go_enter Try.func11, Try.ntmps11
  go_wp2_with (first|((with_reducible refine gate_callee (f:=14) rfl ?_);refine goesL_ (some 9) rfl rfl Try.func14 (by kernel_rfl) rfl #[.slice A0 l0.length c0] rfl mt_ ?_;(with_reducible refine (reserve_Check.calls k (fun k_=>k_ < w.heap.size) _ _ l0 t166 _ ?side1 A2.out).mono ?_);(case side1=>exact Kd.V_mk HC0.out (Kd.F_below (Kd.C_F k32_heap HR0.out) (hb0_ HB.out)));rintro e w12 ⟨rfl, hb⟩;refine ⟨_, rfl, ?_⟩;replace HB:=k0_ (below_step (hb0_ HB.out) hb);(try clear hb);(try clear hb2);(try clear hk);(try clear hi)))
  go_ret2
  exact ⟨er_, hb0_ HB.out⟩

-- NOT PRINTED: function 74 (reserve_part_74)

-- NOT PRINTED: function 81 (reserve_part_81)

-- NOT PRINTED: function 78 (reserve_part_78)

-- NOT PRINTED: function 75 (reserve_part_75)

-- NOT PRINTED: function 69 (reserve_part_69)

-- NOT PRINTED: function 62 (reserve_part_62)

/-! ### cmp_isNaN_int: function 65 -/
def cmp_isNaN_int.f (a0 : Int) : Option (Bool) := some (a0 != a0)
set_option maxHeartbeats 8000000 in
set_option maxRecDepth 100000 in
theorem cmp_isNaN_int.calls (a0 : Int) (r : Bool) (w : World) (h : cmp_isNaN_int.f a0 = some r) :
  Calls Try.prog 65 #[.int .i64 a0] w fun e w' => e = .returned (.bool r) ∧ Drawn0 w w' := by
 have H : (some (a0 != a0)) = some r:=h;clear h;obtain rfl:=Option.some.inj H
 go_enter Try.func65, Try.ntmps65
 go_wp2
 go_ret
 exact ⟨by first|rfl|(simp;done)|(simp [*];done), by repeat (first|exact Drawn0.refl _|apply Drawn0.step)⟩

/-! ### cmp_Compare_int: function 55 -/
def cmp_Compare_int.f (a0 : Int) (a1 : Int) : Option (Int) := (cmp_isNaN_int.f a0).bind fun t170 => ((cmp_isNaN_int.f a1).bind fun t171 => (if t170 = true then (if t171 = true then (some 0) else (some (-1))) else (if t171 = true then (some 1) else (if a0 < a1 then (some (-1)) else (if a0 > a1 then (some 1) else (some 0))))))
set_option maxHeartbeats 8000000 in
set_option maxRecDepth 100000 in
theorem cmp_Compare_int.calls (a0 : Int) (a1 : Int) (r : Int) (w : World) (h : cmp_Compare_int.f a0 a1 = some r) :
  Calls Try.prog 55 #[.int .i64 a0, .int .i64 a1] w fun e w' => e = .returned (.int .i64 r) ∧ Drawn0 w w' := by
 have H : ((cmp_isNaN_int.f a0).bind fun t170=>((cmp_isNaN_int.f a1).bind fun t171=>(if t170 = true then (if t171 = true then (some 0) else (some (-1))) else (if t171 = true then (some 1) else (if a0 < a1 then (some (-1)) else (if a0 > a1 then (some 1) else (some 0))))))) = some r:=h;clear h;replace H:=Option.bind_eq_some_iff.mp H;obtain ⟨t170, A30, H⟩:=H;replace H : ((cmp_isNaN_int.f a1).bind fun t171=>(if t170 = true then (if t171 = true then (some 0) else (some (-1))) else (if t171 = true then (some 1) else (if a0 < a1 then (some (-1)) else (if a0 > a1 then (some 1) else (some 0)))))) = some r:=H;have A3:=k0_ A30;clear A30;replace H:=Option.bind_eq_some_iff.mp H;obtain ⟨t171, A40, H⟩:=H;replace H : (if t170 = true then (if t171 = true then (some 0) else (some (-1))) else (if t171 = true then (some 1) else (if a0 < a1 then (some (-1)) else (if a0 > a1 then (some 1) else (some 0))))) = some r:=H;have A4:=k0_ A40;clear A40
 by_cases c5 : t170 = true
 ·subst c5
  have H1 : (if t171 = true then (some 0) else (some (-1))) = some r:=by rw [if_pos rfl] at H;exact H
  clear H;have H:=H1;clear H1
  by_cases c6 : t171 = true
  ·subst c6
   have H1 : (some 0) = some r:=by rw [if_pos rfl] at H;exact H
   clear H;have H:=H1;clear H1;obtain rfl:=Option.some.inj H
   go_enter Try.func55, Try.ntmps55
   go_wp2_with (first|((with_reducible refine gate_callee (f:=65) rfl ?_);refine goesL_ (some 8) rfl rfl Try.func65 (by kernel_rfl) rfl #[.int .i64 a0] rfl mt_ ?_;(with_reducible refine (cmp_isNaN_int.calls a0 true _ A3.out).mono ?_);rintro e w' ⟨rfl, ⟨nd, rfl⟩⟩;refine ⟨_, rfl, ?_⟩)|((with_reducible refine gate_callee (f:=65) rfl ?_);refine goesL_ (some 10) rfl rfl Try.func65 (by kernel_rfl) rfl #[.int .i64 a1] rfl mt_ ?_;(with_reducible refine (cmp_isNaN_int.calls a1 true _ A4.out).mono ?_);rintro e w' ⟨rfl, ⟨nd, rfl⟩⟩;refine ⟨_, rfl, ?_⟩))
   go_ret
   exact ⟨by first|rfl|(simp;done)|(simp [*];done), by repeat (first|exact Drawn0.refl _|apply Drawn0.step)⟩
  ·replace c6:=Bool.eq_false_iff.mpr c6
   subst c6;have H1 : (some (-1)) = some r:=by rw [if_neg (show ¬ (false = true) by decide)] at H;exact H
   clear H;have H:=H1;clear H1;obtain rfl:=Option.some.inj H
   go_enter Try.func55, Try.ntmps55
   go_wp2_with (first|((with_reducible refine gate_callee (f:=65) rfl ?_);refine goesL_ (some 8) rfl rfl Try.func65 (by kernel_rfl) rfl #[.int .i64 a0] rfl mt_ ?_;(with_reducible refine (cmp_isNaN_int.calls a0 true _ A3.out).mono ?_);rintro e w' ⟨rfl, ⟨nd, rfl⟩⟩;refine ⟨_, rfl, ?_⟩)|((with_reducible refine gate_callee (f:=65) rfl ?_);refine goesL_ (some 10) rfl rfl Try.func65 (by kernel_rfl) rfl #[.int .i64 a1] rfl mt_ ?_;(with_reducible refine (cmp_isNaN_int.calls a1 false _ A4.out).mono ?_);rintro e w' ⟨rfl, ⟨nd, rfl⟩⟩;refine ⟨_, rfl, ?_⟩))
   go_ret
   exact ⟨by first|rfl|(simp;done)|(simp [*];done), by repeat (first|exact Drawn0.refl _|apply Drawn0.step)⟩
 ·replace c5:=Bool.eq_false_iff.mpr c5
  subst c5;have H1 : (if t171 = true then (some 1) else (if a0 < a1 then (some (-1)) else (if a0 > a1 then (some 1) else (some 0)))) = some r:=by rw [if_neg (show ¬ (false = true) by decide)] at H;exact H
  clear H;have H:=H1;clear H1
  by_cases c7 : t171 = true
  ·subst c7
   have H1 : (some 1) = some r:=by rw [if_pos rfl] at H;exact H
   clear H;have H:=H1;clear H1;obtain rfl:=Option.some.inj H
   go_enter Try.func55, Try.ntmps55
   go_wp2_with (first|((with_reducible refine gate_callee (f:=65) rfl ?_);refine goesL_ (some 8) rfl rfl Try.func65 (by kernel_rfl) rfl #[.int .i64 a0] rfl mt_ ?_;(with_reducible refine (cmp_isNaN_int.calls a0 false _ A3.out).mono ?_);rintro e w' ⟨rfl, ⟨nd, rfl⟩⟩;refine ⟨_, rfl, ?_⟩)|((with_reducible refine gate_callee (f:=65) rfl ?_);refine goesL_ (some 10) rfl rfl Try.func65 (by kernel_rfl) rfl #[.int .i64 a1] rfl mt_ ?_;(with_reducible refine (cmp_isNaN_int.calls a1 true _ A4.out).mono ?_);rintro e w' ⟨rfl, ⟨nd, rfl⟩⟩;refine ⟨_, rfl, ?_⟩))
   go_ret
   exact ⟨by first|rfl|(simp;done)|(simp [*];done), by repeat (first|exact Drawn0.refl _|apply Drawn0.step)⟩
  ·replace c7:=Bool.eq_false_iff.mpr c7
   subst c7;have H1 : (if a0 < a1 then (some (-1)) else (if a0 > a1 then (some 1) else (some 0))) = some r:=by rw [if_neg (show ¬ (false = true) by decide)] at H;exact H
   clear H;have H:=H1;clear H1
   by_cases c8 : a0 < a1
   rw [if_pos c8] at H;have c8b0:=decide_eq_true c8;clear c8;obtain rfl:=Option.some.inj H;rotate_left;rw [if_neg c8] at H;have c8b0:=decide_eq_false c8;clear c8
   focus
    by_cases c9 : a0 > a1
    rw [if_pos c9] at H;have c9b0:=decide_eq_true c9;clear c9;obtain rfl:=Option.some.inj H;rotate_left;rw [if_neg c9] at H;have c9b0:=decide_eq_false c9;clear c9;obtain rfl:=Option.some.inj H;rotate_left
   rotate_left 2
   all_goals
    go_enter Try.func55, Try.ntmps55
    go_wp2_with (first|((with_reducible refine gate_callee (f:=65) rfl ?_);refine goesL_ (some 8) rfl rfl Try.func65 (by kernel_rfl) rfl #[.int .i64 a0] rfl mt_ ?_;(with_reducible refine (cmp_isNaN_int.calls a0 false _ A3.out).mono ?_);rintro e w' ⟨rfl, ⟨nd, rfl⟩⟩;refine ⟨_, rfl, ?_⟩)|((with_reducible refine gate_callee (f:=65) rfl ?_);refine goesL_ (some 10) rfl rfl Try.func65 (by kernel_rfl) rfl #[.int .i64 a1] rfl mt_ ?_;(with_reducible refine (cmp_isNaN_int.calls a1 false _ A4.out).mono ?_);rintro e w' ⟨rfl, ⟨nd, rfl⟩⟩;refine ⟨_, rfl, ?_⟩))
    go_ret
   ·exact ⟨by first|rfl|(simp;done)|(simp [*];done), by repeat (first|exact Drawn0.refl _|apply Drawn0.step)⟩
   ·exact ⟨by first|rfl|(simp;done)|(simp [*];done), by repeat (first|exact Drawn0.refl _|apply Drawn0.step)⟩
   ·exact ⟨by first|rfl|(simp;done)|(simp [*];done), by repeat (first|exact Drawn0.refl _|apply Drawn0.step)⟩

end Go.Proofs.Ytekpnmeikibioaa.PReserveBest
