/- Texts of this proof, put together: YtldgmneijipbjaaHParts, YtldgmneijipbjaaHAwake, YtldgmneijipbjaaPu3, YtldgmneijipbjaaHRP, YtldgmneijipbjaaHRParts, YtldgmneijipbjaaHLaw4, YtldgmneijipbjaaHOwn, YtldgmneijipbjaaHLaw6, YtldgmneijipbjaaHRow. -/
import Derived.Test.YtldgmneijipbjaaRows
import Derived.Deep.Matrix
import Derived.Test.YtldgmneijipbjaaMo1
/- YtldgmneijipbjaaHParts -/
section
/- The contract of order.Parts. -/
namespace Go.Proofs.Ytldgmneijipbjaa.H
open Go.RowKit Go.Shelf Go.Proofs.YtldgmneijipbjaaW.PrintWords Go.Proofs.YtldgmneijipbjaaW.PrintLast Go.Proofs.YtldgmneijipbjaaW.PrintMore
open Gr (out sn unseen visit scan backE bput esU esV kparts All2)
open Pu (okE okR)
set_option linter.unusedVariables false
set_option linter.unusedSimpArgs false
attribute [local go_sem] Oper.semAt_some

/-- rows of the call's own that lie apart -/
def OwnRowsS (w : World) (l : List (List Int)) (e : Ending) (w' : World) : Prop := ∃ v, e = .returned v ∧ Kd.S KE 31 w' w.heap.size (fun _ => True) v l ∧ Below w.heap.size w w'

/-- the first loop begins -/
theorem P1.start {g : Gr.G} {w w1 w2 : World} {b gs cs gb cb nd n c : Nat} {A : Option Addr} (hn : g.length = n) (hb : (w.drewN nd).heap.size ≤ b) (hgs : (w.drewN nd).heap.size ≤ gs)
    (hws : WS w1 w.heap.size b (.slice A n c) gs cs (fun k => k = gs) (fun _ => False) (.slice none 0 0) (List.replicate n false, [])) (hf : Fr (fun _ => False) (w.drewN nd) w1)
    (hm : Kd.S KE 31 w2 w.heap.size (fun k => w1.heap.size ≤ k) (.slice (some ⟨gb, 0, none⟩) (List.replicate (n : Int).toNat ([] : List Int)).length cb) (List.replicate (n : Int).toNat [])) (hg2 : w1.grownBy w2 none) :
    P1 g w b (.slice A n c) gs cs gb cb 0 [] w2 (fun _ => False) (fun k => w1.heap.size ≤ k ∧ k < w2.heap.size) (.slice none 0 0) := by
  have hF : Fr (fun _ => False) w1 w2 := ⟨hg2.os, hg2.tape, hg2.output, hg2.size, fun k hk _ => hg2.block k hk (by simp)⟩
  have hsz : w.heap.size ≤ w1.heap.size := hf.size
  have hb1 := blk_lt hws.blk
  have hg1 := hws.Plt gs rfl
  subst hn
  refine ⟨⟨hF.blk hws.blk id, fr_R hws.seen hF (fun _ _ q => q), Kd.R_nil _ _ _ _ _, hws.bP, id, fun _ _ q => q, fun k hk => Nat.lt_of_lt_of_le (hws.Plt k hk) hF.size⟩, ?_, fun _ q => q.elim, fun k hk => hk.2, fun _ q => q.elim, fun k hk => by omega, hb, hgs, fun k hk => ⟨by omega, by omega, id⟩, ?_⟩
  · have e : (backE g.length []).map castL = List.replicate g.length ([] : List Int) := by simp [backE, castL]
    rw [e]
    have := Kd.S_mono (Kd.S_bound hm) (ok' := fun k => w1.heap.size ≤ k ∧ k < w2.heap.size) (fun k hk => ⟨hk.1, hk.2.2.1⟩)
    simpa using this
  · exact ((pw_below_drewN (Below.refl _ w) nd).trans (hf.below (B := w.heap.size) (Nat.le_refl _) (fun _ q => q.elim))).trans (hF.below hsz (fun _ q => q.elim))

theorem backE_len {g : Gr.G} (hg : Gr.Good g) : (backE g.length (esU g g.length)).length = g.length := Gr.backE_length _ _

set_option maxRecDepth 100000 in
set_option maxHeartbeats 8000000 in
theorem parts_good (A : Option Addr) (c : Nat) (g : Gr.G) (w : World) (hg : Gr.Good g) (hE : Kd.C KE w A g.length (castG g)) (hc : g.length ≤ c) (hsm : g.length ≤ 1099511627776) (htot : (g.map List.length).sum ≤ 1099511627776)
    (hck : ∃ k, PCheck.order_Check.f k (castG g) = some 0) :
    Calls Try.prog 11 #[.slice A g.length c] w (OwnRowsS w ((Gr.canon g).map castL)) := by
  have hn : g.length = g.length := rfl
  obtain ⟨k, hk⟩ := hck
  have hcl : (castG g).length = g.length := by simp [castG, hn]
  have hk2 := PCheck.order_Check.calls k A c (castG g) 0 w (by rw [hcl]; exact hE) (by omega) hk
  rw [hcl] at hk2
  have HK := hide hk2
  have HE := hide hE
  have HC := hide hc
  have HG := hide hg
  have HCL := hide hcl
  have HT := hide htot
  have HWALK := hide (fun nd : Nat => walkOf_any A g.length c w.heap.size (w.drewN nd) (by omega) (Nat.le_refl _))
  clear hk hk2 hE hc hg hn hcl htot
  refine (callsIn_wide (n := 9)).1 ?_
  refine callsIn_of_wp_marks Try.func11 rfl trivial ?_ rfl
  simp only [Try.ntmps11, List.size_toArray, List.length_cons, List.length_nil, Nat.reduceAdd, Nat.reduceSub, Array.replicate_succ, Array.replicate_zero, List.push_toArray, List.append_toArray, List.nil_append, List.cons_append]
  refine wpIn_wide.2 ?_
  go_wp2_with (first | (go_at_call 8; refine HK.out.mono ?_; rintro e w1 ⟨rfl, ⟨nd, rfl⟩⟩) | (go_at_call 18; refine (HWALK.out _).mono ?_; rintro e w1 ⟨b, gs, cs, rfl, hb, hgg, hws, hf⟩; have HB := hide hb; have HGS := hide hgg; have HWS := hide hws; have HF := hide hf; clear hb hgg hws hf HWALK) | ((with_reducible refine gate_dst (N := 22) rfl ?_); refine Kd.S_make KE (w0 := w) w.heap.size 31 rfl (N := 22) rfl 22 _ _ rfl (g.length : Int) rfl rfl Try.underlying22 (.slice none 0 0) 24 info31 rfl (by decide) (by omega) ([] : List Int) (ok := fun k => w1.heap.size ≤ k) (okp := fun _ => False) ?m1 (fun _ hk => hk.elim) (Nat.le_refl _) (by omega) (by omega) ?m2 ?m3 ?_; (case m1 => exact ⟨_, rfl, Kd.R_nil _ _ _ _ _⟩); (case m2 => exact ((pw_below_drewN (Below.refl _ w) nd).trans ((HF.out.below (B := w.heap.size) (Nat.le_refl _) (fun _ q => q.elim))))); (case m3 => exact HF.out.size); intro v2 w2 h1 h2 h3 h4; obtain ⟨gb, h4, h5⟩ := h4; obtain ⟨cb, rfl⟩ := R_blk (Kd.S_R h1) h4; have M1 := hide h1; have M2 := hide h2; have M3 := hide h3; clear h1 h2 h3 h4 h5))
  have HP0 := hide (P1.start rfl HB.out HGS.out HWS.out HF.out M1.out M3.out)
  clear HB HGS HWS HF M1 M2 M3
  have hnb : g.length < 9223372036854775807 := by omega
  go_loopg [25] (g.length + 1) (fun gk v25 wr => ∃ x : Nat, x ≤ g.length ∧ g.length - x < gk ∧ v25 = .int .i64 x ∧ ∃ D Q dv, Aside0 (P1 g w b (.slice A g.length c) gs cs gb cb x (esU g x) wr D Q dv))
  case atStart => exact ⟨0, Nat.zero_le _, by omega, rfl, _, _, _, HP0⟩
  case round =>
    obtain ⟨x, hx, hgk, rfl, D, Q, dv, HP⟩ := hrel
    clear HP0
    by_cases hlt : x < g.length
    · obtain ⟨ad, A0, c0, rfl, c1w, hroww⟩ := edge_row (by exact HE.out) x (by exact hlt)
      have c1 := pw_cell_below HP.out.below c1w
      have hlti : (x : Int) < (g.length : Int) := by omega
      obtain ⟨rl, hrl⟩ : ∃ r, (out g x).length = r := ⟨_, rfl⟩
      rw [hrl] at c1 hroww
      have HRL := hide hrl
      have HROW := hide hroww
      have HFROM := hide (HP.out.from_ HG.out rfl hlt hsm HE.out)
      clear hrl c1w hroww
      go_wp2_with (go_at_call 19; refine HFROM.out.mono ?_; rintro e w3 ⟨rfl, D3, dv3, hP3⟩; have HP3 := hide hP3; clear hP3)
      have hrb : rl ≤ 1099511627776 := by
        have := Gr.esV_length g x rl (by exact hlt)
        have h2 : rl ≤ (Gr.esV g x rl).length := by simp [esV, HRL.out]
        have := HT.out
        omega
      have HP4 := hide (show P1 g w b (.slice (some ad) g.length c) gs cs gb cb (x + 1) (esV g x 0) w3 D3 Q dv3 by rw [Gr.esV_zero]; exact HP3.out)
      obtain ⟨wo, hwo⟩ : ∃ wo : World, wo = wr := ⟨_, rfl⟩
      clear HP HP3 HFROM c1
      go_loopg [35] (rl + 1) (fun gj v35 wi => ∃ j : Nat, j ≤ rl ∧ rl - j < gj ∧ v35 = .int .i64 j ∧ ∃ D Q dv, Aside0 (P1 g w b (.slice (some ad) g.length c) gs cs gb cb (x + 1) (esV g x j) wi D Q dv))
      case atStart => exact ⟨0, Nat.zero_le _, by omega, rfl, _, _, _, HP4⟩
      case round =>
        clear HP4
        obtain ⟨j, hj, hgj, rfl, D5, Q5, dv5, HP5⟩ := hrel
        by_cases hjl : j < rl
        · obtain ⟨y, hy⟩ : ∃ y, (out g x)[j]? = some y := ⟨_, List.getElem?_eq_getElem (by rw [HRL.out]; exact hjl)⟩
          have hyn : y < g.length := by exact HG.out x y (List.mem_iff_getElem?.2 ⟨j, hy⟩)
          have hyi : (y : Int) < (g.length : Int) := by omega
          have hji : (j : Int) < (rl : Int) := by omega
          obtain ⟨ad2, rfl, c6⟩ := edge_at (r := out g x) (by rw [HRL.out]; exact Kd.C_below HROW.out HP5.out.below) j y hy
          obtain ⟨oki, v0, hR0, c7, hoki, hH⟩ := mat_lend HP5.out.mat y hyn
          have hv0 : ∀ k, v0.ownBlock = some k → oki k := hR0.1
          have hrow := Gr.backE_row g.length (esV g x j) (Gr.esV_lt HG.out x j) y
          have hlen := Gr.esV_length g x j (by exact hlt)
          have hrl2 : (((backE g.length (esV g x j)).map castL).getD y []).length ≤ 1099511627776 := by
            have e : ((backE g.length (esV g x j)).map castL).getD y [] = castL ((backE g.length (esV g x j)).getD y []) := castG_getD _ _
            rw [e, castL_length]
            have := HT.out
            omega
          obtain ⟨row, hrowe⟩ : ∃ r, ((backE g.length (esV g x j)).map castL).getD y [] = r := ⟨_, rfl⟩
          obtain ⟨ml, hml⟩ : ∃ m, row.length = m := ⟨_, rfl⟩
          rw [hrowe] at hR0 hrl2
          have HROWE := hide hrowe
          have HML := hide hml
          have HR0 := hide hR0
          have HOKI := hide hoki
          have HH := hide hH
          have HV0 := hide hv0
          have HRL2 := hide hrl2
          have HY := hide hy
          have hgbQ : Q5 gb := (Kd.S_R HP5.out.mat).1 gb rfl
          have HGB := hide (HP5.out.Qlt gb hgbQ)
          obtain ⟨cellsg, hcg⟩ := Kd.R_typed (Kd.S_R HP5.out.mat) gb rfl
          have HCG := hide hcg
          have HNE := hide (show some gb ≠ v0.ownBlock from fun e => (hoki gb (hv0 gb e.symm)).2 rfl)
          clear hrowe hml hR0 hoki hH hv0 hrow hlen hrl2 hy hgbQ hcg
          go_wp2_with ((with_reducible refine gate_dst (N := 47) rfl ?_); at_builtin; refine Kd.R_append (Kd.int .i64) (w0 := wr) w.heap.size rfl (.tmp 44) (.tmp 46) 31 3 (.int .i64 0) 8 rfl Try.underlying31 info3 rfl (by decide) (by omega) v0 row (x : Int) [.int .i64 x] (fun k => oki k ∨ wr.heap.size ≤ k) (fun _ => False) rfl rfl ?aP (fun _ hk => hk.elim) (fun k hk => .inr hk) ?aO (Below.refl _ _) ?aS ?aL ?_; (case aP => exact rfl); (case aO => exact Kd.R_mono HR0.out (fun k hk => .inl hk)); (case aS => exact HP5.out.below.size); (case aL => have := HRL2.out; omega); intro v1 w4 h1 h2 h3 h4; obtain ⟨g1, cap1, rfl, -, -, -⟩ := Kd.R_form h1 (by simp); have e2 : (row ++ [(x : Int)]).length = ml + 1 := (by rw [List.length_append, HML.out]; rfl); rw [e2] at h1 ⊢; clear e2; have B1 := hide h1; have B3 := hide h3; have f8 : w4.frozen? ⟨gb, y, none⟩ = false := blk_frozen ((h3.block gb HGB.out HNE.out).trans HCG.out) y; have c8 : w4.cell? ⟨gb, y, none⟩ = some v0 := (World.cell?_of_block (w := wr) (w' := w4) (a := ⟨gb, y, none⟩) (h3.block gb HGB.out HNE.out)).trans c7; clear h1 h2 h3 h4)
          go_roundg (rl - j)
          case measure => omega
          case rel => exact ⟨j + 1, by omega, by omega, by go_num, _, _, _, ⟨by rw [Gr.esV_succ g x j y HY.out]; exact HP5.out.put (by exact hyn) HH.out HOKI.out B3.out HV0.out (by rw [HROWE.out]; exact B1.out) rfl⟩⟩
        · obtain rfl : j = rl := by omega
          have HP6 := hide (show P1 g w b (.slice (some ad) g.length c) gs cs gb cb (x + 1) (esU g (x + 1)) wr D5 Q5 dv5 by rw [← Gr.esV_all g x j (by rw [HRL.out]; exact Nat.le_refl _)]; exact HP5.out)
          clear HP5
          go_wp2
          go_roundg (g.length - x)
          case measure => omega
          case rel => exact ⟨x + 1, by omega, by omega, by go_num, _, _, _, HP6⟩
    · obtain rfl : x = g.length := by omega
      obtain ⟨dl, hdl⟩ : ∃ m, (castL (scan g (NN g) (List.range g.length) (st0 g.length)).2).length = m := ⟨_, rfl⟩
      obtain ⟨Ad, cd, hdv, -, -⟩ := Kd.R_reads HP.out.ws.done
      rw [hdl] at hdv
      subst hdv
      have HDL := hide hdl
      clear hdl
      have HWALK2 := hide (walkOf_any (some ⟨gb, 0, none⟩) g.length cb w.heap.size wr (by omega) HP.out.below.size)
      go_wp2_with (first | (go_at_call 18; refine HWALK2.out.mono ?_; rintro e w1 ⟨b2, gs2, cs2, rfl, hb, hgg, hws, hf⟩; have HB := hide hb; have HGS := hide hgg; have HWS := hide hws; have HF := hide hf; have c2 : ∀ o1 o2 : Obj, ((w1.alloc o1).alloc o2).cell? ⟨b, 2, none⟩ = some (.slice Ad dl cd) := (fun o1 o2 => cell_al _ (cell_al _ ((blk_cell (hf.blk HP.out.ws.blk id) 2).trans rfl))); clear hb hgg hws hf HWALK2) | (go_at_call 20; refine (back_any _ _ _ _).mono ?_; rintro e w9 ⟨rfl, rfl⟩))
      have hgl := HB.out
      have hgsl := HGS.out
      obtain ⟨d1, hd1⟩ : ∃ d, (scan g (NN g) (List.range g.length) (st0 g.length)).2 = d := ⟨_, rfl⟩
      obtain ⟨zs, hzs⟩ := attach_lt (n := g.length) d1 (by rw [← hd1]; exact done_lt HG.out)
      have hzl : zs.length = dl := by rw [← HDL.out, hd1, ← hzs]; simp [castL]
      have hdl : dl ≤ g.length := by
        have := (scan_bounds g HG.out (List.range g.length)).2
        have e := HDL.out
        simp [castL] at e
        omega
      have hwb := HP.out.below.size
      obtain ⟨W0, hW0⟩ : ∃ W0, ((w1.alloc (.cells #[.pointer (some ⟨b2, 0, none⟩)] 35)).alloc (.cells #[.slice none 0 0] 22)).alloc (.cells #[.slice Ad dl cd] 31) = W0 := ⟨_, rfl⟩
      have hs0 : W0.heap.size = w1.heap.size + 3 := by rw [← hW0]; simp
      have hF0 : Fr (fun _ => False) w1 W0 := by rw [← hW0]; exact ((((Fr.refl _ w1).alloc _).alloc _).alloc _)
      have hBv : W0.heap[w1.heap.size]? = some (.cells #[.pointer (some ⟨b2, 0, none⟩)] 35 (0, 0)) := by
        rw [← hW0]
        exact (Below.heap_alloc _ _ _ (by simp; omega)).trans ((Below.heap_alloc _ _ _ (by simp)).trans (World.alloc_heap_new _ _))
      have hBo : W0.heap[w1.heap.size + 1]? = some (.cells #[.slice none 0 0] 22 (0, 0)) := by
        rw [← hW0]
        exact (Below.heap_alloc _ _ _ (by simp)).trans (by have := World.alloc_heap_new (w1.alloc (.cells #[.pointer (some ⟨b2, 0, none⟩)] 35)) (.cells #[.slice none 0 0] 22); rwa [World.size_alloc] at this)
      have hBs : W0.heap[w1.heap.size + 1 + 1]? = some (.cells #[.slice Ad dl cd] 31 (0, 0)) := by
        rw [← hW0]
        have := World.alloc_heap_new ((w1.alloc (.cells #[.pointer (some ⟨b2, 0, none⟩)] 35)).alloc (.cells #[.slice none 0 0] 22)) (.cells #[.slice Ad dl cd] 31)
        rwa [World.size_alloc, World.size_alloc] at this
      rw [hW0]
      have HF01 := hide hF0
      have HF02 := hide (HF.out.trans hF0 (fun _ q => q.elim))
      have hb2 := blk_lt HWS.out.blk
      have hg2 := HWS.out.Plt gs2 rfl
      have HMC := hide (show ∀ W, Below wr.heap.size W0 W → Kd.C KE W (some ⟨gb, 0, none⟩) g.length (castG (backE g.length (esU g g.length))) from by
        intro W hW
        obtain ⟨A, c, e, _, hC⟩ := Kd.R_reads (Kd.S_R HP.out.mat)
        injection e with e1 e2 e3
        subst e1
        have hl : ((backE g.length (esU g g.length)).map castL).length = g.length := by rw [List.length_map]; exact backE_len HG.out
        rw [hl] at hC
        exact Kd.C_below hC ((HF02.out.below (B := wr.heap.size) (Nat.le_refl _) (fun _ q => q.elim)).trans hW))
      have HPS := hide (show P2S w.heap.size W0 b2 gs2 (w1.heap.size + 1) from ⟨by omega, by omega, by omega, by omega, by omega, by omega, fun e => HWS.out.bP e, by omega, by omega⟩)
      have HBV := hide (show w1.heap.size < W0.heap.size ∧ w1.heap.size ≠ b2 ∧ w1.heap.size ≠ gs2 ∧ w1.heap.size ≠ w1.heap.size + 1 ∧ W0.heap[w1.heap.size]? = some (.cells #[.pointer (some ⟨b2, 0, none⟩)] 35 (0, 0)) from ⟨by omega, by omega, by omega, by omega, hBv⟩)
      refine (wpIn_wide (n := 9)).1 ?_
      refine wpIn_rangeFunc_ownG_of_H rfl (by omega) (gf := 29) (lb := #[.pointer (some ⟨w1.heap.size + 1 + 1, 0, none⟩)]) rfl trivial (enters_of Try.func29 (by kernel_rfl) rfl)
        (back_stops (β := { x : Nat // x < g.length }) (fun p => ((p.1 : Nat) : Int)) Fence.wide (9 - 1) trivial rfl (by omega) (w1.heap.size + 1 + 1) cd Ad zs (by omega) (fun k => k < W0.heap.size ∧ k ≠ b2 ∧ k ≠ gs2 ∧ k ≠ w1.heap.size + 1) W0 ?bs1 ?bs2 (fun _ q => q.1) ?bs3)
        (fun h k => h.t k) ?hKb (Below.refl _ _) (fun _ => rfl)
        (fun pre W => ∃ D O dv ov ps, P2 (backE g.length (esU g g.length)) (NN (backE g.length (esU g g.length))) g.length w.heap.size W0 b2 gs2 cs2 (.slice (some ⟨gb, 0, none⟩) g.length cb) (w1.heap.size + 1) (pre.map (fun p => p.2.1)) W D O dv ov ps)
        (fun _ _ _ => False) ?hI (fun _ _ _ _ _ hs _ _ => hs) ?h0 ?a1 ?hassign ?hbody ?hdone (fun _ _ _ _ _ _ hs _ => hs.elim) (fun _ _ _ => rfl)
      case bs1 => rw [hzl]; exact (blk_cell hBs 0).trans rfl
      case bs2 => exact ⟨by omega, by omega, by omega, by omega⟩
      case bs3 =>
        intro W' hK
        have hm := Kd.R_move (fr_R HP.out.ws.done HF02.out (fun _ _ q => q)) (w1 := W') (fun k hk => hK k ⟨by have := HP.out.Dlt k hk; omega, by have := HP.out.Dlt k hk; omega, by have := HP.out.Dlt k hk; omega, by have := HP.out.Dlt k hk; omega⟩)
        obtain ⟨A, c, e, _, hC⟩ := Kd.R_reads hm
        injection e with e1 e2 e3
        subst e1
        have e4 : castL (scan g (NN g) (List.range g.length) (st0 g.length)).2 = zs.map (fun p => ((p.1 : Nat) : Int)) := by rw [hd1, ← hzs]; simp [castL]
        rw [e4] at hC
        simpa using hC
      case hKb =>
        intro W l o o' hl _ _ _ k hk
        exact World.putObj_heap_other (by omega)
      case hI =>
        rintro pre X Y row ⟨D3, O3, dv3, ov3, ps3, q⟩ hg hr
        exact ⟨D3, O3, dv3, ov3, ps3, q.own hg hr⟩
      case h0 => exact ⟨_, _, _, _, _, P2.start HWS.out HF01.out hBo⟩
      case hassign =>
        intro l x W K hK
        gi_wp2
        exact hK
      case hbody =>
        rintro l pre x W ⟨D3, O3, dv3, ov3, ps3, HPP⟩ hlen
        have hxn : x.2.1 < g.length := x.2.2
        obtain ⟨xv, hxv⟩ : ∃ v, x.2.1 = v := ⟨_, rfl⟩
        rw [hxv] at hxn ⊢
        have hxi : (xv : Int) < (g.length : Int) := by omega
        obtain ⟨c1, c2, c3, c4⟩ := HPP.cells (Gr.back_is HG.out).good (backE_len HG.out) hxn
        have cB : W.cell? ⟨w1.heap.size, 0, none⟩ = some (.pointer (some ⟨b2, 0, none⟩)) := HPP.bv HBV.out
        obtain ⟨xs, hxs⟩ : ∃ xs, pre.map (fun p => p.2.1) = xs := ⟨_, rfl⟩
        have hxs2 : (pre ++ [x]).map (fun p => p.2.1) = xs ++ [xv] := by rw [List.map_append, hxs]; simp [hxv]
        rw [hxs] at HPP c3
        have HPQ := hide HPP
        have HXS := hide hxs2
        have HXV := hide hxv
        clear HPP hxs2 hxv
        cases hsn : sn (kparts (backE g.length (esU g g.length)) (NN (backE g.length (esU g g.length))) xs (a0 g.length)).1.1 xv with
        | true =>
          rw [hsn] at c3
          have HSN := hide hsn
          clear hsn
          gi_wp2
          refine ⟨KeepsFrom.refl _ _, fun _ _ => rfl, D3, O3, dv3, ov3, ps3, ?_⟩
          rw [HXS.out]
          have e : kparts (backE g.length (esU g g.length)) (NN (backE g.length (esU g g.length))) (xs ++ [xv]) (a0 g.length) = kparts (backE g.length (esU g g.length)) (NN (backE g.length (esU g g.length))) xs (a0 g.length) := by
            rw [kparts_snoc]
            unfold Gr.kstep
            rw [HSN.out]
            rfl
          have q := HPQ.out
          exact ⟨by rw [e]; exact q.ws, q.box, q.out, by rw [e]; exact q.ps2, q.Dc, q.Oc, q.Dge, q.Oge, q.OD, q.fr⟩
        | false =>
          rw [hsn] at c3
          have HSN := hide hsn
          have HFROM := hide (HPQ.out.from_ (B0 := wr.heap.size) HPS.out (Gr.back_is HG.out).good (backE_len HG.out) hxn hsm (by exact hwb) ?sB ?sBB ?sE hsn)
          case sB => omega
          case sBB => exact ⟨hgl, hgsl, by omega⟩
          case sE => exact HMC.out
          obtain ⟨m0, hm0⟩ : ∃ m, (kparts (backE g.length (esU g g.length)) (NN (backE g.length (esU g g.length))) xs (a0 g.length)).1.2.length = m := ⟨_, rfl⟩
          obtain ⟨Ad3, cd3, rfl, -, -⟩ := Kd.R_reads HPQ.out.ws.done
          rw [castL_length, hm0] at c2
          have HM0 := hide hm0
          clear hsn hm0
          gi_wp2
          refine ⟨trivial, ?_⟩
          refine (CallsIn.inRound l (callsIn_wide.2 HFROM.out)).mono ?_
          rintro e W2 ⟨rfl, D4, dv4, hws4, hD4, hf4⟩
          obtain ⟨gd, cd4, m4, rfl, hm4, c5, cmc, c7, c8, hC4⟩ := P2.after HPQ.out HPS.out HBV.out hws4 hD4 hf4 (hm0 := HM0.out)
          have HM4 := hide hm4
          have HC4 := hide hC4
          have HWS4 := hide hws4
          have HD4 := hide hD4
          have HF4 := hide hf4
          clear hws4 hD4 hf4 hm4 hC4
          gi_wp2
          refine ⟨trivial, ?_⟩
          obtain ⟨part, hpart⟩ : ∃ p, (visit (backE g.length (esU g g.length)) (NN (backE g.length (esU g g.length))) xv (kparts (backE g.length (esU g g.length)) (NN (backE g.length (esU g g.length))) xs (a0 g.length)).1).2.drop m0 = p := ⟨_, rfl⟩
          have hpl : (castL part).length = m4 - m0 := by rw [castL_length, ← hpart, List.length_drop, HM4.out]
          have hml : m4 ≤ g.length := by
            have := kparts_start (backE g.length (esU g g.length)) (Gr.back_is HG.out).good (NN (backE g.length (esU g g.length))) (xs ++ [xv])
            rw [kparts_snoc, backE_len HG.out] at this
            unfold Gr.kstep at this
            rw [HSN.out] at this
            have e : (visit (backE g.length (esU g g.length)) (NN (backE g.length (esU g g.length))) xv (kparts (backE g.length (esU g g.length)) (NN (backE g.length (esU g g.length))) xs (a0 g.length)).1).2.length = m4 := HM4.out
            simp only [Bool.false_eq_true, if_false] at this
            rw [e] at this
            omega
          have hcc := HC4.out
          rw [hpart] at hcc
          have hcl := clone_any gd m0 (cd4 - m0) (castL part) W2 hcc (by rw [hpl]; omega)
          rw [hpl] at hcl
          have HPART := hide hpart
          have HPL := hide hpl
          clear hpart hpl hcc
          refine (CallsIn.inRound l (callsIn_wide.2 hcl)).mono ?_
          rintro e W3 ⟨pv, rfl, hR3, hb3⟩
          clear hcl
          obtain ⟨Ap, cp, rfl, -, -⟩ := Kd.R_reads hR3
          have HSORT := hide (sort_any (castL part) (by rw [HPL.out]; omega) (by rw [HPL.out]; omega) (.slice Ap (castL part).length cp) W2.heap.size (fun k => W2.heap.size ≤ k) W3 (Kd.R_mono (Kd.R_bound hR3) (fun k hk => hk.2.1)))
          have HB3 := hide hb3
          clear hR3 hb3
          gi_wp2
          refine ⟨trivial, ?_⟩
          refine (CallsIn.inRound l (callsIn_wide.2 HSORT.out)).mono ?_
          rintro e W4 ⟨rfl, hf5, hR4⟩
          have HF5 := hide (((Fr.of_below (S := fun k => W2.heap.size ≤ k) HB3.out).trans hf5 (fun i hi => .inl hi)))
          have HR4 := hide hR4
          clear hf5 hR4 HSORT
          have c9 : W4.cell? ⟨w1.heap.size + 1, 0, none⟩ = some ov3 := HPQ.out.box4 HPS.out HF4.out HF5.out
          obtain ⟨Ao, co, rfl, -, -⟩ := Kd.R_reads (Kd.S_R HPQ.out.out)
          have hpsl : (ps3.map castL).length ≤ g.length := by
            have h1 := All2_length HPQ.out.ps2
            have h2 := (kparts_start (backE g.length (esU g g.length)) (Gr.back_is HG.out).good (NN (backE g.length (esU g g.length))) xs).2.2
            rw [backE_len HG.out] at h2
            have h3 : xs.length = pre.length := by have := congrArg List.length HXS.out; simp at this; omega
            rw [List.length_map]
            omega
          obtain ⟨pl, hpl⟩ : ∃ m, (ps3.map castL).length = m := ⟨_, rfl⟩
          rw [hpl] at hpsl
          have HAL := hide (show Fr (fun k => W2.heap.size ≤ k) W2 (W4.alloc (.cells #[.slice Ap (castL part).length cp] 31)) from HF5.out.alloc _)
          have HOUT := hide (HPQ.out.out4 HPS.out HF4.out HAL.out)
          have HR5 := hide (Kd.R_alloc HR4.out (.cells #[.slice Ap (castL part).length cp] 31))
          rw [hpl] at c4 c9 HPQ HOUT
          have HPLL := hide hpl
          have hs24 : W2.heap.size ≤ W4.heap.size := HF5.out.size
          have hsw2 : W.heap.size ≤ W2.heap.size := HF4.out.size
          have hs0w : W0.heap.size ≤ W.heap.size := HPQ.out.fr.size
          clear hpl
          have hww : w.heap.size ≤ W2.heap.size := by omega
          gi_wp2_with (gi_at_builtin; refine Aside0.out ?_)
          refine ⟨?_⟩
          refine S_append_in KE (W := W4.alloc (.cells #[.slice Ap (castL part).length cp] 31)) w.heap.size rfl (.tmp 84) (.tmp 86) 22 31 (.slice none 0 0) 24 rfl Try.underlying22 info31 rfl (by decide) (by omega) (.slice Ao pl co) (ps3.map castL) ((castL part).mergeSort fun x y => decide (x ≤ y)) [.slice Ap (castL part).length cp] (fun k => O3 k ∨ W2.heap.size ≤ k) (fun k => W2.heap.size ≤ k) rfl ⟨W4.heap.size, 0, none⟩ rfl ?aC ⟨_, rfl, Kd.R_lower HR5.out hww⟩ ?aP (fun k hk => .inr (by simp at hk; omega)) ?aO (by simp; omega) ?aL ?_
          case aC =>
            intro j u hu
            cases j with
            | succ j => simp at hu
            | zero =>
              have : u = .slice Ap (castL part).length cp := by simpa using hu.symm
              subst this
              exact (blk_cell (World.alloc_heap_new W4 _) 0).trans rfl
          case aP =>
            intro k hk
            refine ⟨.inr hk, fun e => ?_⟩
            obtain ⟨c, t, e⟩ := HPQ.out.Oc k ((Kd.S_R HPQ.out.out).1 k e.symm)
            have := (Array.getElem?_eq_some_iff.1 e).1
            omega
          case aO => exact Kd.S_mono HOUT.out (fun k hk => ⟨.inl hk, by obtain ⟨c, t, e⟩ := HPQ.out.Oc k hk; have := (Array.getElem?_eq_some_iff.1 e).1; omega⟩)
          case aL => rw [HPLL.out]; omega
          intro v5 W5 h5 hg5
          obtain ⟨A5, c5, rfl, -, -⟩ := Kd.R_reads (Kd.S_R h5)
          obtain ⟨l5, hl5⟩ : ∃ m, (ps3.map castL ++ [(castL part).mergeSort fun x y => decide (x ≤ y)]).length = m := ⟨_, rfl⟩
          rw [hl5] at h5 ⊢
          clear hl5
          have H5 := hide h5
          have HG5 := hide hg5
          obtain ⟨f9, c10⟩ := HPQ.out.box5 HPS.out HF4.out HAL.out HG5.out
          clear h5 hg5
          gi_wp2
          have e1 : (kparts (backE g.length (esU g g.length)) (NN (backE g.length (esU g g.length))) xs (a0 g.length)).1.2.length = m0 := HM0.out
          have e2 : (visit (backE g.length (esU g g.length)) (NN (backE g.length (esU g g.length))) xv (kparts (backE g.length (esU g g.length)) (NN (backE g.length (esU g g.length))) xs (a0 g.length)).1).2.drop m0 = part := HPART.out
          have hput := HPQ.out.put (W4 := W4.alloc (.cells #[.slice Ap (castL part).length cp] 31)) (W5 := W5) HPS.out HSN.out HWS4.out HD4.out HF4.out HAL.out HG5.out (by
            rw [e1, e2, List.map_append, List.map_singleton, ← castL_sort]
            exact H5.out)
          obtain ⟨⟨D6, O6, hP6⟩, hk6, hk7⟩ := hput
          exact ⟨hk6, hk7, D6, O6, _, _, _, by rw [HXS.out]; exact hP6⟩
      case hdone =>
        rintro Dd ys W hDd rfl ⟨D3, O3, dv3, ov3, ps3, HPP⟩ hK
        have hq := HPP.parts HG.out (by rw [hd1, ← hzs, ← List.map_reverse, ← bseq_val, List.map_map]; rfl) hsm
        obtain ⟨Ao, co, rfl, -, -⟩ := Kd.R_reads (Kd.S_R HPP.out)
        have hpsl : ps3.length ≤ g.length := by
          have h1 := All2_length HPP.ps2
          have h2 := (kparts_start (backE g.length (esU g g.length)) (Gr.back_is HG.out).good (NN (backE g.length (esU g g.length))) ((bseq zs).map (fun p => p.2.1))).2.2
          rw [backE_len HG.out] at h2
          have h3 : ((bseq zs).map (fun p => p.2.1)).length = zs.length := by rw [List.length_map, bseq_length]
          omega
        have c4 : W.cell? ⟨w1.heap.size + 1, 0, none⟩ = some _ := (blk_cell HPP.box 0).trans rfl
        have HDK := hide hK
        clear hK
        have HSF := hide (sortFunc_any ps3 hq.2 (by omega) _ w.heap.size O3 W HPP.out)
        have HPQ := hide HPP
        have HQ := hide hq
        clear HPP hq
        obtain ⟨l7, hl7⟩ : ∃ m, (ps3.map castL).length = m := ⟨_, rfl⟩
        rw [hl7] at c4 HSF HPQ
        have HL7 := hide hl7
        clear hl7
        go_wp2_with (go_at_call 23; refine HSF.out.mono ?_; rintro e W6 ⟨rfl, hf6, qs, hp6, hs6, hR6⟩; have HF6 := hide hf6; have HP6 := hide hp6; have HS6 := hide hs6; have HR6 := hide hR6; have c7 : W6.cell? ⟨w1.heap.size + 1, 0, none⟩ = some (.slice Ao l7 co) := (HPQ.out.box6 HPS.out hf6); have k7 : W6.heap[Dd]? = some (.deferred (some [])) := (HPQ.out.def6 HPS.out hf6 HDK.out); clear hf6 hp6 hs6 hR6)
        refine ⟨by simp, .inl ⟨_, _, rfl, run_takeDeferred k7, ?_⟩⟩
        have hcan : qs = Gr.canon g := parts_end HG.out rfl HQ.out.1 HP6.out HS6.out
        have hDd2 : Dd < W.heap.size := (Array.getElem?_eq_some_iff.1 HDK.out).1
        refine ⟨_, results_tmp rfl _ _ _, _, rfl, ?_, ?_⟩
        · rw [← hcan]
          refine Kd.S_mono (Kd.S_move HR6.out (fun k hk => World.putObj_heap_other (fun e => ?_))) (fun _ _ => trivial)
          obtain ⟨c, t, e2⟩ := HPQ.out.Oc k hk
          rw [e, HDK.out] at e2
          cases e2
        · have g1 := HP.out.below.trans (HF02.out.below hwb (fun _ q => q.elim))
          have g2 := HPQ.out.fr.below (B := w.heap.size) (by omega) (by rintro k (rfl | rfl | rfl) <;> omega)
          have g3 := HF6.out.below (B := w.heap.size) (by have := HPQ.out.fr.size; omega) (fun k hk => by have := HPQ.out.Oge k hk; omega)
          exact ((g1.trans g2).trans g3).trans (belowK_b (w := w) (Nat.le_refl _) W6 Dd _ _ (by omega) k7 rfl rfl)
theorem parts_bad (A : Option Addr) (c : Nat) (el : List (List Int)) (w : World) (hE : Kd.C KE w A el.length el) (hc : el.length ≤ c) (hs : Small el) (hok : okE el = false) :
    Calls Try.prog 11 #[.slice A el.length c] w (OwnRowsS w []) := by
  obtain ⟨k, hk⟩ := Pu.check_ev el (by have := hs.len; omega) (fun r hr => by have := hs.row r hr; omega)
  rw [hok] at hk
  have HK := hide hk
  have HE := hide hE
  have HC := hide hc
  clear hk hE hc hok hs
  refine (callsIn_wide (n := 9)).1 ?_
  refine callsIn_of_wp_marks Try.func11 rfl trivial ?_ rfl
  simp only [Try.ntmps11, List.size_toArray, List.length_cons, List.length_nil, Nat.reduceAdd, Nat.reduceSub, Array.replicate_succ, Array.replicate_zero, List.push_toArray, List.append_toArray, List.nil_append, List.cons_append]
  refine wpIn_wide.2 ?_
  go_wp2_with (go_at_call 8; refine (PCheck.order_Check.calls k A c el 110 _ ?s1 ?s2 HK.out).mono ?_; (case s1 => exact HE.out); (case s2 => exact HC.out); rintro e w1 ⟨rfl, ⟨nd, rfl⟩⟩)
  refine ⟨_, results_tmp rfl _ _ _, _, rfl, Kd.S_nil _ _ _ _ _, pw_below_drewN (Below.refl _ _) nd⟩

noncomputable def partsAns (el : List (List Int)) : List (List Int) := if okE el = true then (Gr.canon (gOf el)).map castL else []
theorem parts_anyS (A : Option Addr) (c : Nat) (el : List (List Int)) (w : World) (hE : Kd.C KE w A el.length el) (hc : el.length ≤ c) (hs : Small el) (htot : (el.map List.length).sum ≤ 1099511627776) :
    Calls Try.prog 11 #[.slice A el.length c] w (OwnRowsS w (partsAns el)) := by
  unfold partsAns
  cases hok : okE el with
  | false => simpa using parts_bad A c el w hE hc hs hok
  | true =>
    rw [if_pos rfl]
    have e := castG_gOf hok
    have hl : (gOf el).length = el.length := gOf_length el
    have := parts_good A c (gOf el) w (gOf_good hok) (by rw [e, hl]; exact hE) (by rw [hl]; exact hc) (by rw [hl]; exact hs.len) (by
      have : (gOf el).map List.length = el.map List.length := by simp [gOf]
      rw [this]; exact htot) (by
      obtain ⟨k, hk⟩ := Pu.check_ev el (by have := hs.len; omega) (fun r hr => by have := hs.row r hr; omega)
      rw [hok] at hk
      exact ⟨k, by rw [e]; exact hk⟩)
    rw [hl] at this
    exact this
theorem parts_any (A : Option Addr) (c : Nat) (el : List (List Int)) (w : World) (hE : Kd.C KE w A el.length el) (hc : el.length ≤ c) (hs : Small el) (htot : (el.map List.length).sum ≤ 1099511627776) :
    Calls Try.prog 11 #[.slice A el.length c] w (OwnRows w (partsAns el)) :=
  (parts_anyS A c el w hE hc hs htot).mono fun _ _ ⟨v, e, h1, h2⟩ => ⟨v, e, Kd.S_R h1, h2⟩
end Go.Proofs.Ytldgmneijipbjaa.H
end
/- YtldgmneijipbjaaHAwake -/
section
/- awake of the laws of layer 11: true in every world. -/
namespace Go.Proofs.Ytldgmneijipbjaa.H
open Go.RowKit Go.Shelf Go.Proofs.YtldgmneijipbjaaW.PrintWords Go.Proofs.YtldgmneijipbjaaW.PrintLast Go.Proofs.YtldgmneijipbjaaW.PrintMore
set_option linter.unusedVariables false
set_option linter.unusedSimpArgs false

theorem same_any (A B : Option Addr) (n c d : Nat) (l : List Int) (w : World) (hn : l.length = n) (h1 : (Kd.int .i64).C w A n l) (hc : n ≤ c) (h2 : (Kd.int .i64).C w B n l) (hd : n ≤ d) (hl : n ≤ 4611686018427387904) :
    Calls Try.prog 14 #[.slice A n c, .slice B n d] w fun e w' => e = .returned (.bool true) ∧ ∃ q, w' = w.drewN q := by
  subst hn
  obtain ⟨k, hk⟩ := Pu.same_some l hl
  refine (PSameAll.gussetref11_Same.calls k A c l B d l true w h1 hc h2 hd hk).mono ?_
  rintro e w1 ⟨rfl, ⟨nd, rfl⟩⟩
  exact ⟨rfl, nd, rfl⟩
theorem sameAll_any (A B : Option Addr) (n c d : Nat) (l : List (List Int)) (w : World) (hn : l.length = n) (h1 : KE.C w A n l) (hc : n ≤ c) (h2 : KE.C w B n l) (hd : n ≤ d) (hl : n ≤ 4611686018427387904) (hr : ∀ r, r ∈ l → r.length ≤ 4611686018427387904) :
    Calls Try.prog 10 #[.slice A n c, .slice B n d] w fun e w' => e = .returned (.bool true) ∧ ∃ q, w' = w.drewN q := by
  subst hn
  obtain ⟨k, hk⟩ := Pu.sameAll_ev l hl hr
  refine (PSameAll.gussetref11_SameAll.calls k A c l B d l true w h1 hc h2 hd hk).mono ?_
  rintro e w1 ⟨rfl, ⟨nd, rfl⟩⟩
  exact ⟨rfl, nd, rfl⟩

def gA : Gr.G := [[1, 2], [2], [1], []]
theorem gA_good : Gr.Good gA := by
  intro x y hy
  have hx : x < 4 := Gr.out_lt hy
  match x, hx with
  | 0, _ => simp [Gr.out, gA] at hy; rcases hy with rfl | rfl <;> decide
  | 1, _ => simp [Gr.out, gA] at hy; subst hy; decide
  | 2, _ => simp [Gr.out, gA] at hy; subst hy; decide
  | 3, _ => simp [Gr.out, gA] at hy
theorem gA_order : Gr.orderOf gA 0 = [2, 1, 0] := by decide
theorem gA_canon : Gr.canon gA = [[0], [1, 2], [3]] := by
  have hb := Gr.back_is gA_good
  have e : Gr.rawParts gA (Gr.backE gA.length (Gr.esU gA gA.length)) = [[3], [0], [2, 1]] := by decide
  refine (Gr.parts_canon gA_good hb (ps := [[3], [0], [1, 2]]) ?_ ?_ ?_).symm
  · rw [e]
    exact .cons ⟨.refl _, by decide⟩ (.cons ⟨.refl _, by decide⟩ (.cons ⟨by decide, by decide⟩ .nil))
  · decide
  · decide
theorem gA_ans : partsAns [[1, 2], [2], [1], []] = [[0], [1, 2], [3]] ∧ orderAns [[1, 2], [2], [1], []] 0 = [2, 1, 0] := by
  have e : gOf [[1, 2], [2], [1], []] = gA := by decide
  have h : Pu.okE [[1, 2], [2], [1], []] = true := by decide
  refine ⟨?_, ?_⟩
  · unfold partsAns
    rw [if_pos h, e, gA_canon]
    decide
  · unfold orderAns
    rw [if_pos ⟨h, by decide, by decide⟩, e]
    show castL (Gr.orderOf gA 0) = _
    rw [gA_order]
    decide
theorem row_C {α : Type} {d : Kd α} (hsz : d.sz = 1) {W : World} {b : Nat} {t : TypeId} {vs : List Value} {xs : List α} (h : W.heap[b]? = some (.cells vs.toArray t (0, 0))) (hl : vs.length = xs.length) (hm : xs.length ≤ maxLen)
    (hv : ∀ (j : Nat) (v : Value) (x : α), vs[j]? = some v → xs[j]? = some x → d.K W x [v]) : d.C W (some ⟨b, 0, none⟩) xs.length xs := by
  refine ⟨rfl, hm, fun _ => ⟨_, rfl, fun j p hp => ?_⟩⟩
  have hj : j < vs.length := by rw [hl]; exact (List.getElem?_eq_some_iff.1 hp).1
  refine ⟨[vs[j]], by rw [hsz]; rfl, hv j _ p (List.getElem?_eq_getElem hj) hp, fun i u hu => ?_⟩
  match i, hu with
  | 0, hu =>
    have : vs[j] = u := by simpa using hu
    subst this
    have e : (⟨b, 0, none⟩ : Addr).add (j * d.sz + 0) = ⟨b, j, none⟩ := by simp [Addr.add, hsz]; exact fun e => e.symm
    rw [e, blk_cell h j]
    simp [hj]
theorem ints_C {W : World} {b : Nat} {t : TypeId} (xs : List Int) (h : W.heap[b]? = some (.cells (xs.map (Value.int .i64)).toArray t (0, 0))) (hm : xs.length ≤ maxLen) : (Kd.int .i64).C W (some ⟨b, 0, none⟩) xs.length xs := by
  refine row_C rfl h (by simp) hm (fun j v x hv hx => ?_)
  simp only [List.getElem?_map, hx, Option.map_some, Option.some.injEq] at hv
  subst hv
  rfl
theorem rows_C {W : World} {b : Nat} {t : TypeId} (bs : List Nat) (xs : List (List Int)) (hl : bs.length = xs.length) (h : W.heap[b]? = some (.cells ((bs.zip xs).map (fun p => Value.slice (some ⟨p.1, 0, none⟩) p.2.length p.2.length)).toArray t (0, 0))) (hm : xs.length ≤ maxLen)
    (hr : ∀ (j : Nat) (c : Nat) (x : List Int), bs[j]? = some c → xs[j]? = some x → (Kd.int .i64).C W (some ⟨c, 0, none⟩) x.length x) : KE.C W (some ⟨b, 0, none⟩) xs.length xs := by
  refine row_C rfl h (by simp [hl]) hm (fun j v x hv hx => ?_)
  obtain ⟨c, hc⟩ : ∃ c, bs[j]? = some c := ⟨_, List.getElem?_eq_getElem (by rw [hl]; exact (List.getElem?_eq_some_iff.1 hx).1)⟩
  have : (bs.zip xs)[j]? = some (c, x) := by simp [List.getElem?_zip_eq_some, hc, hx]
  simp only [List.getElem?_map, this, Option.map_some, Option.some.injEq] at hv
  subst hv
  exact ⟨_, _, rfl, Nat.le_refl _, hr j c x hc hx⟩
theorem litE (w : World) : KE.C (((((w.alloc (.cells #[.int .i64 1, .int .i64 2] 3)).alloc (.cells #[.int .i64 2] 3)).alloc (.cells #[.int .i64 1] 3)).alloc (.cells #[] 3)).alloc (.cells #[.slice (some ⟨w.heap.size, 0, none⟩) 2 2, .slice (some ⟨w.heap.size + 1, 0, none⟩) 1 1, .slice (some ⟨w.heap.size + 1 + 1, 0, none⟩) 1 1, .slice (some ⟨w.heap.size + 1 + 1 + 1, 0, none⟩) 0 0] 31)) (some ⟨w.heap.size + 1 + 1 + 1 + 1, 0, none⟩) 4 [[1, 2], [2], [1], []] := by
  have n0 := World.alloc_heap_new w (.cells #[.int .i64 1, .int .i64 2] 3)
  have n1 := World.alloc_heap_new (w.alloc (.cells #[.int .i64 1, .int .i64 2] 3)) (.cells #[.int .i64 2] 3)
  have n2 := World.alloc_heap_new ((w.alloc (.cells #[.int .i64 1, .int .i64 2] 3)).alloc (.cells #[.int .i64 2] 3)) (.cells #[.int .i64 1] 3)
  have n3 := World.alloc_heap_new (((w.alloc (.cells #[.int .i64 1, .int .i64 2] 3)).alloc (.cells #[.int .i64 2] 3)).alloc (.cells #[.int .i64 1] 3)) (.cells #[] 3)
  simp only [World.size_alloc] at n0 n1 n2 n3
  refine rows_C (t := 31) [w.heap.size, w.heap.size + 1, w.heap.size + 1 + 1, w.heap.size + 1 + 1 + 1] [[1, 2], [2], [1], []] rfl ?_ (by decide) ?_
  · have := World.alloc_heap_new ((((w.alloc (.cells #[.int .i64 1, .int .i64 2] 3)).alloc (.cells #[.int .i64 2] 3)).alloc (.cells #[.int .i64 1] 3)).alloc (.cells #[] 3)) (.cells #[.slice (some ⟨w.heap.size, 0, none⟩) 2 2, .slice (some ⟨w.heap.size + 1, 0, none⟩) 1 1, .slice (some ⟨w.heap.size + 1 + 1, 0, none⟩) 1 1, .slice (some ⟨w.heap.size + 1 + 1 + 1, 0, none⟩) 0 0] 31)
    simp only [World.size_alloc] at this
    exact this
  · intro j c x hc hx
    match j, hc, hx with
    | 0, hc, hx => cases hc; cases hx; exact ints_C [1, 2] (blk_alloc (blk_alloc (blk_alloc (blk_alloc n0 _) _) _) _) (by decide)
    | 1, hc, hx => cases hc; cases hx; exact ints_C [2] (blk_alloc (blk_alloc (blk_alloc n1 _) _) _) (by decide)
    | 2, hc, hx => cases hc; cases hx; exact ints_C [1] (blk_alloc (blk_alloc n2 _) _) (by decide)
    | 3, hc, hx => cases hc; cases hx; exact ints_C [] (blk_alloc n3 _) (by decide)
theorem litP (w : World) : KE.C ((((w.alloc (.cells #[.int .i64 0] 3)).alloc (.cells #[.int .i64 1, .int .i64 2] 3)).alloc (.cells #[.int .i64 3] 3)).alloc (.cells #[.slice (some ⟨w.heap.size, 0, none⟩) 1 1, .slice (some ⟨w.heap.size + 1, 0, none⟩) 2 2, .slice (some ⟨w.heap.size + 1 + 1, 0, none⟩) 1 1] 31)) (some ⟨w.heap.size + 1 + 1 + 1, 0, none⟩) 3 [[0], [1, 2], [3]] := by
  have n0 := World.alloc_heap_new w (.cells #[.int .i64 0] 3)
  have n1 := World.alloc_heap_new (w.alloc (.cells #[.int .i64 0] 3)) (.cells #[.int .i64 1, .int .i64 2] 3)
  have n2 := World.alloc_heap_new ((w.alloc (.cells #[.int .i64 0] 3)).alloc (.cells #[.int .i64 1, .int .i64 2] 3)) (.cells #[.int .i64 3] 3)
  simp only [World.size_alloc] at n0 n1 n2
  refine rows_C (t := 31) [w.heap.size, w.heap.size + 1, w.heap.size + 1 + 1] [[0], [1, 2], [3]] rfl ?_ (by decide) ?_
  · have := World.alloc_heap_new (((w.alloc (.cells #[.int .i64 0] 3)).alloc (.cells #[.int .i64 1, .int .i64 2] 3)).alloc (.cells #[.int .i64 3] 3)) (.cells #[.slice (some ⟨w.heap.size, 0, none⟩) 1 1, .slice (some ⟨w.heap.size + 1, 0, none⟩) 2 2, .slice (some ⟨w.heap.size + 1 + 1, 0, none⟩) 1 1] 31)
    simp only [World.size_alloc] at this
    exact this
  · intro j c x hc hx
    match j, hc, hx with
    | 0, hc, hx => cases hc; cases hx; exact ints_C [0] (blk_alloc (blk_alloc (blk_alloc n0 _) _) _) (by decide)
    | 1, hc, hx => cases hc; cases hx; exact ints_C [1, 2] (blk_alloc (blk_alloc n1 _) _) (by decide)
    | 2, hc, hx => cases hc; cases hx; exact ints_C [3] (blk_alloc n2 _) (by decide)
theorem small_E : Small [[1, 2], [2], [1], []] := ⟨by decide, fun r hr => by
  simp only [List.mem_cons, List.not_mem_nil, or_false] at hr
  rcases hr with rfl | rfl | rfl | rfl <;> decide⟩
theorem C_le {α : Type} {d : Kd α} {w w1 : World} {A : Option Addr} {n : Nat} {xs : List α} (h : d.C w A n xs) (hb : Below w.heap.size w w1) : d.C w1 A n xs := Kd.C_below h hb
theorem check_any (A : Option Addr) (n c : Nat) (el : List (List Int)) (w : World) (hn : el.length = n) (hE : KE.C w A n el) (hc : n ≤ c) (hs : Small el) :
    Calls Try.prog 8 #[.slice A n c] w fun e w' => e = .returned (.int .i64 (if Pu.okE el then 0 else 110)) ∧ ∃ q, w' = w.drewN q := by
  subst hn
  obtain ⟨k, hk⟩ := Pu.check_ev el (by have := hs.len; omega) (fun r hr => by have := hs.row r hr; omega)
  refine (PCheck.order_Check.calls k A c el _ w hE hc hk).mono ?_
  rintro e w1 ⟨rfl, ⟨nd, rfl⟩⟩
  exact ⟨rfl, nd, rfl⟩

set_option maxRecDepth 100000 in
set_option maxHeartbeats 4000000 in
theorem awake_any (w : World) : Calls Try.prog 13 #[] w fun e w' => e = .returned (.bool true) ∧ Below w.heap.size w w' := by
  go_enter Try.func13, Try.ntmps13
  go_wp2_with (go_at_call 11; refine Aside0.out ?_)
  have hE := litE w
  obtain ⟨W5, hW5⟩ : ∃ W, (((((w.alloc (.cells #[.int .i64 1, .int .i64 2] 3)).alloc (.cells #[.int .i64 2] 3)).alloc (.cells #[.int .i64 1] 3)).alloc (.cells #[] 3)).alloc (.cells #[.slice (some ⟨w.heap.size, 0, none⟩) 2 2, .slice (some ⟨w.heap.size + 1, 0, none⟩) 1 1, .slice (some ⟨w.heap.size + 1 + 1, 0, none⟩) 1 1, .slice (some ⟨w.heap.size + 1 + 1 + 1, 0, none⟩) 0 0] 31)) = W := ⟨_, rfl⟩
  have hB5 : Below w.heap.size w W5 := by
    rw [← hW5]
    exact below_alloc (below_alloc (below_alloc (below_alloc (below_alloc (Below.refl _ w) _) _) _) _) _
  rw [hW5] at hE ⊢
  clear hW5
  refine ⟨?_⟩
  obtain ⟨A, hA⟩ : ∃ A, (some (⟨w.heap.size + 1 + 1 + 1 + 1, 0, none⟩ : Addr)) = A := ⟨_, rfl⟩
  rw [hA] at hE ⊢
  clear hA
  refine (parts_any A 4 [[1, 2], [2], [1], []] W5 hE (by decide) small_E (by decide)).mono ?_
  rintro e w1 ⟨v, rfl, hR, hb⟩
  rw [gA_ans.1] at hR
  obtain ⟨A1, c1, rfl, hc1, hC1⟩ := Kd.R_reads hR
  have HB5 := hide hB5
  have HE := hide (C_le hE hb)
  have HB := hide hb
  have HC1 := hide (show KE.C w1 A1 3 [[0], [1, 2], [3]] from hC1)
  have hc1' : 3 ≤ c1 := hc1
  clear hE hB5 hR hb hC1 hc1
  go_wp2_with (go_at_call 10; refine Aside0.out ?_)
  refine ⟨?_⟩
  have hP := litP w1
  obtain ⟨W9, hW9⟩ : ∃ W, ((((w1.alloc (.cells #[.int .i64 0] 3)).alloc (.cells #[.int .i64 1, .int .i64 2] 3)).alloc (.cells #[.int .i64 3] 3)).alloc (.cells #[.slice (some ⟨w1.heap.size, 0, none⟩) 1 1, .slice (some ⟨w1.heap.size + 1, 0, none⟩) 2 2, .slice (some ⟨w1.heap.size + 1 + 1, 0, none⟩) 1 1] 31)) = W := ⟨_, rfl⟩
  have hB9 : Below w1.heap.size w1 W9 := by
    rw [← hW9]
    exact below_alloc (below_alloc (below_alloc (below_alloc (Below.refl _ w1) _) _) _) _
  rw [hW9] at hP ⊢
  clear hW9
  refine (sameAll_any A1 _ 3 c1 3 [[0], [1, 2], [3]] W9 rfl (C_le HC1.out hB9) hc1' hP (by decide) (by decide) (by decide)).mono ?_
  rintro e w2 ⟨rfl, q, rfl⟩
  have HE2 := hide (C_le (C_le HE.out hB9) (pw_below_drewN (Below.refl _ _) q))
  have HB2 := hide (pw_below_drewN (((HB5.out.trans (HB.out.mono HB5.out.size))).trans (hB9.mono (by have := HB5.out.size; have := HB.out.size; omega))) q : Below w.heap.size w (W9.drewN q))
  clear hP hB9 HE
  go_wp2_with (first | (go_at_call 15; refine (order_any A 4 [[1, 2], [2], [1], []] 0 (W9.drewN q) HE2.out (by decide) small_E).mono ?_; rintro e w3 ⟨v3, rfl, hR3, hb3⟩; rw [gA_ans.2] at hR3; obtain ⟨A3, c3, rfl, hc3, hC3⟩ := Kd.R_reads hR3; have hc3' : 3 ≤ c3 := hc3; have HC3 := hide (show (Kd.int .i64).C w3 A3 3 [2, 1, 0] from hC3); have HE3 := hide (C_le HE2.out hb3); have HB3 := hide (HB2.out.trans (hb3.mono HB2.out.size)); clear hR3 hb3 hC3 hc3) | (go_at_call 14; refine (same_any A3 _ 3 c3 3 [2, 1, 0] (w3.alloc (.cells #[.int .i64 2, .int .i64 1, .int .i64 0] 3)) rfl (C_le HC3.out (below_alloc (Below.refl _ w3) _)) hc3' (ints_C [2, 1, 0] (blk_new _ _) (by decide)) (by decide) (by decide)).mono ?_; rintro e w4 ⟨rfl, q2, rfl⟩) | (go_at_call 8; refine (check_any A 4 4 [[1, 2], [2], [1], []] _ rfl (C_le HE3.out (pw_below_drewN (below_alloc (Below.refl _ w3) _) q2)) (by decide) small_E).mono ?_; rintro e w4 ⟨rfl, q3, rfl⟩; have e0 : (if Pu.okE [[1, 2], [2], [1], []] then (0 : Int) else 110) = 0 := (by decide); rw [e0]; clear e0))
  go_ret
  exact ⟨rfl, pw_below_drewN (below_alloc HB3.out _) (q2 + q3)⟩
end Go.Proofs.Ytldgmneijipbjaa.H
end
/- YtldgmneijipbjaaPu3 -/
section
/- What the reference's reach answers: the places that can be reached. -/
namespace Go.Proofs.Ytldgmneijipbjaa.Pu
open Go.RowKit Go.Proofs.YtldgmneijipbjaaW.PrintWords H
open Gr (out sn unseen visit scan)
open PParts
set_option linter.unusedVariables false

structure RI (g : Gr.G) (root : Nat) (s : List Bool) (st : List Nat) (ex : Nat → Prop) : Prop where
  len : s.length = g.length
  mem : ∀ x, x ∈ st → x < g.length ∧ Gr.Reach g root x
  sound : ∀ y, y < g.length → sn s y = true → Gr.Reach g root y
  root : root < g.length ∧ sn s root = true
  closed : ∀ x, x < g.length → sn s x = true → x ∉ st → ¬ ex x → ∀ y, y ∈ out g x → sn s y = true
  small : st.length + unseen s ≤ g.length
def RG (g : Gr.G) (root : Nat) (r : List Bool) : Prop := r.length = g.length ∧ ∀ y, y < g.length → (sn r y = true ↔ Gr.Reach g root y)

theorem RI.done {g : Gr.G} (hg : Gr.Good g) {root : Nat} {s : List Bool} (h : RI g root s [] (fun _ => False)) : RG g root s := by
  refine ⟨h.len, fun y hy => ⟨h.sound y hy, fun r => ?_⟩⟩
  have : ∀ x, Gr.Reach g root x → sn s x = true := by
    intro x r
    induction r with
    | refl => exact h.root.2
    | tail r1 r2 ih => exact h.closed _ (Gr.Reach.lt hg r1 h.root.1) ih (by simp) id _ r2
  exact this y r

theorem rdrow2 (g : Gr.G) (x : Nat) : PParts.rd_L1 (castG g) (x : Int) = castL (out g x) := by
  rw [PParts.rd_L1, Int.toNat_natCast]; exact castG_getD g x
theorem reach_row (g : Gr.G) (hg : Gr.Good g) (root : Nat) (hn : g.length ≤ 1099511627776) (hr : ∀ x, (out g x).length ≤ 4611686018427387904) (M : Nat)
    (ih : ∀ s st, RI g root s st (fun _ => False) → 2 * unseen s + st.length ≤ M → ∃ r, Ev (fun k => gussetref11_reach.l0 k (castG g) s (castL st)) r ∧ RG g root r) (x : Nat) (hx : x < g.length) (hrx : Gr.Reach g root x) (dd : Nat) :
    ∀ (j : Nat) (s : List Bool) (st : List Nat), (out g x).length - j = dd → j ≤ (out g x).length → RI g root s st (fun z => z = x) → (∀ (i : Nat) (y : Nat), i < j → (out g x)[i]? = some y → sn s y = true) → 2 * unseen s + st.length ≤ M →
      ∃ r, Ev (fun k => gussetref11_reach.l1 k (castG g) s (castL st) (x : Int) (j : Int)) r ∧ RG g root r := by
  have hlen := castG_length g
  have hrow := rdrow2 g x
  have hrl := len_row g x
  have hrx2 := hr x
  induction dd with
  | zero =>
    intro j s st hj hle hI hd hm
    obtain ⟨r, h1, h2⟩ := ih s st ⟨hI.len, hI.mem, hI.sound, hI.root, fun z hz hs hn _ y hy => by
      by_cases e : z = x
      · subst e
        obtain ⟨i, hi⟩ := List.mem_iff_getElem?.1 hy
        exact hd i y (by have := (List.getElem?_eq_some_iff.1 hi).1; omega) hi
      · exact hI.closed z hz hs hn e y hy, hI.small⟩ hm
    refine ⟨r, Ev.step (f := fun k => gussetref11_reach.l0 k (castG g) s (castL st)) (fun k => ?_) h1, h2⟩
    simp only [gussetref11_reach.l1]
    rw [hrow, if_pos (by omega), if_pos (by omega), if_neg (by omega)]
  | succ dd ihd =>
    intro j s st hj hle hI hd hm
    have hlt : j < (out g x).length := by omega
    have hy : (out g x)[j] < g.length := hg x _ (List.getElem_mem hlt)
    have hrd := rd_castL (out g x) j hlt
    have hro := sn_rdOf s (out g x)[j] (by have := hI.len; omega)
    have hsl := hI.len
    have hsm := hI.small
    cases hsn : sn s (out g x)[j] with
    | true =>
      obtain ⟨r, h1, h2⟩ := ihd (j + 1) s st (by omega) (by omega) hI (fun i y hi hy2 => by
        by_cases e : i = j
        · subst e
          rw [List.getElem?_eq_getElem hlt] at hy2
          cases hy2
          exact hsn
        · exact hd i y (by omega) hy2) hm
      refine ⟨r, Ev.step (f := fun k => gussetref11_reach.l1 k (castG g) s (castL st) (x : Int) ((j + 1 : Nat) : Int)) (fun k => ?_) h1, h2⟩
      simp only [gussetref11_reach.l1]
      rw [hrow, if_pos (by omega), if_pos (by omega), if_pos (by omega), if_pos (by omega), hrd, if_pos (by omega), if_pos (by omega), hro, hsn, if_pos rfl, wrap_small (by omega) (by omega)]; rfl
    | false =>
      have hus := Gr.unseen_set hsn
      have hset : ∀ z, sn s z = true → sn (s.set (out g x)[j] true) z = true := fun z hz => by rw [Gr.sn_set]; split <;> simp_all
      have hnew : sn (s.set (out g x)[j] true) (out g x)[j] = true := by rw [Gr.sn_set]; simp
      have hI2 : RI g root (s.set (out g x)[j] true) (st ++ [(out g x)[j]]) (fun z => z = x) := by
        refine ⟨by simp [hsl], fun z hz => ?_, fun z hz hs => ?_, ⟨hI.root.1, hset _ hI.root.2⟩, fun z hz hs hn hex y hy2 => ?_, by simp only [List.length_append, List.length_singleton]; omega⟩
        · rcases List.mem_append.1 hz with hz | hz
          · exact hI.mem z hz
          · rw [List.mem_singleton.1 hz]
            exact ⟨hy, hrx.tail (List.getElem_mem hlt)⟩
        · by_cases e : z = (out g x)[j]
          · rw [e]; exact hrx.tail (List.getElem_mem hlt)
          · refine hI.sound z hz ?_
            rw [Gr.sn_set] at hs
            split at hs
            · rename_i h; exact absurd h.symm e
            · exact hs
        · have e : z ≠ (out g x)[j] := fun e => hn (by rw [e]; simp)
          refine hset y (hI.closed z hz ?_ (fun h => hn (by simp [h])) hex y hy2)
          rw [Gr.sn_set] at hs
          split at hs
          · rename_i h; exact absurd h.symm e
          · exact hs
      obtain ⟨r, h1, h2⟩ := ihd (j + 1) (s.set (out g x)[j] true) (st ++ [(out g x)[j]]) (by omega) (by omega) hI2 (fun i y hi hy2 => by
        by_cases e : i = j
        · subst e
          rw [List.getElem?_eq_getElem hlt] at hy2
          cases hy2
          exact hnew
        · exact hset y (hd i y (by omega) hy2)) (by simp only [List.length_append, List.length_singleton]; omega)
      refine ⟨r, Ev.step (f := fun k => gussetref11_reach.l1 k (castG g) (s.set (out g x)[j] true) (castL (st ++ [(out g x)[j]])) (x : Int) ((j + 1 : Nat) : Int)) (fun k => ?_) h1, h2⟩
      simp only [gussetref11_reach.l1]
      have hcs := castL_length st
      have hsnoc : castL st ++ [((out g x)[j] : Int)] = castL (st ++ [(out g x)[j]]) := by simp [castL]
      rw [hrow, if_pos (by omega), if_pos (by omega), if_pos (by omega), if_pos (by omega), hrd, if_pos (by omega), if_pos (by omega), hro, hsn, if_neg (by simp), if_pos (by omega), wrap_small (by omega) (by omega), hsnoc, Int.toNat_natCast]; rfl

theorem reach_l0 (g : Gr.G) (hg : Gr.Good g) (root : Nat) (hn : g.length ≤ 1099511627776) (hr : ∀ x, (out g x).length ≤ 4611686018427387904) (M : Nat) :
    ∀ s st, RI g root s st (fun _ => False) → 2 * unseen s + st.length ≤ M → ∃ r, Ev (fun k => gussetref11_reach.l0 k (castG g) s (castL st)) r ∧ RG g root r := by
  induction M with
  | zero =>
    intro s st hI hm
    obtain rfl : st = [] := List.eq_nil_of_length_eq_zero (by omega)
    refine ⟨s, Ev.step (f := fun _ => some s) (fun k => ?_) (Ev.now _), hI.done hg⟩
    simp only [gussetref11_reach.l0]
    rw [if_neg (by simp [castL])]
  | succ M ih =>
    intro s st hI hm
    rcases List.eq_nil_or_concat st with rfl | ⟨st, x, e⟩
    · refine ⟨s, Ev.step (f := fun _ => some s) (fun k => ?_) (Ev.now _), hI.done hg⟩
      simp only [gussetref11_reach.l0]
      rw [if_neg (by simp [castL])]
    · rw [List.concat_eq_append] at e
      subst e
      have hx := hI.mem x (by simp)
      have hsm := hI.small
      simp only [List.length_append, List.length_singleton] at hm hsm
      obtain ⟨r, h1, h2⟩ := reach_row g hg root hn hr M ih x hx.1 hx.2 _ 0 s st rfl (Nat.zero_le _) ⟨hI.len, fun z hz => hI.mem z (by simp [hz]), hI.sound, hI.root, fun z hz hs hn hex => hI.closed z hz hs (by simp [hn]; exact hex) id, by omega⟩ (fun i y hi => by omega) (by omega)
      have hcl : (castL (st ++ [x])).length = st.length + 1 := by rw [castL_length]; simp
      have hw : wrap64 (((castL (st ++ [x])).length : Int) - 1) = (st.length : Int) := by rw [hcl]; unfold wrap64; omega
      have ht : (castL (st ++ [x])).take ((st.length : Int)).toNat = castL st := by
        rw [Int.toNat_natCast]
        have e : castL (st ++ [x]) = castL st ++ [(x : Int)] := by simp [castL]
        rw [e, List.take_append_of_le_length (by rw [castL_length]; omega), List.take_of_length_le (by rw [castL_length]; omega)]
      have hrd : rd (castL (st ++ [x])) (st.length : Int) = (x : Int) := by
        rw [rd_castL (st ++ [x]) st.length (by simp)]
        simp
      refine ⟨r, Ev.step (f := fun k => gussetref11_reach.l1 k (castG g) s (castL st) (x : Int) 0) (fun k => ?_) h1, h2⟩
      simp only [gussetref11_reach.l0]
      rw [hw, ht, hrd, if_pos (by omega), if_pos (by omega), if_pos (by omega), if_pos (by omega)]

theorem reach_ev (g : Gr.G) (hg : Gr.Good g) (root : Nat) (hroot : root < g.length) (hn : g.length ≤ 1099511627776) (hr : ∀ x, (out g x).length ≤ 4611686018427387904) :
    ∃ k r, gussetref11_reach.f k (castG g) (root : Int) = some r ∧ RG g root r := by
  have hlen := castG_length g
  have h0 : sn (List.replicate g.length false) root = false := by simp [sn, hroot]
  have hus := Gr.unseen_set h0
  rw [Gr.unseen_start] at hus
  obtain ⟨r, h1, h2⟩ := reach_l0 g hg root hn hr _ ((List.replicate g.length false).set root true) [root] ⟨by simp, fun x hx => by rw [List.mem_singleton.1 hx]; exact ⟨hroot, .refl _⟩, fun y hy hs => by
      rw [Gr.sn_set] at hs
      split at hs
      · rename_i h; rw [← h]; exact .refl _
      · simp [sn, hy] at hs, ⟨hroot, by rw [Gr.sn_set]; simp⟩, fun x hx hs hn _ => by
      rw [Gr.sn_set] at hs
      split at hs
      · rename_i h; exact absurd (by rw [← h]; simp) hn
      · simp [sn, hx] at hs, by simp only [List.length_singleton]; omega⟩ (Nat.le_refl _)
  obtain ⟨k, hk⟩ := h1.rounds
  refine ⟨k, r, ?_, h2⟩
  simp only [gussetref11_reach.f]
  rw [if_pos (by omega), if_pos (by omega), hlen, Int.toNat_natCast, Option.bind_some, if_pos (by omega), if_pos (by simp; omega), Int.toNat_natCast]
  exact hk
end Go.Proofs.Ytldgmneijipbjaa.Pu
end
/- YtldgmneijipbjaaHRP -/
section
/- The reference's Parts: words. -/
namespace Go.Proofs.Ytldgmneijipbjaa.H
open Go.RowKit Go.Shelf Go.Proofs.YtldgmneijipbjaaW.PrintWords Go.Proofs.YtldgmneijipbjaaW.PrintLast Go.Proofs.YtldgmneijipbjaaW.PrintMore
open Gr (out sn)
open Pu (RG okE)
set_option linter.unusedVariables false
set_option linter.unusedSimpArgs false

abbrev KB : Kd (List Bool) := Kd.slice 4 Kd.bool

theorem R_putrow {α : Type} {d : Kd α} {e e2 base g n cap : Nat} {ok : Nat → Prop} {W : World} {xs : List (List α)} {v : Value} {x : List α} (h : (Kd.slice e2 d).R e W base ok (.slice (some ⟨g, 0, none⟩) n cap) xs) (i : Nat) (hi : i < n) (hv : d.R e2 W base (fun k => ok k ∧ k ≠ g) v x) :
    (Kd.slice e2 d).R e (W.setCell ⟨g, i, none⟩ v) base ok (.slice (some ⟨g, 0, none⟩) n cap) (xs.set i x) := by
  obtain ⟨h0, inner, ⟨hil, ho⟩, hr⟩ := h
  have hsz : (Kd.slice e2 d).sz = 1 := rfl
  rw [hsz, Nat.mul_one] at hil
  rcases ho with ⟨e, _⟩ | ⟨g', cap', cur, e, hbase, hb, h1, h2, h3, h4⟩
  · cases e
  · injection e with e1 e2 e3
    injection e1 with e1
    injection e1 with e1
    subst e1 e2 e3
    rw [hsz, Nat.mul_one] at h3 h4
    have hmove : ∀ {q : List α} {c : List Value}, (Kd.slice e2 d).M W base (fun k => ok k ∧ some k ≠ (Value.slice (some ⟨g, 0, none⟩) xs.length cap).ownBlock) q c → (Kd.slice e2 d).M (W.setCell ⟨g, i, none⟩ v) base (fun k => ok k ∧ some k ≠ (Value.slice (some ⟨g, 0, none⟩) xs.length cap).ownBlock) q c := by
      intro q c hq
      exact (Kd.slice e2 d).M_move (fun k hk => Below.heap_setCell W ⟨g, i, none⟩ v k (fun e => hk.2 (by rw [e]; rfl))) hq
    have hvM : (Kd.slice e2 d).M (W.setCell ⟨g, i, none⟩ v) base (fun k => ok k ∧ some k ≠ (Value.slice (some ⟨g, 0, none⟩) xs.length cap).ownBlock) x [v] :=
      hmove ⟨v, rfl, Kd.R_mono hv (fun k hk => ⟨hk.1, fun e => hk.2 (by injection e)⟩)⟩
    refine ⟨h0, inner.set i v, ⟨by rw [hsz, Nat.mul_one, List.length_set, List.length_set]; exact hil, .inr ⟨g, cap, _, by rw [List.length_set], hbase, YtldgmneijipbjaaW.PrintWords.blk_put hb i v rfl, by rw [List.length_set]; exact h1, h2, by rw [hsz, Nat.mul_one]; simpa using h3, ?_⟩⟩, ?_⟩
    · rw [hsz, Nat.mul_one, List.length_set, Array.toList_setIfInBounds, List.take_set, h4]
    · refine ⟨by rw [hsz, Nat.mul_one, List.length_set, List.length_set]; exact hil, fun j p hp => ?_⟩
      rw [hsz, Nat.mul_one]
      have hjl : j < xs.length := by have := (List.getElem?_eq_some_iff.1 hp).1; simpa using this
      have hseg : ((inner.set i v).drop j).take 1 = [(inner.set i v)[j]'(by rw [List.length_set]; omega)] := by
        rw [List.drop_eq_getElem_cons (by rw [List.length_set]; omega)]
        rfl
      rw [hseg]
      by_cases e : i = j
      · subst e
        rw [List.getElem?_set_self hjl] at hp
        cases hp
        rw [List.getElem_set_self]
        exact hvM
      · rw [List.getElem?_set_ne e] at hp
        have h5 := hr.2 j p hp
        rw [hsz, Nat.mul_one, List.drop_eq_getElem_cons (by omega)] at h5
        rw [List.getElem_set_ne e]
        exact hmove h5
theorem R_cell_any {α : Type} {d : Kd α} {e base g n cap : Nat} {ok : Nat → Prop} {W : World} {xs : List α} (hsz : d.sz = 1) (h : d.R e W base ok (.slice (some ⟨g, 0, none⟩) n cap) xs) (i : Nat) (hi : i < n) :
    (∃ u, W.cell? ⟨g, i, none⟩ = some u) ∧ W.frozen? ⟨g, i, none⟩ = false := by
  obtain ⟨h0, inner, ⟨hil, ho⟩, hr⟩ := h
  rcases ho with ⟨e, _⟩ | ⟨g', cap', cur, e, hbase, hb, h1, h2, h3, h4⟩
  · cases e
  · injection e with e1 e2 e3
    injection e1 with e1
    injection e1 with e1
    subst e1 e2 e3
    rw [hsz, Nat.mul_one] at h3
    refine ⟨⟨cur[i]'(by omega), ?_⟩, blk_frozen hb i⟩
    rw [blk_cell hb i]
    exact Array.getElem?_eq_getElem (by omega)
/-- an element of a row of a row that is read -/
theorem all_at {w : World} {A : Option Addr} {n : Nat} {rows : List (List Bool)} (h : KB.C w A n rows) (i k : Nat) (hi : i < n) (r : List Bool) (hr : rows[i]? = some r) (hl : r.length = n) (hk : k < n) :
    ∃ ad A0 c0, A = some ad ∧ w.cell? (ad.add i) = some (.slice (some A0) n c0) ∧ w.cell? (A0.add k) = some (.bool (sn r k)) := by
  obtain ⟨ad, e, hc⟩ := h.2.2 (by omega)
  obtain ⟨cs, h1, ⟨A0, c0, rfl, h3, h4⟩, h5⟩ := hc i r hr
  have := h5 0 _ rfl
  obtain ⟨a0, e0, hcell⟩ := Kd.at_bool h4 (k : Int) (by omega) (by omega)
  subst e0
  refine ⟨ad, a0, c0, e, ?_, ?_⟩
  · have e1 : ad.add (i * KB.sz + 0) = ad.add i := by show ad.add (i * 1 + 0) = _; rw [Nat.mul_one, Nat.add_zero]
    rw [e1] at this
    rw [this, hl]
  · rw [Int.toNat_natCast] at hcell
    rw [hcell]
    have hkl : k < r.length := by omega
    simp [rdOf, sn, List.getD_eq_getElem?_getD, List.getElem?_eq_getElem hkl]

theorem rreach_any (A : Option Addr) (c : Nat) (g : Gr.G) (n root : Nat) (w : World) (hn : g.length = n) (hg : Gr.Good g) (hE : KE.C w A n (castG g)) (hc : n ≤ c) (hsm : n ≤ 1099511627776) (hr : ∀ x, (out g x).length ≤ 1099511627776) (hroot : root < n) :
    Calls Try.prog 25 #[.slice A n c, .int .i64 root] w fun e w' => ∃ v r, e = .returned v ∧ Kd.R Kd.bool 4 w' w.heap.size (fun _ => True) v r ∧ RG g root r ∧ Below w.heap.size w w' := by
  subst hn
  obtain ⟨k, r, hk, hrg⟩ := Pu.reach_ev g hg root hroot hsm (fun x => by have := hr x; omega)
  have hl : (castG g).length = g.length := by simp [castG]
  have := PParts.gussetref11_reach.calls k A c (castG g) (root : Int) r w (by rw [hl]; exact hE) (by rw [hl]; exact hc) hk
  rw [hl] at this
  refine this.mono ?_
  rintro e w1 ⟨v, rfl, h1, h2⟩
  exact ⟨v, r, rfl, h1, hrg, h2⟩

/-- what holds in the first loop -/
structure Q1 (g : Gr.G) (w : World) (ga ca x : Nat) (wr : World) (rows : List (List Bool)) : Prop where
  all : KB.R 41 wr w.heap.size (fun _ => True) (.slice (some ⟨ga, 0, none⟩) g.length ca) rows
  len : rows.length = g.length
  rg : ∀ i, i < x → ∃ r, rows[i]? = some r ∧ RG g i r
  below : Below w.heap.size w wr
theorem Q1.put {g : Gr.G} {w wr w3 : World} {ga ca x : Nat} {rows : List (List Bool)} {v : Value} {r : List Bool} (h : Q1 g w ga ca x wr rows) (hx : x < g.length) (hr : Kd.R Kd.bool 4 w3 wr.heap.size (fun _ => True) v r) (hrg : RG g x r) (hb : Below wr.heap.size wr w3) :
    Q1 g w ga ca (x + 1) (w3.setCell ⟨ga, x, none⟩ v) (rows.set x r) := by
  have hga : ga < wr.heap.size := by
    obtain ⟨c, e⟩ := Kd.R_typed h.all ga rfl
    exact blk_lt e
  have hge : w.heap.size ≤ ga := Kd.R_base h.all ga rfl
  refine ⟨R_putrow (fr_R h.all (Fr.of_below (S := fun _ => False) hb) (fun _ _ q => q)) x hx ?_, by rw [List.length_set]; exact h.len, fun i hi => ?_, ?_⟩
  · exact Kd.R_lower (Kd.R_mono (Kd.R_bound hr) (fun k hk => ⟨trivial, fun e => by have := hk.2.1; omega⟩)) h.below.size
  · by_cases e : x = i
    · subst e
      exact ⟨r, List.getElem?_set_self (by rw [h.len]; exact hx), hrg⟩
    · rw [List.getElem?_set_ne e]
      exact h.rg i (by omega)
  · exact (h.below.trans (hb.mono h.below.size)).trans ((Fr.setCell (S := fun k => k = ga) (Fr.refl _ w3) (p := ⟨ga, x, none⟩) (.inl rfl) v).below (by have := h.below.size; have := hb.size; omega) (by rintro k rfl; exact hge))
open Classical in
noncomputable def psOf (g : Gr.G) (i : Nat) : List (List Nat) := ((List.range i).filter fun v => decide (Gr.Least g v)).map (Gr.scc g)
open Classical in
noncomputable def partOf (g : Gr.G) (i k : Nat) : List Nat := (List.range k).filter fun u => decide (Gr.Scc g i u)
theorem psOf_all (g : Gr.G) : psOf g g.length = Gr.canon g := rfl
theorem psOf_yes {g : Gr.G} {i : Nat} (h : Gr.Least g i) : psOf g (i + 1) = psOf g i ++ [Gr.scc g i] := by
  unfold psOf
  rw [List.range_succ, List.filter_append, List.map_append]
  simp [h]
theorem psOf_no {g : Gr.G} {i : Nat} (h : ¬ Gr.Least g i) : psOf g (i + 1) = psOf g i := by
  unfold psOf
  rw [List.range_succ, List.filter_append, List.map_append]
  simp [h]
theorem psOf_length (g : Gr.G) (i : Nat) : (psOf g i).length ≤ i := by
  unfold psOf
  rw [List.length_map]
  exact Nat.le_trans (List.length_filter_le _ _) (by simp)
theorem partOf_all (g : Gr.G) (i : Nat) : partOf g i g.length = Gr.scc g i := rfl
theorem partOf_yes {g : Gr.G} {i k : Nat} (h : Gr.Scc g i k) : partOf g i (k + 1) = partOf g i k ++ [k] := by
  unfold partOf
  rw [List.range_succ, List.filter_append]
  simp [h]
theorem partOf_no {g : Gr.G} {i k : Nat} (h : ¬ Gr.Scc g i k) : partOf g i (k + 1) = partOf g i k := by
  unfold partOf
  rw [List.range_succ, List.filter_append]
  simp [h]
theorem partOf_start {g : Gr.G} {i : Nat} (h : Gr.Least g i) : partOf g i i = [] := by
  unfold partOf
  rw [List.filter_eq_nil_iff]
  intro u hu
  have := h u (by simpa using hu)
  simp only [decide_eq_true_eq]
  exact fun q => this q.symm
theorem partOf_length (g : Gr.G) (i k : Nat) : (partOf g i k).length ≤ k := by
  unfold partOf
  exact Nat.le_trans (List.length_filter_le _ _) (by simp)

section
variable {g : Gr.G} {B : Nat} {W1 wr w5 : World} {gt ct i k : Nat} {tl : List Bool} {O P : Nat → Prop} {ov pv ov5 pv5 : Value}
structure Q2 (g : Gr.G) (B : Nat) (W1 : World) (gt ct i : Nat) (wr : World) (tl : List Bool) (O : Nat → Prop) (ov : Value) : Prop where
  told : Kd.R Kd.bool 4 wr B (fun k => k = gt) (.slice (some ⟨gt, 0, none⟩) g.length ct) tl
  tlen : tl.length = g.length
  rt : ∀ y, y < g.length → (sn tl y = true ↔ ∃ v, v < i ∧ Gr.Scc g v y)
  out : KE.R 31 wr B O ov ((psOf g i).map castL)
  Oc : ∀ k, O k → W1.heap.size ≤ k ∧ k ≠ gt ∧ k < wr.heap.size
  below : Below W1.heap.size W1 wr
  gt_ : W1.heap.size ≤ gt ∧ gt < wr.heap.size
structure Q3 (g : Gr.G) (B : Nat) (W1 : World) (gt ct i k : Nat) (wr : World) (tl : List Bool) (O : Nat → Prop) (ov : Value) (P : Nat → Prop) (pv : Value) : Prop where
  told : Kd.R Kd.bool 4 wr B (fun k => k = gt) (.slice (some ⟨gt, 0, none⟩) g.length ct) tl
  tlen : tl.length = g.length
  rt : ∀ y, y < g.length → (sn tl y = true ↔ (∃ v, v < i ∧ Gr.Scc g v y) ∨ (y < k ∧ Gr.Scc g i y))
  out : KE.R 31 wr B O ov ((psOf g i).map castL)
  part : (Kd.int .i64).R 3 wr B P pv (castL (partOf g i k))
  Oc : ∀ k, O k → W1.heap.size ≤ k ∧ k ≠ gt ∧ k < wr.heap.size
  Pc : ∀ k, P k → W1.heap.size ≤ k ∧ k ≠ gt ∧ ¬ O k ∧ k < wr.heap.size
  below : Below W1.heap.size W1 wr
  gt_ : W1.heap.size ≤ gt ∧ gt < wr.heap.size
theorem Q2.skip (h : Q2 g B W1 gt ct i wr tl O ov) (hi : i < g.length) (hs : sn tl i = true) : Q2 g B W1 gt ct (i + 1) wr tl O ov := by
  obtain ⟨v, hv, hsc⟩ := (h.rt i hi).1 hs
  refine ⟨h.told, h.tlen, fun y hy => ⟨fun q => ?_, ?_⟩, ?_, h.Oc, h.below, h.gt_⟩
  · obtain ⟨v, hv, q⟩ := (h.rt y hy).1 q
    exact ⟨v, by omega, q⟩
  · rintro ⟨u, hu, q⟩
    refine (h.rt y hy).2 ?_
    by_cases e : u = i
    · subst e
      exact ⟨v, hv, hsc.trans q⟩
    · exact ⟨u, by omega, q⟩
  · rw [psOf_no (fun q => q v hv hsc)]
    exact h.out
theorem Q2.inner (h : Q2 g B W1 gt ct i wr tl O ov) (hi : i < g.length) (hs : sn tl i = false) : Gr.Least g i ∧ Q3 g B W1 gt ct i i wr tl O ov (fun _ => False) (.slice none 0 0) := by
  have hl : Gr.Least g i := fun u hu q => by
    have := (h.rt i hi).2 ⟨u, hu, q⟩
    rw [hs] at this
    cases this
  refine ⟨hl, h.told, h.tlen, fun y hy => ⟨fun q => .inl ((h.rt y hy).1 q), ?_⟩, h.out, by rw [partOf_start hl]; exact Kd.R_nil _ _ _ _ _, h.Oc, fun _ q => q.elim, h.below, h.gt_⟩
  rintro (q | ⟨hy2, q⟩)
  · exact (h.rt y hy).2 q
  · exact absurd q.symm (hl y hy2)
theorem Q3.skip (h : Q3 g B W1 gt ct i k wr tl O ov P pv) (hs : ¬ Gr.Scc g i k) : Q3 g B W1 gt ct i (k + 1) wr tl O ov P pv := by
  refine ⟨h.told, h.tlen, fun y hy => ⟨fun q => ?_, ?_⟩, h.out, by rw [partOf_no hs]; exact h.part, h.Oc, h.Pc, h.below, h.gt_⟩
  · rcases (h.rt y hy).1 q with q | ⟨q1, q2⟩
    · exact .inl q
    · exact .inr ⟨by omega, q2⟩
  · rintro (q | ⟨q1, q2⟩)
    · exact (h.rt y hy).2 (.inl q)
    · refine (h.rt y hy).2 (.inr ⟨?_, q2⟩)
      have : y ≠ k := fun e => hs (by rw [← e]; exact q2)
      omega
theorem Q3.put (h : Q3 g B W1 gt ct i k wr tl O ov P pv) (hB : B ≤ W1.heap.size) (hk : k < g.length) (hs : Gr.Scc g i k) (hg : (wr.setCell ⟨gt, k, none⟩ (.bool true)).grownBy w5 pv.ownBlock)
    (h5 : (Kd.int .i64).R 3 w5 B (fun j => P j ∨ wr.heap.size ≤ j) pv5 (castL (partOf g i k) ++ [(k : Int)])) :
    ∃ P', Q3 g B W1 gt ct i (k + 1) w5 (tl.set k true) O ov P' pv5 := by
  have hgt := h.gt_
  have hsz : (wr.setCell ⟨gt, k, none⟩ (.bool true)).heap.size = wr.heap.size := by simp [World.setCell]
  have hF1 : Fr (fun j => j = gt) wr (wr.setCell ⟨gt, k, none⟩ (.bool true)) := Fr.setCell (S := fun j => j = gt) (Fr.refl _ wr) (p := ⟨gt, k, none⟩) (.inl rfl) _
  have hF2 : Fr P (wr.setCell ⟨gt, k, none⟩ (.bool true)) w5 := (Fr.refl _ _).grown hg (fun j e => .inl (h.part.1 j e))
  have hF : Fr (fun j => j = gt ∨ P j) wr w5 := (hF1.mono (S' := fun j => j = gt ∨ P j) (fun j q => .inl q)).trans hF2 (fun j q => .inl (.inr q))
  have hput := (Kd.R_putg h.told (k : Int) true).1
  rw [Int.toNat_natCast] at hput
  refine ⟨fun j => (P j ∨ wr.heap.size ≤ j) ∧ j < w5.heap.size, fr_R hput hF2 (fun j e q => (h.Pc j q).2.1 e), by rw [List.length_set]; exact h.tlen, fun y hy => ?_, fr_R h.out hF (fun j hO q => ?_), ?_, fun j hO => ?_, ?_, ?_, ?_⟩
  · rw [Gr.sn_set]
    by_cases e : k = y
    · subst e
      simp only [if_true, true_iff]
      exact .inr ⟨by omega, hs⟩
    · rw [if_neg e, h.rt y hy]
      constructor
      · rintro (q | ⟨q1, q2⟩)
        · exact .inl q
        · exact .inr ⟨by omega, q2⟩
      · rintro (q | ⟨q1, q2⟩)
        · exact .inl q
        · exact .inr ⟨by omega, q2⟩
  · rcases q with q | q
    · exact (h.Oc j hO).2.1 q
    · exact (h.Pc j q).2.2.1 hO
  · rw [partOf_yes hs, ← castL_snoc]
    exact Kd.R_mono (Kd.R_bound h5) (fun j q => ⟨q.1, q.2.2.1⟩)
  · have := h.Oc j hO
    exact ⟨this.1, this.2.1, Nat.lt_of_lt_of_le this.2.2 hF.size⟩
  · rintro j ⟨q | q, q2⟩
    · have := h.Pc j q
      exact ⟨this.1, this.2.1, this.2.2.1, q2⟩
    · refine ⟨Nat.le_trans h.below.size q, by omega, fun hO => ?_, q2⟩
      have := h.Oc j hO
      omega
  · refine h.below.trans (hF.below h.below.size ?_)
    rintro j (rfl | q)
    · exact hgt.1
    · exact (h.Pc j q).1
  · exact ⟨hgt.1, Nat.lt_of_lt_of_le hgt.2 hF.size⟩
theorem Q3.done (h : Q3 g B W1 gt ct i g.length wr tl O ov P pv) (hl : Gr.Least g i) (hi : i < g.length) (hg : wr.grownBy w5 ov.ownBlock)
    (h5 : KE.R 31 w5 B (fun j => O j ∨ P j ∨ wr.heap.size ≤ j) ov5 ((psOf g i).map castL ++ [castL (partOf g i g.length)])) :
    ∃ O', Q2 g B W1 gt ct (i + 1) w5 tl O' ov5 := by
  have hgt := h.gt_
  have hF : Fr O wr w5 := (Fr.refl _ _).grown hg (fun j e => .inl (h.out.1 j e))
  refine ⟨fun j => (O j ∨ P j ∨ wr.heap.size ≤ j) ∧ j < w5.heap.size, fr_R h.told hF (fun j e q => (h.Oc j q).2.1 e), h.tlen, fun y hy => ?_, ?_, ?_, ?_, ?_⟩
  · rw [h.rt y hy]
    constructor
    · rintro (⟨v, hv, q⟩ | ⟨q1, q2⟩)
      · exact ⟨v, by omega, q⟩
      · exact ⟨i, by omega, q2⟩
    · rintro ⟨v, hv, q⟩
      by_cases e : v = i
      · subst e
        exact .inr ⟨hy, q⟩
      · exact .inl ⟨v, by omega, q⟩
  · rw [psOf_yes hl, List.map_append, List.map_singleton, ← partOf_all]
    exact Kd.R_mono (Kd.R_bound h5) (fun j q => ⟨q.1, q.2.2.1⟩)
  · rintro j ⟨q | q | q, q2⟩
    · exact ⟨(h.Oc j q).1, (h.Oc j q).2.1, q2⟩
    · exact ⟨(h.Pc j q).1, (h.Pc j q).2.1, q2⟩
    · exact ⟨Nat.le_trans h.below.size q, by omega, q2⟩
  · exact h.below.trans (hF.below h.below.size (fun j q => (h.Oc j q).1))
  · exact ⟨hgt.1, Nat.lt_of_lt_of_le hgt.2 hF.size⟩
theorem Q2.start {w1 : World} (hB : B ≤ W1.heap.size) (hm : Kd.R Kd.bool 4 w1 B (fun _ => True) (.slice (some ⟨gt, 0, none⟩) (List.replicate (g.length : Int).toNat false).length ct) (List.replicate (g.length : Int).toNat false)) (hg : W1.grownBy w1 none) (hgt : W1.heap.size ≤ gt) :
    Q2 g B W1 gt ct 0 w1 (List.replicate g.length false) (fun _ => False) (.slice none 0 0) := by
  obtain ⟨c, e⟩ := Kd.R_typed hm gt rfl
  refine ⟨?_, by simp, fun y hy => ?_, Kd.R_nil _ _ _ _ _, fun _ q => q.elim, ⟨hg.os, hg.tape, hg.output, hg.size, fun k hk => hg.block k hk (by simp)⟩, hgt, blk_lt e⟩
  · have := R_onlyB (ok' := fun k => k = gt) hm (fun k hk => by simpa [Value.ownBlock] using hk.symm)
    simpa using this
  · simp [sn, hy]
theorem Q2.cell (h : Q2 g B W1 gt ct i wr tl O ov) (hi : i < g.length) : wr.cell? ⟨gt, i, none⟩ = some (.bool (sn tl i)) := by
  obtain ⟨h1, -⟩ := Kd.R_celln false h.told (i : Int) (by omega) (by omega)
  rw [Int.toNat_natCast] at h1
  rw [h1]
  have hl : i < tl.length := by rw [h.tlen]; exact hi
  simp [rdOf, sn, List.getD_eq_getElem?_getD, List.getElem?_eq_getElem hl]
theorem Q3.cell (h : Q3 g B W1 gt ct i k wr tl O ov P pv) (hk : k < g.length) : wr.cell? ⟨gt, k, none⟩ = some (.bool (sn tl k)) ∧ wr.frozen? ⟨gt, k, none⟩ = false := by
  obtain ⟨h1, h2⟩ := Kd.R_celln false h.told (k : Int) (by omega) (by omega)
  rw [Int.toNat_natCast] at h1 h2
  refine ⟨?_, h2⟩
  rw [h1]
  have hl : k < tl.length := by rw [h.tlen]; exact hk
  simp [rdOf, sn, List.getD_eq_getElem?_getD, List.getElem?_eq_getElem hl]
theorem Q3.partR (h : Q3 g B W1 gt ct i k wr tl O ov P pv) (u : Value) (q : Nat) : (Kd.int .i64).R 3 (wr.setCell ⟨gt, q, none⟩ u) B (fun j => P j ∨ wr.heap.size ≤ j) pv (castL (partOf g i k)) :=
  Kd.R_mono (Kd.R_far (p := ⟨gt, q, none⟩) h.part (fun j hj => (h.Pc j hj).2.1) u) (fun j hj => .inl hj)
/-- what is read of all the rows -/
theorem all_cells {w1 : World} {ga : Nat} {rows : List (List Bool)} (h : KB.C w1 (some ⟨ga, 0, none⟩) g.length rows) (hrg : ∀ i, i < g.length → ∃ r, rows[i]? = some r ∧ RG g i r) (hi : i < g.length) (hk : k < g.length) :
    ∃ A0 c0 b, w1.cell? ⟨ga, i, none⟩ = some (.slice (some A0) g.length c0) ∧ w1.cell? (A0.add k) = some (.bool b) ∧ (b = true ↔ Gr.Reach g i k) := by
  obtain ⟨r, hr, hl, hR⟩ := hrg i hi
  obtain ⟨ad, A0, c0, e, h1, h2⟩ := all_at h i k hi r hr hl hk
  cases e
  have e1 : (⟨ga, 0, none⟩ : Addr).add i = ⟨ga, i, none⟩ := by simp [Addr.add]; exact fun e => e.symm
  rw [e1] at h1
  exact ⟨A0, c0, _, h1, h2, hR k hk⟩
end
end Go.Proofs.Ytldgmneijipbjaa.H
end
/- YtldgmneijipbjaaHRParts -/
section
/- The contract of the reference's Parts. -/
namespace Go.Proofs.Ytldgmneijipbjaa.H
open Go.RowKit Go.Shelf Go.Proofs.YtldgmneijipbjaaW.PrintWords Go.Proofs.YtldgmneijipbjaaW.PrintLast Go.Proofs.YtldgmneijipbjaaW.PrintMore
open Gr (out sn)
open Pu (RG okE)
set_option linter.unusedVariables false
set_option linter.unusedSimpArgs false

theorem info41 : (Try.prog.info? 41).map (fun i => (i.zero, i.size, i.bytes)) = some (some (.slice none 0 0), 1, 24) := by kernel_rfl

theorem Q1.start {g : Gr.G} {w w2 : World} {ga ca : Nat} (hm : KB.R 41 w2 w.heap.size (fun _ => True) (.slice (some ⟨ga, 0, none⟩) (List.replicate (g.length : Int).toNat ([] : List Bool)).length ca) (List.replicate (g.length : Int).toNat [])) (hb : Below w.heap.size w w2) :
    Q1 g w ga ca 0 w2 (List.replicate g.length []) := by
  refine ⟨by simpa using hm, by simp, fun i hi => by omega, hb⟩

set_option maxRecDepth 100000 in
set_option maxHeartbeats 8000000 in
theorem rparts_good (A : Option Addr) (c : Nat) (g : Gr.G) (w : World) (hg : Gr.Good g) (hE : Kd.C KE w A g.length (castG g)) (hc : g.length ≤ c) (hsm : g.length ≤ 1099511627776) (hr : ∀ x, (out g x).length ≤ 1099511627776)
    (hck : ∃ k, POrder.gussetref11_Check.f k (castG g) = some 0) :
    Calls Try.prog 12 #[.slice A g.length c] w (OwnRows w ((Gr.canon g).map castL)) := by
  obtain ⟨k, hk⟩ := hck
  have hcl : (castG g).length = g.length := by simp [castG]
  have hk2 := POrder.gussetref11_Check.calls k A c (castG g) 0 w (by rw [hcl]; exact hE) (by omega) hk
  rw [hcl] at hk2
  have HK := hide hk2
  have HE := hide hE
  have HC := hide hc
  have HG := hide hg
  have HR := hide hr
  clear hk hk2 hE hc hg hcl hr
  go_enter Try.func12, Try.ntmps12
  go_wp2_with (first | (go_at_call 9; refine HK.out.mono ?_; rintro e w1 ⟨rfl, ⟨nd, rfl⟩⟩) | ((with_reducible refine gate_dst (N := 15) rfl ?_); refine Kd.R_make KB (w0 := w) w.heap.size 41 rfl (N := 15) rfl 48 _ _ rfl (g.length : Int) rfl rfl Try.underlying48 (.slice none 0 0) 24 info41 rfl (by decide) (by omega) ([] : List Bool) (ok := fun _ => True) (okp := fun _ => True) ?m1 (fun _ hk => hk) trivial (by omega) (by omega) ?m2 ?m3 ?_; (case m1 => exact ⟨_, rfl, Kd.R_nil _ _ _ _ _⟩); (case m2 => exact pw_below_drewN (Below.refl _ w) nd); (case m3 => exact Nat.le_refl _); intro v2 w2 h1 h2 h3 h4; obtain ⟨ga, h4, h5⟩ := h4; obtain ⟨ca, rfl⟩ := R_blk h1 h4; have M1 := hide h1; have M2 := hide h2; clear h1 h2 h3 h4 h5))
  have HQ0 := hide (Q1.start M1.out M2.out)
  clear M1 M2
  have hnb : g.length < 9223372036854775807 := by omega
  go_loopg [4] (g.length + 1) (fun gk v4 wr => ∃ x : Nat, x ≤ g.length ∧ g.length - x < gk ∧ v4 = .int .i64 x ∧ ∃ rows, Aside0 (Q1 g w ga ca x wr rows))
  case atStart => exact ⟨0, Nat.zero_le _, by omega, rfl, _, HQ0⟩
  case round =>
    obtain ⟨x, hx, hgk, rfl, rows, HQ⟩ := hrel
    clear HQ0
    by_cases hlt : x < g.length
    · have hlti : (x : Int) < (g.length : Int) := by omega
      have HRE := hide (rreach_any A c g g.length x wr rfl HG.out (Kd.C_below HE.out HQ.out.below) HC.out hsm HR.out hlt)
      go_wp2_with (go_at_call 25; refine HRE.out.mono ?_; rintro e w3 ⟨v3, r3, rfl, hr3, hrg3, hb3⟩; obtain ⟨A3, c3, rfl, -, -⟩ := Kd.R_reads hr3; obtain ⟨⟨u3, cu3⟩, fz3⟩ := R_cell_any rfl (fr_R HQ.out.all (Fr.of_below (S := fun _ => False) hb3) (fun _ _ q => q)) x hlt; have HQ2 := hide (HQ.out.put hlt hr3 hrg3 hb3); clear hr3 hrg3 hb3 HRE)
      go_roundg (g.length - x)
      case measure => omega
      case rel => exact ⟨x + 1, by omega, by omega, by go_num, _, HQ2⟩
    · obtain rfl : x = g.length := by omega
      go_wp2_with (((with_reducible refine gate_dst (N := 30) rfl ?_); refine Kd.R_make Kd.bool (w0 := w) w.heap.size 4 rfl (N := 30) rfl 41 _ _ rfl (g.length : Int) rfl rfl Try.underlying41 (.bool false) 1 info4 rfl (by decide) (by omega) false (ok := fun _ => True) (okp := fun _ => True) rfl (fun _ hk => hk) trivial (by omega) (by omega) HQ.out.below HQ.out.below.size ?_; intro v1 w1 h1 h2 h3 h4; obtain ⟨gt, h4, h5⟩ := h4; obtain ⟨ct, rfl⟩ := R_blk h1 h4; have M1 := hide h1; have M2 := hide h2; have M3 := hide h3; have M5 := hide h5; clear h1 h2 h3 h4 h5))
      obtain ⟨Wa, hWa⟩ : ∃ Wa : World, Wa = wr := ⟨_, rfl⟩
      have hww : w.heap.size ≤ wr.heap.size := HQ.out.below.size
      have HQ0 := hide (show Q2 g w.heap.size Wa gt ct 0 w1 (List.replicate g.length false) (fun _ => False) (.slice none 0 0) by rw [hWa]; exact Q2.start hww M1.out M3.out M5.out)
      have HALL := hide (show ∀ W, Below Wa.heap.size Wa W → KB.C W (some ⟨ga, 0, none⟩) g.length rows from by
        intro W hW
        obtain ⟨A', c', e, _, hC⟩ := Kd.R_reads HQ.out.all
        injection e with e1 e2 e3
        subst e1
        rw [HQ.out.len] at hC
        rw [hWa] at hW
        exact Kd.C_below hC hW)
      have HRG := hide HQ.out.rg
      have HBW := hide (show Below w.heap.size w Wa by rw [hWa]; exact HQ.out.below)
      have hwa : w.heap.size ≤ Wa.heap.size := by rw [hWa]; exact hww
      clear M1 M2 M3 M5 HQ hWa hww
      go_loopg [6, 7] (g.length + 1) (fun gk v6 v7 wr => ∃ i : Nat, i ≤ g.length ∧ g.length - i < gk ∧ v7 = .int .i64 i ∧ ∃ tl O, Aside0 (Q2 g w.heap.size Wa gt ct i wr tl O v6))
      case atStart => exact ⟨0, Nat.zero_le _, by omega, rfl, _, _, HQ0⟩
      case round =>
        obtain ⟨i, hi, hgi, rfl, tl, O, HQ2⟩ := hrel
        clear HQ0
        obtain ⟨A6, c6, rfl, -, -⟩ := Kd.R_reads HQ2.out.out
        obtain ⟨l6, hl6⟩ : ∃ m, ((psOf g i).map castL).length = m := ⟨_, rfl⟩
        rw [hl6] at HQ2 ⊢
        by_cases hlt : i < g.length
        · have hlti : (i : Int) < (g.length : Int) := by omega
          have c1 := HQ2.out.cell hlt
          cases hsn : sn tl i with
          | true =>
            rw [hsn] at c1
            have HN := hide (HQ2.out.skip hlt hsn)
            clear hsn
            go_wp2
            go_roundg (g.length - i)
            case measure => omega
            case rel => exact ⟨i + 1, by omega, by omega, by go_num, _, _, HN⟩
          | false =>
            rw [hsn] at c1
            have HIN := hide (HQ2.out.inner hlt hsn)
            clear hsn
            go_wp2
            have HQ30 := hide HIN.out.2
            have HLE := hide HIN.out.1
            have HL6 := hide hl6
            clear HIN HQ2 hl6
            go_loopg [8, 9] (g.length + 1) (fun gj v8 v9 wi => ∃ k : Nat, i ≤ k ∧ k ≤ g.length ∧ g.length - k < gj ∧ v9 = .int .i64 k ∧ ∃ tl P, Aside0 (Q3 g w.heap.size Wa gt ct i k wi tl O (.slice A6 l6 c6) P v8))
            case atStart => exact ⟨i, Nat.le_refl _, by omega, by omega, rfl, _, _, HQ30⟩
            case round =>
              obtain ⟨k, hik, hk, hgj, rfl, tl, P, HQ3⟩ := hrel
              clear HQ30
              obtain ⟨A8, c8, rfl, -, -⟩ := Kd.R_reads HQ3.out.part
              obtain ⟨l8, hl8⟩ : ∃ m, (castL (partOf g i k)).length = m := ⟨_, rfl⟩
              rw [hl8] at HQ3 ⊢
              by_cases hkl : k < g.length
              · have hkli : (k : Int) < (g.length : Int) := by omega
                obtain ⟨A1, d1, b1, e1, e2, hb1⟩ := all_cells (HALL.out wr HQ3.out.below) HRG.out hlt hkl
                obtain ⟨A2, d2, b2, e3, e4, hb2⟩ := all_cells (HALL.out wr HQ3.out.below) HRG.out hkl hlt
                have hscc : Gr.Scc g i k ↔ (b1 = true ∧ b2 = true) := by rw [hb1, hb2]; exact Iff.rfl
                have HSC := hide hscc
                clear hb1 hb2 hscc
                have HL8 := hide hl8
                clear hl8
                cases b1 with
                | false =>
                  have HN := hide (HQ3.out.skip (fun q => by have := (HSC.out.1 q).1; cases this))
                  go_wp2
                  go_roundg (g.length - k)
                  case measure => omega
                  case rel => exact ⟨k + 1, by omega, by omega, by omega, by go_num, _, _, HN⟩
                | true =>
                  cases b2 with
                  | false =>
                    have HN := hide (HQ3.out.skip (fun q => by have := (HSC.out.1 q).2; cases this))
                    go_wp2
                    go_roundg (g.length - k)
                    case measure => omega
                    case rel => exact ⟨k + 1, by omega, by omega, by omega, by go_num, _, _, HN⟩
                  | true =>
                    obtain ⟨f1, f2⟩ := HQ3.out.cell hkl
                    have hll : l8 ≤ g.length := by have := partOf_length g i k; have e := HL8.out; rw [castL_length] at e; omega
                    have hsz : (wr.setCell ⟨gt, k, none⟩ (.bool true)).heap.size = wr.heap.size := by simp [World.setCell]
                    have hbs : w.heap.size ≤ wr.heap.size := Nat.le_trans hwa HQ3.out.below.size
                    have HPR := hide (HQ3.out.partR (.bool true) k)
                    go_wp2_with ((with_reducible refine gate_dst (N := 70) rfl ?_); at_builtin; refine Kd.R_append (Kd.int .i64) (w0 := wr.setCell ⟨gt, k, none⟩ (.bool true)) w.heap.size rfl (.tmp 67) (.tmp 69) 31 3 (.int .i64 0) 8 rfl Try.underlying31 info3 rfl (by decide) (by omega) (.slice A8 l8 c8) (castL (partOf g i k)) (k : Int) [.int .i64 k] (fun j => P j ∨ wr.heap.size ≤ j) (fun _ => False) rfl (by simp only [hsz]; rfl) ?aP (fun _ hk => hk.elim) (fun j hj => .inr (by rw [hsz] at hj; exact hj)) ?aO (Below.refl _ _) ?aS ?aL ?_; (case aP => exact rfl); (case aO => exact HPR.out); (case aS => rw [hsz]; exact hbs); (case aL => rw [HL8.out]; omega); intro v1 w4 h1 h2 h3 h4; obtain ⟨A9, c9, rfl, -, -⟩ := Kd.R_reads h1; obtain ⟨l9, hl9⟩ : ∃ m, (castL (partOf g i k) ++ [(k : Int)]).length = m := ⟨_, rfl⟩; rw [hl9] at h1 ⊢; have HQ4 := hide (HQ3.out.put hwa hkl (HSC.out.2 ⟨rfl, rfl⟩) h3 h1); clear h1 h2 h3 h4 hl9)
                    go_roundg (g.length - k)
                    case measure => omega
                    case rel => obtain ⟨P', h⟩ := HQ4.out; exact ⟨k + 1, by omega, by omega, by omega, by go_num, _, P', ⟨h⟩⟩
              · obtain rfl : k = g.length := by omega
                have hbs : w.heap.size ≤ wr.heap.size := Nat.le_trans hwa HQ3.out.below.size
                have hpl : ((psOf g i).map castL).length ≤ g.length := by have := psOf_length g i; rw [List.length_map]; omega
                have hok : ∀ j, P j → (O j ∨ P j ∨ wr.heap.size ≤ j) ∧ some j ≠ (Value.slice A6 l6 c6).ownBlock := fun j hj => ⟨.inr (.inl hj), fun e => (HQ3.out.Pc j hj).2.2.1 (HQ3.out.out.1 j e.symm)⟩
                have HOK := hide hok
                clear hok
                go_wp2_with ((with_reducible refine gate_dst (N := 74) rfl ?_); at_builtin; refine Kd.R_append KE (w0 := wr) w.heap.size rfl (.tmp 71) (.tmp 73) 22 31 (.slice none 0 0) 24 rfl Try.underlying22 info31 rfl (by decide) (by omega) (.slice A6 l6 c6) ((psOf g i).map castL) (castL (partOf g i g.length)) [.slice A8 l8 c8] (fun j => O j ∨ P j ∨ wr.heap.size ≤ j) P rfl rfl ?aP HOK.out (fun j hj => .inr (.inr hj)) ?aO (Below.refl _ _) ?aS ?aL ?_; (case aP => exact ⟨_, rfl, HQ3.out.part⟩); (case aO => exact Kd.R_mono HQ3.out.out (fun j hj => .inl hj)); (case aS => exact hbs); (case aL => omega); intro v1 w4 h1 h2 h3 h4; obtain ⟨A9, c9, rfl, -, -⟩ := Kd.R_reads h1; obtain ⟨l9, hl9⟩ : ∃ m, ((psOf g i).map castL ++ [castL (partOf g i g.length)]).length = m := ⟨_, rfl⟩; rw [hl9] at h1 ⊢; have HQ4 := hide (HQ3.out.done HLE.out hlt h3 h1); clear h1 h2 h3 h4 hl9)
                go_roundg (g.length - i)
                case measure => omega
                case rel => obtain ⟨O', h⟩ := HQ4.out; exact ⟨i + 1, by omega, by omega, by go_num, _, O', ⟨h⟩⟩
        · obtain rfl : i = g.length := by omega
          have HFIN := hide HQ2.out.out
          have HBF := hide (HBW.out.trans (HQ2.out.below.mono hwa))
          go_wp2
          go_ret
          exact ⟨_, rfl, Kd.R_mono (by rw [← psOf_all]; exact HFIN.out) (fun _ _ => trivial), HBF.out⟩
theorem rparts_bad (A : Option Addr) (c : Nat) (el : List (List Int)) (w : World) (hE : Kd.C KE w A el.length el) (hc : el.length ≤ c) (hs : Small el) (hok : okE el = false) :
    Calls Try.prog 12 #[.slice A el.length c] w (OwnRows w []) := by
  obtain ⟨k, hk⟩ := (Pu.rcheck_ev el (by have := hs.len; omega) (fun r hr => by have := hs.row r hr; omega)).rounds
  rw [hok] at hk
  have HK := hide hk
  have HE := hide hE
  have HC := hide hc
  clear hk hE hc hok hs
  go_enter Try.func12, Try.ntmps12
  go_wp2_with (go_at_call 9; refine (POrder.gussetref11_Check.calls k A c el 110 _ ?s1 ?s2 HK.out).mono ?_; (case s1 => exact HE.out); (case s2 => exact HC.out); rintro e w1 ⟨rfl, ⟨nd, rfl⟩⟩)
  go_ret
  exact ⟨_, rfl, Kd.R_nil _ _ _ _ _, pw_below_drewN (Below.refl _ _) nd⟩
theorem gOf_row {el : List (List Int)} (hs : Small el) (x : Nat) : (out (gOf el) x).length ≤ 1099511627776 := by
  unfold Gr.out
  rw [List.getD_eq_getElem?_getD]
  by_cases hx : x < el.length
  · have := hs.row el[x] (List.getElem_mem hx)
    simp [gOf, hx]
    omega
  · simp [gOf, hx]
theorem rparts_any (A : Option Addr) (n c : Nat) (el : List (List Int)) (w : World) (hn : el.length = n) (hE : Kd.C KE w A n el) (hc : n ≤ c) (hs : Small el) :
    Calls Try.prog 12 #[.slice A n c] w (OwnRows w (partsAns el)) := by
  subst hn
  unfold partsAns
  cases hok : okE el with
  | false => simpa using rparts_bad A c el w hE hc hs hok
  | true =>
    rw [if_pos rfl]
    have e := castG_gOf hok
    have hl : (gOf el).length = el.length := gOf_length el
    have := rparts_good A c (gOf el) w (gOf_good hok) (by rw [e, hl]; exact hE) (by rw [hl]; exact hc) (by rw [hl]; exact hs.len) (gOf_row hs) (by
      obtain ⟨k, hk⟩ := (Pu.rcheck_ev el (by have := hs.len; omega) (fun r hr => by have := hs.row r hr; omega)).rounds
      rw [hok] at hk
      exact ⟨k, by rw [e]; exact hk⟩)
    rw [hl] at this
    exact this
theorem rcheck_any (A : Option Addr) (n c : Nat) (el : List (List Int)) (w : World) (hn : el.length = n) (hE : KE.C w A n el) (hc : n ≤ c) (hs : Small el) :
    Calls Try.prog 9 #[.slice A n c] w fun e w' => e = .returned (.int .i64 (if okE el then 0 else 110)) ∧ ∃ q, w' = w.drewN q := by
  subst hn
  obtain ⟨k, hk⟩ := (Pu.rcheck_ev el (by have := hs.len; omega) (fun r hr => by have := hs.row r hr; omega)).rounds
  refine (POrder.gussetref11_Check.calls k A c el _ w hE hc hk).mono ?_
  rintro e w1 ⟨rfl, ⟨nd, rfl⟩⟩
  exact ⟨rfl, nd, rfl⟩
theorem canon_small (g : Gr.G) : (Gr.canon g).length ≤ g.length ∧ ∀ l, l ∈ Gr.canon g → l.length ≤ g.length := by
  refine ⟨psOf_length g g.length, fun l hl => ?_⟩
  obtain ⟨v, _, rfl⟩ := Gr.mem_canon.1 hl
  exact partOf_length g v g.length
theorem partsAns_small (el : List (List Int)) (hs : Small el) : (partsAns el).length ≤ 1099511627776 ∧ ∀ r, r ∈ partsAns el → r.length ≤ 1099511627776 := by
  unfold partsAns
  split
  · have h := canon_small (gOf el)
    have hl : (gOf el).length = el.length := gOf_length el
    have := hs.len
    refine ⟨by rw [List.length_map]; omega, fun r hr => ?_⟩
    obtain ⟨q, hq, rfl⟩ := List.mem_map.1 hr
    have := h.2 q hq
    rw [castL_length]
    omega
  · simp
end Go.Proofs.Ytldgmneijipbjaa.H
end
/- YtldgmneijipbjaaHLaw4 -/
section
/- OrderWalks: true at every input that is not too long. -/
namespace Go.Proofs.Ytldgmneijipbjaa.H
open Go.RowKit Go.Shelf Go.Proofs.YtldgmneijipbjaaW.PrintWords Go.Proofs.YtldgmneijipbjaaW.PrintLast Go.Proofs.YtldgmneijipbjaaW.PrintMore
open Pu (okE)
open POrder
set_option linter.unusedVariables false
set_option linter.unusedSimpArgs false

theorem rorder_ev (el : List (List Int)) (root : Int) (hs : Small el) : ∃ k, gussetref11_Order.f k el root = some (orderAns el root) := by
  have hrr : ∀ r, r ∈ el → r.length ≤ 4611686018427387904 := fun r hr => by have := hs.row r hr; omega
  unfold orderAns
  by_cases h : okE el = true ∧ 0 ≤ root ∧ root < el.length
  · rw [if_pos h]
    obtain ⟨r, rfl⟩ := Int.eq_ofNat_of_zero_le h.2.1
    have e := castG_gOf h.1
    have hl : (gOf el).length = el.length := gOf_length el
    have := Pu.order_ev (gOf el) (gOf_good h.1) (by rw [e]; exact h.1) (by rw [hl]; have := hs.len; omega) (fun x => by
      unfold Gr.out
      rw [List.getD_eq_getElem?_getD]
      by_cases hx : x < el.length
      · have := hs.row el[x] (List.getElem_mem hx)
        simp [gOf, hx]
        omega
      · simp [gOf, hx]) r (by rw [hl]; omega)
    rw [e] at this
    rw [Int.toNat_natCast]
    exact this
  · rw [if_neg h]
    have h1 := Pu.rcheck_ev el (by have := hs.len; omega) hrr
    refine YtldgmneijipbjaaW.PrintWords.Ev.rounds (g := fun k => gussetref11_Order.f k el root) ?_
    simp only [gussetref11_Order.f]
    refine YtldgmneijipbjaaW.PrintWords.Ev.bind h1 ?_
    cases hok : okE el with
    | false =>
      simp only [Bool.false_eq_true, if_false]
      refine YtldgmneijipbjaaW.PrintWords.Ev.congr (f := fun k => some ([] : List Int)) (fun k => ?_) (YtldgmneijipbjaaW.PrintWords.Ev.now _)
      rw [if_neg (by omega)]
    | true =>
      simp only [if_true]
      refine YtldgmneijipbjaaW.PrintWords.Ev.congr (f := fun k => some ([] : List Int)) (fun k => ?_) (YtldgmneijipbjaaW.PrintWords.Ev.now _)
      by_cases hr : root < 0
      · rw [if_pos hr]
      · rw [if_neg hr, if_pos (by have : ¬ (0 ≤ root ∧ root < el.length) := fun q => h ⟨hok, q⟩; omega)]
theorem rorder_any (A : Option Addr) (n c : Nat) (el : List (List Int)) (root : Int) (w : World) (hn : el.length = n) (hE : KE.C w A n el) (hc : n ≤ c) (hs : Small el) :
    Calls Try.prog 16 #[.slice A n c, .int .i64 root] w (OwnInts w (orderAns el root)) := by
  subst hn
  obtain ⟨k, hk⟩ := rorder_ev el root hs
  refine (gussetref11_Order.calls k A c el root _ w hE hc hk).mono ?_
  rintro e w1 ⟨v, rfl, h1, h2⟩
  exact ⟨v, rfl, h1, h2⟩

theorem small_any {el : List (List Int)} (hs : Small el) : el.length ≤ 4611686018427387904 ∧ ∀ r, r ∈ el → r.length ≤ 4611686018427387904 := ⟨by have := hs.len; omega, fun r hr => by have := hs.row r hr; omega⟩
theorem orderAns_len (el : List (List Int)) (root : Int) (hs : Small el) : (orderAns el root).length ≤ 4611686018427387904 := by
  unfold orderAns
  split
  · rename_i h
    have hl : (gOf el).length = el.length := gOf_length el
    have := (Pu.len_both (gOf el) (gOf_good h.1) (gOf el).length).1 root.toNat (List.replicate (gOf el).length false, []) (by have h2 : root.toNat < (gOf el).length := (by omega); simp [Gr.sn, h2])
    rw [Gr.unseen_start] at this
    simp only [List.length_nil] at this
    have e : (castL (Gr.orderOf (gOf el) root.toNat)).length ≤ (gOf el).length := by
      rw [castL_length]
      unfold Gr.orderOf
      omega
    have := hs.len
    omega
  · simp

set_option maxRecDepth 100000 in
set_option maxHeartbeats 4000000 in
theorem walks_law (A : Option Addr) (n c : Nat) (el : List (List Int)) (root : Int) (w : World) (hn : el.length = n) (hE : KE.C w A n el) (hc : n ≤ c) (hs : Small el) :
    Calls Try.prog 4 #[.slice A n c, .int .i64 root] w fun e w' => e = .returned (.bool true) ∧ Below w.heap.size w w' := by
  have HE := hide hE
  have HS := hide hs
  have HTW := hide (show Calls Try.prog 7 #[.slice A n c] w (OwnRows w el) by subst hn; exact twin_any A c el w hE hc hs)
  clear hE hs
  go_enter Try.func4, Try.ntmps4
  go_wp2_with (first | (go_at_call 7; refine HTW.out.mono ?_; rintro e w1 ⟨v1, rfl, h1, h2⟩; obtain ⟨A1, c1, rfl, hc1, hC1⟩ := Kd.R_reads h1; have HC1 := hide hC1; have HB1 := hide h2; have HE1 := hide (C_le HE.out h2); rw [hn] at hc1 HC1 ⊢; clear h1 h2 hC1 HE HTW) | (go_at_call 15; refine (show Calls Try.prog 15 #[.slice A1 n c1, .int .i64 root] w1 (OwnInts w1 (orderAns el root)) by subst hn; exact order_any A1 c1 el root w1 HC1.out hc1 HS.out).mono ?_; rintro e w2 ⟨v2, rfl, h1, h2⟩; obtain ⟨A2, c2, rfl, hc2, hC2⟩ := Kd.R_reads h1; have HC2 := hide hC2; have HB2 := hide (HB1.out.trans (h2.mono HB1.out.size)); have HE2 := hide (C_le HE1.out h2); have HT2 := hide (C_le HC1.out h2); clear h1 h2 hC2 HE1 HC1) | (go_at_call 16; refine (rorder_any A n c el root w2 hn HE2.out hc HS.out).mono ?_; rintro e w3 ⟨v3, rfl, h1, h2⟩; obtain ⟨A3, c3, rfl, hc3, hC3⟩ := Kd.R_reads h1; have HC3 := hide hC3; have HC4 := hide (C_le HC2.out h2); have HB3 := hide (HB2.out.trans (h2.mono HB2.out.size)); have HE3 := hide (C_le HE2.out h2); have HT3 := hide (C_le HT2.out h2); clear h1 h2 hC3 HE2 HC2 HT2) | (go_at_call 14; refine (same_any A2 A3 _ c2 c3 (orderAns el root) w3 rfl HC4.out hc2 HC3.out hc3 (orderAns_len el root HS.out)).mono ?_; rintro e w4 ⟨rfl, q4, rfl⟩) | (go_at_call 10; refine (sameAll_any A1 A n c1 c el (w3.drewN q4) hn (C_le HT3.out (pw_below_drewN (Below.refl _ _) q4)) hc1 (C_le HE3.out (pw_below_drewN (Below.refl _ _) q4)) hc (by rw [← hn]; exact (small_any HS.out).1) (small_any HS.out).2).mono ?_; rintro e w5 ⟨rfl, q5, rfl⟩) | (go_at_call 13; refine (awake_any _).mono ?_; rintro e w6 ⟨rfl, hb6⟩))
  go_ret
  exact ⟨rfl, (pw_below_drewN HB3.out (q4 + q5)).trans (hb6.mono (by have := HB3.out.size; simpa using this))⟩
theorem walks_true (A : Option Addr) (n c : Nat) (el : List (List Int)) (root : Int) (w : World) (hn : el.length = n) (hE : KE.C w A n el) (hc : n ≤ c) (hs : Small el) (_ : (el.map List.length).sum ≤ 1099511627776) :
    Calls Try.prog 4 #[.slice A n c, .int .i64 root] w fun e w' => e = .returned (.bool true) ∧ Below w.heap.size w w' := walks_law A n c el root w hn hE hc hs
end Go.Proofs.Ytldgmneijipbjaa.H
end
/- YtldgmneijipbjaaHOwn -/
section
/- OrderOwn: what holds while the first answer is written over. -/
namespace Go.Proofs.Ytldgmneijipbjaa.H
open Go.RowKit Go.Shelf Go.Proofs.YtldgmneijipbjaaW.PrintWords Go.Proofs.YtldgmneijipbjaaW.PrintLast Go.Proofs.YtldgmneijipbjaaW.PrintMore
open Pu (okE)
set_option linter.unusedVariables false
set_option linter.unusedSimpArgs false

def okA (B s1 s2 k : Nat) : Prop := (B ≤ k ∧ k < s1) ∨ s2 ≤ k
/-- rows of one's own that are written over: what lies in [s1, s2) stays -/
structure OQ (B s1 s2 : Nat) (w w2 : World) (va : Value) (n : Nat) (wr : World) (rows : List (List Int)) : Prop where
  mat : Kd.S KE 31 wr B (okA B s1 s2) va rows
  len : rows.length = n
  below : Below B w wr
  size : s2 ≤ wr.heap.size
  keep : ∀ k, s1 ≤ k → k < s2 → wr.heap[k]? = w2.heap[k]?
section
variable {B s1 s2 n ga ca i k : Nat} {w w2 wr : World} {rows : List (List Int)}
theorem OQ.start {w1 : World} {va : Value} (hB : B ≤ w1.heap.size) (h : Kd.S KE 31 w1 B (fun _ => True) va rows) (hn : rows.length = n) (hb : Below B w w1) (h2 : Below w1.heap.size w1 w2) : OQ B w1.heap.size w2.heap.size w w2 va n w2 rows :=
  ⟨Kd.S_mono (Kd.S_below (Kd.S_bound h) h2) (fun k hk => .inl ⟨hk.2.1, hk.2.2.1⟩), hn, hb.trans (h2.mono hB), Nat.le_refl _, fun _ _ _ => rfl⟩
theorem OQ.at_ (q : OQ B s1 s2 w w2 (.slice (some ⟨ga, 0, none⟩) n ca) n wr rows) (hi : i < n) :
    ∃ oki v0, (Kd.int .i64).R 3 wr B oki v0 (rows.getD i []) ∧ wr.cell? ⟨ga, i, none⟩ = some v0 ∧ (∀ k, oki k → (okA B s1 s2 k ∧ k < wr.heap.size) ∧ k ≠ ga) ∧ Kd.H KE 31 wr B (fun k => okA B s1 s2 k ∧ k < wr.heap.size) (.slice (some ⟨ga, 0, none⟩) n ca) rows (i : Int) oki [v0] :=
  mat_lend (Kd.S_mono (Kd.S_bound q.mat) (fun k hk => ⟨hk.1, hk.2.2.1⟩)) i hi
theorem OQ.row (q : OQ B s1 s2 w w2 (.slice (some ⟨ga, 0, none⟩) n ca) n wr rows) (hi : i < n) (hk : 0 < (rows.getD i []).length) :
    ∃ g0 c0, wr.cell? ⟨ga, i, none⟩ = some (.slice (some ⟨g0, 0, none⟩) (rows.getD i []).length c0) ∧ ∀ k, k < (rows.getD i []).length → (∃ u, wr.cell? ⟨g0, k, none⟩ = some u) ∧ wr.frozen? ⟨g0, k, none⟩ = false ∧ (B ≤ s2 → OQ B s1 s2 w w2 (.slice (some ⟨ga, 0, none⟩) n ca) n (wr.setCell ⟨g0, k, none⟩ (.int .i64 (-5))) (rows.set i ((rows.getD i []).set k (-5)))) := by
  obtain ⟨oki, v0, hR, hcell, hoki, hH⟩ := q.at_ hi
  obtain ⟨g0, c0, rfl, -, -, -⟩ := Kd.R_form hR hk
  refine ⟨g0, c0, hcell, fun k hk => ?_⟩
  obtain ⟨h1, h2⟩ := R_cell_any rfl hR k hk
  refine ⟨h1, h2, fun hBs => ?_⟩
  obtain ⟨hp, hg⟩ := Kd.R_putg hR (k : Int) (-5)
  rw [Int.toNat_natCast] at hp hg
  have hg0 : oki g0 := hR.1 g0 rfl
  obtain ⟨⟨ho1, ho2⟩, ho3⟩ := hoki g0 hg0
  have hH2 := Kd.H_grown hH hg (fun k e => by cases e; exact hg0)
  have hS := Kd.H_back hH2 (x' := (rows.getD i []).set k (-5)) (okp := oki) ⟨_, rfl, hp⟩ (fun _ h => h)
  rw [Int.toNat_natCast] at hS
  refine ⟨Kd.S_mono hS (fun k hk => hk.1), by rw [List.length_set]; exact q.len, q.below.setCell (p := ⟨g0, k, none⟩) (by show B ≤ g0; rcases ho1 with h | h <;> omega) _, by have := q.size; simpa [World.setCell] using this, fun j h1 h2 => ?_⟩
  rw [Below.heap_setCell _ _ _ _ (show j ≠ g0 by rcases ho1 with h | h <;> omega)]
  exact q.keep j h1 h2
theorem OQ.app {v0 v1 : Value} {o : Obj} {w1 : World} {oki : Nat → Prop} {row' : List Int} (q : OQ B s1 s2 w w2 (.slice (some ⟨ga, 0, none⟩) n ca) n wr rows) (hi : i < n) (hBs : B ≤ s2) (hcell : wr.cell? ⟨ga, i, none⟩ = some v0)
    (hoki : ∀ k, oki k → (okA B s1 s2 k ∧ k < wr.heap.size) ∧ k ≠ ga) (hH : Kd.H KE 31 wr B (fun k => okA B s1 s2 k ∧ k < wr.heap.size) (.slice (some ⟨ga, 0, none⟩) n ca) rows (i : Int) oki [v0])
    (hv0 : ∀ k, v0.ownBlock = some k → oki k) (hg : (wr.alloc o).grownBy w1 v0.ownBlock) (hr : (Kd.int .i64).R 3 w1 B (fun k => oki k ∨ (wr.alloc o).heap.size ≤ k) v1 row') (h1 : v1.oneCell' = true) :
    w1.cell? ⟨ga, i, none⟩ = some v0 ∧ w1.frozen? ⟨ga, i, none⟩ = false ∧ OQ B s1 s2 w w2 (.slice (some ⟨ga, 0, none⟩) n ca) n (w1.setCell ⟨ga, i, none⟩ v1) (rows.set i row') := by
  have hga : okA B s1 s2 ga ∧ ga < wr.heap.size := (Kd.S_R (Kd.S_mono (Kd.S_bound q.mat) (ok' := fun k => okA B s1 s2 k ∧ k < wr.heap.size) (fun k hk => ⟨hk.1, hk.2.2.1⟩))).1 ga rfl
  obtain ⟨cells, hcg⟩ := Kd.S_typed q.mat ga rfl
  have hne : some ga ≠ v0.ownBlock := fun e => (hoki ga (hv0 ga e.symm)).2 rfl
  have hsz : (wr.alloc o).heap.size = wr.heap.size + 1 := by simp
  have hbg : w1.heap[ga]? = wr.heap[ga]? := (hg.block ga (by omega) hne).trans (Below.heap_alloc wr o ga hga.2)
  have hc1 : w1.cell? ⟨ga, i, none⟩ = some v0 := (World.cell?_of_block (w := wr) (w' := w1) (a := ⟨ga, i, none⟩) hbg).trans hcell
  have hf1 : w1.frozen? ⟨ga, i, none⟩ = false := blk_frozen (hbg.trans hcg) i
  have hH2 := Kd.H_mono (Kd.H_alloc hH o) (ok' := fun k => okA B s1 s2 k ∧ k < wr.heap.size) (fun _ h => h)
  have hS := mat_back (W := wr.alloc o) (w1 := w1) (y := i) hH2 hi hoki (by omega) hg hv0 hr (fun k hk => by have := hk.2; omega) h1
  refine ⟨hc1, hf1, Kd.S_mono hS ?_, by rw [List.length_set]; exact q.len, ?_, ?_, fun j j1 j2 => ?_⟩
  · rintro k (hk | hk)
    · exact hk.1
    · exact .inr (by have := q.size; omega)
  · have hb1 : Below B wr w1 := ((Below.refl B wr).alloc (by have := q.size; omega) o).trans ⟨hg.os, hg.tape, hg.output, hg.size, fun k hk => by
      by_cases hkk : k < (wr.alloc o).heap.size
      · exact hg.block k hkk (fun e => by
          have := (hoki k (hv0 k e.symm)).1.1
          rcases this with h | h <;> omega)
      · have := q.size
        omega⟩
    exact (q.below.trans hb1).setCell (p := ⟨ga, i, none⟩) (by show B ≤ ga; rcases hga.1 with h | h <;> omega) _
  · have := q.size
    have := hg.size
    simp only [World.setCell, Array.size_modify]
    omega
  · have hq := q.size
    rw [Below.heap_setCell _ _ _ _ (show j ≠ ga by rcases hga.1 with h | h <;> omega), hg.block j (by omega) (fun e => by
      have := (hoki j (hv0 j e.symm)).1.1
      rcases this with h | h <;> omega), Below.heap_alloc wr o j (by omega)]
    exact q.keep j j1 j2
end
/-- numbers of one's own that are written over -/
structure PQ (B s1 s2 : Nat) (w3 w5 : World) (vp : Value) (n : Nat) (wr : World) (ps : List Int) : Prop where
  row : (Kd.int .i64).R 3 wr B (fun k => B ≤ k ∧ k < s1) vp ps
  len : ps.length = n
  below : Below B w3 wr
  size : s2 ≤ wr.heap.size
  keep : ∀ k, s1 ≤ k → k < s2 → wr.heap[k]? = w5.heap[k]?
theorem PQ.start {w3 w4 w5 : World} {vp : Value} {n : Nat} {ps : List Int} (h : (Kd.int .i64).R 3 w4 w3.heap.size (fun _ => True) vp ps) (hn : ps.length = n) (hb : Below w3.heap.size w3 w4) (h2 : Below w4.heap.size w4 w5) : PQ w3.heap.size w4.heap.size w5.heap.size w3 w5 vp n w5 ps :=
  ⟨Kd.R_mono (Kd.R_below (Kd.R_bound h) h2) (fun k hk => ⟨hk.2.1, hk.2.2.1⟩), hn, hb.trans (h2.mono hb.size), Nat.le_refl _, fun _ _ _ => rfl⟩
theorem PQ.put {B s1 s2 n gp cp i : Nat} {w3 w5 wr : World} {ps : List Int} (q : PQ B s1 s2 w3 w5 (.slice (some ⟨gp, 0, none⟩) n cp) n wr ps) (hi : i < n) :
    (∃ u, wr.cell? ⟨gp, i, none⟩ = some u) ∧ wr.frozen? ⟨gp, i, none⟩ = false ∧ PQ B s1 s2 w3 w5 (.slice (some ⟨gp, 0, none⟩) n cp) n (wr.setCell ⟨gp, i, none⟩ (.int .i64 (-8))) (ps.set i (-8)) := by
  obtain ⟨h1, h2⟩ := R_cell_any rfl q.row i hi
  obtain ⟨hp, -⟩ := Kd.R_putg q.row (i : Int) (-8)
  rw [Int.toNat_natCast] at hp
  have hg := q.row.1 gp rfl
  refine ⟨h1, h2, hp, by rw [List.length_set]; exact q.len, q.below.setCell (p := ⟨gp, i, none⟩) hg.1 _, by have := q.size; simpa [World.setCell] using this, fun j h1 h2 => ?_⟩
  rw [Below.heap_setCell _ _ _ _ (show j ≠ gp by omega)]
  exact q.keep j h1 h2
theorem two_new (w : World) : (Kd.int .i64).C (w.alloc (.cells #[.int .i64 (-6), .int .i64 (-7)] 3)) (some ⟨w.heap.size, 0, none⟩) 2 [-6, -7] := by
  have hb := blk_new w (.cells #[.int .i64 (-6), .int .i64 (-7)] 3)
  refine ⟨rfl, by omega, fun _ => ⟨_, rfl, fun j p hj => ⟨[.int .i64 p], rfl, rfl, fun i u hi => ?_⟩⟩⟩
  obtain rfl : i = 0 := by
    cases i with
    | zero => rfl
    | succ i => simp at hi
  have e : u = .int .i64 p := by simpa using hi.symm
  subst e
  show (w.alloc _).cell? ((⟨w.heap.size, 0, none⟩ : Addr).add (j * 1 + 0)) = _
  rw [Nat.mul_one, Nat.add_zero, add_at, Nat.zero_add, blk_cell hb j]
  rcases j with _ | _ | j
  · simp at hj; subst hj; rfl
  · simp at hj; subst hj; rfl
  · simp at hj
end Go.Proofs.Ytldgmneijipbjaa.H
end
/- YtldgmneijipbjaaHLaw6 -/
section
/- OrderOwn: true at every input that is not too long. -/
namespace Go.Proofs.Ytldgmneijipbjaa.H
open Go.RowKit Go.Shelf Go.Proofs.YtldgmneijipbjaaW.PrintWords Go.Proofs.YtldgmneijipbjaaW.PrintLast Go.Proofs.YtldgmneijipbjaaW.PrintMore
open Pu (okE)
set_option linter.unusedVariables false
set_option linter.unusedSimpArgs false

theorem R_C {α : Type} {d : Kd α} {e base n c : Nat} {ok : Nat → Prop} {w : World} {A : Option Addr} {xs : List α} (h : d.R e w base ok (.slice A n c) xs) : d.C w A n xs := by
  obtain ⟨A', c', e1, _, hC⟩ := Kd.R_reads h
  injection e1 with e1 e2 e3
  subst e1 e2
  exact hC

set_option maxRecDepth 100000 in
set_option maxHeartbeats 8000000 in
theorem own_true (A : Option Addr) (n c : Nat) (el : List (List Int)) (root : Int) (w : World) (hn : el.length = n) (hE : KE.C w A n el) (hc : n ≤ c) (hs : Small el) (htot : (el.map List.length).sum ≤ 1099511627776) :
    Calls Try.prog 6 #[.slice A n c, .int .i64 root] w fun e w' => e = .returned (.bool true) ∧ Below w.heap.size w w' := by
  have HE := hide hE
  have HS := hide hs
  have HPS := hide (partsAns_small el hs)
  have HP := hide (fun W (hW : Below w.heap.size w W) => show Calls Try.prog 11 #[.slice A n c] W (OwnRowsS W (partsAns el)) by
    subst hn; exact parts_anyS A c el W (C_le hE hW) hc hs htot)
  have HO := hide (fun W (hW : Below w.heap.size w W) => show Calls Try.prog 15 #[.slice A n c, .int .i64 root] W (OwnInts W (orderAns el root)) by
    subst hn; exact order_any A c el root W (C_le hE hW) hc hs)
  obtain ⟨m, hm⟩ : ∃ m, (partsAns el).length = m := ⟨_, rfl⟩
  have HM := hide hm
  have hmb : m ≤ 1099511627776 := by rw [← hm]; exact HPS.out.1
  obtain ⟨on, hon⟩ : ∃ m, (orderAns el root).length = m := ⟨_, rfl⟩
  have hob : on ≤ 4611686018427387904 := by rw [← hon]; exact orderAns_len el root hs
  have HON := hide hon
  have HN := hide hn
  have DR := fun (w : World) (q : Nat) => pw_below_drewN (Below.refl w.heap.size w) q
  have HDR := hide DR
  clear hE hs htot hm hon hn DR
  go_enter Try.func6, Try.ntmps6
  go_wp2_with (go_at_call 11; refine Aside0.out ?_)
  refine ⟨?_⟩
  refine (HP.out w (Below.refl _ _)).mono ?_
  rintro e w1 ⟨v1, rfl, h1, hb1⟩
  obtain ⟨A1, c1, rfl, hc1, -⟩ := Kd.R_reads (Kd.S_R h1)
  rw [HM.out] at h1 hc1 ⊢
  have H1 := hide h1
  have HB1 := hide hb1
  clear h1 hb1
  go_wp2_with (go_at_call 11; refine Aside0.out ?_)
  refine ⟨?_⟩
  refine (HP.out w1 HB1.out).mono ?_
  rintro e w2 ⟨v2, rfl, h3, hb2⟩
  obtain ⟨A2, c2, rfl, hc2, -⟩ := Kd.R_reads (Kd.S_R h3)
  rw [HM.out] at h3 hc2 ⊢
  have HBR := hide (show KE.R 31 w2 w1.heap.size (fun k => w1.heap.size ≤ k ∧ k < w2.heap.size) (.slice A2 m c2) (partsAns el) from Kd.R_mono (Kd.R_bound (Kd.S_R h3)) (fun k hk => ⟨hk.2.1, hk.2.2.1⟩))
  have HQ0 := hide (OQ.start HB1.out.size H1.out HM.out HB1.out hb2)
  have HB2 := hide (HB1.out.trans (hb2.mono HB1.out.size))
  have hs12 : w.heap.size ≤ w2.heap.size := HB2.out.size
  clear h3 hb2 HP
  go_wp2
  go_loopg [7] (m + 1) (fun gk v7 wr => ∃ i : Nat, i ≤ m ∧ m - i < gk ∧ v7 = .int .i64 i ∧ ∃ rows, Aside0 (OQ w.heap.size w1.heap.size w2.heap.size w w2 (.slice A1 m c1) m wr rows ∧ ∀ j, i ≤ j → (rows.getD j []).length ≤ 1099511627776))
  case atStart => exact ⟨0, Nat.zero_le _, by omega, rfl, _, ⟨HQ0.out, fun j _ => by
    rw [List.getD_eq_getElem?_getD]
    cases h : (partsAns el)[j]? with
    | none => simp
    | some r => simpa using HPS.out.2 r (List.mem_of_getElem? h)⟩⟩
  case round =>
    obtain ⟨i, hi, hgk, rfl, rows, HQ⟩ := hrel
    clear HQ0
    by_cases hlt : i < m
    · have hlti : (i : Int) < (m : Int) := by omega
      obtain ⟨ga, ca, e, -⟩ := Kd.R_form (Kd.S_R HQ.out.1.mat) (by rw [HQ.out.1.len]; omega)
      injection e with e1 e2 e3
      subst e1
      clear e2 e3
      obtain ⟨ln, hln⟩ : ∃ n, (rows.getD i []).length = n := ⟨_, rfl⟩
      have hlb : ln ≤ 1099511627776 := by rw [← hln]; exact HQ.out.2 i (Nat.le_refl _)
      have HQ1 := hide (show OQ w.heap.size w1.heap.size w2.heap.size w w2 (.slice (some ⟨ga, 0, none⟩) m c1) m wr rows ∧ (rows.getD i []).length = ln ∧ ∀ j, i + 1 ≤ j → (rows.getD j []).length ≤ 1099511627776 from ⟨HQ.out.1, hln, fun j hj => HQ.out.2 j (by omega)⟩)
      clear HQ hln
      go_wp2
      go_loopg [8] (ln + 1) (fun gj v8 wr => ∃ k : Nat, k ≤ ln ∧ ln - k < gj ∧ v8 = .int .i64 k ∧ ∃ rows, Aside0 (OQ w.heap.size w1.heap.size w2.heap.size w w2 (.slice (some ⟨ga, 0, none⟩) m c1) m wr rows ∧ (rows.getD i []).length = ln ∧ ∀ j, i + 1 ≤ j → (rows.getD j []).length ≤ 1099511627776))
      case atStart => exact ⟨0, Nat.zero_le _, by omega, rfl, _, HQ1⟩
      case round =>
        obtain ⟨k, hk, hgj, rfl, rows2, HQ2⟩ := hrel
        clear HQ1
        by_cases hkl : k < ln
        · have hkli : (k : Int) < (ln : Int) := by omega
          obtain ⟨g0, c0, cr, hput⟩ := HQ2.out.1.row hlt (by rw [HQ2.out.2.1]; omega)
          obtain ⟨⟨u, cu⟩, fu, hq⟩ := hput k (by rw [HQ2.out.2.1]; exact hkl)
          rw [HQ2.out.2.1] at cr
          have HQ3 := hide (show OQ w.heap.size w1.heap.size w2.heap.size w w2 (.slice (some ⟨ga, 0, none⟩) m c1) m (wr.setCell ⟨g0, k, none⟩ (.int .i64 (-5))) (rows2.set i ((rows2.getD i []).set k (-5))) ∧ ((rows2.set i ((rows2.getD i []).set k (-5))).getD i []).length = ln ∧ ∀ j, i + 1 ≤ j → ((rows2.set i ((rows2.getD i []).set k (-5))).getD j []).length ≤ 1099511627776 from ⟨hq hs12, by
            rw [List.getD_eq_getElem?_getD, List.getElem?_set_self (by rw [HQ2.out.1.len]; exact hlt), Option.getD_some, List.length_set]; exact HQ2.out.2.1, fun j hj => by
            rw [List.getD_eq_getElem?_getD, List.getElem?_set_ne (by omega), ← List.getD_eq_getElem?_getD]; exact HQ2.out.2.2 j hj⟩)
          clear hput hq HQ2
          go_wp2
          go_roundg (ln - k)
          case measure => omega
          case rel => exact ⟨k + 1, by omega, by omega, by go_num, _, HQ3⟩
        · obtain rfl : k = ln := by omega
          obtain ⟨row, hrow⟩ : ∃ r, rows2.getD i [] = r := ⟨_, rfl⟩
          obtain ⟨oki, v0, hR, cr, hoki, hH⟩ := HQ2.out.1.at_ hlt
          have hrl : row.length = k := by rw [← hrow]; exact HQ2.out.2.1
          rw [hrow] at hR
          obtain ⟨A0, c0, rfl, hc0, -⟩ := Kd.R_reads hR
          rw [hrl] at hR cr hH hc0
          have HRL := hide hrl
          have HR0 := hide hR
          have HH := hide hH
          have HOKI := hide hoki
          have CR := hide cr
          have hwb : w.heap.size ≤ wr.heap.size := HQ2.out.1.below.size
          clear hrow hR hH hoki hrl
          go_wp2_with (at_builtin; refine Kd.R_append_row (.int .i64) (0 : Int) (h1 := fun _ => rfl) (w0 := wr.alloc (.cells #[.int .i64 (-6), .int .i64 (-7)] 3)) w.heap.size rfl (.tmp 41) (.tmp 42) 31 3 (.int .i64 0) 8 rfl Try.underlying31 info3 rfl (by omega) (.slice A0 k c0) row [-6, -7] (some ⟨wr.heap.size, 0, none⟩) 2 2 (fun j => oki j ∨ (wr.alloc (.cells #[.int .i64 (-6), .int .i64 (-7)] 3)).heap.size ≤ j) rfl rfl (fun _ h => .inr h) ?aO ?aR (Below.refl _ _) ?aS ?aL ?_; (case aO => exact Kd.R_mono (Kd.R_alloc HR0.out _) (fun _ h => .inl h)); (case aR => exact two_new wr); (case aS => simp; omega); (case aL => rw [HRL.out]; omega); intro v1 w3 h1 h2 h3 h4; obtain ⟨g1, cap1, rfl, -, -, -⟩ := Kd.R_form h1 (by simp); have e2 : (row ++ [-6, -7]).length = k + 2 := (by rw [List.length_append, HRL.out]; rfl); rw [e2] at h1 ⊢; clear e2; obtain ⟨c8, f8, q8⟩ := HQ2.out.1.app hlt hs12 CR.out HOKI.out HH.out HR0.out.1 h3 h1 rfl; have HQ4 := hide q8; clear h1 h2 h3 h4 q8)
          go_roundg (m - i)
          case measure => omega
          case rel => exact ⟨i + 1, by omega, by omega, by go_num, _, ⟨HQ4.out, fun j hj => by
            rw [List.getD_eq_getElem?_getD, List.getElem?_set_ne (by omega), ← List.getD_eq_getElem?_getD]; exact HQ2.out.2.2 j hj⟩⟩
    · obtain rfl : i = m := by omega
      obtain ⟨W3, rfl⟩ : ∃ W : World, W = wr := ⟨_, rfl⟩
      have HB3 := hide HQ.out.1.below
      have HBR3 := hide (Kd.R_move HBR.out (fun k hk => HQ.out.1.keep k hk.1 hk.2))
      clear HQ HBR
      go_wp2_with (go_at_call 15; refine Aside0.out ?_)
      refine ⟨?_⟩
      refine (HO.out W3 HB3.out).mono ?_
      rintro e w4 ⟨v4, rfl, h1, hb4⟩
      obtain ⟨A4, c4, rfl, hc4, -⟩ := Kd.R_reads h1
      rw [HON.out] at h1 hc4 ⊢
      have H4 := hide h1
      have HB4 := hide hb4
      clear h1 hb4
      go_wp2_with (go_at_call 15; refine Aside0.out ?_)
      refine ⟨?_⟩
      refine (HO.out w4 (HB3.out.trans (HB4.out.mono HB3.out.size))).mono ?_
      rintro e w5 ⟨v5, rfl, h3, hb5⟩
      obtain ⟨A5, c5, rfl, hc5, -⟩ := Kd.R_reads h3
      rw [HON.out] at h3 hc5 ⊢
      have HQR := hide (show (Kd.int .i64).R 3 w5 w4.heap.size (fun k => w4.heap.size ≤ k ∧ k < w5.heap.size) (.slice A5 on c5) (orderAns el root) from Kd.R_mono (Kd.R_bound h3) (fun k hk => ⟨hk.2.1, hk.2.2.1⟩))
      have HPQ0 := hide (PQ.start H4.out HON.out HB4.out hb5)
      clear h3 hb5 HO H4
      go_wp2
      go_loopg [12] (on + 1) (fun gk v12 wr => ∃ i : Nat, i ≤ on ∧ on - i < gk ∧ v12 = .int .i64 i ∧ ∃ ps, Aside0 (PQ W3.heap.size w4.heap.size w5.heap.size W3 w5 (.slice A4 on c4) on wr ps))
      case atStart => exact ⟨0, Nat.zero_le _, by omega, rfl, _, HPQ0⟩
      case round =>
        obtain ⟨j, hj, hgj, rfl, ps, HPQ⟩ := hrel
        clear HPQ0
        by_cases hjl : j < on
        · have hjli : (j : Int) < (on : Int) := by omega
          obtain ⟨gp, cp, e, -⟩ := Kd.R_form HPQ.out.row (by rw [HPQ.out.len]; omega)
          injection e with e1 e2 e3
          subst e1
          clear e2 e3
          obtain ⟨⟨u, cu⟩, fu, hq⟩ := HPQ.out.put hjl
          have HPQ2 := hide hq
          clear hq HPQ
          go_wp2
          go_roundg (on - j)
          case measure => omega
          case rel => exact ⟨j + 1, by omega, by omega, by go_num, _, HPQ2⟩
        · obtain rfl : j = on := by omega
          have HBQ := hide (HB3.out.trans (HPQ.out.below.mono HB3.out.size))
          have HCB := hide (R_C (Kd.R_below HBR3.out HPQ.out.below))
          have HCQ := hide (R_C (Kd.R_move HQR.out (fun k hk => HPQ.out.keep k hk.1 hk.2)))
          clear HPQ HQR HBR3
          go_wp2_with (first | (go_at_call 12; refine (rparts_any A n c el wr HN.out (C_le HE.out HBQ.out) hc HS.out).mono ?_; rintro e w6 ⟨v6, rfl, h1, h2⟩; obtain ⟨A6, c6, rfl, hc6, hC6⟩ := Kd.R_reads h1; rw [HM.out] at hc6 hC6 ⊢; have HC6 := hide hC6; have HB6 := hide (HBQ.out.trans (h2.mono HBQ.out.size)); have HCB6 := hide (C_le HCB.out h2); have HCQ6 := hide (C_le HCQ.out h2); clear h1 h2 hC6) | (go_at_call 10; refine (sameAll_any A2 A6 i c2 c6 (partsAns el) w6 HM.out HCB6.out hc2 HC6.out hc6 (by omega) (fun r hr => by have := HPS.out.2 r hr; omega)).mono ?_; rintro e w7 ⟨rfl, q7, rfl⟩) | (go_at_call 16; refine (rorder_any A n c el root (w6.drewN q7) HN.out (C_le HE.out (HB6.out.trans ((HDR.out _ _).mono HB6.out.size))) hc HS.out).mono ?_; rintro e w8 ⟨v8, rfl, h1, h2⟩; obtain ⟨A8, c8, rfl, hc8, hC8⟩ := Kd.R_reads h1; rw [HON.out] at hc8 hC8 ⊢; have HC8 := hide hC8; have HB8 := hide ((HB6.out.trans ((HDR.out w6 q7).mono HB6.out.size)).trans (h2.mono (by have := HB6.out.size; simpa using this))); have HCQ8 := hide (C_le (C_le HCQ6.out (HDR.out _ q7)) h2); clear h1 h2 hC8) | (go_at_call 14; refine (same_any A5 A8 j c5 c8 (orderAns el root) w8 HON.out HCQ8.out hc5 HC8.out hc8 hob).mono ?_; rintro e w9 ⟨rfl, q9, rfl⟩) | (go_at_call 13; refine (awake_any _).mono ?_; rintro e w10 ⟨rfl, hb10⟩))
          go_ret
          exact ⟨rfl, (HB8.out.trans ((HDR.out w8 q9).mono HB8.out.size)).trans (hb10.mono (by have := HB8.out.size; simpa using this))⟩
end Go.Proofs.Ytldgmneijipbjaa.H
end
/- YtldgmneijipbjaaHRow -/
section
/- The argument '[][]int' of a law of layer 11: what it reads as, and how long it is at the most. -/
namespace Go.Proofs.Ytldgmneijipbjaa.H
open Go.RowKit Go.Shelf Go.Proofs.YtldgmneijipbjaaW.PrintWords Go.Proofs.YtldgmneijipbjaaW.PrintLast Go.Proofs.YtldgmneijipbjaaW.PrintMore
open Go.ChangeShapes Go.WideShapes
set_option linter.unusedVariables false

theorem bulk_one {H : Type} (d : DataW H) : 1 ≤ Rows.uptoBulk d := by
  cases d with
  | lit l => cases l <;> simp [Rows.uptoBulk]
  | nil => simp [Rows.uptoBulk]
  | ptr d => simp [Rows.uptoBulk]
  | slice elems spare => simp [Rows.uptoBulk]
  | agg parts => simp [Rows.uptoBulk]
  | iface t d => simp [Rows.uptoBulk]
  | map entries => simp [Rows.uptoBulk]
  | held h => simp [Rows.uptoBulk]
theorem bulk_length {H : Type} (l : List (DataW H)) : l.length ≤ Rows.uptoBulkAll l := by
  induction l with
  | nil => simp [Rows.uptoBulkAll]
  | cons x r ih => have := bulk_one x; simp only [Rows.uptoBulkAll, List.length_cons]; omega
theorem bulk_row {H : Type} (k : IntKind) (A : Option Addr) (L : Nat) (Z : List Int) (h : A = none → L = 0) : (Z.take L).length + 1 ≤ Rows.uptoBulk (H := H) (Deep.intRow k A L Z) := by
  cases A with
  | none => rw [h rfl]; simp [Deep.intRow, Rows.uptoBulk]
  | some a =>
    simp only [Deep.intRow, Rows.uptoBulk]
    have := bulk_length (H := H) (Go.ChangeShapes.lits k (Z.take L))
    simp only [Go.ChangeShapes.lits, List.length_map] at this
    simp only [Go.ChangeShapes.lits]
    omega
theorem bulk_rows {H : Type} (k : IntKind) (A : Nat → Option Addr) (L : Nat → Nat) (Z : Nat → List Int) (rs : List Nat) (h : ∀ r, r ∈ rs → A r = none → L r = 0) :
    ((rs.map fun r => (Z r).take (L r)).map List.length).sum + rs.length ≤ Rows.uptoBulkAll (H := H) (rs.map fun r => Deep.intRow k (A r) (L r) (Z r)) := by
  induction rs with
  | nil => simp [Rows.uptoBulkAll]
  | cons r rs ih =>
    have h1 := bulk_row (H := H) k (A r) (L r) (Z r) (h r (by simp))
    have h2 := ih (fun r hr => h r (by simp [hr]))
    simp only [List.map_cons, List.sum_cons, List.length_cons, Rows.uptoBulkAll]
    omega
theorem sum_mem (l : List (List Int)) : ∀ r, r ∈ l → r.length ≤ (l.map List.length).sum := by
  induction l with
  | nil => intro r hr; cases hr
  | cons x l ih =>
    intro r hr
    simp only [List.map_cons, List.sum_cons]
    rcases List.mem_cons.1 hr with rfl | hr
    · omega
    · have := ih r hr; omega

theorem open_rows {H : Type} {enc : TypeId × Value → H} {W : World} {fuel : Nat} {A0 : Option Addr} {len cap : Nat} {d : DataW H} {p : List MemPlace} (h : DataW.trod enc Try.prog W 0 (fun _ => true) true fuel 22 [.slice A0 len cap] = some (d, p)) (hb : Rows.uptoBulk d ≤ 1048576) :
    len ≤ cap ∧ ∃ el : List (List Int), el.length = len ∧ KE.C W A0 len el ∧ Small el ∧ (el.map List.length).sum ≤ 1099511627776 := by
  rcases Deep.open_int_rows Try.underlying22 Try.underlying31 Try.underlying3 (by kernel_rfl) (by kernel_rfl) h with ⟨hcs, hx⟩ | ⟨a, len', cap', A, L, C, Z, hcs, _, hl, hm, hx, hrows⟩
  · simp at hcs
    obtain ⟨rfl, rfl, rfl⟩ := hcs
    exact ⟨Nat.le_refl _, [], rfl, ⟨rfl, by omega, fun h => by omega⟩, ⟨by simp, fun r hr => by cases hr⟩, by simp⟩
  · simp at hcs
    obtain ⟨rfl, rfl, rfl⟩ := hcs
    simp only [Prod.mk.injEq] at hx
    obtain ⟨rfl, -⟩ := hx
    simp only [Rows.uptoBulk] at hb
    have h1 := bulk_rows (H := H) .i64 A L Z (List.range len) (fun r hr e => by
      have := hrows r (by have := List.mem_range.1 hr; omega)
      have := this.2.2.2.2.2.1 e
      omega)
    simp only [List.length_range] at h1
    have hsum : (((List.range len).map fun r => (Z r).take (L r)).map List.length).sum ≤ 1048576 := by omega
    refine ⟨hl, (List.range len).map fun r => (Z r).take (L r), by simp, ⟨by simp, by unfold maxLen at hm; omega, fun _ => ⟨a, rfl, fun j q hq => ?_⟩⟩, ⟨by simp; omega, fun r hr => by have := sum_mem _ r hr; omega⟩, by omega⟩
    have hj : j < len := by have := (List.getElem?_eq_some_iff.1 hq).1; simpa using this
    have hq2 : (Z j).take (L j) = q := by simpa [hj] using hq
    obtain ⟨e1, e2, e3, e4, e5, e6, e7⟩ := hrows j (by omega)
    have hql : q.length = L j := by rw [← hq2, List.length_take]; omega
    refine ⟨[.slice (A j) q.length (C j)], rfl, ⟨A j, C j, rfl, by omega, rfl, by unfold maxLen at e3; omega, fun hp => ?_⟩, fun i u hu => ?_⟩
    · cases hA : A j with
      | none => have := e6 hA; omega
      | some a' =>
        refine ⟨a', rfl, fun c x hx => ⟨[.int .i64 x], rfl, rfl, fun i u hu => ?_⟩⟩
        match i, hu with
        | 0, hu =>
          cases hu
          have hc : c < q.length := (List.getElem?_eq_some_iff.1 hx).1
          have := (e7 a' hA).2 c (by omega)
          have e8 : a'.add (c * 1 + 0) = a'.add c := by rw [Nat.mul_one, Nat.add_zero]
          show W.cell? (a'.add (c * 1 + 0)) = _
          rw [e8, this]
          rw [← hq2, List.getElem?_take_of_lt (by omega)] at hx
          rw [List.getD_eq_getElem?_getD, hx]
          rfl
    · match i, hu with
      | 0, hu =>
        cases hu
        have e8 : a.add (j * 1 + 0) = a.add j := by rw [Nat.mul_one, Nat.add_zero]
        show W.cell? (a.add (j * 1 + 0)) = _
        rw [e8, e1, hql]
end Go.Proofs.Ytldgmneijipbjaa.H
end
