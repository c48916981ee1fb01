import Derived.Test.YtiiofagddljgdaaT
set_option linter.unusedVariables false
set_option linter.unusedSimpArgs false
namespace Go.Proofs.Ytiiofagddljgdaa
open Go Go.RowKit Go.Bz
theorem hb_22 : hasBody Try.prog 22 = true := by kernel_rfl
theorem hb_23 : hasBody Try.prog 23 = true := by kernel_rfl
theorem hb_24 : hasBody Try.prog 24 = true := by kernel_rfl
theorem hb_26 : hasBody Try.prog 26 = true := by kernel_rfl
theorem hb_27 : hasBody Try.prog 27 = true := by kernel_rfl
theorem hb_28 : hasBody Try.prog 28 = true := by kernel_rfl
def uz (z : Int) : UInt64 := UInt64.ofNat (z % 18446744073709551616).toNat
theorem v64_of (z : Int) : Value.int .u64 (IntKind.u64.wrap z) = v64 (uz z) := by
  show Value.int .u64 (IntKind.u64.wrap z) = .int .u64 ((uz z).toNat : Int)
  unfold uz
  rw [Bz.wrap64, UInt64.toNat_ofNat', Nat.mod_eq_of_lt (by omega)]
  congr 1; omega
set_option maxRecDepth 100000 in
set_option maxHeartbeats 1000000 in
theorem auth_c (A1 : Option Addr) (n1 c1 : Nat) (key : Sh.B) (nm : ByteArray) (ser : UInt64) (A2 : Option Addr) (n2 c2 : Nat) (key2 : Sh.B) (w : World) (hR1 : SlR w A1 (byts key)) (hl1 : key.length = n1) (hc1 : n1 ≤ c1) (hR2 : SlR w A2 (byts key2)) (hl2 : key2.length = n2) (hc2 : n2 ≤ c2) (hk1 : n1 ≤ 1000000) (hk2 : n2 ≤ 1000000) (hnl : nm.size ≤ 1000000) : Calls Try.prog 20 [.slice A1 n1 c1, .string nm, v64 ser, .slice A2 n2 c2].toArray w fun e w' => ∃ _g : Unit, e = .returned (.agg (ws8 (mac key (65 :: (num (UInt64.ofNat nm.size) ++ (nm.data.toList ++ (num ser ++ key2)))))).toArray) ∧ St noB w w' [] ∧ True := by
  refine GC.calls Try.func20 rfl rfl (St.begin _) ?_
  subst hl1 hl2
  refine GC.seq ?_
  refine GC.reg ?_
  refine GL.step (ot_alloc (zs := ws8 (List.replicate 32 0)) zb_27 (rfl) rfl fun b8 => ?_)
  refine GL.nil ?_
  refine GX.then ?_
  refine GC.seq ?_
  refine GC.reg ?_
  refine GL.val (rv_move rfl) rfl ?_
  refine GL.val (rv_move rfl) rfl ?_
  refine GL.val (rv_lenS Try.underlying9 rfl) rfl ?_
  refine GL.val (rv_conv64I (nm.size) Try.underlying3 Try.underlying23 rfl (by first | rfl | omega)) rfl ?_
  refine GL.step (ot_call hb_28 rfl (callOk fun w hh => number_b (UInt64.ofNat nm.size) w) rfl fun g13 _ => ?_)
  refine GL.val (rv_move rfl) rfl ?_
  refine GL.step (ot_convSB (us := byts nm.data.toList) Try.underlying9 Try.underlying22 Try.underlying5 rfl rfl rfl fun b15 c15 => ?_)
  refine GL.val (rv_move rfl) rfl ?_
  refine GL.step (ot_call hb_28 rfl (callOk fun w hh => number_b (ser) w) rfl fun g17 _ => ?_)
  refine GL.val (rv_move rfl) rfl ?_
  refine GL.step (ot_buildSlice ei_49 rfl rfl rfl rfl rfl rfl fun b19 => ?_)
  refine GL.step (ot_call hb_27 rfl (callOk fun w hh => begin_b 65 (some ⟨b19, 0, none⟩) 4 4 [(num (UInt64.ofNat nm.size), g13), (nm.data.toList, (some ⟨b15, 0, none⟩, c15)), (num ser, g17), (key2, (A2, c2))] (65 :: (num (UInt64.ofNat nm.size) ++ (nm.data.toList ++ (num ser ++ key2)))) (by simp [cat]) w (slr_cl hh (k := 0) rfl rfl) (al (hh.ro (k := 3) rfl) (al (hh.ro (k := 2) rfl) (al (hh.ro (k := 1) rfl) (al (hh.rd0n hR2) an)))) rfl (by decide) (by have e : nm.data.toList.length = nm.size := rfl; simp only [List.length_cons, List.length_append, num_len, e]; omega)) rfl fun g20 h20 => ?_)
  have hq : (65 :: (num (UInt64.ofNat nm.size) ++ (nm.data.toList ++ (num ser ++ key2)))).length ≤ 1099511627000 := (by have e : nm.data.toList.length = nm.size := rfl; simp only [List.length_cons, List.length_append, num_len, e]; omega)
  generalize 65 :: (num (UInt64.ofNat nm.size) ++ (nm.data.toList ++ (num ser ++ key2))) = q at hq h20 ⊢
  refine GL.step (ot_buildSlice ei_49 rfl rfl rfl rfl rfl rfl fun b21 => ?_)
  refine GL.step (ot_call hb_26 rfl (callOk fun w hh => mac_b A1 _ c1 key (some ⟨b21, 0, none⟩) 1 1 [(q, g20)] (q) (by simp [cat]) w (hh.rd0n hR1) rfl hc1 (by omega) (slr_cl hh (k := 0) rfl rfl) (al (hh.ro (k := 1) rfl) an) (al h20 an) rfl (by decide) (by omega)) rfl fun _ _ => ?_)
  have hml := mac_len key q
  generalize mac key q = m1 at hml ⊢
  refine GL.step (ot_storeA (k := 6) rfl rfl rfl rfl (by exact sz_27) (by first | (first | (simp only [ws8_len, hml]; done) | (simp only [ws8_len, List.length_replicate, mac_len, Sh.sum_len] ; done) | (simp only [ws8_len, List.length_replicate, mac_len, Sh.sum_len]; done)) | rfl) (by first | (first | (simp only [ws8_len, hml]; done) | (simp only [ws8_len, List.length_replicate, mac_len, Sh.sum_len] ; done) | (simp only [ws8_len, List.length_replicate, mac_len, Sh.sum_len]; done)) | rfl) (by first | exact ws8_one _ | rfl) ?_)
  refine GL.nil ?_
  refine GX.then ?_
  refine GC.ret ?_
  refine GX.ret1 rfl (RR.cellL ag_27 rfl (by first | exact Hd.cellsAll (k := 6) rfl | exact Hd.cells (k := 6) rfl rfl) (by exact sz_27) (by first | (first | (simp only [ws8_len, hml]; done) | (simp only [ws8_len, List.length_replicate, mac_len, Sh.sum_len] ; done) | (simp only [ws8_len, List.length_replicate, mac_len, Sh.sum_len]; done)) | rfl)) ?_
  exact fun w9 h => ⟨(), rfl, by
      have h := h.sel [] rfl rfl
      exact h, trivial⟩
set_option maxRecDepth 100000 in
set_option maxHeartbeats 1000000 in
theorem rauth_c (A1 : Option Addr) (n1 c1 : Nat) (key : Sh.B) (nm : ByteArray) (ser : UInt64) (A2 : Option Addr) (n2 c2 : Nat) (key2 : Sh.B) (w : World) (hR1 : SlR w A1 (byts key)) (hl1 : key.length = n1) (hc1 : n1 ≤ c1) (hR2 : SlR w A2 (byts key2)) (hl2 : key2.length = n2) (hc2 : n2 ≤ c2) (hk1 : n1 ≤ 1000000) (hk2 : n2 ≤ 1000000) (hnl : nm.size ≤ 1000000) : Calls Try.prog 17 [.slice A1 n1 c1, .string nm, v64 ser, .slice A2 n2 c2].toArray w fun e w' => ∃ _g : Unit, e = .returned (.agg (ws8 (mac key (65 :: (num (UInt64.ofNat nm.size) ++ (nm.data.toList ++ (num ser ++ key2)))))).toArray) ∧ St noB w w' [] ∧ True := by
  refine GC.calls Try.func17 rfl rfl (St.begin _) ?_
  subst hl1 hl2
  refine GC.seq ?_
  refine GC.reg ?_
  refine GL.step (ot_alloc (zs := ws8 (List.replicate 32 0)) zb_27 (rfl) rfl fun b8 => ?_)
  refine GL.nil ?_
  refine GX.then ?_
  refine GC.seq ?_
  refine GC.reg ?_
  refine GL.val (rv_move rfl) rfl ?_
  refine GL.val (rv_move rfl) rfl ?_
  refine GL.val (rv_lenS Try.underlying9 rfl) rfl ?_
  refine GL.val (rv_conv64I (nm.size) Try.underlying3 Try.underlying23 rfl (by first | rfl | omega)) rfl ?_
  refine GL.step (ot_call hb_24 rfl (callOk fun w hh => rnumber_b (UInt64.ofNat nm.size) w) rfl fun g13 _ => ?_)
  refine GL.val (rv_move rfl) rfl ?_
  refine GL.step (ot_convSB (us := byts nm.data.toList) Try.underlying9 Try.underlying22 Try.underlying5 rfl rfl rfl fun b15 c15 => ?_)
  refine GL.val (rv_move rfl) rfl ?_
  refine GL.step (ot_call hb_24 rfl (callOk fun w hh => rnumber_b (ser) w) rfl fun g17 _ => ?_)
  refine GL.val (rv_move rfl) rfl ?_
  refine GL.step (ot_buildSlice ei_49 rfl rfl rfl rfl rfl rfl fun b19 => ?_)
  refine GL.step (ot_call hb_23 rfl (callOk fun w hh => sign_c 65 (some ⟨b19, 0, none⟩) 4 4 [(num (UInt64.ofNat nm.size), g13), (nm.data.toList, (some ⟨b15, 0, none⟩, c15)), (num ser, g17), (key2, (A2, c2))] (65 :: (num (UInt64.ofNat nm.size) ++ (nm.data.toList ++ (num ser ++ key2)))) (by simp [cat]) w (slr_cl hh (k := 0) rfl rfl) (al (hh.ro (k := 3) rfl) (al (hh.ro (k := 2) rfl) (al (hh.ro (k := 1) rfl) (al (hh.rd0n hR2) an)))) rfl (by decide) (by have e : nm.data.toList.length = nm.size := rfl; simp only [List.length_cons, List.length_append, num_len, e]; omega)) rfl fun g20 h20 => ?_)
  have hq : (65 :: (num (UInt64.ofNat nm.size) ++ (nm.data.toList ++ (num ser ++ key2)))).length ≤ 1099511627000 := (by have e : nm.data.toList.length = nm.size := rfl; simp only [List.length_cons, List.length_append, num_len, e]; omega)
  generalize 65 :: (num (UInt64.ofNat nm.size) ++ (nm.data.toList ++ (num ser ++ key2))) = q at hq h20 ⊢
  refine GL.step (ot_call hb_22 rfl (callOk fun w hh => rmac_c A1 _ c1 key g20.1 _ g20.2 (q) w (hh.rd0n hR1) rfl hc1 (by omega) (hh.ro (k := 0) rfl) rfl (by omega)) rfl fun _ _ => ?_)
  have hml := mac_len key q
  generalize mac key q = m1 at hml ⊢
  refine GL.step (ot_storeA (k := 5) rfl rfl rfl rfl (by exact sz_27) (by first | (first | (simp only [ws8_len, hml]; done) | (simp only [ws8_len, List.length_replicate, mac_len, Sh.sum_len] ; done) | (simp only [ws8_len, List.length_replicate, mac_len, Sh.sum_len]; done)) | rfl) (by first | (first | (simp only [ws8_len, hml]; done) | (simp only [ws8_len, List.length_replicate, mac_len, Sh.sum_len] ; done) | (simp only [ws8_len, List.length_replicate, mac_len, Sh.sum_len]; done)) | rfl) (by first | exact ws8_one _ | rfl) ?_)
  refine GL.nil ?_
  refine GX.then ?_
  refine GC.ret ?_
  refine GX.ret1 rfl (RR.cellL ag_27 rfl (by first | exact Hd.cellsAll (k := 5) rfl | exact Hd.cells (k := 5) rfl rfl) (by exact sz_27) (by first | (first | (simp only [ws8_len, hml]; done) | (simp only [ws8_len, List.length_replicate, mac_len, Sh.sum_len] ; done) | (simp only [ws8_len, List.length_replicate, mac_len, Sh.sum_len]; done)) | rfl)) ?_
  exact fun w9 h => ⟨(), rfl, by
      have h := h.sel [] rfl rfl
      exact h, trivial⟩
end Go.Proofs.Ytiiofagddljgdaa
