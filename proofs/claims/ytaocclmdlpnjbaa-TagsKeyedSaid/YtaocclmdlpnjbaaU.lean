import Derived.Test.YtaocclmdlpnjbaaT
set_option linter.unusedVariables false
set_option linter.unusedSimpArgs false
namespace Go.Proofs.Ytaocclmdlpnjbaa
open Go Go.RowKit Go.Bz
theorem hb_57 : hasBody Try.prog 57 = true := by kernel_rfl
set_option maxRecDepth 100000 in
set_option maxHeartbeats 1000000 in
theorem index_c (x : Sh.B) (nm : ByteArray) (w : World) (hx : x.length = 32) (hnl : nm.size ≤ 1000000) : Calls Try.prog 37 [.agg (ws8 x).toArray, .string nm].toArray w fun e w' => ∃ _g : Unit, e = .returned (.agg (ws8 (mac x (73 :: nm.data.toList))).toArray) ∧ St noB w w' [] ∧ True := by
  refine GC.calls Try.func37 rfl rfl (St.begin _) ?_
  refine GC.seq ?_
  refine GC.reg ?_
  refine GL.step (ot_box rfl rfl rfl fun b2 => ?_)
  refine GL.step (ot_alloc (zs := ws8 (List.replicate 32 0)) zb_24 (rfl) rfl fun b4 => ?_)
  refine GL.nil ?_
  refine GX.then ?_
  refine GC.seq ?_
  refine GC.draw 7 [] mo_ ?_
  refine GD.pure (i := 0) rfl (fun _ _ => rv_to (v' := .slice (some ⟨b2, 0, none⟩) x.length 32) (rv_slA (E := 5) as_24 rfl rfl rfl 0 32 0 rfl rfl (by decide) (by decide) (by decide) rfl) (by rw [hx])) (by kernel_rfl) (by repeat (first | exact noPanicPut_body | exact noPanicPut_cut | exact noPanicPut_cutE | refine noPanicPut_then ?_ | refine noPanicPut_blk ?_)) ?_
  refine GD.pure (i := 1) rfl (fun _ _ => rv_move rfl) (by kernel_rfl) (by repeat (first | exact noPanicPut_body | exact noPanicPut_cut | exact noPanicPut_cutE | refine noPanicPut_then ?_ | refine noPanicPut_blk ?_)) ?_
  refine GD.step (i := 2) (by kernel_rfl) rfl (ot_convSB (us := byts nm.data.toList) Try.underlying9 Try.underlying28 Try.underlying5 rfl rfl rfl fun b7 c7 => ⟨.inr fun _ h => h.pk [], ?_⟩)
  refine GD.step (i := 3) (by kernel_rfl) rfl (ot_buildSlice ei_48 rfl rfl rfl rfl rfl rfl fun b8 => ⟨.inr fun _ h => h.pk [], ?_⟩)
  refine GD.step (i := 4) (by kernel_rfl) rfl (ot_call hb_45 rfl (callOk fun w hh => begin_b 73 (some ⟨b8, 0, none⟩) 1 1 [(nm.data.toList, (some ⟨b7, 0, none⟩, c7))] (73 :: nm.data.toList) (by simp [cat]) w (slr_cl hh (k := 0) rfl rfl) (al (hh.ro (k := 1) rfl) an) rfl (by decide) (by have e : nm.data.toList.length = nm.size := rfl; simp only [List.length_cons, List.length_append, num_len, hx, e]; omega)) rfl fun g9 h9 => ⟨.inr fun _ h => h.pk [], ?_⟩)
  have hq : (73 :: nm.data.toList).length ≤ 1099511627000 := (by have e : nm.data.toList.length = nm.size := rfl; simp only [List.length_cons, List.length_append, num_len, hx, e]; omega)
  generalize 73 :: nm.data.toList = q at hq h9 ⊢
  refine GD.step (i := 5) (by kernel_rfl) rfl (ot_buildSlice ei_48 rfl rfl rfl rfl rfl rfl fun b10 => ⟨.inr fun _ h => h.pk [], ?_⟩)
  refine GD.step (i := 6) (by kernel_rfl) rfl (ot_call hb_31 rfl (callOk fun w hh => mac_b (some ⟨b2, 0, none⟩) _ 32 x (some ⟨b10, 0, none⟩) 1 1 [(q, g9)] (q) (by simp [cat]) w (.inr ⟨b2, 0, rfl, Hd.cellsAll (k := 5) rfl w hh⟩) rfl (by omega) (by omega) (slr_cl hh (k := 0) rfl rfl) (al (hh.ro (k := 1) rfl) an) (al h9 an) rfl (by decide) (by omega)) rfl fun _ _ => ⟨.inr fun _ h => h.pk [], ?_⟩)
  have hml := mac_len x q
  generalize mac x q = m1 at hml ⊢
  refine GD.step (i := 7) (by kernel_rfl) rfl (ot_storeA (k := 4) rfl rfl rfl rfl (by exact sz_24) (by first | (first | (simp only [ws8_len, hml]; done) | (simp only [ws8_len, List.length_replicate, mac_len, Sh.sum_len, hx]; done) | (simp only [ws8_len, List.length_replicate, mac_len, Sh.sum_len]; done)) | rfl) (by first | (first | (simp only [ws8_len, hml]; done) | (simp only [ws8_len, List.length_replicate, mac_len, Sh.sum_len, hx]; done) | (simp only [ws8_len, List.length_replicate, mac_len, Sh.sum_len]; done)) | rfl) (by first | exact ws8_one _ | rfl) ⟨.inl rfl, ?_⟩)
  refine GD.done (by kernel_rfl) ?_
  refine GX.then ?_
  refine GC.ret ?_
  refine GX.ret1 rfl (RR.cellL ag_24 rfl (by first | exact Hd.cellsAll (k := 4) rfl | exact Hd.cells (k := 4) rfl rfl) (by exact sz_24) (by first | (first | (simp only [ws8_len, hml]; done) | (simp only [ws8_len, List.length_replicate, mac_len, Sh.sum_len, hx]; done) | (simp only [ws8_len, List.length_replicate, mac_len, Sh.sum_len]; done)) | rfl)) ?_
  exact fun w9 h => ⟨(), rfl, by
      have h := h.sel [] rfl rfl
      exact h, trivial⟩
set_option maxRecDepth 100000 in
set_option maxHeartbeats 1000000 in
theorem rindex_c (x : Sh.B) (nm : ByteArray) (w : World) (hx : x.length = 32) (hnl : nm.size ≤ 1000000) : Calls Try.prog 38 [.agg (ws8 x).toArray, .string nm].toArray w fun e w' => ∃ _g : Unit, e = .returned (.agg (ws8 (mac x (73 :: nm.data.toList))).toArray) ∧ St noB w w' [] ∧ True := by
  refine GC.calls Try.func38 rfl rfl (St.begin _) ?_
  refine GC.seq ?_
  refine GC.reg ?_
  refine GL.step (ot_box rfl rfl rfl fun b2 => ?_)
  refine GL.step (ot_alloc (zs := ws8 (List.replicate 32 0)) zb_24 (rfl) rfl fun b4 => ?_)
  refine GL.nil ?_
  refine GX.then ?_
  refine GC.seq ?_
  refine GC.draw 6 [] mo_ ?_
  refine GD.pure (i := 0) rfl (fun _ _ => rv_to (v' := .slice (some ⟨b2, 0, none⟩) x.length 32) (rv_slA (E := 5) as_24 rfl rfl rfl 0 32 0 rfl rfl (by decide) (by decide) (by decide) rfl) (by rw [hx])) (by kernel_rfl) (by repeat (first | exact noPanicPut_body | exact noPanicPut_cut | exact noPanicPut_cutE | refine noPanicPut_then ?_ | refine noPanicPut_blk ?_)) ?_
  refine GD.pure (i := 1) rfl (fun _ _ => rv_move rfl) (by kernel_rfl) (by repeat (first | exact noPanicPut_body | exact noPanicPut_cut | exact noPanicPut_cutE | refine noPanicPut_then ?_ | refine noPanicPut_blk ?_)) ?_
  refine GD.step (i := 2) (by kernel_rfl) rfl (ot_convSB (us := byts nm.data.toList) Try.underlying9 Try.underlying28 Try.underlying5 rfl rfl rfl fun b7 c7 => ⟨.inr fun _ h => h.pk [], ?_⟩)
  refine GD.step (i := 3) (by kernel_rfl) rfl (ot_buildSlice ei_48 rfl rfl rfl rfl rfl rfl fun b8 => ⟨.inr fun _ h => h.pk [], ?_⟩)
  refine GD.step (i := 4) (by kernel_rfl) rfl (ot_call hb_48 rfl (callOk fun w hh => sign_c 73 (some ⟨b8, 0, none⟩) 1 1 [(nm.data.toList, (some ⟨b7, 0, none⟩, c7))] (73 :: nm.data.toList) (by simp [cat]) w (slr_cl hh (k := 0) rfl rfl) (al (hh.ro (k := 1) rfl) an) rfl (by decide) (by have e : nm.data.toList.length = nm.size := rfl; simp only [List.length_cons, List.length_append, num_len, hx, e]; omega)) rfl fun g9 h9 => ⟨.inr fun _ h => h.pk [], ?_⟩)
  have hq : (73 :: nm.data.toList).length ≤ 1099511627000 := (by have e : nm.data.toList.length = nm.size := rfl; simp only [List.length_cons, List.length_append, num_len, hx, e]; omega)
  generalize 73 :: nm.data.toList = q at hq h9 ⊢
  refine GD.step (i := 5) (by kernel_rfl) rfl (ot_call hb_32 rfl (callOk fun w hh => rmac_c (some ⟨b2, 0, none⟩) _ 32 x g9.1 _ g9.2 (q) w (.inr ⟨b2, 0, rfl, Hd.cellsAll (k := 4) rfl w hh⟩) rfl (by omega) (by omega) (hh.ro (k := 0) rfl) rfl (by omega)) rfl fun _ _ => ⟨.inr fun _ h => h.pk [], ?_⟩)
  have hml := mac_len x q
  generalize mac x q = m1 at hml ⊢
  refine GD.step (i := 6) (by kernel_rfl) rfl (ot_storeA (k := 3) rfl rfl rfl rfl (by exact sz_24) (by first | (first | (simp only [ws8_len, hml]; done) | (simp only [ws8_len, List.length_replicate, mac_len, Sh.sum_len, hx]; done) | (simp only [ws8_len, List.length_replicate, mac_len, Sh.sum_len]; done)) | rfl) (by first | (first | (simp only [ws8_len, hml]; done) | (simp only [ws8_len, List.length_replicate, mac_len, Sh.sum_len, hx]; done) | (simp only [ws8_len, List.length_replicate, mac_len, Sh.sum_len]; done)) | rfl) (by first | exact ws8_one _ | rfl) ⟨.inl rfl, ?_⟩)
  refine GD.done (by kernel_rfl) ?_
  refine GX.then ?_
  refine GC.ret ?_
  refine GX.ret1 rfl (RR.cellL ag_24 rfl (by first | exact Hd.cellsAll (k := 3) rfl | exact Hd.cells (k := 3) rfl rfl) (by exact sz_24) (by first | (first | (simp only [ws8_len, hml]; done) | (simp only [ws8_len, List.length_replicate, mac_len, Sh.sum_len, hx]; done) | (simp only [ws8_len, List.length_replicate, mac_len, Sh.sum_len]; done)) | rfl)) ?_
  exact fun w9 h => ⟨(), rfl, by
      have h := h.sel [] rfl rfl
      exact h, trivial⟩
set_option maxRecDepth 100000 in
set_option maxHeartbeats 1000000 in
theorem salt_c (x : Sh.B) (nm : ByteArray) (ser : UInt64) (w : World) (hx : x.length = 32) (hnl : nm.size ≤ 1000000) : Calls Try.prog 39 [.agg (ws8 x).toArray, .string nm, v64 ser].toArray w fun e w' => ∃ _g : Unit, e = .returned (.agg (ws8 (mac x (83 :: (num ser ++ nm.data.toList)))).toArray) ∧ St noB w w' [] ∧ True := by
  refine GC.calls Try.func39 rfl rfl (St.begin _) ?_
  refine GC.seq ?_
  refine GC.reg ?_
  refine GL.step (ot_box rfl rfl rfl fun b3 => ?_)
  refine GL.step (ot_alloc (zs := ws8 (List.replicate 32 0)) zb_24 (rfl) rfl fun b6 => ?_)
  refine GL.nil ?_
  refine GX.then ?_
  refine GC.seq ?_
  refine GC.draw 9 [] mo_ ?_
  refine GD.pure (i := 0) rfl (fun _ _ => rv_to (v' := .slice (some ⟨b3, 0, none⟩) x.length 32) (rv_slA (E := 5) as_24 rfl rfl rfl 0 32 0 rfl rfl (by decide) (by decide) (by decide) rfl) (by rw [hx])) (by kernel_rfl) (by repeat (first | exact noPanicPut_body | exact noPanicPut_cut | exact noPanicPut_cutE | refine noPanicPut_then ?_ | refine noPanicPut_blk ?_)) ?_
  refine GD.pure (i := 1) rfl (fun _ _ => rv_move rfl) (by kernel_rfl) (by repeat (first | exact noPanicPut_body | exact noPanicPut_cut | exact noPanicPut_cutE | refine noPanicPut_then ?_ | refine noPanicPut_blk ?_)) ?_
  refine GD.pure (i := 3) rfl (fun _ _ => rv_move rfl) (by kernel_rfl) (by repeat (first | exact noPanicPut_body | exact noPanicPut_cut | exact noPanicPut_cutE | refine noPanicPut_then ?_ | refine noPanicPut_blk ?_)) ?_
  refine GD.eachN2 (i := 2) (j := 4) (by kernel_rfl) rfl rfl ?_ ?_
  · refine ot_call hb_46 rfl (callOk fun w hh => number_b (ser) w) rfl fun g9 _ => ⟨.inr fun _ h => h.pk [], ?_⟩
    refine GD.step (i := 4) (by kernel_rfl) rfl (ot_convSB (us := byts nm.data.toList) Try.underlying9 Try.underlying28 Try.underlying5 rfl rfl rfl fun b11 c11 => ⟨.inr fun _ h => h.pk [], ?_⟩)
    refine GD.step (i := 5) (by kernel_rfl) rfl (ot_buildSlice ei_48 rfl rfl rfl rfl rfl rfl fun b12 => ⟨.inr fun _ h => h.pk [], ?_⟩)
    refine GD.step (i := 6) (by kernel_rfl) rfl (ot_call hb_45 rfl (callOk fun w hh => begin_b 83 (some ⟨b12, 0, none⟩) 2 2 [(num ser, g9), (nm.data.toList, (some ⟨b11, 0, none⟩, c11))] (83 :: (num ser ++ nm.data.toList)) (by simp [cat]) w (slr_cl hh (k := 0) rfl rfl) (al (hh.ro (k := 2) rfl) (al (hh.ro (k := 1) rfl) an)) rfl (by decide) (by have e : nm.data.toList.length = nm.size := rfl; simp only [List.length_cons, List.length_append, num_len, hx, e]; omega)) rfl fun g13 h13 => ⟨.inr fun _ h => h.pk [], ?_⟩)
    have hq : (83 :: (num ser ++ nm.data.toList)).length ≤ 1099511627000 := (by have e : nm.data.toList.length = nm.size := rfl; simp only [List.length_cons, List.length_append, num_len, hx, e]; omega)
    generalize 83 :: (num ser ++ nm.data.toList) = q at hq h13 ⊢
    refine GD.step (i := 7) (by kernel_rfl) rfl (ot_buildSlice ei_48 rfl rfl rfl rfl rfl rfl fun b14 => ⟨.inr fun _ h => h.pk [], ?_⟩)
    refine GD.step (i := 8) (by kernel_rfl) rfl (ot_call hb_31 rfl (callOk fun w hh => mac_b (some ⟨b3, 0, none⟩) _ 32 x (some ⟨b14, 0, none⟩) 1 1 [(q, g13)] (q) (by simp [cat]) w (.inr ⟨b3, 0, rfl, Hd.cellsAll (k := 6) rfl w hh⟩) rfl (by omega) (by omega) (slr_cl hh (k := 0) rfl rfl) (al (hh.ro (k := 1) rfl) an) (al h13 an) rfl (by decide) (by omega)) rfl fun _ _ => ⟨.inr fun _ h => h.pk [], ?_⟩)
    have hml := mac_len x q
    generalize mac x q = m1 at hml ⊢
    refine GD.step (i := 9) (by kernel_rfl) rfl (ot_storeA (k := 5) rfl rfl rfl rfl (by exact sz_24) (by first | (first | (simp only [ws8_len, hml]; done) | (simp only [ws8_len, List.length_replicate, mac_len, Sh.sum_len, hx]; done) | (simp only [ws8_len, List.length_replicate, mac_len, Sh.sum_len]; done)) | rfl) (by first | (first | (simp only [ws8_len, hml]; done) | (simp only [ws8_len, List.length_replicate, mac_len, Sh.sum_len, hx]; done) | (simp only [ws8_len, List.length_replicate, mac_len, Sh.sum_len]; done)) | rfl) (by first | exact ws8_one _ | rfl) ⟨.inl rfl, ?_⟩)
    refine GD.done (by kernel_rfl) ?_
    refine GX.then ?_
    refine GC.ret ?_
    refine GX.ret1 rfl (RR.cellL ag_24 rfl (by first | exact Hd.cellsAll (k := 5) rfl | exact Hd.cells (k := 5) rfl rfl) (by exact sz_24) (by first | (first | (simp only [ws8_len, hml]; done) | (simp only [ws8_len, List.length_replicate, mac_len, Sh.sum_len, hx]; done) | (simp only [ws8_len, List.length_replicate, mac_len, Sh.sum_len]; done)) | rfl)) ?_
    exact fun w9 h => ⟨(), rfl, by
        have h := h.sel [] rfl rfl
        exact h, trivial⟩
  · refine ot_convSB (us := byts nm.data.toList) Try.underlying9 Try.underlying28 Try.underlying5 rfl rfl rfl fun b11 c11 => ⟨.inr fun _ h => h.pk [], ?_⟩
    refine GD.step (i := 2) (by kernel_rfl) rfl (ot_call hb_46 rfl (callOk fun w hh => number_b (ser) w) rfl fun g9 _ => ⟨.inr fun _ h => h.pk [], ?_⟩)
    refine GD.step (i := 5) (by kernel_rfl) rfl (ot_buildSlice ei_48 rfl rfl rfl rfl rfl rfl fun b12 => ⟨.inr fun _ h => h.pk [], ?_⟩)
    refine GD.step (i := 6) (by kernel_rfl) rfl (ot_call hb_45 rfl (callOk fun w hh => begin_b 83 (some ⟨b12, 0, none⟩) 2 2 [(num ser, g9), (nm.data.toList, (some ⟨b11, 0, none⟩, c11))] (83 :: (num ser ++ nm.data.toList)) (by simp [cat]) w (slr_cl hh (k := 0) rfl rfl) (al (hh.ro (k := 1) rfl) (al (hh.ro (k := 2) rfl) an)) rfl (by decide) (by have e : nm.data.toList.length = nm.size := rfl; simp only [List.length_cons, List.length_append, num_len, hx, e]; omega)) rfl fun g13 h13 => ⟨.inr fun _ h => h.pk [], ?_⟩)
    have hq : (83 :: (num ser ++ nm.data.toList)).length ≤ 1099511627000 := (by have e : nm.data.toList.length = nm.size := rfl; simp only [List.length_cons, List.length_append, num_len, hx, e]; omega)
    generalize 83 :: (num ser ++ nm.data.toList) = q at hq h13 ⊢
    refine GD.step (i := 7) (by kernel_rfl) rfl (ot_buildSlice ei_48 rfl rfl rfl rfl rfl rfl fun b14 => ⟨.inr fun _ h => h.pk [], ?_⟩)
    refine GD.step (i := 8) (by kernel_rfl) rfl (ot_call hb_31 rfl (callOk fun w hh => mac_b (some ⟨b3, 0, none⟩) _ 32 x (some ⟨b14, 0, none⟩) 1 1 [(q, g13)] (q) (by simp [cat]) w (.inr ⟨b3, 0, rfl, Hd.cellsAll (k := 6) rfl w hh⟩) rfl (by omega) (by omega) (slr_cl hh (k := 0) rfl rfl) (al (hh.ro (k := 1) rfl) an) (al h13 an) rfl (by decide) (by omega)) rfl fun _ _ => ⟨.inr fun _ h => h.pk [], ?_⟩)
    have hml := mac_len x q
    generalize mac x q = m1 at hml ⊢
    refine GD.step (i := 9) (by kernel_rfl) rfl (ot_storeA (k := 5) rfl rfl rfl rfl (by exact sz_24) (by first | (first | (simp only [ws8_len, hml]; done) | (simp only [ws8_len, List.length_replicate, mac_len, Sh.sum_len, hx]; done) | (simp only [ws8_len, List.length_replicate, mac_len, Sh.sum_len]; done)) | rfl) (by first | (first | (simp only [ws8_len, hml]; done) | (simp only [ws8_len, List.length_replicate, mac_len, Sh.sum_len, hx]; done) | (simp only [ws8_len, List.length_replicate, mac_len, Sh.sum_len]; done)) | rfl) (by first | exact ws8_one _ | rfl) ⟨.inl rfl, ?_⟩)
    refine GD.done (by kernel_rfl) ?_
    refine GX.then ?_
    refine GC.ret ?_
    refine GX.ret1 rfl (RR.cellL ag_24 rfl (by first | exact Hd.cellsAll (k := 5) rfl | exact Hd.cells (k := 5) rfl rfl) (by exact sz_24) (by first | (first | (simp only [ws8_len, hml]; done) | (simp only [ws8_len, List.length_replicate, mac_len, Sh.sum_len, hx]; done) | (simp only [ws8_len, List.length_replicate, mac_len, Sh.sum_len]; done)) | rfl)) ?_
    exact fun w9 h => ⟨(), rfl, by
        have h := h.sel [] rfl rfl
        exact h, trivial⟩
set_option maxRecDepth 100000 in
set_option maxHeartbeats 1000000 in
theorem rsalt_c (x : Sh.B) (nm : ByteArray) (ser : UInt64) (w : World) (hx : x.length = 32) (hnl : nm.size ≤ 1000000) : Calls Try.prog 40 [.agg (ws8 x).toArray, .string nm, v64 ser].toArray w fun e w' => ∃ _g : Unit, e = .returned (.agg (ws8 (mac x (83 :: (num ser ++ nm.data.toList)))).toArray) ∧ St noB w w' [] ∧ True := by
  refine GC.calls Try.func40 rfl rfl (St.begin _) ?_
  refine GC.seq ?_
  refine GC.reg ?_
  refine GL.step (ot_box rfl rfl rfl fun b3 => ?_)
  refine GL.step (ot_alloc (zs := ws8 (List.replicate 32 0)) zb_24 (rfl) rfl fun b6 => ?_)
  refine GL.nil ?_
  refine GX.then ?_
  refine GC.seq ?_
  refine GC.draw 8 [] mo_ ?_
  refine GD.pure (i := 0) rfl (fun _ _ => rv_to (v' := .slice (some ⟨b3, 0, none⟩) x.length 32) (rv_slA (E := 5) as_24 rfl rfl rfl 0 32 0 rfl rfl (by decide) (by decide) (by decide) rfl) (by rw [hx])) (by kernel_rfl) (by repeat (first | exact noPanicPut_body | exact noPanicPut_cut | exact noPanicPut_cutE | refine noPanicPut_then ?_ | refine noPanicPut_blk ?_)) ?_
  refine GD.pure (i := 1) rfl (fun _ _ => rv_move rfl) (by kernel_rfl) (by repeat (first | exact noPanicPut_body | exact noPanicPut_cut | exact noPanicPut_cutE | refine noPanicPut_then ?_ | refine noPanicPut_blk ?_)) ?_
  refine GD.pure (i := 3) rfl (fun _ _ => rv_move rfl) (by kernel_rfl) (by repeat (first | exact noPanicPut_body | exact noPanicPut_cut | exact noPanicPut_cutE | refine noPanicPut_then ?_ | refine noPanicPut_blk ?_)) ?_
  refine GD.eachN2 (i := 2) (j := 4) (by kernel_rfl) rfl rfl ?_ ?_
  · refine ot_call hb_49 rfl (callOk fun w hh => rnumber_b (ser) w) rfl fun g9 _ => ⟨.inr fun _ h => h.pk [], ?_⟩
    refine GD.step (i := 4) (by kernel_rfl) rfl (ot_convSB (us := byts nm.data.toList) Try.underlying9 Try.underlying28 Try.underlying5 rfl rfl rfl fun b11 c11 => ⟨.inr fun _ h => h.pk [], ?_⟩)
    refine GD.step (i := 5) (by kernel_rfl) rfl (ot_buildSlice ei_48 rfl rfl rfl rfl rfl rfl fun b12 => ⟨.inr fun _ h => h.pk [], ?_⟩)
    refine GD.step (i := 6) (by kernel_rfl) rfl (ot_call hb_48 rfl (callOk fun w hh => sign_c 83 (some ⟨b12, 0, none⟩) 2 2 [(num ser, g9), (nm.data.toList, (some ⟨b11, 0, none⟩, c11))] (83 :: (num ser ++ nm.data.toList)) (by simp [cat]) w (slr_cl hh (k := 0) rfl rfl) (al (hh.ro (k := 2) rfl) (al (hh.ro (k := 1) rfl) an)) rfl (by decide) (by have e : nm.data.toList.length = nm.size := rfl; simp only [List.length_cons, List.length_append, num_len, hx, e]; omega)) rfl fun g13 h13 => ⟨.inr fun _ h => h.pk [], ?_⟩)
    have hq : (83 :: (num ser ++ nm.data.toList)).length ≤ 1099511627000 := (by have e : nm.data.toList.length = nm.size := rfl; simp only [List.length_cons, List.length_append, num_len, hx, e]; omega)
    generalize 83 :: (num ser ++ nm.data.toList) = q at hq h13 ⊢
    refine GD.step (i := 7) (by kernel_rfl) rfl (ot_call hb_32 rfl (callOk fun w hh => rmac_c (some ⟨b3, 0, none⟩) _ 32 x g13.1 _ g13.2 (q) w (.inr ⟨b3, 0, rfl, Hd.cellsAll (k := 5) rfl w hh⟩) rfl (by omega) (by omega) (hh.ro (k := 0) rfl) rfl (by omega)) rfl fun _ _ => ⟨.inr fun _ h => h.pk [], ?_⟩)
    have hml := mac_len x q
    generalize mac x q = m1 at hml ⊢
    refine GD.step (i := 8) (by kernel_rfl) rfl (ot_storeA (k := 4) rfl rfl rfl rfl (by exact sz_24) (by first | (first | (simp only [ws8_len, hml]; done) | (simp only [ws8_len, List.length_replicate, mac_len, Sh.sum_len, hx]; done) | (simp only [ws8_len, List.length_replicate, mac_len, Sh.sum_len]; done)) | rfl) (by first | (first | (simp only [ws8_len, hml]; done) | (simp only [ws8_len, List.length_replicate, mac_len, Sh.sum_len, hx]; done) | (simp only [ws8_len, List.length_replicate, mac_len, Sh.sum_len]; done)) | rfl) (by first | exact ws8_one _ | rfl) ⟨.inl rfl, ?_⟩)
    refine GD.done (by kernel_rfl) ?_
    refine GX.then ?_
    refine GC.ret ?_
    refine GX.ret1 rfl (RR.cellL ag_24 rfl (by first | exact Hd.cellsAll (k := 4) rfl | exact Hd.cells (k := 4) rfl rfl) (by exact sz_24) (by first | (first | (simp only [ws8_len, hml]; done) | (simp only [ws8_len, List.length_replicate, mac_len, Sh.sum_len, hx]; done) | (simp only [ws8_len, List.length_replicate, mac_len, Sh.sum_len]; done)) | rfl)) ?_
    exact fun w9 h => ⟨(), rfl, by
        have h := h.sel [] rfl rfl
        exact h, trivial⟩
  · refine ot_convSB (us := byts nm.data.toList) Try.underlying9 Try.underlying28 Try.underlying5 rfl rfl rfl fun b11 c11 => ⟨.inr fun _ h => h.pk [], ?_⟩
    refine GD.step (i := 2) (by kernel_rfl) rfl (ot_call hb_49 rfl (callOk fun w hh => rnumber_b (ser) w) rfl fun g9 _ => ⟨.inr fun _ h => h.pk [], ?_⟩)
    refine GD.step (i := 5) (by kernel_rfl) rfl (ot_buildSlice ei_48 rfl rfl rfl rfl rfl rfl fun b12 => ⟨.inr fun _ h => h.pk [], ?_⟩)
    refine GD.step (i := 6) (by kernel_rfl) rfl (ot_call hb_48 rfl (callOk fun w hh => sign_c 83 (some ⟨b12, 0, none⟩) 2 2 [(num ser, g9), (nm.data.toList, (some ⟨b11, 0, none⟩, c11))] (83 :: (num ser ++ nm.data.toList)) (by simp [cat]) w (slr_cl hh (k := 0) rfl rfl) (al (hh.ro (k := 1) rfl) (al (hh.ro (k := 2) rfl) an)) rfl (by decide) (by have e : nm.data.toList.length = nm.size := rfl; simp only [List.length_cons, List.length_append, num_len, hx, e]; omega)) rfl fun g13 h13 => ⟨.inr fun _ h => h.pk [], ?_⟩)
    have hq : (83 :: (num ser ++ nm.data.toList)).length ≤ 1099511627000 := (by have e : nm.data.toList.length = nm.size := rfl; simp only [List.length_cons, List.length_append, num_len, hx, e]; omega)
    generalize 83 :: (num ser ++ nm.data.toList) = q at hq h13 ⊢
    refine GD.step (i := 7) (by kernel_rfl) rfl (ot_call hb_32 rfl (callOk fun w hh => rmac_c (some ⟨b3, 0, none⟩) _ 32 x g13.1 _ g13.2 (q) w (.inr ⟨b3, 0, rfl, Hd.cellsAll (k := 5) rfl w hh⟩) rfl (by omega) (by omega) (hh.ro (k := 0) rfl) rfl (by omega)) rfl fun _ _ => ⟨.inr fun _ h => h.pk [], ?_⟩)
    have hml := mac_len x q
    generalize mac x q = m1 at hml ⊢
    refine GD.step (i := 8) (by kernel_rfl) rfl (ot_storeA (k := 4) rfl rfl rfl rfl (by exact sz_24) (by first | (first | (simp only [ws8_len, hml]; done) | (simp only [ws8_len, List.length_replicate, mac_len, Sh.sum_len, hx]; done) | (simp only [ws8_len, List.length_replicate, mac_len, Sh.sum_len]; done)) | rfl) (by first | (first | (simp only [ws8_len, hml]; done) | (simp only [ws8_len, List.length_replicate, mac_len, Sh.sum_len, hx]; done) | (simp only [ws8_len, List.length_replicate, mac_len, Sh.sum_len]; done)) | rfl) (by first | exact ws8_one _ | rfl) ⟨.inl rfl, ?_⟩)
    refine GD.done (by kernel_rfl) ?_
    refine GX.then ?_
    refine GC.ret ?_
    refine GX.ret1 rfl (RR.cellL ag_24 rfl (by first | exact Hd.cellsAll (k := 4) rfl | exact Hd.cells (k := 4) rfl rfl) (by exact sz_24) (by first | (first | (simp only [ws8_len, hml]; done) | (simp only [ws8_len, List.length_replicate, mac_len, Sh.sum_len, hx]; done) | (simp only [ws8_len, List.length_replicate, mac_len, Sh.sum_len]; done)) | rfl)) ?_
    exact fun w9 h => ⟨(), rfl, by
        have h := h.sel [] rfl rfl
        exact h, trivial⟩
def uz (z : Int) : UInt64 := UInt64.ofNat (z % 18446744073709551616).toNat
theorem v64_of (z : Int) : Value.int .u64 (IntKind.u64.wrap z) = v64 (uz z) := by
  show Value.int .u64 (IntKind.u64.wrap z) = .int .u64 ((uz z).toNat : Int)
  unfold uz
  rw [Bz.wrap64, UInt64.toNat_ofNat', Nat.mod_eq_of_lt (by omega)]
  congr 1; omega
set_option maxRecDepth 100000 in
set_option maxHeartbeats 1000000 in
theorem key_c (x : Sh.B) (ser : UInt64) (d k : Int) (w : World) (hx : x.length = 32) : Calls Try.prog 41 [.agg (ws8 x).toArray, v64 ser, .int .i64 d, .int .i64 k].toArray w fun e w' => ∃ _g : Unit, e = .returned (.agg (ws8 (Sh.sum (75 :: (x ++ (num ser ++ num (2 * uz d + uz k)))))).toArray) ∧ St noB w w' [] ∧ True := by
  refine GC.calls Try.func41 rfl rfl (St.begin _) ?_
  refine GC.seq ?_
  refine GC.reg ?_
  refine GL.step (ot_box rfl rfl rfl fun b4 => ?_)
  refine GL.step (ot_alloc (zs := ws8 (List.replicate 32 0)) zb_24 (rfl) rfl fun b8 => ?_)
  refine GL.nil ?_
  refine GX.then ?_
  refine GC.seq ?_
  refine GC.draw 13 [] mo_ ?_
  refine GD.pure (i := 0) rfl (fun _ _ => rv_to (v' := .slice (some ⟨b4, 0, none⟩) x.length 32) (rv_slA (E := 5) as_24 rfl rfl rfl 0 32 0 rfl rfl (by decide) (by decide) (by decide) rfl) (by rw [hx])) (by kernel_rfl) (by repeat (first | exact noPanicPut_body | exact noPanicPut_cut | exact noPanicPut_cutE | refine noPanicPut_then ?_ | refine noPanicPut_blk ?_)) ?_
  refine GD.pure (i := 1) rfl (fun _ _ => rv_move rfl) (by kernel_rfl) (by repeat (first | exact noPanicPut_body | exact noPanicPut_cut | exact noPanicPut_cutE | refine noPanicPut_then ?_ | refine noPanicPut_blk ?_)) ?_
  refine GD.pure (i := 3) rfl (fun _ _ => rv_move rfl) (by kernel_rfl) (by repeat (first | exact noPanicPut_body | exact noPanicPut_cut | exact noPanicPut_cutE | refine noPanicPut_then ?_ | refine noPanicPut_blk ?_)) ?_
  refine GD.pure (i := 4) rfl (fun _ _ => rv_to (v' := v64 (uz d)) (rv_convI Try.underlying3 Try.underlying22 rfl) (v64_of _)) (by kernel_rfl) (by repeat (first | exact noPanicPut_body | exact noPanicPut_cut | exact noPanicPut_cutE | refine noPanicPut_then ?_ | refine noPanicPut_blk ?_)) ?_
  refine GD.pure (i := 5) rfl (fun _ _ => rv_mul64 (a := 2) rfl rfl) (by kernel_rfl) (by repeat (first | exact noPanicPut_body | exact noPanicPut_cut | exact noPanicPut_cutE | refine noPanicPut_then ?_ | refine noPanicPut_blk ?_)) ?_
  refine GD.pure (i := 6) rfl (fun _ _ => rv_move rfl) (by kernel_rfl) (by repeat (first | exact noPanicPut_body | exact noPanicPut_cut | exact noPanicPut_cutE | refine noPanicPut_then ?_ | refine noPanicPut_blk ?_)) ?_
  refine GD.pure (i := 7) rfl (fun _ _ => rv_to (v' := v64 (uz k)) (rv_convI Try.underlying3 Try.underlying22 rfl) (v64_of _)) (by kernel_rfl) (by repeat (first | exact noPanicPut_body | exact noPanicPut_cut | exact noPanicPut_cutE | refine noPanicPut_then ?_ | refine noPanicPut_blk ?_)) ?_
  refine GD.pure (i := 8) rfl (fun _ _ => rv_add64 rfl rfl) (by kernel_rfl) (by repeat (first | exact noPanicPut_body | exact noPanicPut_cut | exact noPanicPut_cutE | refine noPanicPut_then ?_ | refine noPanicPut_blk ?_)) ?_
  refine GD.step (i := 2) (by kernel_rfl) rfl (ot_call hb_46 rfl (callOk fun w hh => number_b (ser) w) rfl fun g11 _ => ⟨.inr fun _ h => h.pk [], ?_⟩)
  refine GD.step (i := 9) (by kernel_rfl) rfl (ot_call hb_46 rfl (callOk fun w hh => number_b (2 * uz d + uz k) w) rfl fun g18 _ => ⟨.inr fun _ h => h.pk [], ?_⟩)
  refine GD.step (i := 10) (by kernel_rfl) rfl (ot_buildSlice ei_48 rfl rfl rfl rfl rfl rfl fun b19 => ⟨.inr fun _ h => h.pk [], ?_⟩)
  refine GD.step (i := 11) (by kernel_rfl) rfl (ot_call hb_45 rfl (callOk fun w hh => begin_b 75 (some ⟨b19, 0, none⟩) 3 3 [(x, (some ⟨b4, 0, none⟩, 32)), (num ser, g11), (num (2 * uz d + uz k), g18)] (75 :: (x ++ (num ser ++ num (2 * uz d + uz k)))) (by simp [cat]) w (slr_cl hh (k := 0) rfl rfl) (al (.inr ⟨b4, 0, rfl, Hd.cellsAll (k := 4) rfl w hh⟩) (al (hh.ro (k := 2) rfl) (al (hh.ro (k := 1) rfl) an))) rfl (by decide) (by simp only [List.length_cons, List.length_append, num_len, hx]; omega)) rfl fun g20 h20 => ⟨.inr fun _ h => h.pk [], ?_⟩)
  have hq : (75 :: (x ++ (num ser ++ num (2 * uz d + uz k)))).length ≤ 1099511627000 := (by simp only [List.length_cons, List.length_append, num_len, hx]; omega)
  generalize 75 :: (x ++ (num ser ++ num (2 * uz d + uz k))) = q at hq h20 ⊢
  refine GD.step (i := 12) (by kernel_rfl) rfl (ot_call hb_47 rfl (callOk fun w hh => of_c _ g20.2 g20.1 q w (hh.ro (k := 0) rfl) rfl h20 (by omega)) rfl fun _ _ => ⟨.inr fun _ h => h.pk [], ?_⟩)
  have hml := Sh.sum_len q
  generalize Sh.sum q = m1 at hml ⊢
  refine GD.step (i := 13) (by kernel_rfl) rfl (ot_storeA (k := 4) rfl rfl rfl rfl (by exact sz_24) (by first | (first | (simp only [ws8_len, hml]; done) | (simp only [ws8_len, List.length_replicate, mac_len, Sh.sum_len, hx]; done) | (simp only [ws8_len, List.length_replicate, mac_len, Sh.sum_len]; done)) | rfl) (by first | (first | (simp only [ws8_len, hml]; done) | (simp only [ws8_len, List.length_replicate, mac_len, Sh.sum_len, hx]; done) | (simp only [ws8_len, List.length_replicate, mac_len, Sh.sum_len]; done)) | rfl) (by first | exact ws8_one _ | rfl) ⟨.inl rfl, ?_⟩)
  refine GD.done (by kernel_rfl) ?_
  refine GX.then ?_
  refine GC.ret ?_
  refine GX.ret1 rfl (RR.cellL ag_24 rfl (by first | exact Hd.cellsAll (k := 4) rfl | exact Hd.cells (k := 4) rfl rfl) (by exact sz_24) (by first | (first | (simp only [ws8_len, hml]; done) | (simp only [ws8_len, List.length_replicate, mac_len, Sh.sum_len, hx]; done) | (simp only [ws8_len, List.length_replicate, mac_len, Sh.sum_len]; done)) | rfl)) ?_
  exact fun w9 h => ⟨(), rfl, by
      have h := h.sel [] rfl rfl
      exact h, trivial⟩
set_option maxRecDepth 100000 in
set_option maxHeartbeats 1000000 in
theorem rkeyof_c (x : Sh.B) (ser : UInt64) (d k : Int) (w : World) (hx : x.length = 32) : Calls Try.prog 42 [.agg (ws8 x).toArray, v64 ser, .int .i64 d, .int .i64 k].toArray w fun e w' => ∃ _g : Unit, e = .returned (.agg (ws8 (Sh.sum (75 :: (x ++ (num ser ++ num (2 * uz d + uz k)))))).toArray) ∧ St noB w w' [] ∧ True := by
  refine GC.calls Try.func42 rfl rfl (St.begin _) ?_
  refine GC.seq ?_
  refine GC.reg ?_
  refine GL.step (ot_box rfl rfl rfl fun b4 => ?_)
  refine GL.step (ot_alloc (zs := ws8 (List.replicate 32 0)) zb_24 (rfl) rfl fun b8 => ?_)
  refine GL.nil ?_
  refine GX.then ?_
  refine GC.seq ?_
  refine GC.draw 13 [] mo_ ?_
  refine GD.pure (i := 0) rfl (fun _ _ => rv_to (v' := .slice (some ⟨b4, 0, none⟩) x.length 32) (rv_slA (E := 5) as_24 rfl rfl rfl 0 32 0 rfl rfl (by decide) (by decide) (by decide) rfl) (by rw [hx])) (by kernel_rfl) (by repeat (first | exact noPanicPut_body | exact noPanicPut_cut | exact noPanicPut_cutE | refine noPanicPut_then ?_ | refine noPanicPut_blk ?_)) ?_
  refine GD.pure (i := 1) rfl (fun _ _ => rv_move rfl) (by kernel_rfl) (by repeat (first | exact noPanicPut_body | exact noPanicPut_cut | exact noPanicPut_cutE | refine noPanicPut_then ?_ | refine noPanicPut_blk ?_)) ?_
  refine GD.pure (i := 3) rfl (fun _ _ => rv_move rfl) (by kernel_rfl) (by repeat (first | exact noPanicPut_body | exact noPanicPut_cut | exact noPanicPut_cutE | refine noPanicPut_then ?_ | refine noPanicPut_blk ?_)) ?_
  refine GD.pure (i := 4) rfl (fun _ _ => rv_to (v' := v64 (uz d)) (rv_convI Try.underlying3 Try.underlying22 rfl) (v64_of _)) (by kernel_rfl) (by repeat (first | exact noPanicPut_body | exact noPanicPut_cut | exact noPanicPut_cutE | refine noPanicPut_then ?_ | refine noPanicPut_blk ?_)) ?_
  refine GD.pure (i := 5) rfl (fun _ _ => rv_mul64 (a := 2) rfl rfl) (by kernel_rfl) (by repeat (first | exact noPanicPut_body | exact noPanicPut_cut | exact noPanicPut_cutE | refine noPanicPut_then ?_ | refine noPanicPut_blk ?_)) ?_
  refine GD.pure (i := 6) rfl (fun _ _ => rv_move rfl) (by kernel_rfl) (by repeat (first | exact noPanicPut_body | exact noPanicPut_cut | exact noPanicPut_cutE | refine noPanicPut_then ?_ | refine noPanicPut_blk ?_)) ?_
  refine GD.pure (i := 7) rfl (fun _ _ => rv_to (v' := v64 (uz k)) (rv_convI Try.underlying3 Try.underlying22 rfl) (v64_of _)) (by kernel_rfl) (by repeat (first | exact noPanicPut_body | exact noPanicPut_cut | exact noPanicPut_cutE | refine noPanicPut_then ?_ | refine noPanicPut_blk ?_)) ?_
  refine GD.pure (i := 8) rfl (fun _ _ => rv_add64 rfl rfl) (by kernel_rfl) (by repeat (first | exact noPanicPut_body | exact noPanicPut_cut | exact noPanicPut_cutE | refine noPanicPut_then ?_ | refine noPanicPut_blk ?_)) ?_
  refine GD.step (i := 2) (by kernel_rfl) rfl (ot_call hb_49 rfl (callOk fun w hh => rnumber_b (ser) w) rfl fun g11 _ => ⟨.inr fun _ h => h.pk [], ?_⟩)
  refine GD.step (i := 9) (by kernel_rfl) rfl (ot_call hb_49 rfl (callOk fun w hh => rnumber_b (2 * uz d + uz k) w) rfl fun g18 _ => ⟨.inr fun _ h => h.pk [], ?_⟩)
  refine GD.step (i := 10) (by kernel_rfl) rfl (ot_buildSlice ei_48 rfl rfl rfl rfl rfl rfl fun b19 => ⟨.inr fun _ h => h.pk [], ?_⟩)
  refine GD.step (i := 11) (by kernel_rfl) rfl (ot_call hb_48 rfl (callOk fun w hh => sign_c 75 (some ⟨b19, 0, none⟩) 3 3 [(x, (some ⟨b4, 0, none⟩, 32)), (num ser, g11), (num (2 * uz d + uz k), g18)] (75 :: (x ++ (num ser ++ num (2 * uz d + uz k)))) (by simp [cat]) w (slr_cl hh (k := 0) rfl rfl) (al (.inr ⟨b4, 0, rfl, Hd.cellsAll (k := 4) rfl w hh⟩) (al (hh.ro (k := 2) rfl) (al (hh.ro (k := 1) rfl) an))) rfl (by decide) (by simp only [List.length_cons, List.length_append, num_len, hx]; omega)) rfl fun g20 h20 => ⟨.inr fun _ h => h.pk [], ?_⟩)
  have hq : (75 :: (x ++ (num ser ++ num (2 * uz d + uz k)))).length ≤ 1099511627000 := (by simp only [List.length_cons, List.length_append, num_len, hx]; omega)
  generalize 75 :: (x ++ (num ser ++ num (2 * uz d + uz k))) = q at hq h20 ⊢
  refine GD.step (i := 12) (by kernel_rfl) rfl (ot_call hb_57 rfl (callOk fun w hh => rof_c _ g20.2 g20.1 q w (hh.ro (k := 0) rfl) rfl h20 (by omega)) rfl fun _ _ => ⟨.inr fun _ h => h.pk [], ?_⟩)
  have hml := Sh.sum_len q
  generalize Sh.sum q = m1 at hml ⊢
  refine GD.step (i := 13) (by kernel_rfl) rfl (ot_storeA (k := 4) rfl rfl rfl rfl (by exact sz_24) (by first | (first | (simp only [ws8_len, hml]; done) | (simp only [ws8_len, List.length_replicate, mac_len, Sh.sum_len, hx]; done) | (simp only [ws8_len, List.length_replicate, mac_len, Sh.sum_len]; done)) | rfl) (by first | (first | (simp only [ws8_len, hml]; done) | (simp only [ws8_len, List.length_replicate, mac_len, Sh.sum_len, hx]; done) | (simp only [ws8_len, List.length_replicate, mac_len, Sh.sum_len]; done)) | rfl) (by first | exact ws8_one _ | rfl) ⟨.inl rfl, ?_⟩)
  refine GD.done (by kernel_rfl) ?_
  refine GX.then ?_
  refine GC.ret ?_
  refine GX.ret1 rfl (RR.cellL ag_24 rfl (by first | exact Hd.cellsAll (k := 4) rfl | exact Hd.cells (k := 4) rfl rfl) (by exact sz_24) (by first | (first | (simp only [ws8_len, hml]; done) | (simp only [ws8_len, List.length_replicate, mac_len, Sh.sum_len, hx]; done) | (simp only [ws8_len, List.length_replicate, mac_len, Sh.sum_len]; done)) | rfl)) ?_
  exact fun w9 h => ⟨(), rfl, by
      have h := h.sel [] rfl rfl
      exact h, trivial⟩
set_option maxRecDepth 100000 in
set_option maxHeartbeats 1000000 in
theorem auth_c (A1 : Option Addr) (n1 c1 : Nat) (key : Sh.B) (nm : ByteArray) (ser : UInt64) (A2 : Option Addr) (n2 c2 : Nat) (key2 : Sh.B) (w : World) (hR1 : SlR w A1 (byts key)) (hl1 : key.length = n1) (hc1 : n1 ≤ c1) (hR2 : SlR w A2 (byts key2)) (hl2 : key2.length = n2) (hc2 : n2 ≤ c2) (hk1 : n1 ≤ 1000000) (hk2 : n2 ≤ 1000000) (hnl : nm.size ≤ 1000000) : Calls Try.prog 43 [.slice A1 n1 c1, .string nm, v64 ser, .slice A2 n2 c2].toArray w fun e w' => ∃ _g : Unit, e = .returned (.agg (ws8 (mac key (65 :: (num (UInt64.ofNat nm.size) ++ (nm.data.toList ++ (num ser ++ key2)))))).toArray) ∧ St noB w w' [] ∧ True := by
  refine GC.calls Try.func43 rfl rfl (St.begin _) ?_
  subst hl1 hl2
  refine GC.seq ?_
  refine GC.reg ?_
  refine GL.step (ot_alloc (zs := ws8 (List.replicate 32 0)) zb_24 (rfl) rfl fun b8 => ?_)
  refine GL.nil ?_
  refine GX.then ?_
  refine GC.seq ?_
  refine GC.reg ?_
  refine GL.val (rv_move rfl) rfl ?_
  refine GL.val (rv_move rfl) rfl ?_
  refine GL.val (rv_lenS Try.underlying9 rfl) rfl ?_
  refine GL.val (rv_conv64I (nm.size) Try.underlying3 Try.underlying22 rfl (by first | rfl | omega)) rfl ?_
  refine GL.step (ot_call hb_46 rfl (callOk fun w hh => number_b (UInt64.ofNat nm.size) w) rfl fun g13 _ => ?_)
  refine GL.val (rv_move rfl) rfl ?_
  refine GL.step (ot_convSB (us := byts nm.data.toList) Try.underlying9 Try.underlying28 Try.underlying5 rfl rfl rfl fun b15 c15 => ?_)
  refine GL.val (rv_move rfl) rfl ?_
  refine GL.step (ot_call hb_46 rfl (callOk fun w hh => number_b (ser) w) rfl fun g17 _ => ?_)
  refine GL.val (rv_move rfl) rfl ?_
  refine GL.step (ot_buildSlice ei_48 rfl rfl rfl rfl rfl rfl fun b19 => ?_)
  refine GL.step (ot_call hb_45 rfl (callOk fun w hh => begin_b 65 (some ⟨b19, 0, none⟩) 4 4 [(num (UInt64.ofNat nm.size), g13), (nm.data.toList, (some ⟨b15, 0, none⟩, c15)), (num ser, g17), (key2, (A2, c2))] (65 :: (num (UInt64.ofNat nm.size) ++ (nm.data.toList ++ (num ser ++ key2)))) (by simp [cat]) w (slr_cl hh (k := 0) rfl rfl) (al (hh.ro (k := 3) rfl) (al (hh.ro (k := 2) rfl) (al (hh.ro (k := 1) rfl) (al (hh.rd0n hR2) an)))) rfl (by decide) (by have e : nm.data.toList.length = nm.size := rfl; simp only [List.length_cons, List.length_append, num_len, e]; omega)) rfl fun g20 h20 => ?_)
  have hq : (65 :: (num (UInt64.ofNat nm.size) ++ (nm.data.toList ++ (num ser ++ key2)))).length ≤ 1099511627000 := (by have e : nm.data.toList.length = nm.size := rfl; simp only [List.length_cons, List.length_append, num_len, e]; omega)
  generalize 65 :: (num (UInt64.ofNat nm.size) ++ (nm.data.toList ++ (num ser ++ key2))) = q at hq h20 ⊢
  refine GL.step (ot_buildSlice ei_48 rfl rfl rfl rfl rfl rfl fun b21 => ?_)
  refine GL.step (ot_call hb_31 rfl (callOk fun w hh => mac_b A1 _ c1 key (some ⟨b21, 0, none⟩) 1 1 [(q, g20)] (q) (by simp [cat]) w (hh.rd0n hR1) rfl hc1 (by omega) (slr_cl hh (k := 0) rfl rfl) (al (hh.ro (k := 1) rfl) an) (al h20 an) rfl (by decide) (by omega)) rfl fun _ _ => ?_)
  have hml := mac_len key q
  generalize mac key q = m1 at hml ⊢
  refine GL.step (ot_storeA (k := 6) rfl rfl rfl rfl (by exact sz_24) (by first | (first | (simp only [ws8_len, hml]; done) | (simp only [ws8_len, List.length_replicate, mac_len, Sh.sum_len] ; done) | (simp only [ws8_len, List.length_replicate, mac_len, Sh.sum_len]; done)) | rfl) (by first | (first | (simp only [ws8_len, hml]; done) | (simp only [ws8_len, List.length_replicate, mac_len, Sh.sum_len] ; done) | (simp only [ws8_len, List.length_replicate, mac_len, Sh.sum_len]; done)) | rfl) (by first | exact ws8_one _ | rfl) ?_)
  refine GL.nil ?_
  refine GX.then ?_
  refine GC.ret ?_
  refine GX.ret1 rfl (RR.cellL ag_24 rfl (by first | exact Hd.cellsAll (k := 6) rfl | exact Hd.cells (k := 6) rfl rfl) (by exact sz_24) (by first | (first | (simp only [ws8_len, hml]; done) | (simp only [ws8_len, List.length_replicate, mac_len, Sh.sum_len] ; done) | (simp only [ws8_len, List.length_replicate, mac_len, Sh.sum_len]; done)) | rfl)) ?_
  exact fun w9 h => ⟨(), rfl, by
      have h := h.sel [] rfl rfl
      exact h, trivial⟩
set_option maxRecDepth 100000 in
set_option maxHeartbeats 1000000 in
theorem rauth_c (A1 : Option Addr) (n1 c1 : Nat) (key : Sh.B) (nm : ByteArray) (ser : UInt64) (A2 : Option Addr) (n2 c2 : Nat) (key2 : Sh.B) (w : World) (hR1 : SlR w A1 (byts key)) (hl1 : key.length = n1) (hc1 : n1 ≤ c1) (hR2 : SlR w A2 (byts key2)) (hl2 : key2.length = n2) (hc2 : n2 ≤ c2) (hk1 : n1 ≤ 1000000) (hk2 : n2 ≤ 1000000) (hnl : nm.size ≤ 1000000) : Calls Try.prog 44 [.slice A1 n1 c1, .string nm, v64 ser, .slice A2 n2 c2].toArray w fun e w' => ∃ _g : Unit, e = .returned (.agg (ws8 (mac key (65 :: (num (UInt64.ofNat nm.size) ++ (nm.data.toList ++ (num ser ++ key2)))))).toArray) ∧ St noB w w' [] ∧ True := by
  refine GC.calls Try.func44 rfl rfl (St.begin _) ?_
  subst hl1 hl2
  refine GC.seq ?_
  refine GC.reg ?_
  refine GL.step (ot_alloc (zs := ws8 (List.replicate 32 0)) zb_24 (rfl) rfl fun b8 => ?_)
  refine GL.nil ?_
  refine GX.then ?_
  refine GC.seq ?_
  refine GC.reg ?_
  refine GL.val (rv_move rfl) rfl ?_
  refine GL.val (rv_move rfl) rfl ?_
  refine GL.val (rv_lenS Try.underlying9 rfl) rfl ?_
  refine GL.val (rv_conv64I (nm.size) Try.underlying3 Try.underlying22 rfl (by first | rfl | omega)) rfl ?_
  refine GL.step (ot_call hb_49 rfl (callOk fun w hh => rnumber_b (UInt64.ofNat nm.size) w) rfl fun g13 _ => ?_)
  refine GL.val (rv_move rfl) rfl ?_
  refine GL.step (ot_convSB (us := byts nm.data.toList) Try.underlying9 Try.underlying28 Try.underlying5 rfl rfl rfl fun b15 c15 => ?_)
  refine GL.val (rv_move rfl) rfl ?_
  refine GL.step (ot_call hb_49 rfl (callOk fun w hh => rnumber_b (ser) w) rfl fun g17 _ => ?_)
  refine GL.val (rv_move rfl) rfl ?_
  refine GL.step (ot_buildSlice ei_48 rfl rfl rfl rfl rfl rfl fun b19 => ?_)
  refine GL.step (ot_call hb_48 rfl (callOk fun w hh => sign_c 65 (some ⟨b19, 0, none⟩) 4 4 [(num (UInt64.ofNat nm.size), g13), (nm.data.toList, (some ⟨b15, 0, none⟩, c15)), (num ser, g17), (key2, (A2, c2))] (65 :: (num (UInt64.ofNat nm.size) ++ (nm.data.toList ++ (num ser ++ key2)))) (by simp [cat]) w (slr_cl hh (k := 0) rfl rfl) (al (hh.ro (k := 3) rfl) (al (hh.ro (k := 2) rfl) (al (hh.ro (k := 1) rfl) (al (hh.rd0n hR2) an)))) rfl (by decide) (by have e : nm.data.toList.length = nm.size := rfl; simp only [List.length_cons, List.length_append, num_len, e]; omega)) rfl fun g20 h20 => ?_)
  have hq : (65 :: (num (UInt64.ofNat nm.size) ++ (nm.data.toList ++ (num ser ++ key2)))).length ≤ 1099511627000 := (by have e : nm.data.toList.length = nm.size := rfl; simp only [List.length_cons, List.length_append, num_len, e]; omega)
  generalize 65 :: (num (UInt64.ofNat nm.size) ++ (nm.data.toList ++ (num ser ++ key2))) = q at hq h20 ⊢
  refine GL.step (ot_call hb_32 rfl (callOk fun w hh => rmac_c A1 _ c1 key g20.1 _ g20.2 (q) w (hh.rd0n hR1) rfl hc1 (by omega) (hh.ro (k := 0) rfl) rfl (by omega)) rfl fun _ _ => ?_)
  have hml := mac_len key q
  generalize mac key q = m1 at hml ⊢
  refine GL.step (ot_storeA (k := 5) rfl rfl rfl rfl (by exact sz_24) (by first | (first | (simp only [ws8_len, hml]; done) | (simp only [ws8_len, List.length_replicate, mac_len, Sh.sum_len] ; done) | (simp only [ws8_len, List.length_replicate, mac_len, Sh.sum_len]; done)) | rfl) (by first | (first | (simp only [ws8_len, hml]; done) | (simp only [ws8_len, List.length_replicate, mac_len, Sh.sum_len] ; done) | (simp only [ws8_len, List.length_replicate, mac_len, Sh.sum_len]; done)) | rfl) (by first | exact ws8_one _ | rfl) ?_)
  refine GL.nil ?_
  refine GX.then ?_
  refine GC.ret ?_
  refine GX.ret1 rfl (RR.cellL ag_24 rfl (by first | exact Hd.cellsAll (k := 5) rfl | exact Hd.cells (k := 5) rfl rfl) (by exact sz_24) (by first | (first | (simp only [ws8_len, hml]; done) | (simp only [ws8_len, List.length_replicate, mac_len, Sh.sum_len] ; done) | (simp only [ws8_len, List.length_replicate, mac_len, Sh.sum_len]; done)) | rfl)) ?_
  exact fun w9 h => ⟨(), rfl, by
      have h := h.sel [] rfl rfl
      exact h, trivial⟩
end Go.Proofs.Ytaocclmdlpnjbaa
