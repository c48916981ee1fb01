import Derived.Test.YtgdbcclammapnaaH
set_option linter.unusedVariables false
set_option linter.unusedSimpArgs false
namespace Go.Proofs.Ytgdbcclammapnaa
open Go Go.RowKit Go.Bz
theorem ag_27 : aggB Try.prog 27 = some true := by kernel_rfl
theorem ei_29 : elemInfo Try.prog 29 = some (27, 5, 56) := by kernel_rfl
theorem hb_11 : hasBody Try.prog 11 = true := by kernel_rfl
theorem hb_7 : hasBody Try.prog 7 = true := by kernel_rfl
theorem hb_8 : hasBody Try.prog 8 = true := by kernel_rfl
theorem hb_9 : hasBody Try.prog 9 = true := by kernel_rfl
theorem sz_27 : (Try.prog.info? 27).map (·.size) = some 5 := by kernel_rfl
theorem sb_mem {l : List Nat} {x : Nat} (h : x ∈ l) : x ≤ sb l := by
  unfold sb
  induction l with
  | nil => cases h
  | cons y l ih =>
    rw [List.sum_cons]
    rcases List.mem_cons.1 h with rfl | h
    · omega
    · have := ih h; omega
theorem nxt_len (l : List Ml.Pp) (k n : Int) (p : Ml.Pp) : (nxt l k n p).length ≤ l.length + 1 := by
  unfold nxt; split
  · omega
  · unfold res; split
    · exact send_len _ _
    · split
      · exact take_len _ _
      · split
        · exact double_len _ _
        · simp
theorem send_mem {l : List Ml.Pp} {p q : Ml.Pp} (h : q ∈ (Ml.send l p).1) : q ∈ l ∨ q = p := by
  unfold Ml.send at h
  split at h
  · cases h
  · split at h
    · cases h
    · split at h
      · cases h
      · simpa using h
theorem getD_mem (l : List Ml.Pp) (k : Nat) : l.getD k Ml.zero ∈ l ∨ l.getD k Ml.zero = Ml.zero := by
  rw [List.getD_eq_getElem?_getD]
  cases h : l[k]? with
  | none => exact .inr rfl
  | some x => exact .inl (List.mem_of_getElem? h)
theorem nxt_mem {l : List Ml.Pp} {k n : Int} {p q : Ml.Pp} (h : q ∈ nxt l k n p) : q ∈ l ∨ q = p ∨ q = Ml.zero := by
  unfold nxt at h
  split at h
  · exact .inl h
  · unfold res at h
    split at h
    · exact (send_mem h).imp id .inl
    · split at h
      · unfold Ml.take at h
        split at h
        · cases h
        · split at h
          · cases h
          · exact .inl (List.mem_of_mem_eraseIdx h)
      · split at h
        · unfold Ml.double at h
          split at h
          · cases h
          · split at h
            · cases h
            · rcases send_mem h with h | h
              · exact .inl h
              · exact (getD_mem l _).elim (fun e => .inl (h ▸ e)) (fun e => .inr (.inr (h.trans e)))
        · exact .inl h
set_option maxRecDepth 100000 in
set_option maxHeartbeats 1000000 in
theorem steps_law (A : Option Addr) (n c : Nat) (ps : List Ml.Pv) (o : Ov) (to : Int) (w : World) (hR : ∀ f ∈ Ml.pfs A ps, SlR w f.1 f.2) (ho : SlR w o.2.2.1 (byts o.2.1.2.2)) (hl : ps.length = n)
    (hb : ∀ q ∈ ps, q.1.2.2.length ≤ 140737488351232) (hob : o.2.1.2.2.length ≤ 140737488351232) :
    Calls Try.prog 3 [.slice A n c, .agg (ocell o).toArray, .int .i64 to].toArray w fun e w' => ∃ _g : Unit, e = .returned (.bool true) ∧ St noB w w' [] ∧ True := by
  refine GC.calls Try.func3 rfl rfl (St.begin _) ?_
  subst hl
  refine GC.seq ?_
  refine GC.reg ?_
  refine GL.step (ot_box rfl rfl rfl fun b4 => ?_)
  refine GL.val (rv_assign rfl) rfl ?_
  refine GL.nil ?_
  refine GX.then ?_
  refine GC.seq ?_
  refine GC.seq ?_
  refine GC.reg ?_
  refine GL.val (rv_move rfl) rfl ?_
  refine GL.val (rv_loadA ag_27 rfl (by first | exact Hd.cellsAll (k := 0) rfl | exact Hd.cells0 (by assumption) (by first | exact fun h => h | assumption)) (by exact sz_27)) rfl ?_
  refine GL.step (ot_buildSlice ei_29 rfl rfl rfl rfl rfl rfl fun b12 => ?_)
  refine GL.step (ot_call hb_7 rfl (callOk fun w hh => light_c A (some ⟨b12, 0, none⟩) _ 1 c 1 ps [o] w (hh.rd0n (hR _ (List.mem_cons_self ..))) (.inr ⟨b12, 0, rfl, Hd.cellsAll (k := 0) rfl w hh⟩) rfl rfl hb (by simpa using hob)) rfl fun blb hbl => ?_)
  refine GL.val (rv_not rfl) rfl ?_
  refine GL.nil ?_
  refine GX.then ?_
  first | refine GC.condP rfl (fun c1 => ?_) (fun c1 => ?_) | refine GC.cond rfl (fun c1 => ?_) (fun c1 => ?_)
  · refine GC.seq ?_
    refine GC.reg ?_
    refine GL.step (ot_call hb_8 rfl (callOk fun w hh => works_c w) rfl fun _ _ => ?_)
    refine GL.val (rv_assign rfl) rfl ?_
    refine GL.nil ?_
    refine GX.then ?_
    refine GC.ret ?_
    refine GX.then_ret ?_
    refine GX.ret1 rfl (RR.tmp rfl) ?_
    exact fun w1 h1 => ⟨(), rfl, h1.take 0, trivial⟩
  · obtain ⟨h1, h2, h3⟩ := hbl (by simpa using c1)
    have hbs : ∀ q ∈ ps, q.1.2.2.length ≤ 100000000 := fun q hq => by have := sb_mem (l := bl ps) (x := q.1.2.2.length) (List.mem_map_of_mem (f := fun q : Ml.Pv => q.1.2.2.length) hq); omega
    have hos : o.2.1.2.2.length ≤ 100000000 := by have := sb_mem (l := ob [o]) (x := o.2.1.2.2.length) (by simp); omega
    refine GC.skip ?_
    refine GX.then ?_
    refine GC.seq ?_
    refine GC.reg ?_
    refine GL.val (rv_move rfl) rfl ?_
    refine GL.val (rv_move rfl) rfl ?_
    refine GL.val (rv_loadA ag_27 rfl (by first | exact Hd.cellsAll (k := 0) rfl | exact Hd.cellsAll (k := 1) rfl | exact Hd.cells0 (by assumption) (by first | exact fun h => h | assumption)) (by exact sz_27)) rfl ?_
    refine GL.step (ot_call hb_9 rfl (callOk fun w hh => step_c A A _ _ c c ps ps o w (fun f hf => hh.rd0n (hR f hf)) (fun f hf => hh.rd0n (hR f hf)) (hh.rd0n ho) rfl rfl (by omega) rfl hbs hos) rfl fun gs _ => ?_)
    refine GL.val (rv_move rfl) rfl ?_
    refine GL.val (rv_extract rfl rfl) rfl ?_
    refine GL.val (rv_extract rfl rfl) rfl ?_
    refine GL.val (rv_extract rfl rfl) rfl ?_
    refine GL.val (rv_assign rfl) rfl ?_
    refine GL.val (rv_assign rfl) rfl ?_
    refine GL.val (rv_assign rfl) rfl ?_
    refine GL.nil ?_
    refine GX.then ?_
    refine GC.seq ?_
    refine GC.reg ?_
    refine GL.val (rv_move rfl) rfl ?_
    refine GL.val (rv_move rfl) rfl ?_
    first | refine GL.skipG rfl rfl ?_ | refine GL.skipU rfl rfl ?_ | refine GL.valT rfl (rv_move rfl) rfl ?_ | refine GL.valG rfl (fun hb => rv_move (by first | exact evb rfl hb | rfl)) rfl ?_
    first | refine GL.skipG rfl rfl ?_ | refine GL.skipU rfl rfl ?_ | refine GL.valT rfl (rv_move rfl) rfl ?_ | refine GL.valG rfl (fun hb => rv_move (by first | exact evb rfl hb | rfl)) rfl ?_
    first | refine GL.skipG rfl rfl ?_ | refine GL.skipU rfl rfl ?_ | refine GL.stepG rfl (ot_call hb_10 rfl (callOk fun w hh => for_c A _ c ps w (fun f hf => hh.rd0n (hR f hf)) rfl (by omega) to) rfl fun _ _ => ?_)
    first | refine GL.skipG rfl rfl ?_ | refine GL.skipU rfl rfl ?_ | refine GL.valT rfl (rv_move rfl) rfl ?_ | refine GL.valG rfl (fun hb => rv_move (by first | exact evb rfl hb | rfl)) rfl ?_
    first | refine GL.skipG rfl rfl ?_ | refine GL.skipU rfl rfl ?_ | refine GL.valT rfl (rv_move rfl) rfl ?_ | refine GL.valG rfl (fun hb => rv_move (by first | exact evb rfl hb | rfl)) rfl ?_
    first | refine GL.skipG rfl rfl ?_ | refine GL.skipU rfl rfl ?_ | refine GL.stepG rfl (ot_call hb_11 rfl (callOk fun w hh => rfor_c A _ c ps w (fun f hf => hh.rd0n (hR f hf)) rfl (by omega) to) rfl fun _ _ => ?_)
    first | refine GL.skipG rfl rfl ?_ | refine GL.skipU rfl rfl ?_ | refine GL.valT rfl (rv_to (v' := .bool true) (rv_eqI rfl rfl) (by simp)) rfl ?_ | refine GL.valG rfl (fun hb => rv_to (v' := .bool true) (rv_eqI (by first | exact evb rfl hb | rfl) (by first | exact evb rfl hb | rfl)) (by simp)) rfl ?_
    refine GL.val ((by first | exact rv_andT rfl rfl rfl | exact rv_andF rfl rfl rfl | exact rv_pickAnd rfl rfl rfl)) rfl ?_
    refine GL.val (rv_move rfl) rfl ?_
    first | refine GL.skipG rfl rfl ?_ | refine GL.skipU rfl rfl ?_ | refine GL.stepG rfl (ot_call hb_8 rfl (callOk fun w hh => works_c w) rfl fun _ _ => ?_)
    refine GL.val ((by first | exact rv_andT rfl rfl rfl | exact rv_andF rfl rfl rfl | exact rv_pickAnd rfl rfl rfl)) rfl ?_
    refine GL.val (rv_assign rfl) rfl ?_
    refine GL.nil ?_
    refine GX.then ?_
    refine GC.ret ?_
    refine GX.ret1 rfl (RR.tmp rfl) ?_
    exact fun w1 h1 => ⟨(), rfl, h1.take 0, trivial⟩
/-- what a row of acts leaves -/
def stf (l : List Ml.Pp) (o : Ov) : List Ml.Pp := nxt l o.1.1 o.1.2 o.2.1
def sts (os : List Ov) : List Ml.Pp := os.foldl stf []
theorem sts_take (os : List Ov) (j : Nat) (h : j < os.length) : sts (os.take (j + 1)) = stf (sts (os.take j)) os[j] := by
  unfold sts; rw [Ml.take_succ' os j h, List.foldl_append]; rfl
theorem sts_len (os : List Ov) : ∀ j, j ≤ os.length → (sts (os.take j)).length ≤ j
  | 0, _ => by simp [sts]
  | j + 1, h => by rw [sts_take os j (by omega)]; exact Nat.le_trans (nxt_len ..) (by have := sts_len os j (by omega); omega)
theorem sts_mem (os : List Ov) (N : Nat) (hN : ∀ o ∈ os, o.2.1.2.2.length ≤ N) : ∀ j, j ≤ os.length → ∀ q ∈ sts (os.take j), q.2.2.length ≤ N
  | 0, _, q, hq => by simp [sts] at hq
  | j + 1, h, q, hq => by
    rw [sts_take os j (by omega)] at hq
    rcases nxt_mem hq with hq | hq | hq
    · exact sts_mem os N hN j (by omega) q hq
    · rw [hq]; exact hN _ (List.getElem_mem _)
    · rw [hq]; simp [Ml.zero]
theorem frzNew {K : Nat → Prop} {w0 w wb : World} {Fs : List Pc} {l l' m : List Fact} (h : St K w0 w (frzN l' :: frz wb l :: Fs)) (hm : ∀ f ∈ m, f ∈ l' ∨ f ∈ l ∨ SlR wb f.1 f.2) : St K w0 w (frz wb m :: Fs) :=
  h.two fun S1 S2 h1 h2 f hf => by
    rcases hm f hf with hf | hf | hf
    · exact .inr (Fact.on_mono (h1 f hf) fun _ => .inl)
    · exact (h2 f hf).imp id fun h => Fact.on_mono h fun _ => .inr
    · exact .inl hf
set_option maxRecDepth 100000 in
set_option maxHeartbeats 1000000 in
theorem does_law (A : Option Addr) (n c : Nat) (os : List Ov) (to : Int) (w : World) (hR : SlR w A (ocs os)) (hRo : ∀ o ∈ os, SlR w o.2.2.1 (byts o.2.1.2.2)) (hl : os.length = n) (hob : ∀ o ∈ os, o.2.1.2.2.length ≤ 140737488351232) :
    Calls Try.prog 4 [.slice A n c, .int .i64 to].toArray w fun e w' => ∃ _g : Unit, e = .returned (.bool true) ∧ St noB w w' [] ∧ True := by
  refine GC.calls Try.func4 rfl rfl (St.begin _) ?_
  subst hl
  have HA := oHead hR
  refine GC.seq ?_
  refine GC.reg ?_
  refine GL.val (rv_assign rfl) rfl ?_
  refine GL.nil ?_
  refine GX.then ?_
  refine GC.seq ?_
  refine GC.seq ?_
  refine GC.reg ?_
  refine GL.val (rv_move rfl) rfl ?_
  refine GL.step (ot_call hb_7 rfl (callOk fun w hh => light_c none A 0 _ 0 c [] os w (.inl rfl) (hh.rd0n hR) rfl rfl (by simp) hob) rfl fun blb hbl => ?_)
  refine GL.val (rv_not rfl) rfl ?_
  refine GL.nil ?_
  refine GX.then ?_
  first | refine GC.condP rfl (fun c1 => ?_) (fun c1 => ?_) | refine GC.cond rfl (fun c1 => ?_) (fun c1 => ?_)
  · refine GC.seq ?_
    refine GC.reg ?_
    refine GL.step (ot_call hb_8 rfl (callOk fun w hh => works_c w) rfl fun _ _ => ?_)
    refine GL.val (rv_assign rfl) rfl ?_
    refine GL.nil ?_
    refine GX.then ?_
    refine GC.ret ?_
    refine GX.then_ret ?_
    refine GX.ret1 rfl (RR.tmp rfl) ?_
    exact fun w1 h1 => ⟨(), rfl, h1.take 0, trivial⟩
  · obtain ⟨_, h2, h3⟩ := hbl (by simpa using c1)
    have hos : ∀ o ∈ os, o.2.1.2.2.length ≤ 100000000 := fun o ho => by have := sb_mem (l := ob os) (x := o.2.1.2.2.length) (List.mem_map_of_mem (f := fun o : Ov => o.2.1.2.2.length) ho); omega
    refine GC.skip ?_
    refine GX.then ?_
    refine GC.seq ?_
    refine GC.reg ?_
    refine GL.val (rv_assign rfl) rfl ?_
    refine GL.val (rv_assign rfl) rfl ?_
    refine GL.nil ?_
    refine GX.then ?_
    refine GC.seq ?_
    refine GC.seq ?_
    refine GC.reg ?_
    refine GL.val (rv_assign rfl) rfl ?_
    refine GL.nil ?_
    refine GX.then ?_
    refine GC.block ?_
    refine GC.loop (γ := Nat × ((Option Addr × Nat) × List Ml.Pv) × ((Option Addr × Nat) × List Ml.Pv)) (fun g => [(0, .slice A os.length c), (1, .int .i64 to), (5, .slice g.2.1.1.1 g.2.1.2.length g.2.1.1.2), (6, .slice g.2.2.1.1 g.2.2.2.length g.2.2.1.2), (7, .int .i64 (g.1 : Int))]) (fun g => [frz w (Ml.pfs g.2.1.1.1 g.2.1.2 ++ Ml.pfs g.2.2.1.1 g.2.2.2)]) (fun g => g.1 ≤ os.length ∧ Ml.pl g.2.1.2 = sts (os.take g.1) ∧ Ml.pl g.2.2.2 = sts (os.take g.1)) (fun g => os.length - g.1) ((0, ((none, 0), []), ((none, 0), []))) ⟨Nat.zero_le _, rfl, rfl⟩ (by repeat (first | exact Sub.nil | refine Sub.cons rfl ?_)) (fun w h => (h.take 0).frz0 _ (fun f hf => (List.mem_append.1 hf).elim (nilFs f) (nilFs f))) (fun ⟨j, ⟨⟨A5, c5⟩, zs⟩, ⟨⟨B5, d5⟩, bs⟩⟩ ⟨hj, ha, hb⟩ => ?_)
    dsimp only at hj ha hb ⊢
    refine GC.seq ?_
    refine GC.seq ?_
    refine GC.reg ?_
    refine GL.val (rv_move rfl) rfl ?_
    refine GL.val (rv_move rfl) rfl ?_
    refine GL.val (rv_lenSl Try.underlying29 rfl) rfl ?_
    refine GL.val (rv_lss rfl rfl) rfl ?_
    refine GL.nil ?_
    refine GX.then ?_
    first | refine GC.condP rfl (fun c2 => ?_) (fun c2 => ?_) | refine GC.cond rfl (fun c2 => ?_) (fun c2 => ?_)
    · have hlt : j < os.length := by omega
      obtain ⟨b, o, rfl, hC⟩ := HA.resolve_left (by omega)
      have hal : zs.length ≤ j := by rw [← Ml.pl_len, ha]; exact sts_len os j hj
      have hbl' : bs.length ≤ j := by rw [← Ml.pl_len, hb]; exact sts_len os j hj
      have hbs : ∀ q ∈ zs, q.1.2.2.length ≤ 100000000 := fun q hq => sts_mem os 100000000 hos j hj q.1 (by rw [← ha]; exact List.mem_map_of_mem hq)
      refine GC.skip ?_
      refine GX.then ?_
      refine GC.seq ?_
      refine GC.block ?_
      refine GC.seq ?_
      refine GC.reg ?_
      refine GL.val (rv_move rfl) rfl ?_
      refine GL.val (rv_move rfl) rfl ?_
      refine GL.val (rv_move rfl) rfl ?_
      refine GL.val (rv_move rfl) rfl ?_
      refine GL.val (rv_elem es_29 rfl rfl (by omega) (by omega)) rfl ?_
      refine GL.val (rv_loadA ag_27 rfl (Hd.cells0 (ocC hC hlt) (fun h => h)) (by exact sz_27)) rfl ?_
      refine GL.step (ot_call hb_9 rfl (callOk fun w hh => step_c A5 B5 _ _ c5 d5 zs bs os[j] w (fun f hf => hh.frz (k := 0) rfl f (List.mem_append_left _ hf)) (fun f hf => hh.frz (k := 0) rfl f (List.mem_append_right _ hf)) (hh.rd0n (hRo _ (List.getElem_mem hlt))) rfl rfl (by omega) (ha.trans hb.symm) hbs (hos _ (List.getElem_mem hlt))) rfl fun gs hs => ?_)
      obtain ⟨⟨⟨A1, c1'⟩, xs⟩, ⟨⟨B1, d1⟩, ys⟩, lf⟩ := gs
      obtain ⟨hx, hy, mx, my⟩ := hs
      dsimp only at hx hy mx my
      rw [ha] at hx hy
      have hnx : nxt (sts (os.take j)) os[j].1.1 os[j].1.2 os[j].2.1 = sts (os.take (j + 1)) := (sts_take os j hlt).symm
      rw [hnx] at hx hy
      have hxl : xs.length ≤ 100000 := by rw [← Ml.pl_len, hx]; have := sts_len os (j + 1) (by omega); omega
      have hyl : ys.length ≤ 100000 := by rw [← Ml.pl_len, hy]; have := sts_len os (j + 1) (by omega); omega
      refine GL.st (fun w' h => frzNew (m := Ml.pfs A1 xs ++ Ml.pfs B1 ys) h (fun f hf => (List.mem_append.1 hf).elim (fun hf => (mx f hf).imp id fun h => .inl (List.mem_append_left _ h)) (fun hf => (my f hf).imp id fun h => h.elim (fun h => .inl (List.mem_append_right _ h)) (fun h => .inr (h ▸ hRo _ (List.getElem_mem hlt)))))) ?_
      refine GL.val (rv_move rfl) rfl ?_
      refine GL.val (rv_extract rfl rfl) rfl ?_
      refine GL.val (rv_extract rfl rfl) rfl ?_
      refine GL.val (rv_extract rfl rfl) rfl ?_
      refine GL.val (rv_assign rfl) rfl ?_
      refine GL.val (rv_assign rfl) rfl ?_
      refine GL.val (rv_assign rfl) rfl ?_
      refine GL.nil ?_
      refine GX.then ?_
      refine GC.seq ?_
      refine GC.seq ?_
      refine GC.reg ?_
      refine GL.val (rv_move rfl) rfl ?_
      refine GL.val (rv_not rfl) rfl ?_
      refine GL.val (rv_move rfl) rfl ?_
      first | refine GL.skipG rfl rfl ?_ | refine GL.skipU rfl rfl ?_ | refine GL.valT rfl (rv_move rfl) rfl ?_ | refine GL.valG rfl (fun hb => rv_move (by first | exact evb rfl hb | rfl)) rfl ?_
      first | refine GL.skipG rfl rfl ?_ | refine GL.skipU rfl rfl ?_ | refine GL.valT rfl (rv_move rfl) rfl ?_ | refine GL.valG rfl (fun hb => rv_move (by first | exact evb rfl hb | rfl)) rfl ?_
      first | refine GL.skipG rfl rfl ?_ | refine GL.skipU rfl rfl ?_ | refine GL.stepG rfl (ot_call hb_10 rfl (callOk fun w hh => for_c A1 _ c1' xs w (fun f hf => hh.frz (k := 0) rfl f (List.mem_append_left _ hf)) rfl (by omega) to) rfl fun _ _ => ?_)
      first | refine GL.skipG rfl rfl ?_ | refine GL.skipU rfl rfl ?_ | refine GL.valT rfl (rv_move rfl) rfl ?_ | refine GL.valG rfl (fun hb => rv_move (by first | exact evb rfl hb | rfl)) rfl ?_
      first | refine GL.skipG rfl rfl ?_ | refine GL.skipU rfl rfl ?_ | refine GL.valT rfl (rv_move rfl) rfl ?_ | refine GL.valG rfl (fun hb => rv_move (by first | exact evb rfl hb | rfl)) rfl ?_
      first | refine GL.skipG rfl rfl ?_ | refine GL.skipU rfl rfl ?_ | refine GL.stepG rfl (ot_call hb_11 rfl (callOk fun w hh => rfor_c B1 _ d1 ys w (fun f hf => hh.frz (k := 0) rfl f (List.mem_append_right _ hf)) rfl (by omega) to) rfl fun _ _ => ?_)
      first | refine GL.skipG rfl rfl ?_ | refine GL.skipU rfl rfl ?_ | refine GL.valT rfl (rv_to (v' := .bool false) (rv_neI rfl rfl) (by rw [hx, hy]; simp)) rfl ?_ | refine GL.valG rfl (fun hb => rv_to (v' := .bool false) (rv_neI (by first | exact evb rfl hb | rfl) (by first | exact evb rfl hb | rfl)) (by rw [hx, hy]; simp)) rfl ?_
      refine GL.val ((by first | exact rv_orF rfl rfl rfl | exact rv_orT rfl rfl rfl | exact rv_pickOr rfl rfl rfl)) rfl ?_
      refine GL.nil ?_
      refine GX.then ?_
      first | refine GC.condP rfl (fun c3 => ?_) (fun c3 => ?_) | refine GC.cond rfl (fun c3 => ?_) (fun c3 => ?_)
      · exact absurd c3 (by simp)
      · refine GC.skip ?_
        refine GX.then ?_
        refine GC.reg ?_
        refine GL.val (rv_move rfl) rfl ?_
        refine GL.val (rv_move rfl) rfl ?_
        refine GL.val (rv_assign rfl) rfl ?_
        refine GL.val (rv_assign rfl) rfl ?_
        refine GL.nil ?_
        refine GX.blk ?_
        refine GX.then ?_
        refine GC.reg ?_
        refine GL.val (rv_move rfl) rfl ?_
        refine GL.val (rv_add rfl rfl (by omega) (by omega)) rfl ?_
        refine GL.val (rv_assign rfl) rfl ?_
        refine GL.nil ?_
        exact GX.round (j + 1, ((A1, c1'), xs), ((B1, d1), ys)) (by show _ - (j + 1) < _ - j; omega) ⟨by show j + 1 ≤ _; omega, hx, hy⟩ (by repeat (first | exact Sub.nil | refine Sub.cons rfl ?_)) (fun w h => h)
    · refine GC.exit ?_
      refine GX.then_exit ?_
      refine GX.then_exit ?_
      refine GX.blk_eq ?_
      refine GX.then ?_
      refine GC.seq ?_
      refine GC.reg ?_
      refine GL.step (ot_call hb_8 rfl (callOk fun w hh => works_c w) rfl fun _ _ => ?_)
      refine GL.val (rv_assign rfl) rfl ?_
      refine GL.nil ?_
      refine GX.then ?_
      refine GC.ret ?_
      refine GX.ret1 rfl (RR.tmp rfl) ?_
      exact fun w1 h1 => ⟨(), rfl, h1.take 0, trivial⟩
end Go.Proofs.Ytgdbcclammapnaa
