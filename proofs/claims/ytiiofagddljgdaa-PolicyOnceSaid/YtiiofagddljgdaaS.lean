import Derived.Test.YtiiofagddljgdaaQ
set_option linter.unusedVariables false
set_option linter.unusedSimpArgs false
namespace Go.Proofs.Ytiiofagddljgdaa
open Go Go.RowKit Go.Bz

section
variable {X : Cx} {L : List (Nat × Value)} {Fs : List Pc} {C : List (Nat × Value) → List Pc → Prop} {ty : TypeId} {pos : String} {af : Array Edge} {g : Option (Nat × Bool)}
/-- a slice of noughts -/
theorem ot_makeC {d t E by_ m : Nat} {xl xc : Operand} {z : Value} {zs : List Value} (hE : elemInfo X.P t = some (E, 1, by_)) (hz0 : zeroB X.P E = some z) (hzc : z.cells = #[z]) (el : ev L xl = some (.int .i64 (m : Int))) (ec : ev L xc = some (.int .i64 (m : Int))) (hm : m * by_ ≤ 1048576) (hm2 : m ≤ 1048576)
    (hzs : List.replicate m z = zs) (hd : Nat.ble (d + 1) X.n = true)
    (h : ∀ b, C ((d, .slice (some ⟨b, 0, none⟩) m m) :: L) (Pc.cl b zs E :: Fs)) : OT X ⟨some d, .makeSlice t xl xc, ty, pos, af, g⟩ L Fs C :=
  ot_eff (γ := Nat) (Φ := fun _ => True) (v := fun b => .slice (some ⟨b, 0, none⟩) m m) (H := fun b => Pc.cl b zs E :: Fs) (fun w a hs hf => by
    obtain ⟨inf, z', hu, hi, hz, hsz, hby', hzs', hpos⟩ := elemInfo_spec hE
    have hzz : z' = z := by
      unfold zeroB at hz0; rw [hi] at hz0; simp [hz] at hz0; exact hz0
    subst hzz hzs
    refine ⟨w.heap.size, w.alloc (.cells (List.replicate m z').toArray E), ?_, ?_, trivial⟩
    · have hwr : IntKind.i64.wrap (m : Int) = m := i64_small (by omega) (by omega)
      have hbm : ¬ ((inf.bytes : Int) * (m : Int) > 2 ^ 48) := by
        rw [hby']
        have h1 : ((by_ * m : Nat) : Int) ≤ 1048576 := by rw [Nat.mul_comm]; omega
        rw [Int.natCast_mul] at h1
        have h2 : (2 : Int) ^ 48 = 281474976710656 := by decide
        rw [h2]
        omega
      have hroom : ¬ (m * inf.bytes > roomBytes) := by
        rw [hby']; unfold roomBytes; omega
      have hcells : (Array.range m).map (z'.cells[· % z'.cells.size]!) = (List.replicate m z').toArray := by
        apply Array.ext
        · simp
        · intro i h1 h2
          simp [hzc, Nat.mod_one]
      have hzr := run_zero (P := X.P) hz0 w
      simp only [execOp, hf.ev el, hf.ev ec]
      have hrow : ∀ (cells : Array Value) (w : World), (newRow E cells).run X.P w = .ok ⟨w.heap.size, 0, none⟩ (w.alloc (.cells cells E)) := fun _ _ => rfl
      have hwr0 : IntKind.i64.wrap 0 = 0 := by decide
      have hnl : ¬ ((m : Int) < 0) := by omega
      have hbm' : ¬ (281474976710656 < (inf.bytes : Int) * (m : Int)) := by
        have h2 : (2 : Int) ^ 48 = 281474976710656 := by decide
        rw [h2] at hbm; omega
      by_cases h0 : m = 0
      · subst h0
        simp [Instr.makeSlice, run_underlying hu, asInt, asIntOf, typeInfo, hi, hwr0, Bz.run_sizeOf hi, hsz, askRoom, hroom, hrow, go_sem]
      · simp [Instr.makeSlice, run_underlying hu, asInt, asIntOf, typeInfo, hi, hwr, hbm', hnl, Bz.run_sizeOf hi, hsz, askRoom, hroom, h0, hzr, hrow, hcells, go_sem]
        exact congrArg (fun q => w.alloc (.cells q E)) (hcells.trans (by simp))
    · exact hs.alloc (List.replicate m z') E) hd fun b _ => h b
end
theorem mac_b (A : Option Addr) (l c : Nat) (key : Sh.B) (A2 : Option Addr) (n c2 : Nat) (ps : List Sp) (bs : Sh.B) (hbs : cat ps = bs) (w : World) (hR : SlR w A (byts key)) (hl : key.length = l) (hc : l ≤ c) (hbig : l < 70368744177664) (hR2 : SlR w A2 (sls ps)) (hP : ∀ q ∈ ps, SlR w q.2.1 (byts q.1)) (hPc : ∀ q ∈ ps, q.1.length ≤ q.2.2) (hn : ps.length = n) (hnb : n ≤ 1099511627776) (hpb : bs.length ≤ 1099511627776) : Calls Try.prog 26 [.slice A l c, .slice A2 n c2].toArray w fun e w' => ∃ _g : Unit, e = .returned (.agg (ws8 (mac key bs)).toArray) ∧ St noB w w' [] ∧ True := by
  subst hbs; exact mac_c A l c key A2 n c2 ps w hR hl hc hbig hR2 hP hPc hn hnb hpb
theorem mac_sum {key : Sh.B} (h : 64 < key.length) (b : Sh.B) : mac (Sh.sum key) b = mac key b := by
  have e : kb (Sh.sum key) = kb key := by unfold kb; rw [kshort_long h, kshort_short (by rw [Sh.sum_len]; omega)]
  unfold mac; rw [e]
theorem mac_pad {key : Sh.B} {m : Nat} (h : key.length + m ≤ 64) (b : Sh.B) : mac (key ++ List.replicate m 0) b = mac key b := by
  have e : kb (key ++ List.replicate m 0) = kb key := by
    unfold kb
    rw [kshort_short (by simp; omega), kshort_short (by omega)]
    unfold kpad
    rw [List.append_assoc, List.replicate_append_replicate]
    congr 2
    simp; omega
  unfold mac; rw [e]
theorem cp_pad {key : Sh.B} {m : Nat} (h : key.length ≤ m) : repl (byts (List.replicate m 0)) 0 (byts key) = ws8 (key ++ List.replicate (m - key.length) 0) := by
  rw [repl_eq _ _ _ (by simp [byts]; omega), byts_ws, byts_ws, ws8_app, ws8_drop, Nat.zero_add, List.drop_replicate, ws8_len]; simp [ws8]

end Go.Proofs.Ytiiofagddljgdaa
