/- Plain laws: each instruction of an item has a word that is an instruction's; how many there are. -/
import Derived.Test.YtihecimbhhlhaaaAm3
import Derived.Test.YtihecimbhhlhaaaAmG1
namespace Go.Proofs.Ytihecimbhhlhaaa.Rl
open Go.RowKit Dr PRs
open Go.Proofs.YtihecimbhhlhaaaW.PrintWords (Kd Kd.C Kd.R Kd.C_below Kd.C_get Kd.R_below Kd.R_reads Kd.R_reads' Kd.R_types Kd.R_step Kd.R_alloc Kd.R_drew Kd.R_lower add_field)
set_option linter.unusedVariables false
set_option linter.unusedSimpArgs false
set_option maxRecDepth 100000
open Go.Proofs.Ytihecimbhhlhaaa.Pure ImmPlain
theorem imm1 {n : Int} (h : -2048 ≤ n ∧ n ≤ 2047) : (putR 1 n).2 = true := by
 have e : getN 1 (putN 1 (n % 4294967296)) = n := by
  rw [putN_1, getN_1]
  unfold p1 g1
  omega
 unfold putR
 rw [if_pos ⟨by decide, by decide, e⟩]
theorem imm3 {n : Int} (h : -4096 ≤ n ∧ n ≤ 4094 ∧ n % 2 = 0) : (putR 3 n).2 = true := by
 have e : getN 3 (putN 3 (n % 4294967296)) = n := by
  rw [putN_3, getN_3]
  unfold p3
  rw [g3_of _ _ _ _ (by omega) (by omega) (by omega) (by omega) (by omega) (by omega)]
  omega
 unfold putR
 rw [if_pos ⟨by decide, by decide, e⟩]
theorem imm4 {n : Int} (h : -2147483648 ≤ n ∧ n ≤ 2147483647 ∧ n % 4096 = 0) : (putR 4 n).2 = true := by
 have e : getN 4 (putN 4 (n % 4294967296)) = n := by
  rw [putN_4, getN_4]
  unfold p4 g4
  omega
 unfold putR
 rw [if_pos ⟨by decide, by decide, e⟩]
theorem imm5 {n : Int} (h : -1048576 ≤ n ∧ n ≤ 1048574 ∧ n % 2 = 0) : (putR 5 n).2 = true := by
 have e : getN 5 (putN 5 (n % 4294967296)) = n := by
  rw [putN_5, getN_5]
  unfold p5
  rw [g5_of _ _ _ _ (by omega) (by omega) (by omega) (by omega) (by omega) (by omega)]
  omega
 unfold putR
 rw [if_pos ⟨by decide, by decide, e⟩]
/-- An instruction that has a word. -/
def okY (y : S32) : Prop := okI y.f0 y.f1 y.f2 y.f3 y.f4 = true
/-- What items may be. -/
theorem may_kinds {x : S34} (h : mayB x = true) :
 (x.f0 = 1 ∧ okY x.f1) ∨ (x.f0 = 2 ∧ x.f1.f0 = 0 ∧ x.f1.f1 = 0 ∧ x.f1.f2 = 0 ∧ x.f1.f3 = 0 ∧ x.f1.f4 = 0) ∨
 (x.f0 = 3 ∧ (36 ≤ x.f1.f0 ∧ x.f1.f0 ≤ 41) ∧ x.f1.f4 = 0 ∧ okY x.f1) ∨ (x.f0 = 4 ∧ x.f1.f0 = 44 ∧ x.f1.f4 = 0 ∧ okY x.f1) ∨
 (x.f0 = 5 ∧ (0 < x.f1.f1 ∧ x.f1.f1 < 32) ∧ x.f1.f0 = 0 ∧ x.f1.f2 = 0 ∧ x.f1.f3 = 0) := by
 unfold mayB at h
 have hc : inst_Can.f 20 x.f1.f0 x.f1.f1 x.f1.f2 x.f1.f3 x.f1.f4 = some (okI x.f1.f0 x.f1.f1 x.f1.f2 x.f1.f3 x.f1.f4) := by
  obtain ⟨y, hy, -⟩ := word_is 8 x.f1.f0 x.f1.f1 x.f1.f2 x.f1.f3 x.f1.f4
  unfold inst_Can.f
  rw [hy]
  rfl
 unfold rmay.f at h
 rw [hc] at h
 unfold okY
 by_cases h1 : x.f0 = 1
 · rw [if_pos h1] at h
   exact .inl ⟨h1, h⟩
 · rw [if_neg h1] at h
   by_cases h2 : x.f0 = 2
   · rw [if_pos h2] at h
     have h : (x.f1.f0 == 0 && (x.f1.f1 == 0 && (x.f1.f2 == 0 && (x.f1.f3 == 0 && (x.f1.f4 == 0))))) = true := h
     simp only [Bool.and_eq_true, beq_iff_eq] at h
     exact .inr (.inl ⟨h2, h⟩)
   · rw [if_neg h2] at h
     by_cases h3 : x.f0 = 3
     · rw [if_pos h3] at h
       by_cases a : x.f1.f0 ≥ 36
       · rw [if_pos a] at h
         by_cases b : x.f1.f0 ≤ 41
         · rw [if_pos b] at h
           by_cases d : x.f1.f4 = 0
           · rw [if_pos d] at h
             exact .inr (.inr (.inl ⟨h3, ⟨a, b⟩, d, h⟩))
           · rw [if_neg d] at h; cases h
         · rw [if_neg b] at h; cases h
       · rw [if_neg a] at h; cases h
     · rw [if_neg h3] at h
       by_cases h4 : x.f0 = 4
       · rw [if_pos h4] at h
         by_cases a : x.f1.f0 = 44
         · rw [if_pos a] at h
           by_cases d : x.f1.f4 = 0
           · rw [if_pos d] at h
             exact .inr (.inr (.inr (.inl ⟨h4, a, d, h⟩)))
           · rw [if_neg d] at h; cases h
         · rw [if_neg a] at h; cases h
       · rw [if_neg h4] at h
         by_cases h5 : x.f0 = 5
         · rw [if_pos h5] at h
           by_cases a : x.f1.f1 > 0
           · rw [if_pos a] at h
             by_cases b : x.f1.f1 < 32
             · rw [if_pos b] at h
               have h : (x.f1.f0 == 0 && (x.f1.f2 == 0 && (x.f1.f3 == 0))) = true := h
               simp only [Bool.and_eq_true, beq_iff_eq] at h
               exact .inr (.inr (.inr (.inr ⟨h5, ⟨a, b⟩, h⟩)))
             · rw [if_neg b] at h; cases h
           · rw [if_neg a] at h; cases h
         · rw [if_neg h5] at h; cases h
theorem kinds_of {l : List S34} (ho : okL l) (i : Nat) (hi : i < l.length) : (l.getD i z34).f0 = 1 ∨ (l.getD i z34).f0 = 5 ∨ (l.getD i z34).f0 = 2 ∨ ((l.getD i z34).f0 ≠ 1 ∧ (l.getD i z34).f0 ≠ 5 ∧ (l.getD i z34).f0 ≠ 2 ∧ (lab l l.length (l.getD i z34).f2).isSome = true) := by
 have hn := ho.2.2 i hi
 unfold nameB at hn
 rcases may_kinds (ho.1 i hi) with h | h | h | h | h
 · exact .inl h.1
 · exact .inr (.inr (.inl h.1))
 · refine .inr (.inr (.inr ⟨?_, ?_, ?_, hn (by rw [h.1]; rfl)⟩)) <;> (rw [h.1]; decide)
 · refine .inr (.inr (.inr ⟨?_, ?_, ?_, hn (by rw [h.1]; rfl)⟩)) <;> (rw [h.1]; decide)
 · exact .inr (.inl h.1)
theorem sz_four (x : S34) (f : Bool) : sz x f % 4 = 0 := by
 unfold sz
 repeat' split
 all_goals omega
theorem beg_four (l : List S34) (far : Nat → Bool) : ∀ i, beg l far i % 4 = 0
 | 0 => rfl
 | i + 1 => by
  have h1 := beg_four l far i
  have h2 := sz_four (l.getD i z34) (far i)
  simp only [beg]
  omega
theorem off_four (l : List S34) (far : Nat → Bool) (i : Nat) : off l far i % 4 = 0 := by
 have h1 := beg_four l far (at_ l (l.getD i z34).f2)
 have h2 := beg_four l far i
 unfold off
 omega
/-- There are as many instructions as there is room. -/
theorem insL_len {l : List S34} {far : Nat → Bool} (ho : okL l) (hF : FI l far) {i : Nat} (hi : i < l.length) : 4 * ((insL l far i).length : Int) = sz (l.getD i z34) (far i) := by
 have hf := hF.1 i
 have hm := ho.1 i hi
 unfold insL sz
 simp only
 generalize l.getD i z34 = x at *
 rcases may_kinds hm with h | h | h | h | h
 · have hfi : far i = false := by
    cases q : far i with
    | false => rfl
    | true => have := (hf q).2; rw [h.1] at this; exact absurd this (by decide)
   rw [hfi]
   simp [h.1]
 · simp [h.1]
 · cases q : far i <;> simp [h.1]
 · have hfi : far i = false := by
    cases q : far i with
    | false => rfl
    | true => have := (hf q).2; rw [h.1] at this; exact absurd this (by decide)
   rw [hfi]
   simp [h.1]
 · simp [h.1]
theorem wl_beg {l : List S34} {far : Nat → Bool} (ho : okL l) (hF : FI l far) : ∀ n, n ≤ l.length → 4 * ((wl l far n).length : Int) = beg l far n
 | 0, _ => rfl
 | i + 1, h => by
  have h1 := wl_beg ho hF i (by omega)
  have h2 := insL_len ho hF (show i < l.length by omega)
  simp only [wl, beg, List.length_append, List.length_map]
  omega
theorem turn_in {op : Int} (h : 36 ≤ op ∧ op ≤ 41) : 36 ≤ turnI op ∧ turnI op ≤ 41 ∧ turnI op ≠ op := by
 have : op = 36 ∨ op = 37 ∨ op = 38 ∨ op = 39 ∨ op = 40 ∨ op = 41 := by omega
 rcases this with rfl | rfl | rfl | rfl | rfl | rfl <;> decide +kernel
theorem br_chk : ∀ n : Fin 6, hd (36 + (n.val : Int)) = false ∧ ha (36 + (n.val : Int)) = true ∧ hb (36 + (n.val : Int)) = true ∧ hs (36 + (n.val : Int)) = false ∧ fm (36 + (n.val : Int)) = 3 := by decide +kernel
theorem br_row {op : Int} (h : 36 ≤ op ∧ op ≤ 41) : hd op = false ∧ ha op = true ∧ hb op = true ∧ hs op = false ∧ fm op = 3 := by
 have := br_chk ⟨(op - 36).toNat, by omega⟩
 rwa [show (36 : Int) + ((⟨(op - 36).toNat, by omega⟩ : Fin 6).val : Int) = op by simp; omega] at this
theorem row_19 : hd 19 = true ∧ ha 19 = true ∧ hb 19 = false ∧ hs 19 = false ∧ fm 19 = 1 := by decide +kernel
theorem row_42 : hd 42 = true ∧ ha 42 = false ∧ hb 42 = false ∧ hs 42 = false ∧ fm 42 = 4 := by decide +kernel
theorem row_44 : hd 44 = true ∧ ha 44 = false ∧ hb 44 = false ∧ hs 44 = false ∧ fm 44 = 5 := by decide +kernel
theorem ok_of {op rd rs1 rs2 imm : Int} (h0 : 1 ≤ op) (h1 : op ≤ 46) (a : rd = 0 ∨ (hd op = true ∧ 0 < rd ∧ rd < 32)) (b : rs1 = 0 ∨ (ha op = true ∧ 0 < rs1 ∧ rs1 < 32)) (c : rs2 = 0 ∨ (hb op = true ∧ 0 < rs2 ∧ rs2 < 32)) (hs0 : hs op = false) (hf : fm op ≠ 0) (hp : (putR (fm op) imm).2 = true) : okI op rd rs1 rs2 imm = true := by
 rw [(okI_in op rd rs1 rs2 imm h0 h1).1]
 unfold okV immOk
 rw [decide_eq_true a, decide_eq_true b, decide_eq_true c, hs0, if_neg (by decide), if_neg hf, hp]
 rfl
theorem set_ok {rd n : Int} (h0 : 0 < rd) (h1 : rd < 32) (hn : In32 n) : ∀ y ∈ setL rd n, okY y := by
 intro y hy
 unfold In32 at hn
 unfold okY
 have hw : wrap32 (n - ((n + 2048) % 4096 - 2048)) % 4096 = 0 ∧ -2147483648 ≤ wrap32 (n - ((n + 2048) % 4096 - 2048)) ∧ wrap32 (n - ((n + 2048) % 4096 - 2048)) ≤ 2147483647 := by unfold wrap32; omega
 have hlui : okI 42 rd 0 0 (wrap32 (n - ((n + 2048) % 4096 - 2048))) = true := ok_of (by decide) (by decide) (.inr ⟨row_42.1, h0, h1⟩) (.inl rfl) (.inl rfl) row_42.2.2.2.1 (by rw [row_42.2.2.2.2]; decide) (by rw [row_42.2.2.2.2]; exact imm4 ⟨hw.2.1, hw.2.2, hw.1⟩)
 unfold setL at hy
 rw [if_neg (by omega)] at hy
 split at hy
 · rename_i hs
   rw [List.mem_singleton] at hy
   subst hy
   show okI 19 rd 0 0 n = true
   exact ok_of (by decide) (by decide) (.inr ⟨row_19.1, h0, h1⟩) (.inl rfl) (.inl rfl) row_19.2.2.2.1 (by rw [row_19.2.2.2.2]; decide) (by rw [row_19.2.2.2.2]; exact imm1 hs)
 · split at hy
   · rw [List.mem_singleton] at hy
     subst hy
     exact hlui
   · rcases List.mem_cons.1 hy with rfl | hy
     · exact hlui
     · rw [List.mem_singleton] at hy
       subst hy
       show okI 19 rd rd 0 ((n + 2048) % 4096 - 2048) = true
       exact ok_of (by decide) (by decide) (.inr ⟨row_19.1, h0, h1⟩) (.inr ⟨row_19.2.1, h0, h1⟩) (.inl rfl) row_19.2.2.2.1 (by rw [row_19.2.2.2.2]; decide) (by rw [row_19.2.2.2.2]; exact imm1 (by omega))
theorem br_ok {op rd rs1 rs2 imm n : Int} (h : 36 ≤ op ∧ op ≤ 41) (hk : okI op rd rs1 rs2 imm = true) (op2 : Int) (h2 : 36 ≤ op2 ∧ op2 ≤ 41) (hn : -4096 ≤ n ∧ n ≤ 4094 ∧ n % 2 = 0) : okI op2 rd rs1 rs2 n = true := by
 rw [(okI_in op rd rs1 rs2 imm (by omega) (by omega)).1] at hk
 obtain ⟨a, b, c⟩ := regs_of op rd rs1 rs2 imm hk
 have r1 := br_row h
 have r2 := br_row h2
 refine ok_of (by omega) (by omega) ?_ ?_ ?_ r2.2.2.2.1 (by rw [r2.2.2.2.2]; decide) (by rw [r2.2.2.2.2]; exact imm3 hn)
 · exact a.imp id (fun q => by have := q.1; rw [r1.1] at this; cases this)
 · exact b.imp id (fun q => ⟨r2.2.1, q.2⟩)
 · first | exact c.imp id (fun q => ⟨r2.2.2.1, q.2⟩) | exact c.1.imp id (fun q => ⟨r2.2.2.1, q.2⟩)
theorem jal_ok {rd rs1 rs2 imm n : Int} (hk : okI 44 rd rs1 rs2 imm = true) (hn : -1048576 ≤ n ∧ n ≤ 1048574 ∧ n % 2 = 0) : okI 44 rd rs1 rs2 n = true := by
 rw [(okI_in 44 rd rs1 rs2 imm (by decide) (by decide)).1] at hk
 obtain ⟨a, b, c⟩ := regs_of 44 rd rs1 rs2 imm hk
 first
  | exact ok_of (by decide) (by decide) a b c row_44.2.2.2.1 (by rw [row_44.2.2.2.2]; decide) (by rw [row_44.2.2.2.2]; exact imm5 hn)
  | exact ok_of (by decide) (by decide) a b c.1 row_44.2.2.2.1 (by rw [row_44.2.2.2.2]; decide) (by rw [row_44.2.2.2.2]; exact imm5 hn)
/-- Each of an item's instructions has a word. -/
theorem insL_ok {l : List S34} {far : Nat → Bool} (ho : okL l) (hl : l.length ≤ 4000) (hJ : ∀ x ∈ l, In32 x.f1.f4) (hg : good l far) (hF : FI l far) {i : Nat} (hi : i < l.length) : ∀ y ∈ insL l far i, okY y := by
 intro y hy
 have hf := hF.1 i
 have h4 := off_four l far i
 have hoi := off_in hl far hi
 have hgi := hg i hi
 have hxm : l.getD i z34 ∈ l := by
  have : l.getD i z34 = l[i] := by simp [List.getD, hi]
  rw [this]
  exact List.getElem_mem hi
 unfold insL at hy
 simp only at hy
 unfold okY
 rcases may_kinds (ho.1 i hi) with h | h | h | h | h
 · rw [if_pos h.1, List.mem_singleton] at hy
   subst hy
   exact h.2
 · rw [if_neg (by rw [h.1]; decide), if_neg (by rw [h.1]; decide), if_pos h.1] at hy
   cases hy
 · rw [if_neg (by rw [h.1]; decide), if_neg (by rw [h.1]; decide), if_neg (by rw [h.1]; decide)] at hy
   split at hy
   · rcases List.mem_cons.1 hy with rfl | hy
     · have ht := turn_in h.2.1
       show okI (turnI (l.getD i z34).f1.f0) (l.getD i z34).f1.f1 (l.getD i z34).f1.f2 (l.getD i z34).f1.f3 8 = true
       exact br_ok h.2.1 h.2.2.2 _ ⟨ht.1, ht.2.1⟩ (by decide)
     · rw [List.mem_singleton] at hy
       subst hy
       show okI 44 0 0 0 (off l far i - 4) = true
       exact jal_ok (rd := 0) (rs1 := 0) (rs2 := 0) (imm := 0) (by decide +kernel) (by omega)
   · rename_i hff
     rw [List.mem_singleton] at hy
     subst hy
     have := hgi h.1 (by simpa using hff)
     show okI (l.getD i z34).f1.f0 (l.getD i z34).f1.f1 (l.getD i z34).f1.f2 (l.getD i z34).f1.f3 (off l far i) = true
     exact br_ok h.2.1 h.2.2.2 _ h.2.1 (by omega)
 · rw [if_neg (by rw [h.1]; decide), if_neg (by rw [h.1]; decide), if_neg (by rw [h.1]; decide)] at hy
   have hff : ¬ far i = true := fun q => by have := (hf q).2; rw [h.1] at this; exact absurd this (by decide)
   rw [if_neg hff, List.mem_singleton] at hy
   subst hy
   have h44 := h.2.2.2
   unfold okY at h44
   show okI (l.getD i z34).f1.f0 (l.getD i z34).f1.f1 (l.getD i z34).f1.f2 (l.getD i z34).f1.f3 (off l far i) = true
   rw [h.2.1] at h44 ⊢
   exact jal_ok h44 (by omega)
 · rw [if_neg (by rw [h.1]; decide), if_pos h.1] at hy
   exact set_ok h.2.1.1 h.2.1.2 (hJ _ hxm) y hy
end Go.Proofs.Ytihecimbhhlhaaa.Rl
