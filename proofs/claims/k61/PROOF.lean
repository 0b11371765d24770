import PyProof.Rows.All
import Wide.All
import OpenK.AllK
import Wide.FinOn
import HandS.ForMost
import HandS.Walk
import HandS.Style
import HandS.IsInst
import HandS.Replace
import HandS.Codes
import PySem.Challenge.RW_stormpost_k61_parts_written
set_option Elab.async false
set_option maxRecDepth 100000
/-! The plain law: what the program's writer and reader compute, in plain Lean. -/
namespace K61
/-! ### letters and signs -/
/-- the codes of the signs of a text, in order -/
def lts : List Nat := [32, 33, 34, 35, 36, 38, 39, 40, 41, 42, 43, 44, 45, 46, 47, 48, 49, 50, 51, 52, 53, 54, 55, 56, 57, 58, 59, 60, 61, 62, 63, 64, 65, 66, 67, 68, 69, 70, 71, 72, 73, 74, 75, 76, 77, 78, 79, 80, 81, 82, 83, 84, 85, 86, 87, 88, 89, 90, 91, 92, 93, 94, 95, 96, 97, 98, 99, 100, 101, 102, 103, 104, 105, 106, 107, 108, 109, 110, 111, 112, 113, 114, 115, 116, 117, 118, 119, 120, 121, 122, 123, 124, 125, 126, 10]
theorem lts_len : lts.length = 95 := by decide
/-- the place of a code -/
def at_ (c : Nat) : Nat := lts.findIdx (· == c)
/-- the number that tells a code -/
def sg (c : Nat) : Int := if (at_ c : Int) < 5 then (at_ c : Int) else (at_ c : Int) + 1
theorem at_lt {c : Nat} (h : c ∈ lts) : at_ c < 95 := by
  have := List.findIdx_lt_length_of_exists (xs := lts) (p := (· == c)) ⟨c, h, by simp⟩
  rw [lts_len] at this
  exact this
theorem lts_at {c : Nat} (h : c ∈ lts) : lts[at_ c]? = some c := by
  have hl : at_ c < lts.length := by rw [lts_len]; exact at_lt h
  rw [List.getElem?_eq_getElem hl]
  have h2 := List.findIdx_getElem (xs := lts) (p := (· == c)) (w := hl)
  exact congrArg some (eq_of_beq h2)
/-- the place, asked by a sign -/
def ix (s : Int) : Int := if s < 5 then s else s - 1
theorem ix_sg (c : Nat) : ix (sg c) = (at_ c : Int) := by
  unfold ix sg
  by_cases h : (at_ c : Int) < 5
  · rw [if_pos h, if_pos h]
  · rw [if_neg h, if_neg (by omega)]; omega
theorem sg_lo (c : Nat) : 0 ≤ sg c := by unfold sg; split <;> omega
theorem sg_hi {c : Nat} (h : c ∈ lts) : sg c ≤ 95 := by
  have := at_lt h
  unfold sg; split <;> omega
theorem sg_no (c : Nat) : sg c ≠ 5 := by unfold sg; split <;> omega
theorem sg_five {c : Nat} : sg c < 5 ↔ (at_ c : Int) < 5 := by unfold sg; split <;> omega

/-! ### the writer -/
structure WS where
  parts : List (List Int)
  fixed : Nat
  known : Nat
  closed : Bool
/-- whether the last part takes no more -/
def full (fx : Nat) (ps : List (List Int)) : Bool := !decide (fx < ps.length) || decide ((ps.getLast?.getD []).length = 12)
/-- a sign put behind the last part -/
def addLast (ps : List (List Int)) (s : Int) : List (List Int) := ps.set (ps.length - 1) ((ps.getLast?.getD []) ++ [s])
def push1 (fx : Nat) (ps : List (List Int)) (s : Int) : List (List Int) := addLast (if full fx ps = true then ps ++ [[]] else ps) s
def pushAll (fx : Nat) (ps : List (List Int)) (ss : List Int) : List (List Int) := ss.foldl (push1 fx) ps
theorem addLast_len (ps : List (List Int)) (s : Int) : (addLast ps s).length = ps.length := by unfold addLast; simp
theorem addLast_flat {ps : List (List Int)} (s : Int) (h : ps ≠ []) : (addLast ps s).flatten = ps.flatten ++ [s] := by
  obtain ⟨q, x, rfl⟩ : ∃ q x, ps = q ++ [x] := ⟨ps.dropLast, ps.getLast h, (List.dropLast_concat_getLast h).symm⟩
  unfold addLast
  simp
theorem addLast_get {ps : List (List Int)} (s : Int) {i : Nat} (h : i + 1 < ps.length) : (addLast ps s)[i]? = ps[i]? := by
  unfold addLast
  rw [List.getElem?_set_ne (by omega)]
theorem push1_flat (fx : Nat) (ps : List (List Int)) (s : Int) : (push1 fx ps s).flatten = ps.flatten ++ [s] := by
  unfold push1
  split
  · rw [addLast_flat s (by simp)]; simp
  · rename_i h
    refine addLast_flat s fun e => h ?_
    subst e; simp [full]
theorem push1_len (fx : Nat) (ps : List (List Int)) (s : Int) : ps.length ≤ (push1 fx ps s).length ∧ (push1 fx ps s).length ≤ ps.length + 1 ∧ 0 < (push1 fx ps s).length := by
  unfold push1
  rw [addLast_len]
  split
  · simp
  · rename_i h
    have h2 : fx < ps.length := by
      simp [full] at h
      exact h.1
    omega
/-- what is behind the writer's back stays -/
theorem push1_get (fx : Nat) (ps : List (List Int)) (s : Int) {i : Nat} (h : i < fx) (hl : i < ps.length) : (push1 fx ps s)[i]? = ps[i]? := by
  unfold push1
  split
  · rw [addLast_get s (by simp; omega), List.getElem?_append_left hl]
  · rename_i hf
    have h2 : fx < ps.length := by
      simp [full] at hf
      exact hf.1
    exact addLast_get s (by omega)
theorem pushAll_flat (fx : Nat) : ∀ (ss : List Int) (ps : List (List Int)), (pushAll fx ps ss).flatten = ps.flatten ++ ss
  | [], ps => by simp [pushAll]
  | s :: ss, ps => by
    show (pushAll fx (push1 fx ps s) ss).flatten = _
    rw [pushAll_flat fx ss, push1_flat]; simp
theorem pushAll_len (fx : Nat) : ∀ (ss : List Int) (ps : List (List Int)), ps.length ≤ (pushAll fx ps ss).length ∧ (pushAll fx ps ss).length ≤ ps.length + ss.length
  | [], ps => by simp [pushAll]
  | s :: ss, ps => by
    have h := pushAll_len fx ss (push1 fx ps s)
    have h1 := push1_len fx ps s
    show ps.length ≤ (pushAll fx (push1 fx ps s) ss).length ∧ (pushAll fx (push1 fx ps s) ss).length ≤ _
    simp only [List.length_cons]
    omega
theorem pushAll_get (fx : Nat) : ∀ (ss : List Int) (ps : List (List Int)) {i : Nat}, i < fx → i < ps.length → (pushAll fx ps ss)[i]? = ps[i]?
  | [], ps, i, _, _ => rfl
  | s :: ss, ps, i, h, hl => by
    show (pushAll fx (push1 fx ps s) ss)[i]? = _
    have h1 := push1_len fx ps s
    rw [pushAll_get fx ss (push1 fx ps s) h (by omega), push1_get fx ps s h hl]
theorem pushAll_snoc (fx : Nat) (ps : List (List Int)) (ss : List Int) (s : Int) : pushAll fx ps (ss ++ [s]) = push1 fx (pushAll fx ps ss) s := by
  unfold pushAll; rw [List.foldl_append]; rfl

def WS.new : WS := ⟨[], 0, 0, false⟩
def WS.wr (S : WS) (ss : List Int) : WS := { S with parts := pushAll S.fixed S.parts ss }
def WS.cl (S : WS) : WS := { S with parts := if S.fixed < S.parts.length then S.parts else S.parts ++ [[]], closed := true }
def WS.had (S : WS) (n : Nat) : WS := { S with known := max S.known (min n S.parts.length) }
def WS.to (S : WS) : Nat := min (S.known + 4) S.parts.length
def WS.sent (S : WS) : WS := { S with fixed := max S.fixed S.to }
def WS.left (S : WS) : Nat := S.parts.length - S.known
/-- how a part is told -/
def bodyOf (cl : Bool) (ps : List (List Int)) (i : Nat) : List Int := (if cl = true ∧ i + 1 = ps.length then 1 else 0) :: (ps[i]?.getD [])
def WS.body (S : WS) (i : Nat) : List Int := bodyOf S.closed S.parts i
def WS.due (S : WS) : List (List Int) := (List.range (S.to - S.known)).map fun k => S.body (S.known + k)
theorem due_len (S : WS) : S.due.length = S.to - S.known := by simp [WS.due]
theorem due_get {S : WS} {k : Nat} (h : k < S.to - S.known) : S.due[k]? = some (S.body (S.known + k)) := by
  unfold WS.due
  rw [List.getElem?_map, List.getElem?_range h]; rfl

theorem sent_to (S : WS) : S.sent.to = S.to := rfl
theorem sent_due (S : WS) : S.sent.due = S.due := rfl
theorem sent_sent (S : WS) : S.sent.sent = S.sent := by
  show ({ S with fixed := max (max S.fixed S.to) S.to } : WS) = { S with fixed := max S.fixed S.to }
  rw [Nat.max_assoc, Nat.max_self]
theorem sent_left (S : WS) : S.sent.left = S.left := rfl
/-! ### what holds between two deeds: sc the signs written, m how many parts were told -/
structure Good (S : WS) (sc : List Int) (bs : List (List Int)) : Prop where
  flat : S.parts.flatten = sc
  fix : bs.length = S.fixed
  le : S.fixed ≤ S.parts.length
  kn : S.known ≤ S.fixed
  bd : ∀ i, i < S.fixed → bs[i]? = some (S.body i)
  cl : S.closed = true → S.parts ≠ []
theorem Good.new : Good WS.new [] [] := ⟨rfl, rfl, Nat.le_refl _, Nat.le_refl _, fun _ h => absurd h (Nat.not_lt_zero _), fun h => nomatch h⟩
theorem body_open {S : WS} (h : S.closed = false) (i : Nat) : S.body i = 0 :: (S.parts[i]?.getD []) := by
  unfold WS.body bodyOf; rw [h, if_neg (fun z => nomatch z.1)]
theorem Good.wr {S : WS} {sc ss : List Int} {bs : List (List Int)} (G : Good S sc bs) (ho : S.closed = false) : Good (S.wr ss) (sc ++ ss) bs := by
  have hl := pushAll_len S.fixed ss S.parts
  refine ⟨?_, G.fix, Nat.le_trans G.le hl.1, G.kn, fun i h => ?_, fun h => ?_⟩
  · show (pushAll S.fixed S.parts ss).flatten = _
    rw [pushAll_flat, G.flat]
  · have h : i < S.fixed := h
    have hb := G.bd i h
    rw [body_open ho] at hb
    rw [body_open (S := S.wr ss) ho]
    show bs[i]? = some (0 :: ((pushAll S.fixed S.parts ss)[i]?.getD []))
    rw [pushAll_get S.fixed ss S.parts h (Nat.lt_of_lt_of_le h G.le)]
    exact hb
  · have h : S.closed = true := h
    rw [ho] at h; cases h
theorem Good.cl' {S : WS} {sc : List Int} {bs : List (List Int)} (G : Good S sc bs) (ho : S.closed = false) : Good S.cl sc bs := by
  have hle := G.le
  refine ⟨?_, G.fix, ?_, G.kn, fun i h => ?_, fun _ => ?_⟩
  · show (if S.fixed < S.parts.length then S.parts else S.parts ++ [[]]).flatten = _
    split
    · exact G.flat
    · simp [G.flat]
  · show S.fixed ≤ (if S.fixed < S.parts.length then S.parts else S.parts ++ [[]]).length
    split
    · exact G.le
    · simp; omega
  · have h : i < S.fixed := h
    have hb := G.bd i h
    rw [body_open ho] at hb
    rw [hb]
    show some _ = some (bodyOf true (if S.fixed < S.parts.length then S.parts else S.parts ++ [[]]) i)
    unfold bodyOf
    split
    · rw [if_neg (by omega)]
    · rw [if_neg (by simp; omega), List.getElem?_append_left (by omega)]
  · show (if S.fixed < S.parts.length then S.parts else S.parts ++ [[]]) ≠ []
    split
    · rename_i h
      intro e; rw [e] at h; exact absurd h (Nat.not_lt_zero _)
    · simp
theorem Good.had {S : WS} {sc : List Int} {bs : List (List Int)} (G : Good S sc bs) {n : Nat} (hn : n ≤ bs.length) : Good (S.had n) sc bs := by
  have hle := G.le
  have hf := G.fix
  refine ⟨G.flat, G.fix, G.le, ?_, G.bd, G.cl⟩
  show max S.known (min n S.parts.length) ≤ S.fixed
  have := G.kn
  omega
/-- the parts that are told from now on -/
def seenOf (S : WS) : List (List Int) := (List.range (max S.fixed S.to)).map S.body
theorem Good.sent {S : WS} {sc : List Int} {bs : List (List Int)} (G : Good S sc bs) : Good S.sent sc (seenOf S) := by
  have hle := G.le
  have hk := G.kn
  refine ⟨G.flat, by simp [seenOf]; rfl, ?_, ?_, fun i h => ?_, G.cl⟩
  · show max S.fixed S.to ≤ S.parts.length
    unfold WS.to; omega
  · show S.known ≤ max S.fixed S.to
    omega
  · have h : i < max S.fixed S.to := h
    unfold seenOf
    rw [List.getElem?_map, List.getElem?_range h]; rfl
theorem due_nil {S : WS} (h : S.known ≤ S.parts.length) : S.due = [] ↔ S.left = 0 := by
  have h1 := due_len S
  rw [← List.length_eq_zero_iff, h1]
  unfold WS.left WS.to; omega
/-- a part that was told is told alike -/
theorem Good.again {S : WS} {sc : List Int} {bs : List (List Int)} (G : Good S sc bs) {i : Nat} {b : List Int} (h : bs[i]? = some b) : b = S.body i := by
  have hl : i < bs.length := (List.getElem?_eq_some_iff.mp h).1
  have e := G.bd i (by rw [← G.fix]; exact hl)
  rw [h] at e
  exact Option.some.inj e
theorem Good.seen {S : WS} {sc : List Int} {bs : List (List Int)} (G : Good S sc bs) : bs = (List.range S.fixed).map S.body := by
  refine List.ext_getElem? fun i => ?_
  by_cases h : i < S.fixed
  · rw [G.bd i h, List.getElem?_map, List.getElem?_range h]; rfl
  · rw [List.getElem?_eq_none (by rw [G.fix]; omega), List.getElem?_eq_none (by simp; omega)]
/-! ### the reader, part by part -/
/-- the signs of the first i parts -/
def sigs (bs : List (List Int)) (i : Nat) : List Int := (bs.take i).flatMap (·.drop 1)
def flag (bs : List (List Int)) : Nat → Bool
  | 0 => false
  | i + 1 => decide ((bs[i]?.getD []).headD 0 = 1)
theorem sigs_succ {bs : List (List Int)} {i : Nat} {b : List Int} (h : bs[i]? = some b) : sigs bs (i + 1) = sigs bs i ++ b.drop 1 := by
  unfold sigs
  rw [List.take_add_one, h, List.flatMap_append]
  simp
theorem flat_drop (cl : Bool) (ps : List (List Int)) : ((List.range ps.length).map (bodyOf cl ps)).flatMap (·.drop 1) = ps.flatten := by
  have h : ((List.range ps.length).map (bodyOf cl ps)).map (·.drop 1) = ps := by
    refine List.ext_getElem? fun i => ?_
    by_cases h : i < ps.length
    · rw [List.getElem?_map, List.getElem?_map, List.getElem?_range h, List.getElem?_eq_getElem h]
      simp [bodyOf, h]
    · rw [List.getElem?_eq_none (by simp; omega), List.getElem?_eq_none (by omega)]
  rw [List.flatMap_def, h]
theorem Good.read {S : WS} {sc : List Int} {bs : List (List Int)} (G : Good S sc bs) (h : S.left = 0) : sigs bs bs.length = sc ∧ flag bs bs.length = S.closed ∧ bs.length = S.parts.length := by
  have hk := G.kn
  have hle := G.le
  have e : S.fixed = S.parts.length := by unfold WS.left at h; omega
  have hb := G.fix
  refine ⟨?_, ?_, by omega⟩
  · unfold sigs
    rw [List.take_length, G.seen, e]
    show ((List.range S.parts.length).map (bodyOf S.closed S.parts)).flatMap (·.drop 1) = sc
    rw [flat_drop, G.flat]
  · cases hn : S.parts.length with
    | zero =>
      rw [hb, e, hn]
      cases hc : S.closed with
      | false => rfl
      | true => exact absurd (List.length_eq_zero_iff.mp hn) (G.cl hc)
    | succ n =>
      rw [hb, e, hn]
      show decide ((bs[n]?.getD []).headD 0 = 1) = _
      rw [G.bd n (by omega)]
      show decide ((bodyOf S.closed S.parts n).headD 0 = 1) = _
      unfold bodyOf
      cases hc : S.closed with
      | false => simp
      | true => simp [hn]
/-! ### the text, read back -/
def letOf (s : Int) : Nat := lts.getD (ix s).toNat 0
theorem letOf_sg {c : Nat} (h : c ∈ lts) : letOf (sg c) = c := by
  unfold letOf
  rw [ix_sg, Int.toNat_natCast, List.getD_eq_getElem?_getD, lts_at h]
  rfl
theorem letOf_map {l : List Nat} (h : ∀ c ∈ l, c ∈ lts) : (l.map sg).map letOf = l := by
  rw [List.map_map]
  conv => rhs; rw [← List.map_id l]
  exact List.map_congr_left fun c hc => letOf_sg (h c hc)
theorem letOf_at {c : Nat} (h : c ∈ lts) : lts[(ix (sg c)).toNat]? = some c := by
  rw [ix_sg, Int.toNat_natCast]; exact lts_at h
end K61

/-! The text by places, what stands in the heap, what each def promises. -/
namespace K61
open PySem L2
/-! ### 1. The text by places -/
def top (i : Nat) : Stmt := PySem.Challenge.pw_stormpost_k61_parts_written.main.body.getD i (.Pass ⟨0, 0, 0, 0⟩)
abbrev sSignOf : Stmt := top 8
abbrev sTextSigns : Stmt := top 9
abbrev sLetterOf : Stmt := top 10
abbrev sSignsText : Stmt := top 11
abbrev sWInit : Stmt := inClass (top 15) 0
abbrev sAskOpen : Stmt := inClass (top 15) 1
abbrev sLastFree : Stmt := inClass (top 15) 2
abbrev sWrite : Stmt := inClass (top 15) 3
abbrev sClose : Stmt := inClass (top 15) 4
abbrev sBodyOf : Stmt := inClass (top 15) 5
abbrev sDue : Stmt := inClass (top 15) 6
abbrev sHad : Stmt := inClass (top 15) 7
abbrev sIsDone : Stmt := inClass (top 15) 8
abbrev sLeft : Stmt := inClass (top 15) 9
abbrev sRInit : Stmt := inClass (top 17) 0
abbrev sTake : Stmt := inClass (top 17) 1
abbrev sText : Stmt := inClass (top 17) 2
abbrev sEnded : Stmt := inClass (top 17) 3
abbrev sWhole : Stmt := top 20
abbrev sMixed : Stmt := top 21
abbrev sLSign : Stmt := top 22
abbrev sRow : Stmt := top 23
abbrev sLText : Stmt := top 24
abbrev sDueRight : Stmt := top 25
abbrev sLRead : Stmt := top 26
abbrev sFresh : Stmt := top 27
abbrev sLaw : Stmt := top 28
/-! ### 2. What stands in the heap -/
def ltS : Str := ⟨lts.toArray⟩
/-- all but fp stands as it stood, and is none of fp' -/
def Stay (fp : List Addr) (H : Hp) (fp' : List Addr) (H' : Hp) : Prop := ∀ b o, H b = some o → b ∉ fp → H' b = some o ∧ b ∉ fp'
theorem Stay.trans {fp fp1 fp2 : List Addr} {H H1 H2 : Hp} (a : Stay fp H fp1 H1) (b : Stay fp1 H1 fp2 H2) : Stay fp H fp2 H2 := fun c o e n => b c o (a c o e n).1 (a c o e n).2
theorem Stay.same {fp : List Addr} {H H' : Hp} (e : Same H H') : Stay fp H fp H' := fun b o h n => ⟨e b o h, n⟩
/-- all but p stands as it stood -/
def But (p : Addr) (H H' : Hp) : Prop := ∀ b o, H b = some o → b ≠ p → H' b = some o
theorem But.trans {p : Addr} {H H1 H2 : Hp} (a : But p H H1) (b : But p H1 H2) : But p H H2 := fun c o e n => b c o (a c o e n) n
theorem But.same {p : Addr} {H H' : Hp} (e : Same H H') : But p H H' := fun b o h _ => e b o h
theorem But.stay {p l : Addr} {as : List Addr} {H H' : Hp} (a : But p H H') : Stay (p :: l :: as) H (p :: l :: as) H' := fun b o h n => ⟨a b o h fun e => n (by rw [e]; exact List.mem_cons_self), n⟩
theorem But.upd {p : Addr} {H : Hp} {o : HO} : But p H (upd H p o) := fun b u h n => by rw [upd_ne n]; exact h
theorem same_new {p : Addr} {H : Hp} {o : HO} (h : H p = none) : Same H (upd H p o) := fun b u e => by rw [upd_ne (ne_of_none e h)]; exact e

theorem kpf : ¬ (("parts" : Str) = "fixed") := by decide +kernel
theorem kpk : ¬ (("parts" : Str) = "known") := by decide +kernel
theorem kpc : ¬ (("parts" : Str) = "closed") := by decide +kernel
theorem kfk : ¬ (("fixed" : Str) = "known") := by decide +kernel
theorem kfc : ¬ (("fixed" : Str) = "closed") := by decide +kernel
theorem kkc : ¬ (("known" : Str) = "closed") := by decide +kernel
/-- a writer's attributes -/
def wf (l : Addr) (fx kn : Int) (cl : Bool) : List (Str × V) := putF "closed" (.bl cl) (putF "known" (.int kn) (putF "fixed" (.int fx) (putF "parts" (.ref l) [])))
theorem wf_eq (l : Addr) (fx kn : Int) (cl : Bool) : wf l fx kn cl = ([("parts", V.ref l), ("fixed", V.int fx), ("known", V.int kn), ("closed", V.bl cl)] : List (Str × V)) := by
  simp only [wf, putF, if_neg kpf, if_neg kpk, if_neg kpc, if_neg kfk, if_neg kfc, if_neg kkc]
theorem wf_parts (l : Addr) (fx kn : Int) (cl : Bool) : (wf l fx kn cl).lookup ("parts" : Str) = some (.ref l) := by
  unfold wf
  rw [lookup_putF, if_neg kpc, lookup_putF, if_neg kpk, lookup_putF, if_neg kpf, lookup_putF, if_pos rfl]
theorem wf_fixed (l : Addr) (fx kn : Int) (cl : Bool) : (wf l fx kn cl).lookup ("fixed" : Str) = some (.int fx) := by
  unfold wf
  rw [lookup_putF, if_neg kfc, lookup_putF, if_neg kfk, lookup_putF, if_pos rfl]
theorem wf_known (l : Addr) (fx kn : Int) (cl : Bool) : (wf l fx kn cl).lookup ("known" : Str) = some (.int kn) := by
  unfold wf
  rw [lookup_putF, if_neg kkc, lookup_putF, if_pos rfl]
theorem wf_closed (l : Addr) (fx kn : Int) (cl : Bool) : (wf l fx kn cl).lookup ("closed" : Str) = some (.bl cl) := by
  unfold wf
  rw [lookup_putF, if_pos rfl]
theorem wf_no (l : Addr) (fx kn : Int) (cl : Bool) {m : Str} (h1 : ¬ m = "closed") (h2 : ¬ m = "known") (h3 : ¬ m = "fixed") (h4 : ¬ m = "parts") : (wf l fx kn cl).lookup m = none := by
  unfold wf
  rw [lookup_putF, if_neg h1, lookup_putF, if_neg h2, lookup_putF, if_neg h3, lookup_putF, if_neg h4]
  all_goals rfl
theorem wf_len (l : Addr) (fx kn : Int) (cl : Bool) : (wf l fx kn cl).length < 1000 := by
  rw [wf_eq]; show 4 < 1000; decide
theorem wf_pf (l : Addr) (fx kn : Int) (cl : Bool) (y : Int) : putF "fixed" (.int y) (wf l fx kn cl) = wf l y kn cl := by
  rw [wf_eq, wf_eq]
  simp only [putF, if_neg kpf, if_pos]
theorem wf_pk (l : Addr) (fx kn : Int) (cl : Bool) (y : Int) : putF "known" (.int y) (wf l fx kn cl) = wf l fx y cl := by
  rw [wf_eq, wf_eq]
  simp only [putF, if_neg kpk, if_neg kfk, if_pos]
theorem wf_pc (l : Addr) (fx kn : Int) (cl y : Bool) : putF "closed" (.bl y) (wf l fx kn cl) = wf l fx kn y := by
  rw [wf_eq, wf_eq]
  simp only [putF, if_neg kpc, if_neg kfc, if_neg kkc, if_pos]
/-- a Writer stands at p, its list of parts at l, the parts at as -/
structure WrAt (C : Addr) (H : Hp) (p l : Addr) (as : List Addr) (S : WS) : Prop where
  ob : ∃ dx, H p = some (.ins C dx (wf l S.fixed S.known S.closed))
  ls : H l = some (.lst (as.map V.ref))
  len : as.length = S.parts.length
  nd : as.Nodup
  nl : l ∉ as
  kn : S.known ≤ S.parts.length
  at_ : ∀ (j : Nat) (a : Addr), as[j]? = some a → ∃ xs, S.parts[j]? = some xs ∧ H a = some (.lst (xs.map V.int))
/-- how much a writer holds -/
def size (S : WS) : Nat := S.parts.length + S.parts.flatten.length
theorem WrAt.np {C p l : Addr} {H : Hp} {as : List Addr} {S : WS} (W : WrAt C H p l as S) : p ∉ as := fun hm => by
  obtain ⟨j, hj⟩ := List.getElem?_of_mem hm
  obtain ⟨xs, _, hx⟩ := W.at_ j p hj
  obtain ⟨dx, ho⟩ := W.ob
  rw [ho] at hx; cases hx
theorem WrAt.npl {C p l : Addr} {H : Hp} {as : List Addr} {S : WS} (W : WrAt C H p l as S) : p ≠ l := by
  obtain ⟨dx, ho⟩ := W.ob
  exact ne_of ho W.ls (by intro z; cases z)
/-- the writer's instance alone has changed -/
theorem WrAt.turned {C p l : Addr} {H H' : Hp} {as : List Addr} {S S' : WS} (W : WrAt C H p l as S) (ob : ∃ dx, H' p = some (.ins C dx (wf l S'.fixed S'.known S'.closed))) (b : But p H H') (e : S'.parts = S.parts) (k : S'.known ≤ S'.parts.length) : WrAt C H' p l as S' := by
  refine ⟨ob, b _ _ W.ls W.npl.symm, by rw [e]; exact W.len, W.nd, W.nl, k, fun j a ha => ?_⟩
  obtain ⟨xs, h1, h2⟩ := W.at_ j a ha
  exact ⟨xs, by rw [e]; exact h1, b _ _ h2 fun z => W.np (by rw [← z]; exact List.mem_of_getElem? ha)⟩
theorem WrAt.same {C p l : Addr} {H H' : Hp} {as : List Addr} {S : WS} (W : WrAt C H p l as S) (e : Same H H') : WrAt C H' p l as S :=
  W.turned (let ⟨dx, h⟩ := W.ob; ⟨dx, e _ _ h⟩) (But.same e) rfl W.kn
/-- what stands apart from a writer -/
theorem WrAt.apart {C p l : Addr} {H : Hp} {as : List Addr} {S : WS} (W : WrAt C H p l as S) {b : Addr} {o : HO} (h : H b = some o) (h1 : ∀ D dx fs, o ≠ .ins D dx fs) (h2 : ∀ xs, o ≠ .lst xs) : b ∉ p :: l :: as := fun hm => by
  rcases List.mem_cons.mp hm with e | hm
  · obtain ⟨dx, ho⟩ := W.ob
    rw [e, ho] at h; exact h1 _ _ _ (Option.some.inj h).symm
  rcases List.mem_cons.mp hm with e | hm
  · rw [e, W.ls] at h; exact h2 _ (Option.some.inj h).symm
  · obtain ⟨j, hj⟩ := List.getElem?_of_mem hm
    obtain ⟨xs, _, hx⟩ := W.at_ j b hj
    rw [hx] at h; exact h2 _ (Option.some.inj h).symm

theorem ksn : ¬ (("signs" : Str) = "count") := by decide +kernel
theorem kse : ¬ (("signs" : Str) = "early") := by decide +kernel
theorem ksc : ¬ (("signs" : Str) = "closed") := by decide +kernel
theorem kne : ¬ (("count" : Str) = "early") := by decide +kernel
theorem knc : ¬ (("count" : Str) = "closed") := by decide +kernel
theorem kec : ¬ (("early" : Str) = "closed") := by decide +kernel
/-- a reader's attributes -/
def rf (sl : Addr) (n : Int) (ed : Addr) (cl : Bool) : List (Str × V) := putF "closed" (.bl cl) (putF "early" (.ref ed) (putF "count" (.int n) (putF "signs" (.ref sl) [])))
theorem rf_eq (sl : Addr) (n : Int) (ed : Addr) (cl : Bool) : rf sl n ed cl = ([("signs", V.ref sl), ("count", V.int n), ("early", V.ref ed), ("closed", V.bl cl)] : List (Str × V)) := by
  simp only [rf, putF, if_neg ksn, if_neg kse, if_neg ksc, if_neg kne, if_neg knc, if_neg kec]
theorem rf_signs (sl : Addr) (n : Int) (ed : Addr) (cl : Bool) : (rf sl n ed cl).lookup ("signs" : Str) = some (.ref sl) := by
  unfold rf
  rw [lookup_putF, if_neg ksc, lookup_putF, if_neg kse, lookup_putF, if_neg ksn, lookup_putF, if_pos rfl]
theorem rf_count (sl : Addr) (n : Int) (ed : Addr) (cl : Bool) : (rf sl n ed cl).lookup ("count" : Str) = some (.int n) := by
  unfold rf
  rw [lookup_putF, if_neg knc, lookup_putF, if_neg kne, lookup_putF, if_pos rfl]
theorem rf_early (sl : Addr) (n : Int) (ed : Addr) (cl : Bool) : (rf sl n ed cl).lookup ("early" : Str) = some (.ref ed) := by
  unfold rf
  rw [lookup_putF, if_neg kec, lookup_putF, if_pos rfl]
theorem rf_closed (sl : Addr) (n : Int) (ed : Addr) (cl : Bool) : (rf sl n ed cl).lookup ("closed" : Str) = some (.bl cl) := by
  unfold rf
  rw [lookup_putF, if_pos rfl]
theorem rf_no (sl : Addr) (n : Int) (ed : Addr) (cl : Bool) {m : Str} (h1 : ¬ m = "closed") (h2 : ¬ m = "early") (h3 : ¬ m = "count") (h4 : ¬ m = "signs") : (rf sl n ed cl).lookup m = none := by
  unfold rf
  rw [lookup_putF, if_neg h1, lookup_putF, if_neg h2, lookup_putF, if_neg h3, lookup_putF, if_neg h4]
  all_goals rfl
theorem rf_len (sl : Addr) (n : Int) (ed : Addr) (cl : Bool) : (rf sl n ed cl).length < 1000 := by
  rw [rf_eq]; show 4 < 1000; decide
theorem rf_pn (sl : Addr) (n : Int) (ed : Addr) (cl : Bool) (y : Int) : putF "count" (.int y) (rf sl n ed cl) = rf sl y ed cl := by
  rw [rf_eq, rf_eq]
  simp only [putF, if_neg ksn, if_pos]
theorem rf_pc (sl : Addr) (n : Int) (ed : Addr) (cl y : Bool) : putF "closed" (.bl y) (rf sl n ed cl) = rf sl n ed y := by
  rw [rf_eq, rf_eq]
  simp only [putF, if_neg ksc, if_neg knc, if_neg kec, if_pos]
/-- a Reader stands at p, its signs at sl, its early parts at ed -/
structure RdAt (R : Addr) (H : Hp) (p sl ed : Addr) (ss : List Int) (kvs : List (Key × V)) (n : Nat) (cl : Bool) : Prop where
  ob : ∃ dx, H p = some (.ins R dx (rf sl n ed cl))
  sg : H sl = some (.lst (ss.map V.int))
  ea : H ed = some (.dK kvs)
theorem RdAt.same {R p sl ed : Addr} {H H' : Hp} {ss : List Int} {kvs : List (Key × V)} {n : Nat} {cl : Bool} (D : RdAt R H p sl ed ss kvs n cl) (e : Same H H') : RdAt R H' p sl ed ss kvs n cl :=
  ⟨let ⟨dx, h⟩ := D.ob; ⟨dx, e _ _ h⟩, e _ _ D.sg, e _ _ D.ea⟩
/-- all but three stands as it stood -/
def But3 (p q r : Addr) (H H' : Hp) : Prop := ∀ b o, H b = some o → b ≠ p → b ≠ q → b ≠ r → H' b = some o
/-! the parts that were told, in a dict -/
def kvOf : Nat → List Addr → List (Key × V)
  | _, [] => []
  | n, t :: ts => (Sum.inl (n : Int), V.ref t) :: kvOf (n + 1) ts
theorem kvOf_len : ∀ (ts : List Addr) (n : Nat), (kvOf n ts).length = ts.length
  | [], _ => rfl
  | t :: ts, n => by show (kvOf (n + 1) ts).length + 1 = _; rw [kvOf_len ts (n + 1)]; rfl
theorem kvOf_get : ∀ (ts : List Addr) (n i : Nat), valV (kvOf n ts) (Sum.inl ((n + i : Nat) : Int)) = (ts[i]?).map V.ref
  | [], n, i => by simp [kvOf, valV]
  | t :: ts, n, 0 => by
    show valV ((Sum.inl (n : Int), V.ref t) :: kvOf (n + 1) ts) _ = _
    unfold valV
    rw [List.find?_cons_of_pos (by simp)]
    simp
  | t :: ts, n, i + 1 => by
    have ih := kvOf_get ts (n + 1) i
    show valV ((Sum.inl (n : Int), V.ref t) :: kvOf (n + 1) ts) _ = _
    have e : ((n + (i + 1) : Nat) : Int) = ((n + 1 + i : Nat) : Int) := by omega
    rw [e]
    unfold valV at ih ⊢
    rw [List.find?_cons_of_neg (by simp; omega), ih]
    simp
theorem kvOf_out : ∀ (ts : List Addr) (n : Nat) (z : Int), z < n → valV (kvOf n ts) (Sum.inl z) = none
  | [], n, z, _ => by simp [kvOf, valV]
  | t :: ts, n, z, h => by
    have ih := kvOf_out ts (n + 1) z (by omega)
    show valV ((Sum.inl (n : Int), V.ref t) :: kvOf (n + 1) ts) _ = _
    unfold valV at ih ⊢
    rw [List.find?_cons_of_neg (by simp; omega), ih]
theorem kvOf_snoc : ∀ (ts : List Addr) (n : Nat) (t : Addr), kvOf n (ts ++ [t]) = kvOf n ts ++ [(Sum.inl ((n + ts.length : Nat) : Int), V.ref t)]
  | [], n, t => rfl
  | a :: ts, n, t => by
    show (Sum.inl (n : Int), V.ref a) :: kvOf (n + 1) (ts ++ [t]) = (Sum.inl (n : Int), V.ref a) :: (kvOf (n + 1) ts ++ _)
    rw [kvOf_snoc ts (n + 1) t, List.length_cons]
    have e : ((n + 1 + ts.length : Nat) : Int) = ((n + (ts.length + 1) : Nat) : Int) := by omega
    rw [e]
structure SeenAt (H : Hp) (sd : Addr) (ts : List Addr) (bs : List (List Int)) : Prop where
  d : H sd = some (.dK (kvOf 0 ts))
  len : ts.length = bs.length
  at_ : ∀ (i : Nat) (t : Addr), ts[i]? = some t → ∃ b, bs[i]? = some b ∧ H t = some (.tup (b.map V.int))
/-- the list that due tells -/
structure DueAt (H : Hp) (D : Addr) (k0 : Nat) (bs : List (List Int)) (ts : List (Addr × Addr)) : Prop where
  l : H D = some (.lst (ts.map fun t => V.ref t.1))
  len : ts.length = bs.length
  at_ : ∀ (i : Nat) (t : Addr × Addr), ts[i]? = some t → ∃ b, bs[i]? = some b ∧ H t.1 = some (.tup [.int ((k0 + i : Nat) : Int), .ref t.2]) ∧ H t.2 = some (.tup (b.map V.int))
/-! ### 3. The promises -/
def spSignOf : Sp := fun vs H Q _ => ∃ c, vs = [.str ⟨#[c]⟩] ∧ c ∈ lts ∧ Q (.int (sg c)) H
def spTextSigns : Sp := fun vs H Q _ => ∃ z : Str, vs = [.str z] ∧ (∀ c ∈ z.cps.toList, c ∈ lts) ∧ z.length ≤ 100000 ∧ ∀ D H', H D = none → H' D = some (.lst ((z.cps.toList.map sg).map V.int)) → Same H H' → Q (.ref D) H'
def spLetterOf : Sp := fun vs H Q _ => ∃ c, vs = [.int (sg c)] ∧ c ∈ lts ∧ Q (.str ⟨#[c]⟩) H
def spSignsText (K : PySem.W.Frag) : Sp := fun vs H Q _ => ∃ (a : Addr) (cs : List Nat), vs = [.ref a] ∧ SqL K H a ((cs.map sg).map V.int) ∧ (∀ c ∈ cs, c ∈ lts) ∧ cs.length ≤ 100000 ∧ ∀ H', Same H H' → Q (.str ⟨cs.toArray⟩) H'
def spWInit (C : Addr) : Sp := fun vs H Q _ => ∃ (p dx : Addr), vs = [.ref p] ∧ H p = some (.ins C dx []) ∧ ∀ (l : Addr) (H' : Hp), H l = none → WrAt C H' p l [] WS.new → But p H H' → Q .non H'
def spAskOpen (C : Addr) : Sp := fun vs H Q _ => ∃ p l as S, vs = [.ref p] ∧ WrAt C H p l as S ∧ S.closed = false ∧ Q .non H
def spLastFree (C : Addr) : Sp := fun vs H Q _ => ∃ p l as S, vs = [.ref p] ∧ WrAt C H p l as S ∧ Q (.bl (decide (S.fixed < S.parts.length))) H
def spWrite (C : Addr) : Sp := fun vs H Q _ => ∃ p l as S, ∃ z : Str, vs = [.ref p, .str z] ∧ WrAt C H p l as S ∧ S.closed = false ∧ (∀ c ∈ z.cps.toList, c ∈ lts) ∧ z.length ≤ 1000 ∧ size S ≤ 90000 ∧
  ∀ as' H', WrAt C H' p l as' (S.wr (z.cps.toList.map sg)) → Stay (p :: l :: as) H (p :: l :: as') H' → Q .non H'
def spClose (C : Addr) : Sp := fun vs H Q _ => ∃ p l as S, vs = [.ref p] ∧ WrAt C H p l as S ∧ S.closed = false ∧ size S ≤ 90000 ∧
  ∀ as' H', WrAt C H' p l as' S.cl → Stay (p :: l :: as) H (p :: l :: as') H' → Q .non H'
def spBodyOf (C : Addr) : Sp := fun vs H Q _ => ∃ p l as S, ∃ k : Nat, vs = [.ref p, .int k] ∧ WrAt C H p l as S ∧ k < S.parts.length ∧ size S ≤ 90000 ∧
  ∀ u H', H u = none → H' u = some (.tup ((S.body k).map V.int)) → Same H H' → Q (.ref u) H'
def spDue (C : Addr) : Sp := fun vs H Q _ => ∃ p l as S, vs = [.ref p] ∧ WrAt C H p l as S ∧ size S ≤ 90000 ∧
  ∀ D ts H', DueAt H' D S.known S.due ts → WrAt C H' p l as S.sent → But p H H' → Q (.ref D) H'
def spHad (C : Addr) : Sp := fun vs H Q _ => ∃ p l as S, ∃ n : Nat, vs = [.ref p, .int n] ∧ WrAt C H p l as S ∧ ∀ H', WrAt C H' p l as (S.had n) → But p H H' → Q .non H'
def spIsDone (C : Addr) : Sp := fun vs H Q _ => ∃ p l as S, vs = [.ref p] ∧ WrAt C H p l as S ∧ Q (.bl (S.closed && decide (S.left = 0))) H
def spLeft (C : Addr) : Sp := fun vs H Q _ => ∃ p l as S, vs = [.ref p] ∧ WrAt C H p l as S ∧ Q (.int (S.left : Nat)) H
def spRInit (R : Addr) : Sp := fun vs H Q _ => ∃ (p dx : Addr), vs = [.ref p] ∧ H p = some (.ins R dx []) ∧ ∀ (sl ed : Addr) (H' : Hp), H sl = none → H ed = none → RdAt R H' p sl ed [] [] 0 false → But p H H' → Q .non H'
def spTake (R : Addr) : Sp := fun vs H Q _ => ∃ p sl ed ss, ∃ n : Nat, ∃ cl, ∃ t : Addr, ∃ bd : List Int, vs = [.ref p, .int n, .ref t] ∧ RdAt R H p sl ed ss [] n cl ∧ H t = some (.tup (bd.map V.int)) ∧ bd ≠ [] ∧ ss.length + bd.length ≤ 100000 ∧
  ∀ H', RdAt R H' p sl ed (ss ++ bd.drop 1) [] (n + 1) (decide (bd.headD 0 = 1)) → But3 p sl ed H H' → Q (.int ((n + 1 : Nat) : Int)) H'
def spText (R : Addr) : Sp := fun vs H Q _ => ∃ p sl ed kvs n cl, ∃ cs : List Nat, vs = [.ref p] ∧ RdAt R H p sl ed (cs.map sg) kvs n cl ∧ (∀ c ∈ cs, c ∈ lts) ∧ cs.length ≤ 100000 ∧ ∀ H', Same H H' → Q (.str ⟨cs.toArray⟩) H'
def spEnded (R : Addr) : Sp := fun vs H Q _ => ∃ p sl ed ss kvs n cl, vs = [.ref p] ∧ RdAt R H p sl ed ss kvs n cl ∧ Q (.bl cl) H
def spWhole : Sp := fun vs H Q _ => ∃ i : Int, vs = [.int i] ∧ Q (.bl true) H
def spMixed : Sp := fun vs H Q _ => ∃ c k : Int, vs = [.int c, .int k] ∧ 0 ≤ k ∧ k ≤ 1000 ∧ ∀ i, Q (.int i) H
def spLSign : Sp := fun vs H Q _ => ∃ i : Int, vs = [.int i] ∧ ∀ c, c ∈ lts → Q (.str ⟨#[c]⟩) H
def spRow : Sp := fun vs H Q _ => ∃ (c : Int) (m : Nat), vs = [.int c, .int m, .int 96] ∧ m ≤ 41 ∧ ∀ (a : Addr) (ns : List Int) (H' : Hp), ns.length = m → H' a = some (.lst (ns.map V.int)) → Same H H' → Q (.ref a) H'
def spLText : Sp := fun vs H Q _ => ∃ c : Int, vs = [.int c] ∧ ∀ (z : Str) (H' : Hp), (∀ x ∈ z.cps.toList, x ∈ lts) → z.length ≤ 40 → Same H H' → Q (.str z) H'
def spDueRight (C : Addr) : Sp := fun vs H Q _ => ∃ p l as S sd ts bs sc, vs = [.ref p, .int (S.known : Nat), .ref sd] ∧ WrAt C H p l as S ∧ size S ≤ 90000 ∧ SeenAt H sd ts bs ∧ Good S sc bs ∧
  ∀ ts' H', WrAt C H' p l as S.sent → SeenAt H' sd ts' (seenOf S) → (∀ b o, H b = some o → b ≠ p → b ≠ sd → H' b = some o) → Q (.bl true) H'
def spLRead : Sp := fun vs H Q _ => ∃ sd ts bs, ∃ cs : List Nat, vs = [.ref sd] ∧ SeenAt H sd ts bs ∧ (∀ b ∈ bs, b ≠ [] ∧ b.length ≤ 50000) ∧ bs.length ≤ 1000000 ∧ sigs bs bs.length = cs.map sg ∧ (∀ c ∈ cs, c ∈ lts) ∧ cs.length ≤ 50000 ∧
  ∀ (u : Addr) (H' : Hp), H' u = some (.tup [.str ⟨cs.toArray⟩, .bl (flag bs bs.length)]) → Same H H' → Q (.ref u) H'
def spFresh : Sp := fun vs H Q _ => vs = [] ∧ ∀ H', Same H H' → Q (.bl true) H'
/-- law's: a list of at most 63 ints is handed in, True comes out -/
def spLaw (K : PySem.W.Frag) : Sp := fun vs H Q _ => ∃ (a : Addr) (ns : List Int), vs = [.ref a] ∧ SqL K H a (ns.map V.int) ∧ ns.length ≤ 63 ∧ ∀ H', Q (.bl true) H'
/-! ### 4. What the walk asks of the top -/
structure Txt (K : PySem.W.Frag) (mg : Str → Option Value) : Prop where
  len : mg "len" = none
  mn : mg "min" = none
  mx : mg "max" = none
  range : mg "range" = none
  tup : mg "tuple" = none
  int : mg "int" = none
  isi : mg "isinstance" = none
  lst : mg "list" = none
  bool : mg "bool" = none
  letters : ∃ t, mg "LETTERS" = some (.str ltS t)
  last : ∃ t, mg "LAST_LETTER" = some (.int 95 t)
  no : ∃ t, mg "NO_LETTER" = some (.int 5 t)
  part : ∃ t, mg "PART_SIGNS" = some (.int 12 t)
  most : ∃ t, mg "MOST_UNDER_WAY" = some (.int 4 t)
structure WTxt (K : PySem.W.Frag) (mg : Str → Option Value) (C : Addr) : Prop where
  cl : Cls K C
  nP : NoAttr K C "parts"
  nF : NoAttr K C "fixed"
  nK : NoAttr K C "known"
  nC : NoAttr K C "closed"
  mgC : mg "Writer" = some (.ref C)
structure RTxt (K : PySem.W.Frag) (mg : Str → Option Value) (R : Addr) : Prop where
  cl : Cls K R
  nS : NoAttr K R "signs"
  nN : NoAttr K R "count"
  nE : NoAttr K R "early"
  nC : NoAttr K R "closed"
  mgR : mg "Reader" = some (.ref R)
/-- a def of the module, as a caller takes it -/
def GFn (P : Program) (w : World) (K : PySem.W.Frag) (mg : Str → Option Value) (base : Heap) (x : Str) (k : Nat) (ps : List Str) (sp : Sp) : Prop :=
  ∃ f fd, FnOk P w K mg base CX0 k f fd ps sp ∧ mg x = some (.ref f) ∧ PySem.W.keepIn K (.ref f) = true ∧ Binds K fd ps []
/-- how a caller takes a method of C -/
def MFn (P : Program) (w : World) (K : PySem.W.Frag) (mg : Str → Option Value) (base : Heap) (C : Addr) (x : Str) (k : Nat) (ps : List Str) (sp : Sp) : Prop :=
  ∃ f fd, FnOk P w K mg base CX0 k f fd ps sp ∧ Meth K C x f ∧ Binds K fd ps []
/-- the making of an instance -/
def NFn (P : Program) (w : World) (K : PySem.W.Frag) (mg : Str → Option Value) (base : Heap) (C : Addr) (k : Nat) (ps : List Str) (sp : Sp) : Prop :=
  ∃ f fd, Mk K C f ∧ FnOk P w K mg base CX0 k f fd ps sp ∧ Binds K fd ps []
end K61

namespace K61
open PySem L2
section
variable {P : Program} {w : World} {K : PySem.W.Frag} {mg : Str → Option Value} {base : Heap}
theorem small {n : Nat} (h : n ≤ 200000) : n < sizeLine := Nat.lt_of_le_of_lt h (by decide)
theorem small' {n : Nat} (h : n ≤ 200000) : n ≤ sizeLine := Nat.le_of_lt (small h)
theorem occ_all : ∀ c ∈ lts, Builtin.Str.occurrences ltS ⟨#[c]⟩ 0 ltS.length 1 = [at_ c] := by decide +kernel
theorem scSignOf : FnScope ["letter", "at"] ["letter"] (defScope sSignOf) := ⟨rfl, rfl, rfl, by decide +kernel, rfl, by decide +kernel, by decide +kernel⟩
theorem ok_signOf {f : Addr} {fd : FuncData} (F : Fun K "sign_of" "sign_of" sSignOf f fd) (T : Txt K mg) : FnOk P w K mg base CX0 1 f fd ["letter"] spSignOf := by
  refine F.ok scSignOf (fun vs H Q E h => ?_) (fun cdv A outer s H vs Q E hr h => ?_)
  · obtain ⟨c, rfl, _⟩ := h
    rfl
  · obtain ⟨c, rfl, hc, k⟩ := h
    obtain ⟨tL, hL⟩ := T.letters
    obtain ⟨tN, hN⟩ := T.no
    refine ⟨_, pss_cons (ps_if (pt_cmpR op_notIn_sign (pv 0) (pe_glob (v := .str ltS) rfl hL ⟨_, rfl⟩) (by rfl)) pss_never pss_nil)
      (pss_cons (ps_set (i := 1) scSignOf.nd rfl (Or.inl rfl) (pe_m1 PySem.F.slot_str_index PySem.F.type_str_index mt_sindex (pe_glob (v := .str ltS) rfl hL ⟨_, rfl⟩) (pv 0)))
      (pss_cons (ps_if (pt_cmpR op_lt (pv 1) (pe_glob (v := .int 5) rfl hN ⟨_, rfl⟩) (nomark _)) (pss_one (ps_ret (pv 1))) pss_nil)
      (pss_one (ps_ret (pe_op op_add (pv 1) pe_int))))), ?_⟩
    refine ⟨_, rfl, c, ltS, rfl, rfl, _, rfl, ?_⟩
    have hin : decide (c ∈ ltS.cps.toList) = true := decide_eq_true hc
    rw [hin]
    refine iteF ?_
    refine ⟨⟨_, rfl⟩, _, rfl, ltS, ⟨#[c]⟩, at_ c, [], rfl, rfl, occ_all c hc, ?_⟩
    refine ⟨_, rfl, _, _, rfl, rfl, _, rfl, ?_⟩
    refine ite2 (fun h => ?_) (fun h => ?_)
    · have h5 : (at_ c : Int) < 5 := of_decide_eq_true h
      refine ⟨_, rfl, ?_⟩
      have e : sg c = (at_ c : Int) := if_pos h5
      rw [e] at k
      exact k
    · have h5 : ¬ (at_ c : Int) < 5 := fun z => h (decide_eq_true z)
      refine ⟨_, rfl, _, _, rfl, rfl, ?_⟩
      have e : sg c = (at_ c : Int) + 1 := if_neg h5
      rw [e] at k
      exact k
theorem scTextSigns : FnScope ["text", "letter"] ["text"] (defScope sTextSigns) := ⟨rfl, rfl, rfl, by decide +kernel, rfl, by decide +kernel, by decide +kernel⟩
theorem ok_textSigns {f : Addr} {fd : FuncData} (F : Fun K "text_signs" "text_signs" sTextSigns f fd) (G1 : GFn P w K mg base "sign_of" 1 ["letter"] spSignOf) : FnOk P w K mg base CX0 2 f fd ["text"] spTextSigns := by
  obtain ⟨f1, fd1, G, mg1, kp, b⟩ := G1
  refine F.ok scTextSigns (fun vs H Q E h => ?_) (fun cdv A outer s H vs Q E hr h => ?_)
  · obtain ⟨z, rfl, _⟩ := h
    rfl
  · obtain ⟨z, rfl, hz, hl, k⟩ := h
    refine ⟨_, pss_one (ps_ret (pe_lc (own := [("letter", 1)]) (g := gName 1) (tt := tYes) rfl scTextSigns.nd (pi_str (pv 0)) (blkOk_by (own := [("letter", 1)]) (N := ["text", "letter"]) (sc := defScope sTextSigns) (by decide +kernel))
      (fun _ _ _ _ _ => pg_name (i := 1) scTextSigns.nd rfl (Or.inl rfl)) (fun _ _ _ _ _ => pts_nil) (fun _ _ _ _ _ => pe_call G hr rfl mg1 kp b .nil pass0 (pa_cons (pv 1) pa_nil)))), ?_⟩
    refine ⟨_, rfl, z, rfl, fun D hD => ?_⟩
    refine lc_it (walk_str (z := z)) (fun i H' => Same H H' ∧ H' D = some (.lst (((z.cps.toList.take i).map sg).map V.int))) ⟨same_new hD, upd_same⟩ (fun _ _ _ _ => True.intro) ?_ ?_
    · rintro i x H1 H2 hi ⟨hs, hd⟩ ⟨rfl, c, hc, rfl⟩
      have hc' : z.cps.toList[i]? = some c := by rw [Array.getElem?_toList]; exact hc
      refine ⟨rfl, _, rfl, c, rfl, hz c (List.mem_of_getElem? hc'), ?_⟩
      refine ⟨_, hd, ?_, fun b o e => ?_, ?_⟩
      · have h3 : z.cps.size = z.length := rfl
        refine small (Nat.le_trans (m := i) ?_ (by omega))
        simp only [List.length_map, List.length_take]
        exact Nat.min_le_left _ _
      · rw [upd_ne (ne_of_none e hD)]; exact hs b o e
      · rw [upd_same, List.take_add_one, hc']
        simp
    · rintro H1 ⟨hs, hd⟩
      refine k D H1 hD ?_ hs
      rw [hd, List.take_of_length_le (by simp)]
theorem atI_nat' {α : Type} {xs : List α} {j : Nat} {v : α} (h : xs[j]? = some v) : atI xs (j : Int) = some v := atI_nat h
theorem scLetterOf : FnScope ["sign"] ["sign"] (defScope sLetterOf) := ⟨rfl, rfl, rfl, by decide +kernel, rfl, by decide +kernel, by decide +kernel⟩
theorem ok_letterOf {f : Addr} {fd : FuncData} (F : Fun K "letter_of_sign" "letter_of_sign" sLetterOf f fd) (T : Txt K mg) : FnOk P w K mg base CX0 1 f fd ["sign"] spLetterOf := by
  refine F.ok scLetterOf (fun vs H Q E h => ?_) (fun cdv A outer s H vs Q E hr h => ?_)
  · obtain ⟨c, rfl, _⟩ := h
    rfl
  · obtain ⟨c, rfl, hc, k⟩ := h
    obtain ⟨tL, hL⟩ := T.letters
    obtain ⟨tN, hN⟩ := T.no
    obtain ⟨tA, hA⟩ := T.last
    refine ⟨_, pss_cons (ps_if (PW.pt (pw_or (pt_cmpR op_lt (pv 0) pe_int (nomark _)) (pw_or (pt_cmpR op_gt (pv 0) (pe_glob (v := .int 95) rfl hA ⟨_, rfl⟩) (nomark _)) (pw_or1 (pt_cmpR op_eq (pv 0) (pe_glob (v := .int 5) rfl hN ⟨_, rfl⟩) (nomark _)))))) pss_never pss_nil)
      (pss_cons (ps_if (pt_cmpR op_lt (pv 0) (pe_glob (v := .int 5) rfl hN ⟨_, rfl⟩) (nomark _)) (pss_one (ps_ret (pe_ix ix_str (pe_glob (v := .str ltS) rfl hL ⟨_, rfl⟩) (pv 0) (fun _ _ => rfl)))) pss_nil)
      (pss_one (ps_ret (pe_ix ix_str (pe_glob (v := .str ltS) rfl hL ⟨_, rfl⟩) (pe_op op_sub (pv 0) pe_int) (fun _ _ => rfl))))), ?_⟩
    have h0 := sg_lo c
    have h1 := sg_hi hc
    have h2 := sg_no c
    refine ⟨_, rfl, _, _, rfl, rfl, _, rfl, ?_⟩
    rw [decide_eq_false (show ¬ sg c < 0 by omega)]
    refine iteF ?_
    refine ⟨_, rfl, _, _, rfl, rfl, _, rfl, ?_⟩
    rw [decide_eq_false (show ¬ sg c > 95 by omega)]
    refine iteF ?_
    refine ⟨_, rfl, rfl, _, rfl, ?_⟩
    rw [decide_eq_false (show ¬ V.int (sg c) = V.int 5 from fun z => h2 (V.int.inj z))]
    refine iteF ?_
    have hat := lts_at hc
    have hix := ix_sg c
    refine ⟨_, rfl, _, _, rfl, rfl, _, rfl, ?_⟩
    refine ite2 (fun h => ?_) (fun h => ?_)
    · have h5 : sg c < 5 := of_decide_eq_true h
      refine ⟨_, rfl, ltS, sg c, c, rfl, rfl, by decide, ?_, k⟩
      unfold ix at hix
      rw [if_pos h5] at hix
      rw [hix]
      exact atI_nat hat
    · have h5 : ¬ sg c < 5 := fun z => h (decide_eq_true z)
      refine ⟨_, rfl, _, _, rfl, rfl, ltS, sg c - 1, c, rfl, rfl, by decide, ?_, k⟩
      unfold ix at hix
      rw [if_neg h5] at hix
      rw [hix]
      exact atI_nat hat
theorem scSignsText : FnScope ["signs", "sign"] ["signs"] (defScope sSignsText) := ⟨rfl, rfl, rfl, by decide +kernel, rfl, by decide +kernel, by decide +kernel⟩
/-- texts of one sign, joined by nothing -/
theorem joinL_nil : ∀ ls : List (List Nat), TL.joinL [] ls = ls.flatten
  | [] => rfl
  | [p] => by simp [TL.joinL]
  | p :: q :: r => by
    show p ++ ([] ++ TL.joinL [] (q :: r)) = _
    rw [joinL_nil (q :: r)]; simp
theorem ones_flat : ∀ cs : List Nat, ((cs.map fun c => (⟨#[c]⟩ : Str)).map TL.tl).flatten = cs
  | [] => rfl
  | c :: cs => by
    have ih := ones_flat cs
    show [c] ++ ((cs.map fun c => (⟨#[c]⟩ : Str)).map TL.tl).flatten = _
    rw [ih]; rfl
theorem join_ones (cs : List Nat) : PySem.Txt.join ("" : Str) (cs.map fun c => (⟨#[c]⟩ : Str)) = ⟨cs.toArray⟩ := by
  refine TL.ext_tl ?_
  rw [TL.join_eq, TL.tl_join, show TL.tl ("" : Str) = [] by decide +kernel, joinL_nil, ones_flat]
theorem ones_sum : ∀ cs : List Nat, ((cs.map fun c => (⟨#[c]⟩ : Str)).map (·.length)).sum = cs.length
  | [] => rfl
  | c :: cs => by
    have ih := ones_sum cs
    show 1 + ((cs.map fun c => (⟨#[c]⟩ : Str)).map (·.length)).sum = _
    rw [ih, List.length_cons]; omega
theorem ok_signsText {f : Addr} {fd : FuncData} (F : Fun K "signs_text" "signs_text" sSignsText f fd) (G1 : GFn P w K mg base "letter_of_sign" 1 ["sign"] spLetterOf) : FnOk P w K mg base CX0 2 f fd ["signs"] (spSignsText K) := by
  obtain ⟨f1, fd1, G, mg1, kp, b⟩ := G1
  refine F.ok scSignsText (fun vs H Q E h => ?_) (fun cdv A outer s H vs Q E hr h => ?_)
  · obtain ⟨a, cs, rfl, _⟩ := h
    rfl
  · obtain ⟨a, cs, rfl, ha, hz, hl, k⟩ := h
    refine ⟨_, pss_one (ps_ret (pe_join pe_str (pe_lc (own := [("sign", 1)]) (g := gName 1) (tt := tYes) rfl scSignsText.nd (pi_list (pv 0)) (blkOk_by (own := [("sign", 1)]) (N := ["signs", "sign"]) (sc := defScope sSignsText) (by decide +kernel))
      (fun _ _ _ _ _ => pg_name (i := 1) scSignsText.nd rfl (Or.inl rfl)) (fun _ _ _ _ _ => pts_nil) (fun _ _ _ _ _ => pe_call G hr rfl mg1 kp b .nil pass0 (pa_cons (pv 1) pa_nil))))), ?_⟩
    refine ⟨⟨_, rfl⟩, _, rfl, a, rfl, ⟨_, ha⟩, fun D hD => ?_⟩
    refine lc_list (K := K) (a := a) (xs := (cs.map sg).map V.int) (fun i H' => Same H H' ∧ H' D = some (.lst (((cs.take i).map fun c => (⟨#[c]⟩ : Str)).map V.str))) ⟨same_new hD, upd_same⟩ (fun i H' _ q => q.1.seq ha) ?_ ?_
    · rintro i x H1 hi ⟨hs, hd⟩
      obtain ⟨c, hc, rfl⟩ : ∃ c, cs[i]? = some c ∧ x = V.int (sg c) := by
        rw [List.getElem?_map, List.getElem?_map] at hi
        cases e : cs[i]? with
        | none => rw [e] at hi; cases hi
        | some c => rw [e] at hi; exact ⟨c, rfl, (Option.some.inj hi).symm⟩
      refine ⟨rfl, _, rfl, c, rfl, hz c (List.mem_of_getElem? hc), _, hd, ?_, fun b o e => ?_, ?_⟩
      · have hlt := (List.getElem?_eq_some_iff.mp hc).1
        refine small (Nat.le_trans (m := i) ?_ (by omega))
        simp only [List.length_map, List.length_take]
        exact Nat.min_le_left _ _
      · rw [upd_ne (ne_of_none e hD)]; exact hs b o e
      · rw [upd_same, List.take_add_one, hc]
        simp
    · rintro H1 ⟨hs, hd⟩
      have hd2 : H1 D = some (.lst ((cs.map fun c => (⟨#[c]⟩ : Str)).map V.str)) := by
        rw [hd, List.take_of_length_le (by simp)]
      refine ⟨_, D, _, rfl, rfl, .inl (SqL.of hd2), ?_, ?_⟩
      · rw [ones_sum, show (("" : Str)).length = 0 by decide +kernel]; omega
      · have e := join_ones cs
        show Q (V.str (PySem.Txt.join ("" : Str) (cs.map fun c => (⟨#[c]⟩ : Str)))) H1
        rw [e]
        exact k H1 hs
end
end K61

namespace K61
open PySem L2
section
variable {P : Program} {w : World} {K : PySem.W.Frag} {mg : Str → Option Value} {base : Heap}
/-! ### Writer -/
theorem scWInit : FnScope ["self"] ["self"] (defScope sWInit) := ⟨rfl, rfl, rfl, by decide +kernel, rfl, by decide +kernel, by decide +kernel⟩
theorem ok_wInit {f C : Addr} {fd : FuncData} (F : Fun K "__init__" "Writer.__init__" sWInit f fd) (U : WTxt K mg C) : FnOk P w K mg base CX0 1 f fd ["self"] (spWInit C) := by
  refine F.ok scWInit (fun vs H Q E h => ?_) (fun cdv A outer s H vs Q E hr h => ?_)
  · obtain ⟨p, dx, rfl, _⟩ := h
    rfl
  · obtain ⟨p, dx, rfl, hp, k⟩ := h
    refine ⟨_, pss_cons (ps_fld (pv 0) (pe_lst pa_nil) rfl) (pss_cons (ps_fld (pv 0) pe_int rfl) (pss_cons (ps_fld (pv 0) pe_int rfl) (pss_one (ps_fld (pv 0) pe_bl rfl)))), ?_⟩
    refine ⟨by decide, fun l hl => ?_⟩
    have npl : p ≠ l := ne_of_none hp hl
    refine ⟨_, rfl, p, C, dx, [], rfl, (by rw [upd_ne npl]; exact hp), U.cl, U.nP, (by show 0 < 1000; decide), ?_⟩
    refine ⟨_, rfl, p, C, dx, _, rfl, upd_same, U.cl, U.nF, (by show 1 < 1000; decide), ?_⟩
    refine ⟨_, rfl, p, C, dx, _, rfl, upd_same, U.cl, U.nK, (by show (putF "fixed" (V.int 0) [(("parts" : Str), V.ref l)]).length < 1000; simp only [putF, if_neg kpf]; show 2 < 1000; decide), ?_⟩
    refine ⟨_, rfl, p, C, dx, _, rfl, upd_same, U.cl, U.nC, (by show (putF "known" (V.int 0) (putF "fixed" (V.int 0) [(("parts" : Str), V.ref l)])).length < 1000; simp only [putF, if_neg kpf, if_neg kpk, if_neg kfk]; show 3 < 1000; decide), ?_⟩
    rw [upd_upd, upd_upd, upd_upd]
    refine k l _ hl ⟨⟨dx, upd_same⟩, by rw [upd_ne npl.symm, upd_same]; rfl, rfl, List.nodup_nil, List.not_mem_nil, Nat.le_refl _, fun j a ha => by simp at ha⟩ fun b o e hb => ?_
    rw [upd_ne hb, upd_ne (ne_of_none e hl)]
    exact e
theorem scAskOpen : FnScope ["self"] ["self"] (defScope sAskOpen) := ⟨rfl, rfl, rfl, by decide +kernel, rfl, by decide +kernel, by decide +kernel⟩
theorem ok_askOpen {f C : Addr} {fd : FuncData} (F : Fun K "ask_open" "Writer.ask_open" sAskOpen f fd) (U : WTxt K mg C) : FnOk P w K mg base CX0 1 f fd ["self"] (spAskOpen C) := by
  refine F.ok scAskOpen (fun vs H Q E h => ?_) (fun cdv A outer s H vs Q E hr h => ?_)
  · obtain ⟨p, l, as, S, rfl, _⟩ := h
    rfl
  · obtain ⟨p, l, as, S, rfl, W, hc, k⟩ := h
    obtain ⟨dx, ho⟩ := W.ob
    refine ⟨_, pss_one (ps_if (pt_val (pe_fld (pv 0) rfl)) pss_never pss_nil), ?_⟩
    refine ⟨_, rfl, p, C, dx, _, _, rfl, ho, U.cl, U.nC, wf_closed _ _ _ _, _, rfl, ?_⟩
    rw [hc]
    exact iteF k
theorem scLastFree : FnScope ["self"] ["self"] (defScope sLastFree) := ⟨rfl, rfl, rfl, by decide +kernel, rfl, by decide +kernel, by decide +kernel⟩
theorem ok_lastFree {f C : Addr} {fd : FuncData} (F : Fun K "last_free" "Writer.last_free" sLastFree f fd) (T : Txt K mg) (U : WTxt K mg C) : FnOk P w K mg base CX0 1 f fd ["self"] (spLastFree C) := by
  refine F.ok scLastFree (fun vs H Q E h => ?_) (fun cdv A outer s H vs Q E hr h => ?_)
  · obtain ⟨p, l, as, S, rfl, _⟩ := h
    rfl
  · obtain ⟨p, l, as, S, rfl, W, k⟩ := h
    obtain ⟨dx, ho⟩ := W.ob
    refine ⟨_, pss_one (ps_ret (pe_cmpR op_gt (pe_callB call_len_seq (by rfl) T.len PySem.boot_len (pa_cons (pe_fld (pv 0) rfl) pa_nil)) (pe_fld (pv 0) rfl) (nomark _))), ?_⟩
    refine ⟨_, rfl, p, C, dx, _, _, rfl, ho, U.cl, U.nP, wf_parts _ _ _ _, l, _, rfl, .inl (SqL.of W.ls), _, rfl, p, C, dx, _, _, rfl, ho, U.cl, U.nF, wf_fixed _ _ _ _, _, _, rfl, rfl, ?_⟩
    have e : decide (((as.map V.ref).length : Int) > (S.fixed : Int)) = decide (S.fixed < S.parts.length) := by
      rw [List.length_map, W.len]
      exact decide_eq_decide.mpr (by omega)
    show Q (V.bl (decide (((as.map V.ref).length : Int) > (S.fixed : Int)))) H
    rw [e]
    exact k
theorem scLeft : FnScope ["self"] ["self"] (defScope sLeft) := ⟨rfl, rfl, rfl, by decide +kernel, rfl, by decide +kernel, by decide +kernel⟩
theorem ok_left {f C : Addr} {fd : FuncData} (F : Fun K "left" "Writer.left" sLeft f fd) (T : Txt K mg) (U : WTxt K mg C) : FnOk P w K mg base CX0 1 f fd ["self"] (spLeft C) := by
  refine F.ok scLeft (fun vs H Q E h => ?_) (fun cdv A outer s H vs Q E hr h => ?_)
  · obtain ⟨p, l, as, S, rfl, _⟩ := h
    rfl
  · obtain ⟨p, l, as, S, rfl, W, k⟩ := h
    obtain ⟨dx, ho⟩ := W.ob
    refine ⟨_, pss_one (ps_ret (pe_op op_sub (pe_callB call_len_seq (by rfl) T.len PySem.boot_len (pa_cons (pe_fld (pv 0) rfl) pa_nil)) (pe_fld (pv 0) rfl))), ?_⟩
    refine ⟨_, rfl, p, C, dx, _, _, rfl, ho, U.cl, U.nP, wf_parts _ _ _ _, l, _, rfl, .inl (SqL.of W.ls), _, rfl, p, C, dx, _, _, rfl, ho, U.cl, U.nK, wf_known _ _ _ _, _, _, rfl, rfl, ?_⟩
    have e : ((as.map V.ref).length : Int) - (S.known : Int) = ((S.left : Nat) : Int) := by
      have := W.kn
      rw [List.length_map, W.len]
      unfold WS.left
      omega
    show Q (V.int (((as.map V.ref).length : Int) - (S.known : Int))) H
    rw [e]
    exact k
theorem scIsDone : FnScope ["self"] ["self"] (defScope sIsDone) := ⟨rfl, rfl, rfl, by decide +kernel, rfl, by decide +kernel, by decide +kernel⟩
theorem ok_isDone {f C : Addr} {fd : FuncData} (F : Fun K "is_done" "Writer.is_done" sIsDone f fd) (U : WTxt K mg C) (M1 : MFn P w K mg base C "left" 1 ["self"] (spLeft C)) : FnOk P w K mg base CX0 2 f fd ["self"] (spIsDone C) := by
  obtain ⟨f1, fd1, G1, m1, b1⟩ := M1
  refine F.ok scIsDone (fun vs H Q E h => ?_) (fun cdv A outer s H vs Q E hr h => ?_)
  · obtain ⟨p, l, as, S, rfl, _⟩ := h
    rfl
  · obtain ⟨p, l, as, S, rfl, W, k⟩ := h
    obtain ⟨dx, ho⟩ := W.ob
    refine ⟨_, pss_one (ps_ret (pe_and (pe_fld (pv 0) rfl) (pe_one (pe_cmpR op_eq (pe_meth0 (pv 0) U.cl m1 G1 hr b1 .nil pass0) pe_int (nomark _))))), ?_⟩
    refine ⟨_, rfl, p, C, dx, _, _, rfl, ho, U.cl, U.nC, wf_closed _ _ _ _, _, rfl, ?_⟩
    refine ite2 (fun hc => ?_) (fun hc => ?_)
    · rw [hc, Bool.true_and] at k
      refine ⟨_, rfl, p, dx, _, rfl, ho, wf_no _ _ _ _ (by decide +kernel) (by decide +kernel) (by decide +kernel) (by decide +kernel), p, l, as, S, rfl, W, rfl, ?_⟩
      have e : decide (V.int ((S.left : Nat) : Int) = V.int 0) = decide (S.left = 0) := decide_eq_decide.mpr ⟨fun z => by have := V.int.inj z; omega, fun z => by rw [z]; rfl⟩
      show Q (V.bl (decide (V.int ((S.left : Nat) : Int) = V.int 0))) H
      rw [e]
      exact k
    · have hc : S.closed = false := by simpa using hc
      rw [hc, Bool.false_and] at k
      exact k
theorem scHad : FnScope ["self", "count"] ["self", "count"] (defScope sHad) := ⟨rfl, rfl, rfl, by decide +kernel, rfl, by decide +kernel, by decide +kernel⟩
theorem ok_had {f C : Addr} {fd : FuncData} (F : Fun K "had" "Writer.had" sHad f fd) (T : Txt K mg) (U : WTxt K mg C) : FnOk P w K mg base CX0 1 f fd ["self", "count"] (spHad C) := by
  refine F.ok scHad (fun vs H Q E h => ?_) (fun cdv A outer s H vs Q E hr h => ?_)
  · obtain ⟨p, l, as, S, n, rfl, _⟩ := h
    rfl
  · obtain ⟨p, l, as, S, n, rfl, W, k⟩ := h
    obtain ⟨dx, ho⟩ := W.ob
    refine ⟨_, pss_one (ps_fld (pv 0) (pe_callB (call_max2 rfl) (by rfl) T.mx (by decide +kernel) (pa_cons (pe_fld (pv 0) rfl) (pa_cons (pe_callB (call_min2 rfl) (by rfl) T.mn (by decide +kernel) (pa_cons (pv 1) (pa_cons (pe_callB call_len_seq (by rfl) T.len PySem.boot_len (pa_cons (pe_fld (pv 0) rfl) pa_nil)) pa_nil))) pa_nil))) rfl), ?_⟩
    refine ⟨_, rfl, p, C, dx, _, _, rfl, ho, U.cl, U.nK, wf_known _ _ _ _, _, rfl, _, rfl, p, C, dx, _, _, rfl, ho, U.cl, U.nP, wf_parts _ _ _ _, l, _, rfl, .inl (SqL.of W.ls), _, _, rfl, _, _, rfl, ?_⟩
    refine ⟨_, rfl, p, C, dx, _, rfl, ho, U.cl, U.nK, wf_len _ _ _ _, ?_⟩
    rw [wf_pk]
    have e : (if (if ((as.map V.ref).length : Int) < (n : Int) then ((as.map V.ref).length : Int) else (n : Int)) > (S.known : Int) then (if ((as.map V.ref).length : Int) < (n : Int) then ((as.map V.ref).length : Int) else (n : Int)) else (S.known : Int)) = (((S.had n).known : Nat) : Int) := by
      rw [List.length_map, W.len]
      show _ = ((max S.known (min n S.parts.length) : Nat) : Int)
      split <;> split <;> omega
    refine k _ (W.turned (S' := S.had n) ⟨dx, upd_same.trans ?_⟩ But.upd rfl ?_) But.upd
    · rw [e]; rfl
    · have := W.kn
      show max S.known (min n S.parts.length) ≤ S.parts.length
      omega
theorem scBodyOf : FnScope ["self", "number", "last"] ["self", "number"] (defScope sBodyOf) := ⟨rfl, rfl, rfl, by decide +kernel, rfl, by decide +kernel, by decide +kernel⟩
theorem part_len : ∀ {ps : List (List Int)} {k : Nat} {xs : List Int}, ps[k]? = some xs → xs.length ≤ ps.flatten.length
  | [], k, xs, h => by simp at h
  | p :: ps, 0, xs, h => by
    have e : p = xs := by simpa using h
    subst e
    simp
  | p :: ps, k + 1, xs, h => by
    have ih := part_len (ps := ps) (k := k) (xs := xs) (by simpa using h)
    rw [List.flatten_cons, List.length_append]
    omega
theorem ok_bodyOf {f C : Addr} {fd : FuncData} (F : Fun K "body_of" "Writer.body_of" sBodyOf f fd) (T : Txt K mg) (U : WTxt K mg C) : FnOk P w K mg base CX0 1 f fd ["self", "number"] (spBodyOf C) := by
  refine F.ok scBodyOf (fun vs H Q E h => ?_) (fun cdv A outer s H vs Q E hr h => ?_)
  · obtain ⟨p, l, as, S, n, rfl, _⟩ := h
    rfl
  · obtain ⟨p, l, as, S, n, rfl, W, hn, hz, k⟩ := h
    obtain ⟨dx, ho⟩ := W.ob
    refine ⟨_, pss_cons (ps_set (i := 2) scBodyOf.nd rfl (Or.inl rfl) (pe_and (pe_fld (pv 0) rfl) (pe_one (pe_cmpR op_eq (pv 1) (pe_op op_sub (pe_callB call_len_seq (by rfl) T.len PySem.boot_len (pa_cons (pe_fld (pv 0) rfl) pa_nil)) pe_int) (nomark _)))))
      (pss_one (ps_ret (pe_callTy call_tuple_of (by rfl) T.tup (by decide +kernel) (pa_cons (pe_op op_cat (pe_lst (pa_cons (pe_callTy call_int1 (by rfl) T.int (by decide +kernel) (pa_cons (pv 2) pa_nil)) pa_nil)) (pe_ix ix_list (pe_fld (pv 0) rfl) (pv 1) (fun _ _ => rfl))) pa_nil)))), ?_⟩
    have last : ∀ σ : St, σ = [some (.ref p), some (.int (n : Nat)), some (.bl (S.closed && decide (n + 1 = S.parts.length)))] →
        tRet (tCB (fun xs H Q => ∃ p ys, xs = [.ref p] ∧ ((SqL K H p ys ∧ ∀ l, H l = none → Q (.ref l) (upd H l (.tup ys))) ∨ (SqT K H p ys ∧ Q (.ref p) H))) (tCons (tOp rCat (tLst (tCons (tCB (fun xs H Q => (∃ i, xs = [.int i] ∧ Q (.int i) H) ∨ ∃ k, xs = [.bl k] ∧ Q (.int (if k then 1 else 0)) H) (tCons (tVar 2) tNil)) tNil)) (tOp (rIxL K) (tFld K (tVar 0) "parts") (tVar 1))) tNil)) { nx := fun _ H' => Q .non H', rt := Q } σ H := by
      rintro σ rfl
      obtain ⟨a, ha⟩ : ∃ a, as[n]? = some a := ⟨as[n]'(by rw [W.len]; exact hn), List.getElem?_eq_getElem _⟩
      obtain ⟨xs, hx, hxa⟩ := W.at_ n a ha
      refine ⟨_, rfl, .inr ⟨_, rfl, small' (by show 1 ≤ 200000; decide), fun q hq => ?_⟩⟩
      have npq : p ≠ q := ne_of_none ho hq
      have nlq : l ≠ q := ne_of_none W.ls hq
      have naq : a ≠ q := ne_of_none hxa hq
      refine ⟨_, rfl, p, C, dx, _, _, rfl, by rw [upd_ne npq]; exact ho, U.cl, U.nP, wf_parts _ _ _ _, _, rfl, l, _, _, _, rfl, rfl, SqL.of (by rw [upd_ne nlq]; exact W.ls), at_of (j := n) (v := V.ref a) rfl (by rw [List.getElem?_map, ha]; rfl), ?_⟩
      refine ⟨q, a, _, _, rfl, rfl, upd_same, by rw [upd_ne naq]; exact hxa, ?_, fun r hr' => ?_⟩
      · have := part_len hx
        unfold size at hz
        refine small' ?_
        simp only [List.length_map, List.length_cons, List.length_nil]
        omega
      · refine ⟨r, _, rfl, .inl ⟨SqL.of upd_same, fun u hu => ?_⟩⟩
        have hur : u ≠ r := fun z => by rw [z, upd_same] at hu; cases hu
        rw [upd_ne hur] at hu
        have huq : u ≠ q := fun z => by rw [z, upd_same] at hu; cases hu
        rw [upd_ne huq] at hu
        have hrq : r ≠ q := fun z => by rw [z, upd_same] at hr'; cases hr'
        rw [upd_ne hrq] at hr'
        refine k u _ hu ?_ fun b o e => ?_
        · rw [upd_same]
          have e : S.body n = (if (S.closed && decide (n + 1 = S.parts.length)) = true then 1 else 0) :: xs := by
            unfold WS.body bodyOf
            rw [hx]
            simp
          rw [e]
          simp
        · rw [upd_ne (ne_of_none e hu), upd_ne (ne_of_none e hr'), upd_ne (ne_of_none e hq)]
          exact e
    refine ⟨_, rfl, p, C, dx, _, _, rfl, ho, U.cl, U.nC, wf_closed _ _ _ _, _, rfl, ?_⟩
    refine ite2 (fun hc => ?_) (fun hc => ?_)
    · refine ⟨_, rfl, _, rfl, p, C, dx, _, _, rfl, ho, U.cl, U.nP, wf_parts _ _ _ _, l, _, rfl, .inl (SqL.of W.ls), _, _, rfl, rfl, rfl, ?_⟩
      refine last _ ?_
      have e : decide (V.int (n : Nat) = V.int (((as.map V.ref).length : Int) - 1)) = (S.closed && decide (n + 1 = S.parts.length)) := by
        rw [hc, Bool.true_and, List.length_map, W.len]
        exact decide_eq_decide.mpr ⟨fun z => by have := V.int.inj z; omega, fun z => by rw [show ((n : Nat) : Int) = (S.parts.length : Int) - 1 by omega]⟩
      show [some (V.ref p), some (V.int (n : Nat)), some (V.bl (decide (V.int (n : Nat) = V.int (((as.map V.ref).length : Int) - 1))))] = _
      rw [e]
    · have hc : S.closed = false := by simpa using hc
      refine last _ ?_
      rw [hc]
      rfl
end
end K61

namespace K61
open PySem L2
section
variable {P : Program} {w : World} {K : PySem.W.Frag} {mg : Str → Option Value} {base : Heap}
/-- a new empty part is put behind -/
theorem WrAt.more {C p l q : Addr} {H : Hp} {as : List Addr} {S S' : WS} (W : WrAt C H p l as S) (hq : H q = none) (e1 : S'.parts = S.parts ++ [[]]) (e2 : S'.fixed = S.fixed) (e3 : S'.known = S.known) (e4 : S'.closed = S.closed) :
    WrAt C (upd (upd H q (.lst [])) l (.lst (as.map V.ref ++ [V.ref q]))) p l (as ++ [q]) S' := by
  obtain ⟨dx, ho⟩ := W.ob
  have npq : p ≠ q := ne_of_none ho hq
  have nlq : l ≠ q := ne_of_none W.ls hq
  have nq : q ∉ as := fun hm => by
    obtain ⟨j, hj⟩ := List.getElem?_of_mem hm
    obtain ⟨xs, _, hx⟩ := W.at_ j q hj
    rw [hq] at hx; cases hx
  refine ⟨⟨dx, ?_⟩, ?_, ?_, ?_, ?_, ?_, fun j a ha => ?_⟩
  · rw [upd_ne W.npl, upd_ne npq, e2, e3, e4]; exact ho
  · rw [upd_same, List.map_append]; rfl
  · rw [e1, List.length_append, List.length_append, W.len]; rfl
  · refine List.nodup_append.mpr ⟨W.nd, by simp, fun a ha b hb => ?_⟩
    have e : b = q := by simpa using hb
    subst e
    exact fun z => nq (z ▸ ha)
  · intro hm
    rcases List.mem_append.mp hm with z | z
    · exact W.nl z
    · exact nlq (by simpa using z)
  · rw [e1, e3, List.length_append]
    have := W.kn
    omega
  · rw [e1]
    by_cases hj : j < as.length
    · rw [List.getElem?_append_left hj] at ha
      obtain ⟨xs, h1, h2⟩ := W.at_ j a ha
      have hal : a ≠ l := fun z => W.nl (z ▸ List.mem_of_getElem? ha)
      refine ⟨xs, by rw [List.getElem?_append_left (by rw [← W.len]; exact hj)]; exact h1, ?_⟩
      rw [upd_ne hal, upd_ne (ne_of_none h2 hq)]
      exact h2
    · rw [List.getElem?_append_right (by omega)] at ha
      have hj0 : j - as.length = 0 := by
        have := (List.getElem?_eq_some_iff.mp ha).1
        simp at this
        omega
      rw [hj0] at ha
      have e : q = a := by simpa using ha
      subst e
      refine ⟨[], ?_, ?_⟩
      · rw [List.getElem?_append_right (by rw [← W.len]; omega), ← W.len, hj0]; rfl
      · rw [upd_ne nlq.symm, upd_same]; rfl
theorem more_stay {p l q : Addr} {H : Hp} {as : List Addr} {xs ys : List V} (hq : H q = none) : Stay (p :: l :: as) H (p :: l :: (as ++ [q])) (upd (upd H q (.lst xs)) l (.lst ys)) := fun b o h n => by
  have nl : b ≠ l := fun z => n (by rw [z]; simp)
  have nq : b ≠ q := ne_of_none h hq
  refine ⟨by rw [upd_ne nl, upd_ne nq]; exact h, fun hm => n ?_⟩
  simp only [List.mem_cons, List.mem_append, List.not_mem_nil, or_false] at hm ⊢
  rcases hm with z | z | z | z
  · exact .inl z
  · exact .inr (.inl z)
  · exact .inr (.inr z)
  · exact absurd z nq
theorem scClose : FnScope ["self"] ["self"] (defScope sClose) := ⟨rfl, rfl, rfl, by decide +kernel, rfl, by decide +kernel, by decide +kernel⟩
theorem ok_close {f C : Addr} {fd : FuncData} (F : Fun K "close" "Writer.close" sClose f fd) (U : WTxt K mg C) (M1 : MFn P w K mg base C "ask_open" 1 ["self"] (spAskOpen C)) (M2 : MFn P w K mg base C "last_free" 1 ["self"] (spLastFree C)) : FnOk P w K mg base CX0 2 f fd ["self"] (spClose C) := by
  obtain ⟨f1, fd1, G1, m1, b1⟩ := M1
  obtain ⟨f2, fd2, G2, m2, b2⟩ := M2
  refine F.ok scClose (fun vs H Q E h => ?_) (fun cdv A outer s H vs Q E hr h => ?_)
  · obtain ⟨p, l, as, S, rfl, _⟩ := h
    rfl
  · obtain ⟨p, l, as, S, rfl, W, hc, hz, k⟩ := h
    obtain ⟨dx, ho⟩ := id W.ob
    refine ⟨_, pss_cons (ps_expr (pe_meth0 (pv 0) U.cl m1 G1 hr b1 .nil pass0))
      (pss_cons (ps_if (pt_not (pt_val (pe_meth0 (pv 0) U.cl m2 G2 hr b2 .nil pass0))) (pss_one (ps_expr (pe_bm PySem.F.plainAttrs_list PySem.F.slot_list_append PySem.F.type_list_append mt_append (pe_fld (pv 0) rfl) (pa_cons (pe_lst pa_nil) pa_nil)))) pss_nil)
      (pss_one (ps_fld (pv 0) pe_bl rfl))), ?_⟩
    have no : ∀ {m : Str}, ¬ m = "closed" → ¬ m = "known" → ¬ m = "fixed" → ¬ m = "parts" → (wf l S.fixed S.known S.closed).lookup m = none := fun a b c d => wf_no _ _ _ _ a b c d
    refine ⟨_, rfl, p, dx, _, rfl, ho, no (by decide +kernel) (by decide +kernel) (by decide +kernel) (by decide +kernel), p, l, as, S, rfl, W, hc, ?_⟩
    refine ⟨_, rfl, p, dx, _, rfl, ho, no (by decide +kernel) (by decide +kernel) (by decide +kernel) (by decide +kernel), p, l, as, S, rfl, W, _, rfl, ?_⟩
    have last : ∀ (as' : List Addr) (S' : WS) (H' : Hp), WrAt C H' p l as' S' → S'.fixed = S.fixed → S'.known = S.known → S'.closed = false → S'.parts = S.cl.parts → Stay (p :: l :: as) H (p :: l :: as') H' →
        sFld K (tVar 0) (tC (.bl true)) "closed" { nx := fun _ H' => Q .non H', rt := Q } [some (.ref p)] H' := by
      intro as' S' H' W' e1 e2 e3 e4 st
      obtain ⟨dx', ho'⟩ := id W'.ob
      refine ⟨_, rfl, p, C, dx', _, rfl, ho', U.cl, U.nC, wf_len _ _ _ _, ?_⟩
      rw [wf_pc]
      refine k as' _ (W'.turned (S' := S.cl) ⟨dx', ?_⟩ But.upd e4.symm ?_) (st.trans (But.upd).stay)
      · rw [upd_same, e1, e2]; rfl
      · have := W'.kn
        rw [← e4]
        show S.known ≤ _
        rw [← e2]
        exact this
    by_cases hf : S.fixed < S.parts.length
    · rw [decide_eq_true hf]
      refine iteF ?_
      exact last as S H W rfl rfl hc (if_pos hf).symm (fun b o h n => ⟨h, n⟩)
    · rw [decide_eq_false hf]
      refine iteT ?_
      refine ⟨_, rfl, p, C, dx, _, _, rfl, ho, U.cl, U.nP, wf_parts _ _ _ _, .inl ⟨rfl, _, SqL.of W.ls⟩, small' (by show 0 ≤ 200000; decide), fun q hq => ?_⟩
      have nlq : l ≠ q := ne_of_none W.ls hq
      refine ⟨l, _, _, rfl, rfl, by rw [upd_ne nlq]; exact W.ls, ?_, ?_⟩
      · unfold size at hz
        refine small ?_
        rw [List.length_map, W.len]
        omega
      · exact last (as ++ [q]) { S with parts := S.parts ++ [[]] } _ (W.more hq rfl rfl rfl rfl) rfl rfl hc (if_neg hf).symm (more_stay hq)
theorem atI_neg1 {α : Type} {xs : List α} {v : α} (h : xs[xs.length - 1]? = some v) : atI xs (-1) = some v := by
  have hj := (List.getElem?_eq_some_iff.mp h).1
  have e : ixN xs.length (-1) = some (xs.length - 1) := by
    unfold ixN
    rw [if_neg (by decide), if_pos (by omega)]
    exact congrArg some (by omega)
  unfold atI
  rw [e]
  exact h
theorem WrAt.fresh {C p l b : Addr} {H : Hp} {as : List Addr} {S : WS} (W : WrAt C H p l as S) (h : H b = none) : b ∉ p :: l :: as := fun hm => by
  rcases List.mem_cons.mp hm with e | hm
  · obtain ⟨dx, ho⟩ := W.ob
    rw [e, ho] at h; cases h
  rcases List.mem_cons.mp hm with e | hm
  · rw [e, W.ls] at h; cases h
  · obtain ⟨j, hj⟩ := List.getElem?_of_mem hm
    obtain ⟨xs, _, hx⟩ := W.at_ j b hj
    rw [hx] at h; cases h
/-- the last part takes a sign -/
theorem WrAt.add {C p l a : Addr} {H : Hp} {as : List Addr} {S S' : WS} {xs : List Int} {s : Int} (W : WrAt C H p l as S) (ha : as[as.length - 1]? = some a) (hx : S.parts[as.length - 1]? = some xs)
    (e1 : S'.parts = addLast S.parts s) (e2 : S'.fixed = S.fixed) (e3 : S'.known = S.known) (e4 : S'.closed = S.closed) : WrAt C (upd H a (.lst ((xs ++ [s]).map V.int))) p l as S' := by
  obtain ⟨dx, ho⟩ := W.ob
  have npa : p ≠ a := fun z => W.np (z ▸ List.mem_of_getElem? ha)
  have nla : l ≠ a := fun z => W.nl (z ▸ List.mem_of_getElem? ha)
  have hal : as.length - 1 < as.length := (List.getElem?_eq_some_iff.mp ha).1
  have hl := W.len
  refine ⟨⟨dx, ?_⟩, ?_, ?_, W.nd, W.nl, ?_, fun j b hb => ?_⟩
  · rw [upd_ne npa, e2, e3, e4]; exact ho
  · rw [upd_ne nla]; exact W.ls
  · rw [e1, addLast_len]; exact hl
  · rw [e1, e3, addLast_len]; exact W.kn
  · rw [e1]
    by_cases hj : j = as.length - 1
    · subst hj
      rw [ha] at hb
      cases hb
      refine ⟨xs ++ [s], ?_, upd_same⟩
      unfold addLast
      rw [← hl, List.getElem?_set_self (by omega), List.getLast?_eq_getElem?, ← hl, hx]
      rfl
    · have hjl := (List.getElem?_eq_some_iff.mp hb).1
      obtain ⟨ys, h1, h2⟩ := W.at_ j b hb
      have hba : b ≠ a := fun z => hj (nd_ix W.nd hb (by rw [z]; exact ha))
      refine ⟨ys, ?_, by rw [upd_ne hba]; exact h2⟩
      rw [addLast_get s (by omega)]
      exact h1
theorem add_stay {p l a : Addr} {H : Hp} {as : List Addr} {o : HO} (ha : a ∈ as) : Stay (p :: l :: as) H (p :: l :: as) (upd H a o) := fun b u h n => by
  have hba : b ≠ a := fun z => n (by rw [z]; exact List.mem_cons_of_mem _ (List.mem_cons_of_mem _ ha))
  exact ⟨by rw [upd_ne hba]; exact h, n⟩
theorem size_wr (S : WS) (ss : List Int) : size (S.wr ss) ≤ size S + 2 * ss.length := by
  have h1 := pushAll_len S.fixed ss S.parts
  have h2 := pushAll_flat S.fixed ss S.parts
  show (pushAll S.fixed S.parts ss).length + (pushAll S.fixed S.parts ss).flatten.length ≤ S.parts.length + S.parts.flatten.length + 2 * ss.length
  rw [h2, List.length_append]
  omega
theorem wr_nil (S : WS) : S.wr [] = S := rfl
theorem wr_snoc (S : WS) (ss : List Int) (s : Int) : (S.wr (ss ++ [s])).parts = push1 S.fixed (S.wr ss).parts s := pushAll_snoc _ _ _ _
/-- what holds ahead of the i-th turn of write's loop -/
def WrInv (C : Addr) (H : Hp) (p l D : Addr) (as : List Addr) (S : WS) (z : Str) (i : Nat) (σ : St) (H2 : Hp) : Prop := ∃ (as' : List Addr) (v : Option V), σ = [some (.ref p), some (.str z), v] ∧ WrAt C H2 p l as' (S.wr ((z.cps.toList.take i).map sg)) ∧ Stay (p :: l :: as) H (p :: l :: as') H2 ∧
  H2 D = some (.lst ((z.cps.toList.map sg).map V.int)) ∧ D ∉ p :: l :: as'
theorem scWrite : FnScope ["self", "text", "sign"] ["self", "text"] (defScope sWrite) := ⟨rfl, rfl, rfl, by decide +kernel, rfl, by decide +kernel, by decide +kernel⟩
theorem ok_write {f C : Addr} {fd : FuncData} (F : Fun K "write" "Writer.write" sWrite f fd) (T : Txt K mg) (U : WTxt K mg C) (M1 : MFn P w K mg base C "ask_open" 1 ["self"] (spAskOpen C)) (M2 : MFn P w K mg base C "last_free" 1 ["self"] (spLastFree C))
    (G3 : GFn P w K mg base "text_signs" 2 ["text"] spTextSigns) : FnOk P w K mg base CX0 3 f fd ["self", "text"] (spWrite C) := by
  obtain ⟨f1, fd1, G1, m1, b1⟩ := M1
  obtain ⟨f2, fd2, G2, m2, b2⟩ := M2
  obtain ⟨f3, fd3, G3, mg3, kp3, b3⟩ := G3
  obtain ⟨tP, hP⟩ := T.part
  refine F.ok scWrite (fun vs H Q E h => ?_) (fun cdv A outer s H vs Q E hr h => ?_)
  · obtain ⟨p, l, as, S, z, rfl, _⟩ := h
    rfl
  · obtain ⟨p, l, as, S, z, rfl, W, hc, hz, hzl, hsz, k⟩ := h
    obtain ⟨dx, ho⟩ := id W.ob
    have hr1 : Room 1 _ := hr.mono (by decide)
    refine ⟨_, pss_cons (ps_expr (pe_meth0 (pv 0) U.cl m1 G1 hr1 b1 .nil pass0))
      (pss_one (ps_for PassesOwn.never rfl (pi_list (pe_call G3 hr rfl mg3 kp3 b3 .nil pass0 (pa_cons (pv 1) pa_nil))) (pg_name (i := 2) scWrite.nd rfl (Or.inl rfl))
        (pss_cons (ps_if (PW.pt (pw_or (pt_not (pt_val (pe_meth0 (pv 0) U.cl m2 G2 hr1 b2 .nil pass0)))
            (pw_or1 (pt_cmpR op_eq (pe_callB call_len_seq (by rfl) T.len PySem.boot_len (pa_cons (pe_ix ix_list (pe_fld (pv 0) rfl) (pe_un un_neg pe_int) (fun _ _ => rfl)) pa_nil)) (pe_glob (v := .int 12) rfl hP ⟨_, rfl⟩) (nomark _)))))
          (pss_one (ps_expr (pe_bm PySem.F.plainAttrs_list PySem.F.slot_list_append PySem.F.type_list_append mt_append (pe_fld (pv 0) rfl) (pa_cons (pe_lst pa_nil) pa_nil)))) pss_nil)
        (pss_one (ps_expr (pe_bm PySem.F.plainAttrs_list PySem.F.slot_list_append PySem.F.type_list_append mt_append (pe_ix ix_list (pe_fld (pv 0) rfl) (pe_un un_neg pe_int) (fun _ _ => rfl)) (pa_cons (pv 2) pa_nil))))))), ?_⟩
    have no : ∀ {m : Str} {fx kn : Int} {cl : Bool}, ¬ m = "closed" → ¬ m = "known" → ¬ m = "fixed" → ¬ m = "parts" → (wf l fx kn cl).lookup m = none := fun a b c d => wf_no _ _ _ _ a b c d
    refine ⟨_, rfl, p, dx, _, rfl, ho, no (by decide +kernel) (by decide +kernel) (by decide +kernel) (by decide +kernel), p, l, as, S, rfl, W, hc, ?_⟩
    refine ⟨_, rfl, z, rfl, hz, Nat.le_trans hzl (by decide), fun D H1 hD0 hD hs => ⟨D, rfl, ⟨_, SqL.of hD⟩, ?_⟩⟩
    refine for_list (K := K) (a := D) (xs := (z.cps.toList.map sg).map V.int) (WrInv C H p l D as S z)
      ⟨as, none, rfl, W.same hs, Stay.same hs, hD, W.fresh hD0⟩ (fun i σ H2 _ ⟨_, _, _, _, _, hD2, _⟩ => SqL.of hD2) ?_ ?_
    · rintro i x σ H2 hi ⟨as', v, rfl, W2, st, hD2, nD⟩
      obtain ⟨c, hcz, rfl⟩ : ∃ c, z.cps.toList[i]? = some c ∧ x = V.int (sg c) := by
        rw [List.getElem?_map, List.getElem?_map] at hi
        cases e : z.cps.toList[i]? with
        | none => rw [e] at hi; cases hi
        | some c => rw [e] at hi; exact ⟨c, rfl, (Option.some.inj hi).symm⟩
      have hil : i < z.cps.toList.length := (List.getElem?_eq_some_iff.mp hcz).1
      have hil' : i < z.length := by simpa [Str.length] using hil
      generalize hS2 : S.wr ((z.cps.toList.take i).map sg) = S2 at W2
      have hz2 : size S2 ≤ 95000 := by
        have := size_wr S ((z.cps.toList.take i).map sg)
        rw [hS2, List.length_map, List.length_take] at this
        omega
      have hfx : S2.fixed = S.fixed := by rw [← hS2]; rfl
      have hpn : (S.wr ((z.cps.toList.take (i + 1)).map sg)).parts = push1 S2.fixed S2.parts (sg c) := by
        rw [List.take_add_one, hcz, List.map_append]
        show (S.wr ((z.cps.toList.take i).map sg ++ [sg c])).parts = _
        rw [wr_snoc, hS2, hfx]
      have e3 : (S.wr ((z.cps.toList.take (i + 1)).map sg)).known = S2.known := by rw [← hS2]; rfl
      have e4 : (S.wr ((z.cps.toList.take (i + 1)).map sg)).closed = S2.closed := by rw [← hS2]; rfl
      have e2 : (S.wr ((z.cps.toList.take (i + 1)).map sg)).fixed = S2.fixed := by rw [← hS2]; rfl
      have last : ∀ (as3 : List Addr) (S3 : WS) (H3 : Hp), WrAt C H3 p l as3 S3 → S3.fixed = S2.fixed → S3.known = S2.known → S3.closed = S2.closed → S3.parts = (if full S2.fixed S2.parts = true then S2.parts ++ [[]] else S2.parts) → Stay (p :: l :: as') H2 (p :: l :: as3) H3 →
          ∀ N : Ends, N.nx = WrInv C H p l D as S z (i + 1) → tDrop (tBM K "list" rAppend (tOp (rIxL K) (tFld K (tVar 0) "parts") (tUn (rU fun i => .int (-i)) (tC (.int 1)))) (tCons (tVar 2) tNil)) N [some (.ref p), some (.str z), some (.int (sg c))] H3 := by
        intro as3 S3 H3 W3 q2 q3 q4 q1 st3 N hN
        obtain ⟨dx3, ho3⟩ := id W3.ob
        have hpos : 0 < S3.parts.length := by
          rw [q1]
          split
          · simp
          · rename_i hf
            simp [full] at hf
            omega
        have hl3 := W3.len
        obtain ⟨a, ha⟩ : ∃ a, as3[as3.length - 1]? = some a := ⟨as3[as3.length - 1]'(by omega), List.getElem?_eq_getElem _⟩
        obtain ⟨xs, hx, hxa⟩ := W3.at_ _ a ha
        have hat : atI (as3.map V.ref) (-1) = some (V.ref a) := atI_neg1 (by rw [List.length_map, List.getElem?_map, ha]; rfl)
        have hxl : xs.length ≤ 95000 := by
          have h1 := part_len hx
          have h2 : S3.parts.flatten.length = S2.parts.flatten.length := by
            rw [q1]
            split <;> simp
          unfold size at hz2
          omega
        refine ⟨_, rfl, p, C, dx3, _, _, rfl, ho3, U.cl, U.nP, wf_parts _ _ _ _, 1, rfl, l, _, _, _, rfl, rfl, SqL.of W3.ls, hat, .inl ⟨rfl, _, SqL.of hxa⟩, _, rfl, a, _, _, rfl, rfl, hxa, ?_, ?_⟩
        · refine small ?_
          rw [List.length_map]
          omega
        · rw [hN]
          have e : xs.map V.int ++ [V.int (sg c)] = (xs ++ [sg c]).map V.int := by simp
          rw [e]
          have hDn : D ∉ p :: l :: as3 := (st3 D _ hD2 nD).2
          have hDa : D ≠ a := fun z => hDn (by rw [z]; exact List.mem_cons_of_mem _ (List.mem_cons_of_mem _ (List.mem_of_getElem? ha)))
          refine ⟨as3, _, rfl, W3.add ha hx ?_ ?_ ?_ ?_, (st.trans st3).trans (add_stay (List.mem_of_getElem? ha)), ?_, hDn⟩
          · rw [hpn, q1]; rfl
          · rw [e2, q2]
          · rw [e3, q3]
          · rw [e4, q4]
          · rw [upd_ne hDa]; exact (st3 D _ hD2 nD).1
      obtain ⟨dx2, ho2⟩ := id W2.ob
      have more : ∀ N : Ends, N.nx = WrInv C H p l D as S z (i + 1) → full S2.fixed S2.parts = true → tDrop (tBM K "list" rAppend (tFld K (tVar 0) "parts") (tCons (tLst tNil) tNil))
          { N with nx := tDrop (tBM K "list" rAppend (tOp (rIxL K) (tFld K (tVar 0) "parts") (tUn (rU fun i => .int (-i)) (tC (.int 1)))) (tCons (tVar 2) tNil)) N } [some (.ref p), some (.str z), some (.int (sg c))] H2 := by
        intro N hN hf
        refine ⟨_, rfl, p, C, dx2, _, _, rfl, ho2, U.cl, U.nP, wf_parts _ _ _ _, .inl ⟨rfl, _, SqL.of W2.ls⟩, small' (by show 0 ≤ 200000; decide), fun q hq => ?_⟩
        have nlq : l ≠ q := ne_of_none W2.ls hq
        refine ⟨l, _, _, rfl, rfl, by rw [upd_ne nlq]; exact W2.ls, ?_, ?_⟩
        · unfold size at hz2
          refine small ?_
          rw [List.length_map, W2.len]
          omega
        · exact last (as' ++ [q]) { S2 with parts := S2.parts ++ [[]] } _ (W2.more hq rfl rfl rfl rfl) rfl rfl rfl (if_pos hf).symm (more_stay hq) N hN
      refine ⟨_, rfl, p, dx2, _, rfl, ho2, no (by decide +kernel) (by decide +kernel) (by decide +kernel) (by decide +kernel), p, l, as', S2, rfl, W2, _, rfl, ?_⟩
      by_cases hf : S2.fixed < S2.parts.length
      · rw [decide_eq_true hf]
        refine iteF ?_
        have hl2 := W2.len
        obtain ⟨a, ha⟩ : ∃ a, as'[as'.length - 1]? = some a := ⟨as'[as'.length - 1]'(by omega), List.getElem?_eq_getElem _⟩
        obtain ⟨xs, hx, hxa⟩ := W2.at_ _ a ha
        have hat : atI (as'.map V.ref) (-1) = some (V.ref a) := atI_neg1 (by rw [List.length_map, List.getElem?_map, ha]; rfl)
        refine ⟨_, rfl, p, C, dx2, _, _, rfl, ho2, U.cl, U.nP, wf_parts _ _ _ _, 1, rfl, l, _, _, _, rfl, rfl, SqL.of W2.ls, hat, a, _, rfl, .inl (SqL.of hxa), rfl, _, rfl, ?_⟩
        have e : full S2.fixed S2.parts = decide (V.int ((xs.map V.int).length : Nat) = V.int 12) := by
          unfold full
          rw [decide_eq_true hf, List.getLast?_eq_getElem?, ← hl2, hx, List.length_map]
          show (false || decide (xs.length = 12)) = _
          rw [Bool.false_or]
          exact decide_eq_decide.mpr ⟨fun z => by rw [z]; rfl, fun z => by have := V.int.inj z; omega⟩
        refine ite2 (fun h => ?_) (fun h => ?_)
        · exact more _ rfl (e.trans h)
        · exact last as' S2 H2 W2 rfl rfl rfl (if_neg (by rw [e]; exact h)).symm (fun b o h n => ⟨h, n⟩) _ rfl
      · rw [decide_eq_false hf]
        refine iteT ?_
        refine iteT ?_
        exact more _ rfl (by unfold full; rw [decide_eq_false hf]; rfl)
    · rintro σ H2 ⟨as', v, rfl, W2, st, _, _⟩
      rw [List.length_map, List.length_map, List.take_of_length_le (Nat.le_refl _)] at W2
      exact k as' H2 W2 st
end
end K61

namespace K61
open PySem L2
section
variable {P : Program} {w : World} {K : PySem.W.Frag} {mg : Str → Option Value} {base : Heap}
/-- what holds ahead of the i-th turn of due's comprehension -/
structure DueInv (C : Addr) (H : Hp) (p l D : Addr) (as : List Addr) (S : WS) (i : Nat) (H' : Hp) : Prop where
  but : But p H H'
  W : WrAt C H' p l as S.sent
  ts : ∃ ts : List (Addr × Addr), H' D = some (.lst (ts.map fun t => V.ref t.1)) ∧ ts.length = i ∧ ∀ (j : Nat) (t : Addr × Addr), ts[j]? = some t → H' t.1 = some (.tup [.int ((S.known + j : Nat) : Int), .ref t.2]) ∧ H' t.2 = some (.tup ((S.body (S.known + j)).map V.int))
theorem scDue : FnScope ["self", "to", "number"] ["self"] (defScope sDue) := ⟨rfl, rfl, rfl, by decide +kernel, rfl, by decide +kernel, by decide +kernel⟩
theorem ok_due {f C : Addr} {fd : FuncData} (F : Fun K "due" "Writer.due" sDue f fd) (T : Txt K mg) (U : WTxt K mg C) (M1 : MFn P w K mg base C "body_of" 1 ["self", "number"] (spBodyOf C)) : FnOk P w K mg base CX0 2 f fd ["self"] (spDue C) := by
  obtain ⟨f1, fd1, G1, m1, b1⟩ := M1
  obtain ⟨tM, hM⟩ := T.most
  refine F.ok scDue (fun vs H Q E h => ?_) (fun cdv A outer s H vs Q E hr h => ?_)
  · obtain ⟨p, l, as, S, rfl, _⟩ := h
    rfl
  · obtain ⟨p, l, as, S, rfl, W, hz, k⟩ := h
    obtain ⟨dx, ho⟩ := id W.ob
    refine ⟨_, pss_cons (ps_set (i := 1) scDue.nd rfl (Or.inl rfl) (pe_callB (call_min2 rfl) (by rfl) T.mn (by decide +kernel) (pa_cons (pe_op op_add (pe_fld (pv 0) rfl) (pe_glob (v := .int 4) rfl hM ⟨_, rfl⟩)) (pa_cons (pe_callB call_len_seq (by rfl) T.len PySem.boot_len (pa_cons (pe_fld (pv 0) rfl) pa_nil)) pa_nil))))
      (pss_cons (ps_fld (pv 0) (pe_callB (call_max2 rfl) (by rfl) T.mx (by decide +kernel) (pa_cons (pe_fld (pv 0) rfl) (pa_cons (pv 1) pa_nil))) rfl)
      (pss_one (ps_ret (pe_lc (own := [("number", 2)]) (g := gName 2) (tt := tYes) rfl scDue.nd (pi_range2 (by rfl) T.range (pa_cons (pe_fld (pv 0) rfl) (pa_cons (pv 1) pa_nil))) (blkOk_by (own := [("number", 2)]) (N := ["self", "to", "number"]) (sc := defScope sDue) (by decide +kernel))
        (fun _ _ _ _ _ => pg_name (i := 2) scDue.nd rfl (Or.inl rfl)) (fun _ _ _ _ _ => pts_nil) (fun _ _ _ _ _ => pe_tup (pa_cons (pv 2) (pa_cons (pe_meth (pv 0) U.cl m1 G1 hr b1 .nil pass0 (pa_cons (pv 2) pa_nil)) pa_nil))))))), ?_⟩
    have hkn := W.kn
    have hln := W.len
    have e1 : (if ((as.map V.ref).length : Int) < (S.known : Int) + 4 then ((as.map V.ref).length : Int) else (S.known : Int) + 4) = ((S.to : Nat) : Int) := by
      rw [List.length_map, hln]
      unfold WS.to
      split <;> omega
    have e2 : (if ((S.to : Nat) : Int) > (S.fixed : Int) then ((S.to : Nat) : Int) else (S.fixed : Int)) = ((S.sent.fixed : Nat) : Int) := by
      show _ = ((max S.fixed S.to : Nat) : Int)
      split <;> omega
    refine ⟨_, rfl, p, C, dx, _, _, rfl, ho, U.cl, U.nK, wf_known _ _ _ _, _, _, rfl, rfl, _, rfl, p, C, dx, _, _, rfl, ho, U.cl, U.nP, wf_parts _ _ _ _, l, _, rfl, .inl (SqL.of W.ls), _, _, rfl, ?_⟩
    rw [e1]
    refine ⟨_, rfl, p, C, dx, _, _, rfl, ho, U.cl, U.nF, wf_fixed _ _ _ _, _, rfl, _, _, rfl, ?_⟩
    rw [e2]
    refine ⟨_, rfl, p, C, dx, _, rfl, ho, U.cl, U.nF, wf_len _ _ _ _, ?_⟩
    rw [wf_pf]
    generalize hH1 : upd H p (.ins C dx (wf l (S.sent.fixed : Nat) S.known S.closed)) = H1
    have ho1 : H1 p = some (.ins C dx (wf l (S.sent.fixed : Nat) S.known S.closed)) := by rw [← hH1]; exact upd_same
    have but1 : But p H H1 := by rw [← hH1]; exact But.upd
    have W1 : WrAt C H1 p l as S.sent := W.turned (S' := S.sent) ⟨dx, ho1⟩ but1 rfl hkn
    have hto : S.to ≤ S.parts.length := Nat.min_le_right _ _
    have hpz : S.parts.length ≤ 90000 := Nat.le_trans (Nat.le_add_right _ _) hz
    refine ⟨_, rfl, p, C, dx, _, _, rfl, ho1, U.cl, U.nK, wf_known _ _ _ _, _, rfl, _, _, rfl, ⟨by omega, by omega, by omega, by omega⟩, fun D hD => ?_⟩
    have en : (((S.to : Nat) : Int) - (S.known : Int)).toNat = S.to - S.known := by omega
    rw [en]
    refine lc_range (lo := (S.known : Int)) (n := S.to - S.known) (DueInv C H p l D as S) ⟨?_, W1.same (same_new hD), [], upd_same, rfl, fun j t ht => by simp at ht⟩ ?_ ?_
    · exact but1.trans (But.same (same_new hD))
    · rintro i H2 hi ⟨but, W2, ts, hDl, htl, hts⟩
      obtain ⟨dx2, ho2⟩ := id W2.ob
      refine ⟨rfl, _, rfl, _, rfl, p, dx2, _, rfl, ho2, wf_no _ _ _ _ (by decide +kernel) (by decide +kernel) (by decide +kernel) (by decide +kernel), _, rfl, p, l, as, S.sent, S.known + i, rfl, W2, ?_, hz, fun u H3 hu hu3 hs => ?_⟩
      · show S.known + i < S.parts.length
        omega
      · refine ⟨small' (by show 2 ≤ 200000; decide), fun t ht => ?_⟩
        have hut : u ≠ t := ne_of_none hu3 ht
        have ht2 : H2 t = none := hs.free ht
        have hDt : D ≠ t := ne_of_none hDl ht2
        have hDu : D ≠ u := ne_of_none hDl hu
        have stay : ∀ b o, H2 b = some o → b ≠ D → (upd (upd H3 t (.tup [.int ((S.known : Int) + (i : Nat)), .ref u])) D (.lst (ts.map (fun t => V.ref t.1) ++ [V.ref t]))) b = some o := fun b o e hb => by
          rw [upd_ne hb, upd_ne (ne_of_none e ht2)]; exact hs b o e
        refine ⟨_, by rw [upd_ne hDt]; exact hs _ _ hDl, ?_, ?_, ?_, ts ++ [(t, u)], ?_, ?_, ?_⟩
        · refine small ?_
          rw [List.length_map, htl]
          omega
        · intro b o e hb
          have hbD : b ≠ D := ne_of_none e (by
            cases q : H D with
            | none => rfl
            | some o' =>
              have npD : D ≠ p := fun z => by rw [z, ho1] at hD; cases hD
              have := but1 D o' q npD
              rw [hD] at this; cases this)
          exact stay b o (but b o e hb) hbD
        · have fr : D ∉ p :: l :: as := by
            have := W1.fresh hD
            exact this
          have e : ∀ b o, H2 b = some o → b ∈ p :: l :: as → (upd (upd H3 t (.tup [.int ((S.known : Int) + (i : Nat)), .ref u])) D (.lst (ts.map (fun t => V.ref t.1) ++ [V.ref t]))) b = some o := fun b o e hb => stay b o e fun z => fr (z ▸ hb)
          refine ⟨⟨dx2, e _ _ ho2 (by simp)⟩, e _ _ W2.ls (by simp), W2.len, W2.nd, W2.nl, W2.kn, fun j a ha => ?_⟩
          obtain ⟨xs, h1, h2⟩ := W2.at_ j a ha
          exact ⟨xs, h1, e _ _ h2 (by simp [List.mem_of_getElem? ha])⟩
        · rw [upd_same]; simp
        · rw [List.length_append, htl]; rfl
        · intro j t' hj
          by_cases hjl : j < ts.length
          · rw [List.getElem?_append_left hjl] at hj
            obtain ⟨h1, h2⟩ := hts j t' hj
            refine ⟨stay _ _ h1 ?_, stay _ _ h2 ?_⟩
            · exact ne_of h1 hDl (by intro z; cases z)
            · exact ne_of h2 hDl (by intro z; cases z)
          · rw [List.getElem?_append_right (by omega)] at hj
            have hj0 : j - ts.length = 0 := by
              have := (List.getElem?_eq_some_iff.mp hj).1
              simp at this
              omega
            rw [hj0] at hj
            have e : (t, u) = t' := by simpa using hj
            subst e
            have hji : j = i := by omega
            subst hji
            refine ⟨?_, ?_⟩
            · rw [upd_ne hDt.symm, upd_same]; rfl
            · rw [upd_ne hDu.symm, upd_ne hut]; exact hu3
    · rintro H2 ⟨but, W2, ts, hDl, htl, hts⟩
      refine k D ts H2 ⟨hDl, by rw [htl, due_len], fun j t hj => ?_⟩ W2 but
      have hjl : j < S.to - S.known := by rw [← htl]; exact (List.getElem?_eq_some_iff.mp hj).1
      obtain ⟨h1, h2⟩ := hts j t hj
      exact ⟨_, due_get hjl, h1, h2⟩
end
end K61

/-! What list.extend does with a tuple: the layer has a rule for a list alone -/
namespace K61
section
open PySem PySem.AutoSeq1
/-- the built-in, handed a list at to and a tuple at from_: whatever own dict and slots the tuple has -/
theorem extend_tup {to from_ : Addr} {old more : Array Value} {c1 c2 : Nat} {dd : Option Addr} {sl : Array (Option Value)} (short : (!old.isEmpty && Builtin.List.listTooLong (old.size + more.size)) = false) (h1 : old.size ≤ sizeLine) (h2 : old.size + more.size ≤ sizeLine + 1) :
    Meets (Builtin.«list.extend» ⟨[.ref to, .ref from_], []⟩) (fun _ R st => st.heap.get? to = some { cls := .type "list", dict := none, data := .seq old c1, slots := #[] } ∧ st.heap.get? from_ = some { cls := .type "tuple", dict := dd, data := .seq more c2, slots := sl } ∧
      R (.ok (.ret Value.none)) { st with heap := st.heap.update to (Obj.mapSeq fun z => z ++ more), toks := st.toks }) := by
  refine .of_wp fun prog w A R st hyp => ?_
  obtain ⟨heap, gens, drawn, toks, os⟩ := st
  obtain ⟨isList, isTuple, rest⟩ := hyp
  have subs := And.intro sub_list_list (And.intro sub_tuple_tuple (And.intro sub_tuple_list sub_list_tuple))
  obtain ⟨i1, i2, i3, i4⟩ := subs
  have long : ¬ (!old.isEmpty && Builtin.List.listTooLong (old.size + more.size)) = true := by rw [short]; exact Bool.false_ne_true
  have fits : (old ++ more).size ≤ sizeLine + 1 := Nat.le_trans (Nat.le_of_eq Array.size_append) h2
  wp_walk using (wpAny_updateSeq isList rfl (hz := h1) (_hz' := fits)), wpAny_loadPart' isList, wpAny_loadPart' isTuple
  exact ⟨_, rfl, rest⟩
end
section
open PySem PySem.Spec PyProof.Rows L2
variable {X : Cx}
/-- xs.extend(t), t a tuple that is read -/
def rExtendT (K : PySem.W.Frag) : V → List V → Hp → VK → Prop := fun x args H Q => ∃ to from_ old more, x = .ref to ∧ args = [.ref from_] ∧ H to = some (.lst old) ∧ SqT K H from_ more ∧ old.length + more.length ≤ sizeLine ∧ Q .non (upd H to (.lst (old ++ more)))
theorem mt_extendT : MtM X "list.extend" (rExtendT X.K) := by
  intro pins st σ H x args v us Q I rx ra hyp
  obtain ⟨to, from_, old, more, ex, ea, isL, isT, room, rest⟩ := hyp
  subst ex ea
  obtain ⟨u, eu, ru⟩ := Vals.one ra
  obtain rfl : v = Value.ref to := rx
  obtain rfl : u = Value.ref from_ := ru
  subst eu
  obtain ⟨_, li, c1, rl, hlen, atL⟩ := I.lstM isL
  obtain ⟨ti, rt, ⟨⟨cls, dd, dat, sl⟩, atT, hcls, c2, hdat⟩, _⟩ := I.tuple isT
  obtain rfl : cls = Value.type "tuple" := hcls
  obtain rfl : dat = Data.seq ti.toArray c2 := hdat
  have tlen := rt.length
  have hs1 : li.toArray.size = old.length := by rw [List.size_toArray, hlen]
  have hs2 : ti.toArray.size = more.length := by rw [List.size_toArray, tlen]
  have both : li.toArray.size + ti.toArray.size ≤ sizeLine := by rw [hs1, hs2]; exact room
  have short : (!li.toArray.isEmpty && Builtin.List.listTooLong (li.toArray.size + ti.toArray.size)) = false := by rw [notLongL both]; exact Bool.and_false _
  have M := extend_tup (to := to) (from_ := from_) (c1 := c1) (c2 := c2) (dd := dd) (sl := sl) short (Nat.le_trans (Nat.le_add_right _ _) both) (Nat.le_succ_of_le both)
  have len2 : (old ++ more).length ≤ sizeLine := by rw [List.length_append]; exact room
  refine call_meets F.slot_list_extend ⟨_, atL, rfl⟩ F.entry_list_extend (F.args_list_extend_2 _ _) M ⟨atL, atT, .non, _, ?_, rfl, rest⟩
  exact I.lset isL atL (its' := li ++ ti) (by simp) (Vals.append rl rt) len2
end
open PySem L2
section
variable {P : Program} {w : World} {K : PySem.W.Frag} {mg : Str → Option Value} {base : Heap}
/-! ### Reader -/
theorem scRInit : FnScope ["self"] ["self"] (defScope sRInit) := ⟨rfl, rfl, rfl, by decide +kernel, rfl, by decide +kernel, by decide +kernel⟩
theorem ok_rInit {f R : Addr} {fd : FuncData} (F : Fun K "__init__" "Reader.__init__" sRInit f fd) (U : RTxt K mg R) : FnOk P w K mg base CX0 1 f fd ["self"] (spRInit R) := by
  refine F.ok scRInit (fun vs H Q E h => ?_) (fun cdv A outer s H vs Q E hr h => ?_)
  · obtain ⟨p, dx, rfl, _⟩ := h
    rfl
  · obtain ⟨p, dx, rfl, hp, k⟩ := h
    refine ⟨_, pss_cons (ps_fld (pv 0) (pe_lst pa_nil) rfl) (pss_cons (ps_fld (pv 0) pe_int rfl) (pss_cons (ps_fld (pv 0) pe_dnewK rfl) (pss_one (ps_fld (pv 0) pe_bl rfl)))), ?_⟩
    refine ⟨by decide, fun l hl => ?_⟩
    have npl : p ≠ l := ne_of_none hp hl
    refine ⟨_, rfl, p, R, dx, [], rfl, (by rw [upd_ne npl]; exact hp), U.cl, U.nS, (by show 0 < 1000; decide), ?_⟩
    refine ⟨_, rfl, p, R, dx, _, rfl, upd_same, U.cl, U.nN, (by show 1 < 1000; decide), ?_⟩
    rw [upd_upd]
    intro d hd
    have ndp : d ≠ p := fun z => by rw [z, upd_same] at hd; cases hd
    rw [upd_ne ndp] at hd
    have ndl : d ≠ l := fun z => by rw [z, upd_same] at hd; cases hd
    rw [upd_ne ndl] at hd
    refine ⟨_, rfl, p, R, dx, _, rfl, by rw [upd_ne ndp.symm]; exact upd_same, U.cl, U.nE, (by show (putF "count" (V.int 0) [(("signs" : Str), V.ref l)]).length < 1000; simp only [putF, if_neg ksn]; show 2 < 1000; decide), ?_⟩
    refine ⟨_, rfl, p, R, dx, _, rfl, upd_same, U.cl, U.nC, (by show (putF "early" (V.ref d) (putF "count" (V.int 0) [(("signs" : Str), V.ref l)])).length < 1000; simp only [putF, if_neg ksn, if_neg kse, if_neg kne]; show 3 < 1000; decide), ?_⟩
    rw [upd_upd]
    refine k l d _ hl hd ⟨⟨dx, upd_same⟩, ?_, ?_⟩ fun b o e hb => ?_
    · rw [upd_ne npl.symm, upd_ne ndl.symm, upd_ne npl.symm, upd_same]; rfl
    · rw [upd_ne ndp, upd_same]
    · rw [upd_ne hb, upd_ne (ne_of_none e hd), upd_ne hb, upd_ne (ne_of_none e hl)]
      exact e
theorem scText : FnScope ["self"] ["self"] (defScope sText) := ⟨rfl, rfl, rfl, by decide +kernel, rfl, by decide +kernel, by decide +kernel⟩
theorem ok_text {f R : Addr} {fd : FuncData} (F : Fun K "text" "Reader.text" sText f fd) (U : RTxt K mg R) (G1 : GFn P w K mg base "signs_text" 2 ["signs"] (spSignsText K)) : FnOk P w K mg base CX0 3 f fd ["self"] (spText R) := by
  obtain ⟨f1, fd1, G, mg1, kp, b⟩ := G1
  refine F.ok scText (fun vs H Q E h => ?_) (fun cdv A outer s H vs Q E hr h => ?_)
  · obtain ⟨p, sl, ed, kvs, n, cl, cs, rfl, _⟩ := h
    rfl
  · obtain ⟨p, sl, ed, kvs, n, cl, cs, rfl, D, hcs, hl, k⟩ := h
    obtain ⟨dx, ho⟩ := D.ob
    refine ⟨_, pss_one (ps_ret (pe_call G hr rfl mg1 kp b .nil pass0 (pa_cons (pe_fld (pv 0) rfl) pa_nil))), ?_⟩
    exact ⟨_, rfl, p, R, dx, _, _, rfl, ho, U.cl, U.nS, rf_signs _ _ _ _, sl, cs, rfl, SqL.of D.sg, hcs, hl, k⟩
theorem scEnded : FnScope ["self"] ["self"] (defScope sEnded) := ⟨rfl, rfl, rfl, by decide +kernel, rfl, by decide +kernel, by decide +kernel⟩
theorem ok_ended {f R : Addr} {fd : FuncData} (F : Fun K "ended" "Reader.ended" sEnded f fd) (U : RTxt K mg R) : FnOk P w K mg base CX0 1 f fd ["self"] (spEnded R) := by
  refine F.ok scEnded (fun vs H Q E h => ?_) (fun cdv A outer s H vs Q E hr h => ?_)
  · obtain ⟨p, sl, ed, ss, kvs, n, cl, rfl, _⟩ := h
    rfl
  · obtain ⟨p, sl, ed, ss, kvs, n, cl, rfl, D, k⟩ := h
    obtain ⟨dx, ho⟩ := D.ob
    refine ⟨_, pss_one (ps_ret (pe_fld (pv 0) rfl)), ?_⟩
    exact ⟨_, rfl, p, R, dx, _, _, rfl, ho, U.cl, U.nC, rf_closed _ _ _ _, k⟩
theorem cut_tail (x : V) (xs : List V) : cutV (x :: xs) (some 1) none = xs := by
  unfold cutV
  rw [show HT.sIx (x :: xs).length 0 (some 1) = 1 from (HT.sIx_nat _ _ 1).trans (by rw [List.length_cons]; omega), HT.sIx_none]
  simp
/-- how many pairs the dict at ed has -/
def edLen (ed : Addr) (H : Hp) : Nat := match H ed with
  | some (.dK kvs) => kvs.length
  | _ => 0
theorem edLen_of {ed : Addr} {H : Hp} {kvs : List (Key × V)} (h : H ed = some (.dK kvs)) : edLen ed H = kvs.length := by unfold edLen; rw [h]
/-- what holds ahead of each turn of take's loop -/
def TkInv (R : Addr) (H : Hp) (p sl ed t : Addr) (ss bd : List Int) (n : Nat) (cl : Bool) (σ : St) (H' : Hp) : Prop := ∃ v : Option V, σ = [some (.ref p), some (.int (n : Nat)), some (.ref t), v] ∧ But3 p sl ed H H' ∧
  (RdAt R H' p sl ed ss [(Sum.inl (n : Int), V.ref t)] n cl ∨ RdAt R H' p sl ed (ss ++ bd.drop 1) [] (n + 1) (decide (bd.headD 0 = 1)))
theorem scTake : FnScope ["self", "number", "body", "part"] ["self", "number", "body"] (defScope sTake) := ⟨rfl, rfl, rfl, by decide +kernel, rfl, by decide +kernel, by decide +kernel⟩
theorem ok_take {f R : Addr} {fd : FuncData} (F : Fun K "take" "Reader.take" sTake f fd) (T : Txt K mg) (U : RTxt K mg R) : FnOk P w K mg base CX0 1 f fd ["self", "number", "body"] (spTake R) := by
  refine F.ok scTake (fun vs H Q E h => ?_) (fun cdv A outer s H vs Q E hr h => ?_)
  · obtain ⟨p, sl, ed, ss, n, cl, t, bd, rfl, _⟩ := h
    rfl
  · obtain ⟨p, sl, ed, ss, n, cl, t, bd, rfl, D, ht, hbd, hsz, k⟩ := h
    have hu := hu_of hr
    obtain ⟨dx, ho⟩ := id D.ob
    obtain ⟨b0, br, rfl⟩ : ∃ b0 br, bd = b0 :: br := by
      cases bd with
      | nil => exact absurd rfl hbd
      | cons a r => exact ⟨a, r, rfl⟩
    have nps : p ≠ sl := ne_of ho D.sg (by intro z; cases z)
    have npe : p ≠ ed := ne_of ho D.ea (by intro z; cases z)
    have nse : sl ≠ ed := ne_of D.sg D.ea (by intro z; cases z)
    have ntp : t ≠ p := ne_of ht ho (by intro z; cases z)
    have nts : t ≠ sl := ne_of ht D.sg (by intro z; cases z)
    have nte : t ≠ ed := ne_of ht D.ea (by intro z; cases z)
    refine ⟨_, pss_cons (ps_if (pt_cmpR op_ge (pv 1) (pe_fld (pv 0) rfl) (nomark _)) (pss_one (ps_dput hu (pe_fld (pv 0) rfl) (pv 1) (pe_callTy call_tuple_of (by rfl) T.tup (by decide +kernel) (pa_cons (pv 2) pa_nil)) rfl)) pss_nil)
      (pss_cons (ps_while PassesOwn.never (pt_cmp (pc_din hu (pe_fld (pv 0) rfl) (pe_fld (pv 0) rfl)))
        (pss_cons (ps_set (i := 3) scTake.nd rfl (Or.inl rfl) (pe_dpop1 (pe_fld (pv 0) rfl) (pe_fld (pv 0) rfl) ⟨rfl, rfl, rfl, rfl⟩))
        (pss_cons (ps_expr (pe_bm PySem.F.plainAttrs_list PySem.F.slot_list_extend PySem.F.type_list_extend mt_extendT (pe_fld (pv 0) rfl) (pa_cons (pe_slice sl_tup (pv 3) (po_some pe_int) po_none) pa_nil)))
        (pss_cons (ps_fld (pv 0) (pe_cmpR op_eq (pe_ix ix_tup (pv 3) pe_int (fun _ _ => rfl)) pe_int (nomark _)) rfl)
        (pss_one (ps_fld (pv 0) (pe_op op_add (pe_fld (pv 0) rfl) pe_int) rfl))))))
      (pss_one (ps_ret (pe_fld (pv 0) rfl)))), ?_⟩
    refine ⟨_, rfl, _, rfl, p, R, dx, _, _, rfl, ho, U.cl, U.nN, rf_count _ _ _ _, _, _, rfl, rfl, _, rfl, ?_⟩
    rw [decide_eq_true (show (n : Int) ≥ (n : Int) from Int.le_refl _)]
    refine iteT ?_
    refine ⟨_, rfl, t, _, rfl, .inr ⟨SqT.of ht, ?_⟩⟩
    refine ⟨_, rfl, p, R, dx, _, _, rfl, ho, U.cl, U.nE, rf_early _ _ _ _, _, rfl, ed, _, rfl, DPut.k (k := Sum.inl (n : Int)) D.ea (small (by show 0 ≤ 200000; decide)), ?_⟩
    refine while_by (TkInv R H p sl ed t ss (b0 :: br) n cl) (fun _ H' => edLen ed H') ⟨none, rfl, fun b o e h1 h2 h3 => by rw [upd_ne h3]; exact e, .inl ⟨⟨dx, by rw [upd_ne npe]; exact ho⟩, by rw [upd_ne nse]; exact D.sg, upd_same⟩⟩ ?_ ?_
    · rintro σ H2 ⟨v, rfl, b3, D2 | D2⟩
      · obtain ⟨dx2, ho2⟩ := id D2.ob
        have hv : valV [((Sum.inl (n : Int) : Key), V.ref t)] (Sum.inl (n : Int)) = some (V.ref t) := by simp [valV]
        refine ⟨_, rfl, p, R, dx2, _, _, rfl, ho2, U.cl, U.nN, rf_count _ _ _ _, _, rfl, p, R, dx2, _, _, rfl, ho2, U.cl, U.nE, rf_early _ _ _ _, ed, _, rfl, DGet.k (k := Sum.inl (n : Int)) D2.ea, _, rfl, ?_⟩
        rw [hv]
        refine iteT ?_
        refine ⟨_, rfl, p, R, dx2, _, _, rfl, ho2, U.cl, U.nE, rf_early _ _ _ _, ed, rfl, .inl ⟨_, .inl D2.ea⟩, _, rfl, p, R, dx2, _, _, rfl, ho2, U.cl, U.nN, rf_count _ _ _ _, _, Sum.inl (n : Int), V.ref t, D2.ea, rfl, hv, ?_⟩
        rw [show dropK [((Sum.inl (n : Int) : Key), V.ref t)] (Sum.inl (n : Int)) = [] by simp [dropK]]
        have ht2 : H2 t = some (.tup ((b0 :: br).map V.int)) := b3 t _ ht ntp nts nte
        refine ⟨_, rfl, p, R, dx2, _, _, rfl, by rw [upd_ne npe]; exact ho2, U.cl, U.nS, rf_signs _ _ _ _, .inl ⟨rfl, _, SqL.of (by rw [upd_ne nse]; exact D2.sg)⟩, ?_⟩
        refine ⟨_, rfl, 1, rfl, t, _, rfl, SqT.of (by rw [upd_ne nte]; exact ht2), ?_, fun q hq => ?_⟩
        · rw [List.map_cons, show HT.sIx (V.int b0 :: br.map V.int).length 0 (some 1) = 1 from (HT.sIx_nat _ _ 1).trans (by rw [List.length_cons]; omega)]
          exact fun z => absurd z.1 (by decide)
        have e1 : cutV ((b0 :: br).map V.int) (some 1) none = br.map V.int := cut_tail _ _
        rw [e1]
        have hq' : ∀ {b o}, H2 b = some o → b ≠ ed → b ≠ q := fun {b o} e hb => by
          refine ne_of_none (o := o) ?_ hq
          rw [upd_ne hb]; exact e
        have npq : p ≠ q := hq' ho2 npe
        have nsq : sl ≠ q := hq' D2.sg nse
        have ntq : t ≠ q := hq' ht2 nte
        have neq : ed ≠ q := fun z => by rw [← z, upd_same] at hq; cases hq
        refine ⟨sl, q, _, _, rfl, rfl, by rw [upd_ne nsq, upd_ne nse]; exact D2.sg, SqT.of upd_same, ?_, ?_⟩
        · refine small' ?_
          rw [List.length_map, List.length_map]
          rw [List.length_cons] at hsz
          omega
        refine ⟨_, rfl, t, _, 0, V.int b0, rfl, rfl, SqT.of (by rw [upd_ne nts, upd_ne ntq, upd_ne nte]; exact ht2), atI_nat (j := 0) rfl, rfl, _, rfl, p, R, dx2, _, rfl, by rw [upd_ne nps, upd_ne npq, upd_ne npe]; exact ho2, U.cl, U.nC, rf_len _ _ _ _, ?_⟩
        rw [rf_pc]
        refine ⟨_, rfl, p, R, dx2, _, _, rfl, upd_same, U.cl, U.nN, rf_count _ _ _ _, _, _, rfl, rfl, _, rfl, p, R, dx2, _, rfl, upd_same, U.cl, U.nN, rf_len _ _ _ _, ?_⟩
        rw [rf_pn, upd_upd]
        have e2 : decide (V.int b0 = V.int 1) = decide ((b0 :: br).headD 0 = 1) := decide_eq_decide.mpr ⟨fun z => V.int.inj z, fun z => by rw [show b0 = 1 from z]⟩
        rw [e2]
        refine ⟨⟨_, rfl, fun b o e h1 h2 h3 => ?_, .inr ⟨⟨dx2, upd_same⟩, ?_, ?_⟩⟩, ?_⟩
        · have := b3 b o e h1 h2 h3
          rw [upd_ne h1, upd_ne h2, upd_ne (hq' this h3), upd_ne h3]
          exact this
        · rw [upd_ne nps.symm, upd_same, List.map_append]; rfl
        · rw [upd_ne npe.symm, upd_ne nse.symm, upd_ne neq, upd_same]
        · show edLen ed _ < edLen ed H2
          rw [edLen_of D2.ea, edLen_of (kvs := []) (by rw [upd_ne npe.symm, upd_ne nse.symm, upd_ne neq, upd_same])]
          exact Nat.zero_lt_one
      · obtain ⟨dx2, ho2⟩ := id D2.ob
        refine ⟨_, rfl, p, R, dx2, _, _, rfl, ho2, U.cl, U.nN, rf_count _ _ _ _, _, rfl, p, R, dx2, _, _, rfl, ho2, U.cl, U.nE, rf_early _ _ _ _, ed, _, rfl, DGet.k (k := Sum.inl ((n + 1 : Nat) : Int)) D2.ea, _, rfl, ?_⟩
        refine iteF ?_
        refine ⟨_, rfl, p, R, dx2, _, _, rfl, ho2, U.cl, U.nN, rf_count _ _ _ _, ?_⟩
        exact k H2 D2 b3
    · rintro σ H2 Q1 Q2 hq ⟨v, e, a, C', dx', fs, v', e1, e2, e3, e4, e5, v2, g, a2, C2, dx2, fs2, v2', g1, g2, g3, g4, g5, a3, o, h1, h2, c, h3, h4⟩
      exact ⟨v, e, a, C', dx', fs, v', e1, e2, e3, e4, e5, v2, g, a2, C2, dx2, fs2, v2', g1, g2, g3, g4, g5, a3, o, h1, h2, c, h3, hq _ _ h4⟩
end
end K61

namespace K61
open PySem L2
section
variable {P : Program} {w : World} {K : PySem.W.Frag} {mg : Str → Option Value} {base : Heap}
/-! ### the law's helpers -/
theorem scWhole : FnScope ["found"] ["found"] (defScope sWhole) := ⟨rfl, rfl, rfl, by decide +kernel, rfl, by decide +kernel, by decide +kernel⟩
theorem ok_whole {f : Addr} {fd : FuncData} (F : Fun K "_law_whole" "_law_whole" sWhole f fd) (T : Txt K mg) : FnOk P w K mg base CX0 1 f fd ["found"] spWhole := by
  refine F.ok scWhole (fun vs H Q E h => ?_) (fun cdv A outer s H vs Q E hr h => ?_)
  · obtain ⟨i, rfl, _⟩ := h
    rfl
  · obtain ⟨i, rfl, k⟩ := h
    refine ⟨_, pss_one (ps_ret (pe_and (pe_callB call_isi (by rfl) T.isi (by decide +kernel) (pa_cons (pv 0) (pa_cons (pe_bltn (v := .ty "int") (by rfl) T.int (by decide +kernel) rfl) pa_nil)))
      (pe_one (pe_not (pe_callB call_isi (by rfl) T.isi (by decide +kernel) (pa_cons (pv 0) (pa_cons (pe_bltn (v := .ty "bool") (by rfl) T.bool (by decide +kernel) rfl) pa_nil))))))), ?_⟩
    refine ⟨_, rfl, _, _, _, _, true, rfl, .ty "int", .base (.int i), kit_ty (by decide +kernel), true, rfl, ?_⟩
    refine iteT ?_
    exact ⟨_, rfl, _, _, _, _, false, rfl, .ty "bool", .base (.int i), kit_ty (by decide +kernel), false, rfl, k⟩
theorem scMixed : FnScope ["cell", "k", "stir"] ["cell", "k"] (defScope sMixed) := ⟨rfl, rfl, rfl, by decide +kernel, rfl, by decide +kernel, by decide +kernel⟩
theorem modM (x : Int) {m : Int} (h : 0 < m) (hm : m < 2 ^ 64) : -(2 ^ 64) < x % m ∧ x % m < 2 ^ 64 := by
  have h1 := Int.emod_nonneg x (show m ≠ 0 by omega)
  have h2 := Int.emod_lt_of_pos x h
  omega
theorem ok_mixed {f : Addr} {fd : FuncData} (F : Fun K "_law_mixed" "_law_mixed" sMixed f fd) : FnOk P w K mg base CX0 1 f fd ["cell", "k"] spMixed := by
  refine F.ok scMixed (fun vs H Q E h => ?_) (fun cdv A outer s H vs Q E hr h => ?_)
  · obtain ⟨c, j, rfl, _⟩ := h
    rfl
  · obtain ⟨c, j, rfl, h0, h1, k⟩ := h
    refine ⟨_, pss_cons (ps_set (i := 2) scMixed.nd rfl (Or.inl rfl) (pe_op op_mod (pe_op op_add (pe_op op_mod (pv 0) pe_int) (pe_op op_mul pe_int (pe_op op_add (pv 1) pe_int))) pe_int))
      (pss_cons (ps_set (i := 2) scMixed.nd rfl (Or.inl rfl) (pe_op op_mod (pe_op op_mul (pv 2) (pv 2)) pe_int))
      (pss_cons (ps_set (i := 2) scMixed.nd rfl (Or.inl rfl) (pe_op op_mod (pe_op op_mul (pe_op op_add (pv 2) (pe_op op_mul pe_int (pv 1))) pe_int) pe_int))
      (pss_one (ps_ret (pe_op op_fdivN (pe_op op_mod (pe_op op_mul (pv 2) (pv 2)) pe_int) pe_int))))), ?_⟩
    refine ⟨_, rfl, _, _, rfl, rfl, (by decide : (0 : Int) < 2305843009213693951), _, rfl, _, _, rfl, rfl, _, _, rfl, rfl, .inl ⟨by decide, by decide⟩, _, _, rfl, rfl, _, _, rfl, rfl, (by decide : (0 : Int) < 2305843009213693951), ?_⟩
    refine ⟨_, rfl, _, rfl, _, _, rfl, rfl, .inl (modM _ (by decide) (by decide)), _, _, rfl, rfl, (by decide : (0 : Int) < 2305843009213693921), ?_⟩
    refine ⟨_, rfl, _, rfl, _, _, rfl, rfl, .inl ⟨by decide, by decide⟩, _, _, rfl, rfl, _, _, rfl, rfl, .inr ⟨by decide, by decide⟩, _, _, rfl, rfl, (by decide : (0 : Int) < 2305843009213693951), ?_⟩
    exact ⟨_, rfl, _, rfl, _, _, rfl, rfl, .inl (modM _ (by decide) (by decide)), _, _, rfl, rfl, (by decide : (0 : Int) < 2305843009213693921), _, _, rfl, rfl, ⟨by decide, by decide⟩, k _⟩
theorem scLSign : FnScope ["number", "signs"] ["number"] (defScope sLSign) := ⟨rfl, rfl, rfl, by decide +kernel, rfl, by decide +kernel, by decide +kernel⟩
theorem ok_lSign {f : Addr} {fd : FuncData} (F : Fun K "_law_sign" "_law_sign" sLSign f fd) (T : Txt K mg) : FnOk P w K mg base CX0 1 f fd ["number"] spLSign := by
  refine F.ok scLSign (fun vs H Q E h => ?_) (fun cdv A outer s H vs Q E hr h => ?_)
  · obtain ⟨i, rfl, _⟩ := h
    rfl
  · obtain ⟨i, rfl, k⟩ := h
    refine ⟨_, pss_cons (ps_set (i := 1) scLSign.nd rfl (Or.inl rfl) pe_str)
      (pss_one (ps_ret (pe_ix ix_str (pv 1) (pe_op op_mod (pv 0) (pe_callB call_len_str (by rfl) T.len PySem.boot_len (pa_cons (pv 1) pa_nil))) (fun _ _ => rfl)))), ?_⟩
    have hl : ltS.length = 95 := by decide +kernel
    have hp : 0 ≤ i % 95 := Int.emod_nonneg i (by decide)
    have hq : i % 95 < 95 := Int.emod_lt_of_pos i (by decide)
    obtain ⟨j, hj⟩ : ∃ j : Nat, i % 95 = (j : Int) := ⟨_, (Int.toNat_of_nonneg hp).symm⟩
    have hlen : j < lts.length := by rw [lts_len]; omega
    refine ⟨_, rfl, _, rfl, _, rfl, ltS, congrArg (fun z => [V.str z]) (by decide +kernel), by decide, i, _, rfl, rfl, (by show (0 : Int) < ((ltS.length : Nat) : Int); rw [hl]; decide), ltS, (j : Int), lts[j], congrArg V.str (by decide +kernel), by rw [hl]; exact congrArg V.int hj, by decide, atI_nat (List.getElem?_eq_getElem hlen), k _ (List.getElem_mem hlen)⟩
theorem scRow : FnScope ["cell", "many", "size", "row", "rest", "k"] ["cell", "many", "size"] (defScope sRow) := ⟨rfl, rfl, rfl, by decide +kernel, rfl, by decide +kernel, by decide +kernel⟩
theorem ok_row {f : Addr} {fd : FuncData} (F : Fun K "_law_row" "_law_row" sRow f fd) (T : Txt K mg) (G1 : GFn P w K mg base "_law_mixed" 1 ["cell", "k"] spMixed) : FnOk P w K mg base CX0 2 f fd ["cell", "many", "size"] spRow := by
  obtain ⟨f1, fd1, G, mg1, kp, b⟩ := G1
  refine F.ok scRow (fun vs H Q E h => ?_) (fun cdv A outer s H vs Q E hr h => ?_)
  · obtain ⟨c, m, rfl, _⟩ := h
    rfl
  · obtain ⟨c, m, rfl, hm, k⟩ := h
    refine ⟨_, pss_cons (ps_set (i := 3) scRow.nd rfl (Or.inl rfl) (pe_lst pa_nil))
      (pss_cons (ps_set (i := 4) scRow.nd rfl (Or.inl rfl) (pv 0))
      (pss_cons (ps_for PassesOwn.never rfl (pi_range1 (by rfl) T.range (pa_cons (pv 1) pa_nil)) (pg_name (i := 5) scRow.nd rfl (Or.inl rfl))
        (pss_one (ps_if (PW.pt (pw_or (pt_cmpR op_lt (pv 0) (pe_op op_pow pe_int pe_int) (nomark _)) (pw_or1 (pt_cmpR op_eq (pv 4) pe_int (nomark _)))))
          (pss_one (ps_expr (pe_bm PySem.F.plainAttrs_list PySem.F.slot_list_append PySem.F.type_list_append mt_append (pv 3) (pa_cons (pe_op op_mod (pe_call G hr rfl mg1 kp b .nil pass0 (pa_cons (pv 0) (pa_cons (pv 5) pa_nil))) (pv 2)) pa_nil))))
          (pss_cons (ps_expr (pe_bm PySem.F.plainAttrs_list PySem.F.slot_list_append PySem.F.type_list_append mt_append (pv 3) (pa_cons (pe_op op_mod (pv 4) (pv 2)) pa_nil)))
            (pss_one (ps_set (i := 4) scRow.nd rfl (Or.inl rfl) (pe_op op_fdivN (pv 4) (pv 2))))))))
      (pss_one (ps_ret (pv 3))))), ?_⟩
    refine ⟨small' (by show 0 ≤ 200000; decide), fun a ha => ?_⟩
    refine ⟨_, rfl, _, rfl, m, rfl, by omega, by omega, ?_⟩
    rw [show ((m : Nat) : Int).toNat = m by omega]
    refine for_range (lo := 0) (n := m) (fun i σ H2 => ∃ (rest : Int) (v : Option V) (ns : List Int), σ = [some (.int c), some (.int m), some (.int 96), some (.ref a), some (.int rest), v] ∧ Same H H2 ∧ H2 a = some (.lst (ns.map V.int)) ∧ ns.length = i)
      ⟨c, none, [], rfl, same_new ha, upd_same, rfl⟩ ?_ ?_
    · rintro i σ H2 hi ⟨rest, v, ns, rfl, hs, hd, hn⟩
      have put : ∀ z : Int, Same H (upd H2 a (.lst (ns.map V.int ++ [V.int z]))) ∧ upd H2 a (.lst (ns.map V.int ++ [V.int z])) a = some (.lst ((ns ++ [z]).map V.int)) ∧ (ns ++ [z]).length = i + 1 := fun z =>
        ⟨fun b o e => by rw [upd_ne (ne_of_none e ha)]; exact hs b o e, by rw [upd_same]; simp, by rw [List.length_append, hn]; rfl⟩
      have hz : (ns.map V.int).length < sizeLine := small (by rw [List.length_map]; omega)
      have drawn : ∀ D : Ends, (D.nx = fun σ H2 => ∃ (rest : Int) (v : Option V) (ns : List Int), σ = [some (.int c), some (.int m), some (.int 96), some (.ref a), some (.int rest), v] ∧ Same H H2 ∧ H2 a = some (.lst (ns.map V.int)) ∧ ns.length = i + 1) →
          tDrop (tBM K "list" rAppend (tVar 3) (tCons (tOp (rI (fun _ j => 0 < j) fun i j => .int (i % j)) (tCall spMixed [] E0 (tCons (tVar 0) (tCons (tVar 5) tNil))) (tVar 2)) tNil)) D [some (.int c), some (.int m), some (.int 96), some (.ref a), some (.int rest), some (.int (0 + (i : Nat)))] H2 := by
        intro D hD
        refine ⟨_, rfl, .inl ⟨rfl, _, SqL.of hd⟩, _, rfl, _, rfl, c, 0 + (i : Nat), rfl, by omega, by omega, fun z => ⟨_, rfl, _, _, rfl, rfl, (by decide : (0 : Int) < 96), a, _, _, rfl, rfl, hd, hz, ?_⟩⟩
        rw [hD]
        obtain ⟨p1, p2, p3⟩ := put (z % 96)
        exact ⟨rest, _, _, rfl, p1, p2, p3⟩
      refine ⟨_, rfl, _, _, rfl, rfl, ⟨by decide, by decide, by decide⟩, _, _, rfl, rfl, _, rfl, ?_⟩
      refine ite2 (fun h => ?_) (fun h => ?_)
      · exact drawn _ rfl
      · refine ⟨_, rfl, rfl, _, rfl, ?_⟩
        refine ite2 (fun h2 => ?_) (fun h2 => ?_)
        · exact drawn _ rfl
        · refine ⟨_, rfl, .inl ⟨rfl, _, SqL.of hd⟩, _, rfl, _, rfl, _, _, rfl, rfl, (by decide : (0 : Int) < 96), a, _, _, rfl, rfl, hd, hz, ?_⟩
          obtain ⟨p1, p2, p3⟩ := put (rest % 96)
          exact ⟨_, rfl, _, rfl, _, _, rfl, rfl, ⟨by decide, by decide⟩, _, _, _, rfl, p1, p2, p3⟩
    · rintro σ H2 ⟨rest, v, ns, rfl, hs, hd, hn⟩
      exact ⟨_, rfl, k a ns H2 hn hd hs⟩
theorem scLText : FnScope ["cell", "row", "number"] ["cell"] (defScope sLText) := ⟨rfl, rfl, rfl, by decide +kernel, rfl, by decide +kernel, by decide +kernel⟩
theorem ok_lText {f : Addr} {fd : FuncData} (F : Fun K "_law_text" "_law_text" sLText f fd) (G1 : GFn P w K mg base "_law_row" 2 ["cell", "many", "size"] spRow) (G2 : GFn P w K mg base "_law_sign" 1 ["number"] spLSign) : FnOk P w K mg base CX0 3 f fd ["cell"] spLText := by
  obtain ⟨f1, fd1, G1, mg1, kp1, b1⟩ := G1
  obtain ⟨f2, fd2, G2, mg2, kp2, b2⟩ := G2
  refine F.ok scLText (fun vs H Q E h => ?_) (fun cdv A outer s H vs Q E hr h => ?_)
  · obtain ⟨c, rfl, _⟩ := h
    rfl
  · obtain ⟨c, rfl, k⟩ := h
    have hr1 : Room 1 _ := hr.mono (by decide)
    refine ⟨_, pss_cons (ps_set (i := 1) scLText.nd rfl (Or.inl rfl) (pe_call G1 hr rfl mg1 kp1 b1 .nil pass0 (pa_cons (pv 0) (pa_cons (pe_op op_add pe_int (pe_op op_mod (pe_op op_fdiv (pv 0) pe_int) pe_int)) (pa_cons pe_int pa_nil)))))
      (pss_one (ps_ret (pe_slice sl_str (pe_join pe_str (pe_lc (own := [("number", 2)]) (g := gName 2) (tt := tYes) rfl scLText.nd (pi_list (pv 1)) (blkOk_by (own := [("number", 2)]) (N := ["cell", "row", "number"]) (sc := defScope sLText) (by decide +kernel))
        (fun _ _ _ _ _ => pg_name (i := 2) scLText.nd rfl (Or.inl rfl)) (fun _ _ _ _ _ => pts_nil) (fun _ _ _ _ _ => pe_call G2 hr1 rfl mg2 kp2 b2 .nil pass0 (pa_cons (pv 2) pa_nil)))) (po_some pe_int) po_none))), ?_⟩
    have hp : 0 ≤ c / 5 % 41 := Int.emod_nonneg _ (by decide)
    have hq : c / 5 % 41 < 41 := Int.emod_lt_of_pos _ (by decide)
    obtain ⟨j, hj⟩ : ∃ j : Nat, c / 5 % 41 = (j : Int) := ⟨_, (Int.toNat_of_nonneg hp).symm⟩
    refine ⟨_, rfl, _, rfl, _, _, rfl, rfl, ⟨by decide, by decide⟩, _, _, rfl, rfl, (by decide : (0 : Int) < 41), _, _, rfl, rfl, c, 1 + j, ?_, by omega, fun a ns H1 hn ha hs => ?_⟩
    · show [V.int c, V.int (1 + c / 5 % 41), V.int 96] = [V.int c, V.int ((1 + j : Nat) : Int), V.int 96]
      rw [hj, show ((1 + j : Nat) : Int) = 1 + (j : Int) by omega]
    · refine ⟨⟨_, rfl⟩, _, rfl, a, rfl, ⟨_, SqL.of ha⟩, fun D hD => ?_⟩
      refine lc_list (K := K) (a := a) (xs := ns.map V.int) (fun i H' => Same H1 H' ∧ ∃ cs : List Nat, H' D = some (.lst ((cs.map fun c => (⟨#[c]⟩ : Str)).map V.str)) ∧ cs.length = i ∧ ∀ c ∈ cs, c ∈ lts) ⟨same_new hD, [], upd_same, rfl, fun c hc => by simp at hc⟩ (fun i H' _ q => SqL.of (q.1 _ _ ha)) ?_ ?_
      · rintro i x H2 hi ⟨hs2, cs, hd, hl, hcs⟩
        obtain ⟨z, rfl⟩ : ∃ z, x = V.int z := by
          rw [List.getElem?_map] at hi
          cases e : ns[i]? with
          | none => rw [e] at hi; cases hi
          | some z => rw [e] at hi; exact ⟨z, (Option.some.inj hi).symm⟩
        have hil := (List.getElem?_eq_some_iff.mp hi).1
        rw [List.length_map, hn] at hil
        refine ⟨rfl, _, rfl, z, rfl, fun c hc => ⟨_, hd, ?_, fun b o e => ?_, cs ++ [c], ?_, ?_, ?_⟩⟩
        · refine small ?_
          rw [List.length_map, List.length_map, hl]
          omega
        · rw [upd_ne (ne_of_none e hD)]; exact hs2 b o e
        · rw [upd_same]; simp
        · rw [List.length_append, hl]; rfl
        · intro x hx
          rcases List.mem_append.mp hx with h | h
          · exact hcs x h
          · rw [List.mem_singleton.mp h]; exact hc
      · rintro H2 ⟨hs2, cs, hd, hl, hcs⟩
        rw [List.length_map, hn] at hl
        refine ⟨_, D, _, rfl, rfl, .inl (SqL.of hd), ?_, ?_⟩
        · rw [ones_sum, show (("" : Str)).length = 0 by decide +kernel]; omega
        · have e := join_ones cs
          refine ⟨1, rfl, _, congrArg V.str e, ?_, ?_⟩
          · show cs.toArray.size ≤ sizeLine
            rw [List.size_toArray]
            exact small' (by omega)
          · refine k _ H2 (fun x hx => hcs x ?_) ?_ (hs.trans hs2)
            · exact List.mem_of_mem_drop (List.mem_of_mem_take hx)
            · show (((cs.toArray.toList.drop (HT.sIx cs.toArray.size 0 (some 1))).take (HT.sIx cs.toArray.size cs.toArray.size none - HT.sIx cs.toArray.size 0 (some 1))).toArray).size ≤ 40
              rw [HT.sIx_none, List.size_toArray, List.size_toArray, List.length_take, List.length_drop, show HT.sIx cs.length 0 (some 1) = min 1 cs.length from HT.sIx_nat _ _ 1]
              show min _ (cs.length - _) ≤ 40
              omega
end
end K61

/-! data as a whole: what == sees of the lists that due tells -/
namespace K61
open PySem L2
def intsD (b : List Int) : List PyData := b.map fun i => .int i
def dueD : Nat → List (List Int) → List PyData
  | _, [] => []
  | k, b :: bs => .tuple [.int (k : Int), .tuple (intsD b)] :: dueD (k + 1) bs
theorem intsD_lay : ∀ b : List Int, PyData.canLayAll0 (intsD b) = true
  | [] => by simp [intsD, PyData.canLayAll0]
  | i :: b => by
    have h := intsD_lay b
    simp only [intsD] at h
    simp [intsD, PyData.canLayAll0, PyData.canLay0, h]
theorem intsD_depth : ∀ b : List Int, PyData.depthAll (intsD b) ≤ 1
  | [] => by simp [intsD, PyData.depthAll]
  | i :: b => by
    have h := intsD_depth b
    simp only [intsD] at h
    simp only [intsD, List.map_cons, PyData.depthAll, PyData.depth]
    omega
theorem dueD_lay : ∀ (bs : List (List Int)) (k : Nat), PyData.canLayAll0 (dueD k bs) = true
  | [], _ => by simp [dueD, PyData.canLayAll0]
  | b :: bs, k => by simp [dueD, PyData.canLayAll0, PyData.canLay0, intsD_lay b, dueD_lay bs (k + 1)]
theorem dueD_depth : ∀ (bs : List (List Int)) (k : Nat), PyData.depthAll (dueD k bs) ≤ 10
  | [], _ => by simp [dueD, PyData.depthAll]
  | b :: bs, k => by
    have h := dueD_depth bs (k + 1)
    have h1 := intsD_depth b
    simp only [dueD, PyData.depthAll, PyData.depth]
    omega
theorem shaped_mk {d : PyData} (h1 : d.canLay0 = true) (h2 : d.depth ≤ 64) : SeqAt.shaped d = true := by
  show (d.canLay0 && decide (d.depth ≤ 64)) = true
  rw [h1, decide_eq_true h2]
  rfl
theorem dueD_shaped (bs : List (List Int)) (k : Nat) : SeqAt.shaped (.list (dueD k bs)) = true :=
  shaped_mk (by simp only [PyData.canLay0]; exact dueD_lay bs k) (by have := dueD_depth bs k; simp only [PyData.depth]; omega)
theorem bodyD_shaped (b : List Int) : SeqAt.shaped (.tuple (intsD b)) = true :=
  shaped_mk (by simp only [PyData.canLay0]; exact intsD_lay b) (by have := intsD_depth b; simp only [PyData.depth]; omega)
theorem nil_shaped : SeqAt.shaped (.list []) = true := dueD_shaped [] 0
theorem eqv_same {d : PyData} (h : SeqAt.shaped d = true) : PyData.eqv d d = true := SeqAt.eqv_refl d (SeqAt.canLay_of_shaped h)
theorem eqv_nil (bs : List (List Int)) (k : Nat) : PyData.eqv (.list (dueD k bs)) (.list []) = decide (bs = []) := by
  cases bs with
  | nil => simp [dueD, PyData.eqv, PyData.eqvAll]
  | cons b bs => simp [dueD, PyData.eqv, PyData.eqvAll]
variable {K : PySem.W.Frag} {H : Hp}
theorem intsDp : ∀ b : List Int, DpAll K H (b.map V.int) (intsD b)
  | [] => .nil
  | i :: b => .cons (.int i) (intsDp b)
theorem bodyDp {u : Addr} {b : List Int} (h : H u = some (.tup (b.map V.int))) : Dp K H (.ref u) (.tuple (intsD b)) := .tup (SqT.of h) (intsDp b)
theorem dueAll : ∀ (ts : List (Addr × Addr)) (bs : List (List Int)) (k : Nat), ts.length = bs.length →
    (∀ (i : Nat) (t : Addr × Addr), ts[i]? = some t → ∃ b, bs[i]? = some b ∧ H t.1 = some (.tup [.int ((k + i : Nat) : Int), .ref t.2]) ∧ H t.2 = some (.tup (b.map V.int))) →
    DpAll K H (ts.map fun t => V.ref t.1) (dueD k bs)
  | [], [], _, _, _ => .nil
  | [], b :: bs, _, h, _ => by simp at h
  | t :: ts, [], _, h, _ => by simp at h
  | t :: ts, b :: bs, k, h, at_ => by
    obtain ⟨b', h1, h2, h3⟩ := at_ 0 t rfl
    have e : b = b' := by simpa using h1
    subst e
    refine .cons (.tup (SqT.of h2) (.cons (.int _) (.cons (bodyDp h3) .nil))) (dueAll ts bs (k + 1) (by simpa using h) fun i t' ht => ?_)
    obtain ⟨b', g1, g2, g3⟩ := at_ (i + 1) t' (by simpa using ht)
    refine ⟨b', by simpa using g1, ?_, g3⟩
    rw [g2, show k + 1 + i = k + (i + 1) by omega]
theorem DueAt.dp {D : Addr} {k : Nat} {bs : List (List Int)} {ts : List (Addr × Addr)} (A : DueAt H D k bs ts) : Dp K H (.ref D) (.list (dueD k bs)) := .lst (SqL.of A.l) (dueAll ts bs k A.len A.at_)
theorem nilDp {q : Addr} (h : H q = some (.lst [])) : Dp K H (.ref q) (.list []) := .lst (SqL.of h) .nil
/-- all that it looks at is a list or a tuple that stands: it stands as long as these do -/
theorem DueAt.same {H' : Hp} {D : Addr} {k : Nat} {bs : List (List Int)} {ts : List (Addr × Addr)} (A : DueAt H D k bs ts) (e : Same H H') : DueAt H' D k bs ts :=
  ⟨e _ _ A.l, A.len, fun i t h => let ⟨b, h1, h2, h3⟩ := A.at_ i t h; ⟨b, h1, e _ _ h2, e _ _ h3⟩⟩
theorem DueAt.but {H' : Hp} {D p : Addr} {k : Nat} {bs : List (List Int)} {ts : List (Addr × Addr)} {o : HO} (A : DueAt H D k bs ts) (hp : H p = some o) (h1 : ∀ xs, o ≠ .lst xs) (h2 : ∀ xs, o ≠ .tup xs) (e : But p H H') : DueAt H' D k bs ts :=
  ⟨e _ _ A.l (ne_of A.l hp fun z => h1 _ z.symm), A.len, fun i t h => let ⟨b, g1, g2, g3⟩ := A.at_ i t h; ⟨b, g1, e _ _ g2 (ne_of g2 hp fun z => h2 _ z.symm), e _ _ g3 (ne_of g3 hp fun z => h2 _ z.symm)⟩⟩
/-! what was there ahead of a new thing stays -/
theorem But.keep {p : Addr} {H0 H1 H2 : Hp} (s : Same H0 H1) (n : H0 p = none) (b : But p H1 H2) : Same H0 H2 := fun c o e => b c o (s c o e) (ne_of_none e n)
theorem Stay.keep {fp fp' : List Addr} {H0 H1 H2 : Hp} (s : Same H0 H1) (n : ∀ b ∈ fp, H0 b = none) (st : Stay fp H1 fp' H2) : Same H0 H2 := fun c o e => (st c o (s c o e) fun hm => by rw [n c hm] at e; cases e).1
end K61

namespace K61
open PySem L2
theorem kvOf_keep : ∀ (ts : List Addr) (n : Nat) (z : Int) (v : V), z < n → (kvOf n ts).map (fun kv => if kv.1 = (Sum.inl z : Key) then (kv.1, v) else kv) = kvOf n ts
  | [], _, _, _, _ => rfl
  | t :: ts, n, z, v, h => by
    show (if (Sum.inl (n : Int) : Key) = Sum.inl z then ((Sum.inl (n : Int) : Key), v) else ((Sum.inl (n : Int) : Key), V.ref t)) :: (kvOf (n + 1) ts).map _ = (Sum.inl (n : Int), V.ref t) :: kvOf (n + 1) ts
    rw [if_neg (fun e => by have := Sum.inl.inj e; omega), kvOf_keep ts (n + 1) z v (by omega)]
theorem kvOf_put : ∀ (ts : List Addr) (n i : Nat) (u : Addr), (kvOf n ts).map (fun kv => if kv.1 = (Sum.inl ((n + i : Nat) : Int) : Key) then (kv.1, V.ref u) else kv) = kvOf n (ts.set i u)
  | [], _, _, _ => rfl
  | t :: ts, n, 0, u => by
    show (if (Sum.inl (n : Int) : Key) = Sum.inl ((n + 0 : Nat) : Int) then ((Sum.inl (n : Int) : Key), V.ref u) else ((Sum.inl (n : Int) : Key), V.ref t)) :: (kvOf (n + 1) ts).map _ = (Sum.inl (n : Int), V.ref u) :: kvOf (n + 1) ts
    rw [Nat.add_zero, if_pos rfl, kvOf_keep ts (n + 1) _ _ (by omega)]
  | t :: ts, n, i + 1, u => by
    show (if (Sum.inl (n : Int) : Key) = Sum.inl ((n + (i + 1) : Nat) : Int) then ((Sum.inl (n : Int) : Key), V.ref u) else ((Sum.inl (n : Int) : Key), V.ref t)) :: (kvOf (n + 1) ts).map _ = (Sum.inl (n : Int), V.ref t) :: kvOf (n + 1) (ts.set i u)
    rw [if_neg (fun e => by have := Sum.inl.inj e; omega), ← kvOf_put ts (n + 1) i u, show n + 1 + i = n + (i + 1) by omega]
theorem putK_old {kvs : List (Key × V)} {k : Key} {v w : V} (h : valV kvs k = some w) : putK kvs k v = kvs.map (fun kv => if kv.1 = k then (kv.1, v) else kv) := by
  unfold putK
  rw [valV_any, h]
  exact if_pos rfl
theorem seen_get (ts : List Addr) (n : Nat) : valV (kvOf 0 ts) (Sum.inl (n : Int)) = (ts[n]?).map V.ref := by
  have h := kvOf_get ts 0 n
  rw [Nat.zero_add] at h
  exact h
theorem seen_put (ts : List Addr) (n : Nat) (u : Addr) (h : n ≤ ts.length) : putK (kvOf 0 ts) (Sum.inl (n : Int)) (V.ref u) = kvOf 0 (if n < ts.length then ts.set n u else ts ++ [u]) := by
  have hg := seen_get ts n
  by_cases hl : n < ts.length
  · rw [List.getElem?_eq_getElem hl] at hg
    rw [putK_old hg, if_pos hl]
    have := kvOf_put ts 0 n u
    rw [Nat.zero_add] at this
    exact this
  · rw [List.getElem?_eq_none (by omega)] at hg
    rw [putK_new _ hg, if_neg hl, kvOf_snoc, Nat.zero_add, show ts.length = n by omega]
/-- the parts told, when i of due's list were looked at -/
def seenN (S : WS) (i : Nat) : List (List Int) := (List.range (max S.fixed (S.known + i))).map S.body
theorem seenN_len (S : WS) (i : Nat) : (seenN S i).length = max S.fixed (S.known + i) := by simp [seenN]
theorem seenN_get {S : WS} {i n : Nat} (h : n < max S.fixed (S.known + i)) : (seenN S i)[n]? = some (S.body n) := by
  unfold seenN
  rw [List.getElem?_map, List.getElem?_range h]; rfl
theorem WrAt.off {C p l q : Addr} {H : Hp} {as : List Addr} {S : WS} {o o' : HO} (W : WrAt C H p l as S) (h : H q = some o) (h1 : ∀ D dx fs, o ≠ .ins D dx fs) (h2 : ∀ xs, o ≠ .lst xs) : WrAt C (upd H q o') p l as S := by
  have n := W.apart h h1 h2
  obtain ⟨dx, ho⟩ := W.ob
  refine ⟨⟨dx, ?_⟩, ?_, W.len, W.nd, W.nl, W.kn, fun j a ha => ?_⟩
  · rw [upd_ne fun z => n (by rw [← z]; simp)]; exact ho
  · rw [upd_ne fun z => n (by rw [← z]; simp)]; exact W.ls
  · obtain ⟨xs, g1, g2⟩ := W.at_ j a ha
    exact ⟨xs, g1, by rw [upd_ne fun z => n (by rw [← z]; simp [List.mem_of_getElem? ha])]; exact g2⟩
theorem SeenAt.put {H : Hp} {sd u : Addr} {ts : List Addr} {S : WS} {i : Nat} (A : SeenAt H sd ts (seenN S i)) (hu : H u = some (.tup ((S.body (S.known + i)).map V.int))) :
    SeenAt (upd H sd (.dK (putK (kvOf 0 ts) (Sum.inl ((S.known + i : Nat) : Int)) (V.ref u)))) sd (if S.known + i < ts.length then ts.set (S.known + i) u else ts ++ [u]) (seenN S (i + 1)) := by
  have hl := A.len
  rw [seenN_len] at hl
  have nud : u ≠ sd := ne_of hu A.d (by intro z; cases z)
  have tup : ∀ (j : Nat) (t : Addr), ts[j]? = some t → upd H sd (.dK (putK (kvOf 0 ts) (Sum.inl ((S.known + i : Nat) : Int)) (V.ref u))) t = some (.tup ((S.body j).map V.int)) := fun j t ht => by
    obtain ⟨b, h1, h2⟩ := A.at_ j t ht
    have hj := (List.getElem?_eq_some_iff.mp ht).1
    rw [seenN_get (by omega)] at h1
    cases h1
    rw [upd_ne (ne_of h2 A.d (by intro z; cases z))]
    exact h2
  have tupu : upd H sd (.dK (putK (kvOf 0 ts) (Sum.inl ((S.known + i : Nat) : Int)) (V.ref u))) u = some (.tup ((S.body (S.known + i)).map V.int)) := by rw [upd_ne nud]; exact hu
  refine ⟨by rw [upd_same, seen_put _ _ _ (by omega)], ?_, fun j t ht => ?_⟩
  · rw [seenN_len]
    by_cases hn : S.known + i < ts.length
    · rw [if_pos hn, List.length_set]
      omega
    · rw [if_neg hn, List.length_append]
      show ts.length + 1 = _
      omega
  · by_cases hn : S.known + i < ts.length
    · rw [if_pos hn] at ht
      have hj := (List.getElem?_eq_some_iff.mp ht).1
      rw [List.length_set] at hj
      refine ⟨S.body j, seenN_get (by omega), ?_⟩
      by_cases hji : j = S.known + i
      · subst hji
        rw [List.getElem?_set_self hn] at ht
        cases ht
        exact tupu
      · rw [List.getElem?_set_ne (fun z => hji z.symm)] at ht
        exact tup j t ht
    · rw [if_neg hn] at ht
      have hj := (List.getElem?_eq_some_iff.mp ht).1
      rw [List.length_append] at hj
      have hj : j < ts.length + 1 := hj
      refine ⟨S.body j, seenN_get (by omega), ?_⟩
      by_cases hjl : j < ts.length
      · rw [List.getElem?_append_left hjl] at ht
        exact tup j t ht
      · rw [List.getElem?_append_right (by omega), show j - ts.length = 0 by omega] at ht
        have e : u = t := by simpa using ht
        subst e
        rw [show j = S.known + i by omega]
        exact tupu
section
variable {P : Program} {w : World} {K : PySem.W.Frag} {mg : Str → Option Value} {base : Heap}
/-- what holds ahead of the i-th turn of _law_due_right's loop -/
def DrInv (C : Addr) (H : Hp) (p l sd D : Addr) (as : List Addr) (S : WS) (tsd : List (Addr × Addr)) (i : Nat) (σ : St) (H2 : Hp) : Prop :=
  ∃ (v4 v5 v6 : Option V) (ts : List Addr), σ = [some (.ref p), some (.int (S.known : Nat)), some (.ref sd), some (.ref D), v4, v5, v6] ∧ (∀ b o, H b = some o → b ≠ p → b ≠ sd → H2 b = some o) ∧ WrAt C H2 p l as S.sent ∧ DueAt H2 D S.known S.due tsd ∧ SeenAt H2 sd ts (seenN S i)
theorem scDueRight : FnScope ["writer", "known", "seen", "found", "k", "number", "body"] ["writer", "known", "seen"] (defScope sDueRight) := ⟨rfl, rfl, rfl, by decide +kernel, rfl, by decide +kernel, by decide +kernel⟩
theorem ok_dueRight {f C : Addr} {fd : FuncData} (F : Fun K "_law_due_right" "_law_due_right" sDueRight f fd) (T : Txt K mg) (U : WTxt K mg C) (M1 : MFn P w K mg base C "due" 2 ["self"] (spDue C)) (G1 : GFn P w K mg base "_law_whole" 1 ["found"] spWhole) :
    FnOk P w K mg base CX0 3 f fd ["writer", "known", "seen"] (spDueRight C) := by
  obtain ⟨f1, fd1, GD, mD, bD⟩ := M1
  obtain ⟨f2, fd2, GW, mgW, kpW, bW⟩ := G1
  refine F.ok scDueRight (fun vs H Q E h => ?_) (fun cdv A outer s H vs Q E hr h => ?_)
  · obtain ⟨p, l, as, S, sd, ts, bs, sc, rfl, _⟩ := h
    rfl
  · obtain ⟨p, l, as, S, sd, ts, bs, sc, rfl, W, hz, D0, G, k⟩ := h
    have hr1 : Room 1 _ := hr.mono (by decide)
    have hu := hu_of hr
    obtain ⟨dx, ho⟩ := id W.ob
    have hkn := W.kn
    have hkf := G.kn
    have hpz : S.parts.length ≤ 90000 := Nat.le_trans (Nat.le_add_right _ _) hz
    have hto : S.to ≤ S.parts.length := Nat.min_le_right _ _
    have hto4 : S.to ≤ S.known + 4 := Nat.min_le_left _ _
    have hkt : S.known ≤ S.to := by unfold WS.to; omega
    have hfx : S.fixed ≤ S.parts.length := G.le
    refine ⟨_, pss_cons (ps_set (i := 3) scDueRight.nd rfl (Or.inl rfl) (pe_meth0 (pv 0) U.cl mD GD hr bD .nil pass0))
      (pss_cons (ps_if (PW.pt (pw_or (pt_not (pt_val (pe_callB call_isi (by rfl) T.isi (by decide +kernel) (pa_cons (pv 3) (pa_cons (pe_bltn (v := .ty "list") (by rfl) T.lst (by decide +kernel) rfl) pa_nil)))))
          (pw_or1 (pt_cmpR op_gt (pe_callB call_len_seq (by rfl) T.len PySem.boot_len (pa_cons (pv 3) pa_nil)) pe_int (nomark _))))) (pss_one (ps_ret pe_bl)) pss_nil)
      (pss_cons (ps_for PassesOwn.never rfl (pi_range1 (by rfl) T.range (pa_cons (pe_callB call_len_seq (by rfl) T.len PySem.boot_len (pa_cons (pv 3) pa_nil)) pa_nil)) (pg_name (i := 4) scDueRight.nd rfl (Or.inl rfl))
        (pss_cons (ps_if (PW.pt (pw_or (pt_not (pt_val (pe_callB call_isi (by rfl) T.isi (by decide +kernel) (pa_cons (pe_ix ix_list (pv 3) (pv 4) (fun _ _ => rfl)) (pa_cons (pe_bltn (v := .ty "tuple") (by rfl) T.tup (by decide +kernel) rfl) pa_nil)))))
            (pw_or (pt_cmpR op_ne (pe_callB call_len_seq (by rfl) T.len PySem.boot_len (pa_cons (pe_ix ix_list (pv 3) (pv 4) (fun _ _ => rfl)) pa_nil)) pe_int (nomark _))
            (pw_or1 (pt_not (pt_val (pe_call GW hr1 rfl mgW kpW bW .nil pass0 (pa_cons (pe_ix ix_tup (pe_ix ix_list (pv 3) (pv 4) (fun _ _ => rfl)) pe_int (fun _ _ => rfl)) pa_nil)))))))) (pss_one (ps_ret pe_bl)) pss_nil)
        (pss_cons (ps_asg (pe_ix ix_list (pv 3) (pv 4) (fun _ _ => rfl)) (pg_tup (by rfl) (pgs_cons (pg_name (i := 5) scDueRight.nd rfl (Or.inl rfl)) (pgs_cons (pg_name (i := 6) scDueRight.nd rfl (Or.inl rfl)) pgs_nil))))
        (pss_cons (ps_if (PW.pt (pw_or (pt_cmpR op_ne (pv 5) (pe_op op_add (pv 1) (pv 4)) (nomark _))
            (pw_or (pt_not (pt_val (pe_callB call_isi (by rfl) T.isi (by decide +kernel) (pa_cons (pv 6) (pa_cons (pe_bltn (v := .ty "tuple") (by rfl) T.tup (by decide +kernel) rfl) pa_nil)))))
            (pw_or1 (pt_cmpR (op_neD hr.units) (pe_dget2 hu (pv 2) (pv 5) (pv 6) ⟨rfl, rfl, rfl, rfl⟩) (pv 6) (nomark _)))))) (pss_one (ps_ret pe_bl)) pss_nil)
        (pss_one (ps_dput hu (pv 2) (pv 5) (pv 6) rfl))))))
      (pss_one (ps_ret (pe_cmpR (op_eqD hr.units) (pe_meth0 (pv 0) U.cl mD GD hr bD .nil pass0) (pv 3) (nomark _)))))), ?_⟩
    have no : ∀ {m : Str} {fx kn : Int} {cl : Bool}, ¬ m = "closed" → ¬ m = "known" → ¬ m = "fixed" → ¬ m = "parts" → (wf l fx kn cl).lookup m = none := fun a b c d => wf_no _ _ _ _ a b c d
    have nsp : sd ≠ p := ne_of D0.d ho (by intro z; cases z)
    refine ⟨_, rfl, p, dx, _, rfl, ho, no (by decide +kernel) (by decide +kernel) (by decide +kernel) (by decide +kernel), p, l, as, S, rfl, W, hz, fun D tsd H1 A1 W1 b1 => ?_⟩
    have hdl : tsd.length = S.to - S.known := by rw [A1.len, due_len]
    refine ⟨_, rfl, _, _, _, _, true, rfl, .ty "list", .base (.lst A1.l), kit_ty (by decide +kernel), true, rfl, ?_⟩
    refine iteF ?_
    refine ⟨_, rfl, D, _, rfl, .inl (SqL.of A1.l), _, _, rfl, rfl, _, rfl, ?_⟩
    rw [decide_eq_false (show ¬ (((tsd.map fun t => V.ref t.1).length : Nat) : Int) > 4 by rw [List.length_map, hdl]; omega)]
    refine iteF ?_
    refine ⟨_, rfl, D, _, rfl, .inl (SqL.of A1.l), _, rfl, by omega, by rw [List.length_map, hdl]; omega, ?_⟩
    rw [show (((tsd.map fun t => V.ref t.1).length : Nat) : Int).toNat = S.to - S.known by rw [List.length_map, hdl]; omega]
    refine for_range (lo := 0) (n := S.to - S.known) (DrInv C H p l sd D as S tsd) ⟨none, none, none, ts, rfl, fun b o e h1 _ => b1 b o e h1, W1, A1, ?_⟩ ?_ ?_
    · have e : bs = seenN S 0 := by
        rw [G.seen]
        unfold seenN
        rw [show max S.fixed (S.known + 0) = S.fixed by omega]
      rw [← e]
      exact ⟨b1 _ _ D0.d nsp, D0.len, fun i t ht => let ⟨b, g1, g2⟩ := D0.at_ i t ht; ⟨b, g1, b1 _ _ g2 (ne_of g2 ho (by intro z; cases z))⟩⟩
    · rintro i σ H2 hi ⟨v4, v5, v6, ts2, rfl, kp, W2, A2, S2⟩
      obtain ⟨t, ht⟩ : ∃ t, tsd[i]? = some t := ⟨tsd[i]'(by omega), List.getElem?_eq_getElem _⟩
      obtain ⟨t, u⟩ := t
      obtain ⟨bd, hb, htt, htu⟩ := A2.at_ i _ ht
      rw [due_get hi] at hb
      cases hb
      have hat : atI (tsd.map fun t => V.ref t.1) (0 + (i : Nat)) = some (V.ref t) := by
        rw [show (0 : Int) + ((i : Nat) : Int) = ((i : Nat) : Int) by omega]
        exact atI_nat (by rw [List.getElem?_map, ht]; rfl)
      refine ⟨_, rfl, _, rfl, D, _, _, _, rfl, rfl, SqL.of A2.l, hat, _, _, _, _, true, rfl, .ty "tuple", .base (.tup htt), kit_ty (by decide +kernel), true, rfl, ?_⟩
      refine iteF ?_
      refine ⟨_, rfl, _, rfl, D, _, _, _, rfl, rfl, SqL.of A2.l, hat, t, _, rfl, .inr (SqT.of htt), rfl, _, rfl, ?_⟩
      refine iteF ?_
      refine ⟨_, rfl, _, rfl, D, _, _, _, rfl, rfl, SqL.of A2.l, hat, t, _, 0, _, rfl, rfl, SqT.of htt, atI_nat (j := 0) rfl, _, rfl, true, rfl, ?_⟩
      refine iteF ?_
      refine ⟨_, rfl, _, rfl, D, _, _, _, rfl, rfl, SqL.of A2.l, hat, t, _, rfl, SqT.of htt, rfl, _, _, rfl, _, _, rfl, rfl, ?_⟩
      refine ⟨_, rfl, _, rfl, _, rfl, _, _, rfl, rfl, rfl, _, rfl, ?_⟩
      rw [decide_eq_true (show V.int ((S.known + i : Nat) : Int) = V.int (((S.known : Nat) : Int) + (0 + ((i : Nat) : Int))) by rw [show ((S.known + i : Nat) : Int) = ((S.known : Nat) : Int) + (0 + ((i : Nat) : Int)) by omega])]
      refine iteF ?_
      refine ⟨_, rfl, _, _, _, _, true, rfl, .ty "tuple", .base (.tup htu), kit_ty (by decide +kernel), true, rfl, ?_⟩
      refine iteF ?_
      have hl2 := S2.len
      rw [seenN_len] at hl2
      have same : ∃ t', (valV (kvOf 0 ts2) (Sum.inl ((S.known + i : Nat) : Int))).getD (V.ref u) = V.ref t' ∧ H2 t' = some (.tup ((S.body (S.known + i)).map V.int)) := by
        rw [seen_get]
        cases q : ts2[S.known + i]? with
        | none => exact ⟨u, rfl, htu⟩
        | some t' =>
          obtain ⟨b, g1, g2⟩ := S2.at_ _ t' q
          have hj := (List.getElem?_eq_some_iff.mp q).1
          rw [seenN_get (by omega)] at g1
          cases g1
          exact ⟨t', rfl, g2⟩
      obtain ⟨t', e1, e2⟩ := same
      refine ⟨_, rfl, sd, rfl, .inl ⟨_, .inl S2.d⟩, _, rfl, _, rfl, _, DGet.k (k := Sum.inl ((S.known + i : Nat) : Int)) S2.d, ?_⟩
      rw [e1]
      refine ⟨_, rfl, _, _, bodyDp e2, bodyDp htu, bodyD_shaped _, bodyD_shaped _, _, rfl, ?_⟩
      rw [eqv_same (bodyD_shaped _)]
      refine iteF ?_
      refine ⟨_, rfl, _, rfl, _, rfl, sd, _, rfl, DPut.k (k := Sum.inl ((S.known + i : Nat) : Int)) S2.d (small (by rw [kvOf_len]; omega)), ?_⟩
      refine ⟨_, _, _, _, rfl, fun b o e h1 h2 => ?_, W2.off S2.d (fun _ _ _ z => by cases z) (fun _ z => by cases z), A2.but S2.d (fun _ z => by cases z) (fun _ z => by cases z) But.upd, S2.put htu⟩
      rw [upd_ne h2]
      exact kp b o e h1 h2
    · rintro σ H2 ⟨v4, v5, v6, ts2, rfl, kp, W2, A2, S2⟩
      obtain ⟨dx2, ho2⟩ := id W2.ob
      refine ⟨_, rfl, p, dx2, _, rfl, ho2, no (by decide +kernel) (by decide +kernel) (by decide +kernel) (by decide +kernel), p, l, as, S.sent, rfl, W2, hz, fun D3 ts3 H3 A3 W3 b3 => ?_⟩
      have A2' : DueAt H3 D S.known S.due tsd := A2.but ho2 (fun _ z => by cases z) (fun _ z => by cases z) b3
      refine ⟨_, rfl, _, _, A3.dp, A2'.dp, dueD_shaped _ _, dueD_shaped _ _, ?_⟩
      have e : PyData.eqv (.list (dueD S.sent.known S.sent.due)) (.list (dueD S.known S.due)) = true := eqv_same (dueD_shaped _ _)
      rw [e]
      rw [sent_sent] at W3
      refine k ts2 H3 W3 ?_ fun b o e h1 h2 => b3 b o (kp b o e h1 h2) h1
      have e : seenN S (S.to - S.known) = seenOf S := by
        unfold seenN seenOf
        rw [show S.known + (S.to - S.known) = S.to by omega]
      rw [← e]
      exact ⟨b3 _ _ S2.d nsp, S2.len, fun i t ht => let ⟨b, g1, g2⟩ := S2.at_ i t ht; ⟨b, g1, b3 _ _ g2 (ne_of g2 ho2 (by intro z; cases z))⟩⟩
end
end K61

namespace K61
open PySem L2
theorem sigs_le (bs : List (List Int)) (i : Nat) : (sigs bs i).length ≤ (sigs bs bs.length).length := by
  have e : bs.take bs.length = bs.take i ++ bs.drop i := by rw [List.take_length, List.take_append_drop]
  unfold sigs
  rw [e, List.flatMap_append, List.length_append]
  omega
section
variable {P : Program} {w : World} {K : PySem.W.Frag} {mg : Str → Option Value} {base : Heap}
theorem scLRead : FnScope ["seen", "reader", "number"] ["seen"] (defScope sLRead) := ⟨rfl, rfl, rfl, by decide +kernel, rfl, by decide +kernel, by decide +kernel⟩
theorem ok_lRead {f R : Addr} {fd : FuncData} (F : Fun K "_law_read" "_law_read" sLRead f fd) (T : Txt K mg) (U : RTxt K mg R) (N1 : NFn P w K mg base R 1 ["self"] (spRInit R)) (M1 : MFn P w K mg base R "take" 1 ["self", "number", "body"] (spTake R))
    (M2 : MFn P w K mg base R "text" 3 ["self"] (spText R)) (M3 : MFn P w K mg base R "ended" 1 ["self"] (spEnded R)) : FnOk P w K mg base CX0 4 f fd ["seen"] spLRead := by
  obtain ⟨f1, fd1, MK, GI, bI⟩ := N1
  obtain ⟨f2, fd2, GT, mT, bT⟩ := M1
  obtain ⟨f3, fd3, GX, mX, bX⟩ := M2
  obtain ⟨f4, fd4, GE, mE, bE⟩ := M3
  refine F.ok scLRead (fun vs H Q E h => ?_) (fun cdv A outer s H vs Q E hr h => ?_)
  · obtain ⟨sd, ts, bs, cs, rfl, _⟩ := h
    rfl
  · obtain ⟨sd, ts, bs, cs, rfl, S, hbs, hbl, hsg, hcs, hcl, k⟩ := h
    have hr1 : Room 1 _ := hr.mono (by decide)
    have hr2 : Room 2 _ := hr.mono (by decide)
    have hu := hu_of hr
    refine ⟨_, pss_cons (ps_set (i := 1) scLRead.nd rfl (Or.inl rfl) (pe_make0 MK GI hr2 rfl U.mgR bI .nil pass0))
      (pss_cons (ps_for PassesOwn.never rfl (pi_range1 (by rfl) T.range (pa_cons (pe_callB call_lenD (by rfl) T.len PySem.boot_len (pa_cons (pv 0) pa_nil)) pa_nil)) (pg_name (i := 2) scLRead.nd rfl (Or.inl rfl))
        (pss_one (ps_if (PW.pt (pw_or (pt_cmp (pc_dnotin hu (pv 2) (pv 0)))
          (pw_or1 (pt_cmpR op_ne (pe_meth (pv 1) U.cl mT GT hr1 bT .nil pass0 (pa_cons (pv 2) (pa_cons (pe_dget hu (pv 0) (pv 2) (fun _ _ => rfl)) pa_nil))) (pe_op op_add (pv 2) pe_int) (nomark _))))) pss_never pss_nil)))
      (pss_one (ps_ret (pe_tup (pa_cons (pe_meth0 (pv 1) U.cl mX GX hr bX .nil pass0) (pa_cons (pe_meth0 (pv 1) U.cl mE GE hr1 bE .nil pass0) pa_nil)))))), ?_⟩
    have no : ∀ {m : Str} {sl ed : Addr} {n : Int} {cl : Bool}, ¬ m = "closed" → ¬ m = "early" → ¬ m = "count" → ¬ m = "signs" → (rf sl n ed cl).lookup m = none := fun a b c d => rf_no _ _ _ _ a b c d
    intro x dx nx ndx nex
    refine ⟨x, dx, rfl, upd_same, fun sl ed H1 hsl hed R1 b1 => ⟨rfl, ?_⟩⟩
    have s0 : Same H (upd (upd H dx (.own x)) x (.ins R dx [])) := fun b o e => by
      rw [upd_ne (ne_of_none e nx), upd_ne (ne_of_none e ndx)]
      exact e
    have s1 : Same H H1 := b1.keep s0 nx
    have nsl : H sl = none := s0.free hsl
    have ned : H ed = none := s0.free hed
    have hlen : ts.length = bs.length := S.len
    refine ⟨_, rfl, sd, _, rfl, s1 _ _ S.d, _, rfl, by omega, by rw [kvOf_len, hlen]; omega, ?_⟩
    rw [show (((kvOf 0 ts).length : Nat) : Int).toNat = bs.length by rw [kvOf_len, hlen]; omega]
    refine for_range (lo := 0) (n := bs.length) (fun i σ H2 => ∃ v : Option V, σ = [some (.ref sd), some (.ref x), v] ∧ Same H H2 ∧ RdAt R H2 x sl ed (sigs bs i) [] i (flag bs i)) ⟨none, rfl, s1, R1⟩ ?_ ?_
    · rintro i σ H2 hi ⟨v, rfl, s2, R2⟩
      obtain ⟨dx2, ho2⟩ := id R2.ob
      obtain ⟨t, ht⟩ : ∃ t, ts[i]? = some t := ⟨ts[i]'(by omega), List.getElem?_eq_getElem _⟩
      obtain ⟨bd, hb, htt⟩ := S.at_ i t ht
      obtain ⟨hne, hbd⟩ := hbs bd (List.mem_of_getElem? hb)
      have hv : valV (kvOf 0 ts) (Sum.inl (i : Int)) = some (V.ref t) := by rw [seen_get, ht]; rfl
      have e0 : (0 : Int) + ((i : Nat) : Int) = ((i : Nat) : Int) := Int.zero_add _
      rw [e0]
      refine ⟨_, rfl, _, rfl, sd, _, rfl, DGet.k (k := Sum.inl (i : Int)) (s2 _ _ S.d), _, rfl, ?_⟩
      rw [hv]
      refine iteF ?_
      refine ⟨_, rfl, x, dx2, _, rfl, ho2, no (by decide +kernel) (by decide +kernel) (by decide +kernel) (by decide +kernel), _, rfl, _, rfl, _, rfl, sd, _, rfl, hv ▸ DGet.k (k := Sum.inl (i : Int)) (s2 _ _ S.d), x, sl, ed, sigs bs i, i, flag bs i, t, bd, rfl, R2, s2 _ _ htt, hne, ?_, fun H3 R3 b3 => ?_⟩
      · have h1 := sigs_le bs i
        rw [hsg, List.length_map] at h1
        omega
      · refine ⟨_, rfl, _, _, rfl, rfl, rfl, _, rfl, ?_⟩
        refine iteNS (by rfl) ?_
        refine ⟨_, rfl, fun b o e => b3 b o (s2 b o e) (ne_of_none e nx) (ne_of_none e nsl) (ne_of_none e ned), ?_⟩
        have e1 : flag bs (i + 1) = decide (bd.headD 0 = 1) := by
          show decide ((bs[i]?.getD []).headD 0 = 1) = _
          rw [hb]; rfl
        rw [sigs_succ hb, e1]
        exact R3
    · rintro σ H2 ⟨v, rfl, s2, R2⟩
      rw [hsg] at R2
      obtain ⟨dx2, ho2⟩ := id R2.ob
      refine ⟨_, rfl, x, dx2, _, rfl, ho2, no (by decide +kernel) (by decide +kernel) (by decide +kernel) (by decide +kernel), x, sl, ed, [], bs.length, flag bs bs.length, cs, rfl, R2, hcs, by omega, fun H3 s3 => ?_⟩
      refine ⟨_, rfl, x, dx2, _, rfl, s3 _ _ ho2, no (by decide +kernel) (by decide +kernel) (by decide +kernel) (by decide +kernel), x, sl, ed, _, [], bs.length, flag bs bs.length, rfl, R2.same s3, ?_⟩
      refine ⟨small' (by show 2 ≤ 200000; decide), fun u hu => ?_⟩
      exact k u _ upd_same ((s2.trans s3).trans (same_new hu))
theorem scFresh : FnScope ["fresh", "other", "pair"] [] (defScope sFresh) := ⟨rfl, rfl, rfl, by decide +kernel, rfl, by decide +kernel, by decide +kernel⟩
theorem had_new : WS.new.had 0 = WS.new := rfl
theorem cl_new : WS.new.cl = ⟨[[]], 0, 0, true⟩ := rfl
theorem ok_fresh {f C : Addr} {fd : FuncData} (F : Fun K "_law_fresh_right" "_law_fresh_right" sFresh f fd) (T : Txt K mg) (U : WTxt K mg C) (N1 : NFn P w K mg base C 1 ["self"] (spWInit C)) (M1 : MFn P w K mg base C "had" 1 ["self", "count"] (spHad C))
    (M2 : MFn P w K mg base C "is_done" 2 ["self"] (spIsDone C)) (M3 : MFn P w K mg base C "left" 1 ["self"] (spLeft C)) (M4 : MFn P w K mg base C "due" 2 ["self"] (spDue C)) (M5 : MFn P w K mg base C "close" 2 ["self"] (spClose C)) : FnOk P w K mg base CX0 3 f fd [] spFresh := by
  obtain ⟨f1, fd1, MK, GI, bI⟩ := N1
  obtain ⟨f2, fd2, GH, mH, bH⟩ := M1
  obtain ⟨f3, fd3, GZ, mZ, bZ⟩ := M2
  obtain ⟨f4, fd4, GL, mL, bL⟩ := M3
  obtain ⟨f5, fd5, GD, mD, bD⟩ := M4
  obtain ⟨f6, fd6, GC, mC, bC⟩ := M5
  refine F.ok scFresh (fun vs H Q E h => ?_) (fun cdv A outer s H vs Q E hr h => ?_)
  · obtain ⟨rfl, _⟩ := h
    rfl
  · obtain ⟨rfl, k⟩ := h
    have hr1 : Room 1 _ := hr.mono (by decide)
    have hu := hu_of hr
    refine ⟨_, pss_cons (ps_set (i := 0) scFresh.nd rfl (Or.inl rfl) (pe_make0 MK GI hr rfl U.mgC bI .nil pass0))
      (pss_cons (ps_expr (pe_meth (pv 0) U.cl mH GH hr1 bH .nil pass0 (pa_cons pe_int pa_nil)))
      (pss_cons (ps_if (PW.pt (pw_or (pt_cmpR op_notBl (pe_meth0 (pv 0) U.cl mZ GZ hr bZ .nil pass0) pe_bl (nomark _))
          (pw_or (pt_cmpR op_ne (pe_meth0 (pv 0) U.cl mL GL hr1 bL .nil pass0) pe_int (nomark _))
          (pw_or1 (pt_cmpR (op_neD hr.units) (pe_meth0 (pv 0) U.cl mD GD hr bD .nil pass0) (pe_lst pa_nil) (nomark _)))))) (pss_one (ps_ret pe_bl)) pss_nil)
      (pss_cons (ps_set (i := 1) scFresh.nd rfl (Or.inl rfl) (pe_make0 MK GI hr rfl U.mgC bI .nil pass0))
      (pss_cons (ps_expr (pe_meth0 (pv 1) U.cl mC GC hr bC .nil pass0))
      (pss_cons (ps_if (PW.pt (pw_or (pt_cmpR op_notBl (pe_meth0 (pv 1) U.cl mZ GZ hr bZ .nil pass0) pe_bl (nomark _))
          (pw_or (pt_cmpR op_ne (pe_meth0 (pv 1) U.cl mL GL hr1 bL .nil pass0) pe_int (nomark _))
          (pw_or1 (pt_cmpR (op_neD hr.units) (pe_lc (own := [("pair", 2)]) (g := gName 2) (tt := tYes) (te := tOp (rIxT K) (tVar 2) (tC (.int 0))) rfl scFresh.nd (pi_list (pe_meth0 (pv 1) U.cl mD GD hr bD .nil pass0)) (blkOk_by (own := [("pair", 2)]) (N := ["fresh", "other", "pair"]) (sc := defScope sFresh) (by decide +kernel))
            (fun _ _ _ _ _ => pg_name (i := 2) scFresh.nd rfl (Or.inl rfl)) (fun _ _ _ _ _ => pts_nil) (fun _ _ _ _ _ => pe_ix ix_tup (pv 2) pe_int (fun _ _ => rfl))) (pe_lst (pa_cons pe_int pa_nil)) (nomark _)))))) (pss_one (ps_ret pe_bl)) pss_nil)
      (pss_cons (ps_expr (pe_meth (pv 1) U.cl mH GH hr1 bH .nil pass0 (pa_cons pe_int pa_nil)))
      (pss_one (ps_ret (pe_and (pe_cmpR op_isBl (pe_meth0 (pv 1) U.cl mZ GZ hr bZ .nil pass0) pe_bl (nomark _)) (pe_and (pe_cmpR op_eq (pe_meth0 (pv 1) U.cl mL GL hr1 bL .nil pass0) pe_int (nomark _))
        (pe_one (pe_cmpR (op_eqD hr.units) (pe_meth0 (pv 1) U.cl mD GD hr bD .nil pass0) (pe_lst pa_nil) (nomark _))))))))))))), ?_⟩
    have no : ∀ {m : Str} {l : Addr} {fx kn : Int} {cl : Bool}, ¬ m = "closed" → ¬ m = "known" → ¬ m = "fixed" → ¬ m = "parts" → (wf l fx kn cl).lookup m = none := fun a b c d => wf_no _ _ _ _ a b c d
    have no1 : ∀ {l : Addr} {fx kn : Int} {cl : Bool}, (wf l fx kn cl).lookup ("had" : Str) = none := no (by decide +kernel) (by decide +kernel) (by decide +kernel) (by decide +kernel)
    have no2 : ∀ {l : Addr} {fx kn : Int} {cl : Bool}, (wf l fx kn cl).lookup ("is_done" : Str) = none := no (by decide +kernel) (by decide +kernel) (by decide +kernel) (by decide +kernel)
    have no3 : ∀ {l : Addr} {fx kn : Int} {cl : Bool}, (wf l fx kn cl).lookup ("left" : Str) = none := no (by decide +kernel) (by decide +kernel) (by decide +kernel) (by decide +kernel)
    have no4 : ∀ {l : Addr} {fx kn : Int} {cl : Bool}, (wf l fx kn cl).lookup ("due" : Str) = none := no (by decide +kernel) (by decide +kernel) (by decide +kernel) (by decide +kernel)
    have no5 : ∀ {l : Addr} {fx kn : Int} {cl : Bool}, (wf l fx kn cl).lookup ("close" : Str) = none := no (by decide +kernel) (by decide +kernel) (by decide +kernel) (by decide +kernel)
    intro x dx nx ndx nex
    refine ⟨x, dx, rfl, upd_same, fun l H1 hl W1 b1 => ⟨rfl, ?_⟩⟩
    have s0 : Same H (upd (upd H dx (.own x)) x (.ins C dx [])) := fun b o e => by
      rw [upd_ne (ne_of_none e nx), upd_ne (ne_of_none e ndx)]
      exact e
    have s1 : Same H H1 := b1.keep s0 nx
    obtain ⟨d1, ho1⟩ := id W1.ob
    refine ⟨_, rfl, x, d1, _, rfl, ho1, no1, x, l, [], WS.new, 0, rfl, W1, fun H2 W2 b2 => ?_⟩
    have s2 : Same H H2 := b2.keep s1 nx
    rw [had_new] at W2
    obtain ⟨d2, ho2⟩ := id W2.ob
    refine ⟨_, rfl, x, d2, _, rfl, ho2, no2, x, l, [], WS.new, rfl, W2, false, false, rfl, rfl, _, rfl, ?_⟩
    refine iteF ?_
    refine ⟨_, rfl, x, d2, _, rfl, ho2, no3, x, l, [], WS.new, rfl, W2, rfl, _, rfl, ?_⟩
    refine iteF ?_
    refine ⟨_, rfl, x, d2, _, rfl, ho2, no4, x, l, [], WS.new, rfl, W2, by decide, fun D ts H3 A3 W3 b3 => ?_⟩
    have s3 : Same H H3 := b3.keep s2 nx
    refine ⟨small' (by show 0 ≤ 200000; decide), fun q hq => ⟨_, _, (A3.same (same_new hq)).dp, nilDp upd_same, dueD_shaped _ _, nil_shaped, _, rfl, ?_⟩⟩
    rw [eqv_nil, decide_eq_true (show WS.new.due = [] by decide)]
    refine iteF ?_
    have s4 : Same H (upd H3 q (.lst [])) := s3.trans (same_new hq)
    intro y dy ny ndy ney
    refine ⟨y, dy, rfl, upd_same, fun l2 H5 hl2 W5 b5 => ⟨rfl, ?_⟩⟩
    have ny0 : H y = none := s4.free ny
    have s4' : Same H (upd (upd (upd H3 q (.lst [])) dy (.own y)) y (.ins C dy [])) := fun b o e => by
      rw [upd_ne (ne_of_none e ny0), upd_ne (ne_of_none e (s4.free ndy))]
      exact s4 b o e
    have nl2 : H l2 = none := s4'.free hl2
    have s5 : Same H H5 := b5.keep s4' ny0
    obtain ⟨d5, ho5⟩ := id W5.ob
    refine ⟨_, rfl, y, d5, _, rfl, ho5, no5, y, l2, [], WS.new, rfl, W5, rfl, by decide, fun as6 H6 W6 st6 => ?_⟩
    have s6 : Same H H6 := st6.keep s5 fun b hb => by
      rcases List.mem_cons.mp hb with e | hb
      · rw [e]; exact ny0
      · rw [List.mem_singleton.mp hb]; exact nl2
    rw [cl_new] at W6
    obtain ⟨d6, ho6⟩ := id W6.ob
    refine ⟨_, rfl, y, d6, _, rfl, ho6, no2, y, l2, as6, _, rfl, W6, false, false, rfl, rfl, _, rfl, ?_⟩
    refine iteF ?_
    refine ⟨_, rfl, y, d6, _, rfl, ho6, no3, y, l2, as6, _, rfl, W6, rfl, _, rfl, ?_⟩
    refine iteF ?_
    refine ⟨_, rfl, y, d6, _, rfl, ho6, no4, y, l2, as6, _, rfl, W6, by decide, fun D7 ts7 H7 A7 W7 b7 => ⟨D7, rfl, ⟨_, SqL.of A7.l⟩, fun L hL => ?_⟩⟩
    have s7 : Same H H7 := b7.keep s6 ny0
    have hl7 : ts7.length = 1 := A7.len
    obtain ⟨t7, rfl⟩ : ∃ t, ts7 = [t] := by
      match ts7, hl7 with
      | [t], _ => exact ⟨t, rfl⟩
    obtain ⟨_, _, ht7, _⟩ := A7.at_ 0 t7 rfl
    refine lc_list (K := K) (a := D7) (xs := [V.ref t7.1]) (fun i H' => Same H7 H' ∧ H' L = some (.lst (([V.int 0] : List V).take i))) ⟨same_new hL, upd_same⟩ (fun i H' _ q => SqL.of (q.1 _ _ A7.l)) ?_ ?_
    · rintro i v H8 hi ⟨s8, h8⟩
      have hi0 : i = 0 := by
        have := (List.getElem?_eq_some_iff.mp hi).1
        simp at this
        exact this
      subst hi0
      have e : V.ref t7.1 = v := by simpa using hi
      subst e
      refine ⟨rfl, _, rfl, t7.1, _, 0, _, rfl, rfl, SqT.of (s8 _ _ ht7), atI_nat (j := 0) rfl, _, h8, small (by show 0 ≤ 200000; decide), fun b o e => ?_, ?_⟩
      · rw [upd_ne (ne_of_none e hL)]; exact s8 b o e
      · rw [upd_same]; rfl
    · rintro H8 ⟨s8, h8⟩
      have h8 : H8 L = some (.lst [V.int 0]) := h8
      refine ⟨small' (by show 1 ≤ 200000; decide), fun q2 hq2 => ?_⟩
      have sh : SeqAt.shaped (.list (intsD [0])) = true := shaped_mk (by simp only [PyData.canLay0]; exact intsD_lay _) (by have := intsD_depth [0]; simp only [PyData.depth]; omega)
      have h9 : upd H8 q2 (.lst [V.int 0]) L = some (.lst [V.int 0]) := same_new hq2 _ _ h8
      refine ⟨_, _, .lst (SqL.of h9) (intsDp [0]), .lst (SqL.of upd_same) (intsDp [0]), sh, sh, _, rfl, ?_⟩
      rw [eqv_same sh]
      refine iteF ?_
      have s9 : Same H7 (upd H8 q2 (.lst [V.int 0])) := s8.trans (same_new hq2)
      generalize upd H8 q2 (.lst [V.int 0]) = H9 at s9
      have W9 := W7.same s9
      have s9' : Same H H9 := s7.trans s9
      obtain ⟨d9, ho9⟩ := id W9.ob
      refine ⟨_, rfl, y, d9, _, rfl, ho9, no1, y, l2, as6, _, 1, rfl, W9, fun H10 W10 b10 => ?_⟩
      have s10 : Same H H10 := b10.keep s9' ny0
      obtain ⟨d10, ho10⟩ := id W10.ob
      refine ⟨_, rfl, y, d10, _, rfl, ho10, no2, y, l2, as6, _, rfl, W10, true, true, rfl, rfl, true, rfl, ?_⟩
      refine iteT ?_
      refine ⟨_, rfl, y, d10, _, rfl, ho10, no3, y, l2, as6, _, rfl, W10, rfl, true, rfl, ?_⟩
      refine iteT ?_
      refine ⟨_, rfl, y, d10, _, rfl, ho10, no4, y, l2, as6, _, rfl, W10, by decide, fun D11 ts11 H11 A11 W11 b11 => ?_⟩
      have s11 : Same H H11 := b11.keep s10 ny0
      refine ⟨small' (by show 0 ≤ 200000; decide), fun q3 hq3 => ⟨_, _, (A11.same (same_new hq3)).dp, nilDp upd_same, dueD_shaped _ _, nil_shaped, ?_⟩⟩
      rw [eqv_nil]
      exact k _ (s11.trans (same_new hq3))
end
end K61

namespace K61
open PySem L2
theorem sent_told {S : WS} (h : S.to ≤ S.fixed) : S.sent = S := by
  show ({ S with fixed := max S.fixed S.to } : WS) = S
  rw [Nat.max_eq_left h]
theorem SeenAt.but {p sd : Addr} {H H' : Hp} {ts : List Addr} {bs : List (List Int)} {C dx : Addr} {fs : List (Str × V)} (A : SeenAt H sd ts bs) (hp : H p = some (.ins C dx fs)) (b : But p H H') : SeenAt H' sd ts bs :=
  ⟨b _ _ A.d (ne_of A.d hp (by intro z; cases z)), A.len, fun i t h => let ⟨x, h1, h2⟩ := A.at_ i t h; ⟨x, h1, b _ _ h2 (ne_of h2 hp (by intro z; cases z))⟩⟩
theorem SeenAt.same {sd : Addr} {H H' : Hp} {ts : List Addr} {bs : List (List Int)} (A : SeenAt H sd ts bs) (e : Same H H') : SeenAt H' sd ts bs :=
  ⟨e _ _ A.d, A.len, fun i t h => let ⟨x, h1, h2⟩ := A.at_ i t h; ⟨x, h1, e _ _ h2⟩⟩
theorem SeenAt.stay {C p l sd : Addr} {H H' : Hp} {as fp : List Addr} {ts : List Addr} {bs : List (List Int)} {S : WS} (A : SeenAt H sd ts bs) (W : WrAt C H p l as S) (st : Stay (p :: l :: as) H fp H') : SeenAt H' sd ts bs :=
  ⟨(st _ _ A.d (W.apart A.d (fun _ _ _ z => by cases z) (fun _ z => by cases z))).1, A.len, fun i t h => let ⟨x, h1, h2⟩ := A.at_ i t h; ⟨x, h1, (st _ _ h2 (W.apart h2 (fun _ _ _ z => by cases z) (fun _ z => by cases z))).1⟩⟩
/-- what stands in the heap while the law runs: the writer, the parts told, the list of cells -/
structure LS (C : Addr) (H : Hp) (p l sd D : Addr) (xs : List V) (S : WS) (cs : List Nat) (bs : List (List Int)) (n : Nat) : Prop where
  W : ∃ as, WrAt C H p l as S ∧ D ∉ p :: l :: as
  seen : ∃ ts, SeenAt H sd ts bs
  good : Good S (cs.map sg) bs
  lets : ∀ c ∈ cs, c ∈ lts
  few : cs.length ≤ n
  parts : S.parts.length ≤ n + 1 ∧ (S.closed = false → S.parts.length ≤ n)
  D : H D = some (.lst xs)
section
variable {C p l sd D : Addr} {H H' : Hp} {xs : List V} {S S' : WS} {cs : List Nat} {bs bs' : List (List Int)} {n m : Nat}
theorem LS.mono (L : LS C H p l sd D xs S cs bs n) (h : n ≤ m) : LS C H p l sd D xs S cs bs m :=
  ⟨L.W, L.seen, L.good, L.lets, Nat.le_trans L.few h, ⟨Nat.le_trans L.parts.1 (by omega), fun z => Nat.le_trans (L.parts.2 z) h⟩, L.D⟩
theorem LS.same (L : LS C H p l sd D xs S cs bs n) (e : Same H H') : LS C H' p l sd D xs S cs bs n :=
  ⟨let ⟨as, W, nD⟩ := L.W; ⟨as, W.same e, nD⟩, let ⟨ts, A⟩ := L.seen; ⟨ts, A.same e⟩, L.good, L.lets, L.few, L.parts, e _ _ L.D⟩
theorem LS.size (L : LS C H p l sd D xs S cs bs n) (h : n ≤ 3000) : size S ≤ 90000 := by
  have h1 := L.good.flat
  have h2 := L.few
  have h3 := L.parts.1
  unfold K61.size
  rw [h1, List.length_map]
  omega
/-- the writer's instance alone has changed -/
theorem LS.but {as : List Addr} (L : LS C H p l sd D xs S cs bs n) (hD : D ∉ p :: l :: as) (W : WrAt C H' p l as S') (b : But p H H') (e : S'.parts = S.parts) (e2 : S'.closed = S.closed) (g : Good S' (cs.map sg) bs) : LS C H' p l sd D xs S' cs bs n := by
  obtain ⟨as0, W0, _⟩ := L.W
  obtain ⟨dx, ho⟩ := W0.ob
  obtain ⟨ts, A⟩ := L.seen
  refine ⟨⟨as, W, hD⟩, ⟨ts, A.but ho b⟩, g, L.lets, L.few, ?_, b _ _ L.D fun z => hD (by rw [z]; simp)⟩
  rw [e, e2]
  exact L.parts
/-- due was asked once more -/
theorem LS.again {as : List Addr} (L : LS C H p l sd D xs S cs bs n) (hD : D ∉ p :: l :: as) (W : WrAt C H' p l as S.sent) (b : But p H H') (t : S.to ≤ S.fixed) : LS C H' p l sd D xs S cs bs n := by
  rw [sent_told t] at W
  exact L.but hD W b rfl rfl L.good
theorem LS.left (L : LS C H p l sd D xs S cs bs n) : decide (S.due = []) = decide (S.left = 0) := by
  obtain ⟨as, W, _⟩ := L.W
  exact decide_eq_decide.mpr (due_nil W.kn)
end
theorem lts_small : ∀ c ∈ lts, c < 0x110000 := by decide
theorem lets_ok {cs : List Nat} (h : ∀ c ∈ cs, c ∈ lts) : PyData.strOk (⟨cs.toArray⟩ : Str) = true := by
  show cs.toArray.all (· < 0x110000) = true
  rw [List.all_toArray]
  exact List.all_eq_true.mpr fun c hc => decide_eq_true (lts_small c (h c hc))
theorem int_zero (k : Nat) : decide (V.int (k : Int) = V.int 0) = decide (k = 0) := decide_eq_decide.mpr ⟨fun z => by have := V.int.inj z; omega, fun z => by rw [z]; rfl⟩
theorem bl_same (b : Bool) : (!decide (V.bl b = V.bl b)) = false := by rw [decide_eq_true rfl]; rfl
/-- the law's slots -/
def lslots (a p sd : Addr) (S : WS) (cs : List Nat) (v6 v7 v8 v9 v10 v11 v12 : Option V) : St :=
  [some (.ref a), some (.ref p), some (.ref sd), some (.int (S.known : Nat)), some (.str ⟨cs.toArray⟩), some (.bl S.closed), v6, v7, v8, v9, v10, v11, v12]
/-- ahead of the i-th cell -/
def LInv (C a p l sd D : Addr) (xs : List V) (i : Nat) (σ : St) (H : Hp) : Prop := ∃ (S : WS) (cs : List Nat) (bs : List (List Int)) (v6 v7 v8 v9 v10 v11 v12 : Option V), σ = lslots a p sd S cs v6 v7 v8 v9 v10 v11 v12 ∧ LS C H p l sd D xs S cs bs (40 * i) ∧ S.to ≤ S.fixed
/-- between the deeds of a turn -/
def LMid (C a p l sd D : Addr) (xs : List V) (i : Nat) (c y : Int) (σ : St) (H : Hp) : Prop := ∃ (S : WS) (cs : List Nat) (bs : List (List Int)) (v8 v9 v10 v11 v12 : Option V), σ = lslots a p sd S cs (some (.int c)) (some (.int y)) v8 v9 v10 v11 v12 ∧ LS C H p l sd D xs S cs bs (40 * (i + 1))
/-- ahead of each turn of the while -/
def LWh (C a p l sd D : Addr) (xs : List V) (N : Nat) (σ : St) (H : Hp) : Prop := ∃ (S : WS) (cs : List Nat) (bs : List (List Int)) (v6 v7 v8 v9 v10 v11 : Option V), σ = lslots a p sd S cs v6 v7 v8 v9 v10 v11 (some (.int (N : Nat))) ∧ LS C H p l sd D xs S cs bs 2600 ∧ S.to ≤ S.fixed ∧ S.parts.length = N
def lknown (σ : L2.St) : Int := match (σ[3]? : Option (Option V)) with
  | some (some (V.int k)) => k
  | _ => 0
section
variable {P : Program} {w : World} {K : PySem.W.Frag} {mg : Str → Option Value} {base : Heap}
theorem wf_had {l : Addr} {fx kn : Int} {cl : Bool} : (wf l fx kn cl).lookup ("had" : Str) = none := wf_no _ _ _ _ (by decide +kernel) (by decide +kernel) (by decide +kernel) (by decide +kernel)
theorem wf_isDone {l : Addr} {fx kn : Int} {cl : Bool} : (wf l fx kn cl).lookup ("is_done" : Str) = none := wf_no _ _ _ _ (by decide +kernel) (by decide +kernel) (by decide +kernel) (by decide +kernel)
theorem wf_left {l : Addr} {fx kn : Int} {cl : Bool} : (wf l fx kn cl).lookup ("left" : Str) = none := wf_no _ _ _ _ (by decide +kernel) (by decide +kernel) (by decide +kernel) (by decide +kernel)
theorem wf_due {l : Addr} {fx kn : Int} {cl : Bool} : (wf l fx kn cl).lookup ("due" : Str) = none := wf_no _ _ _ _ (by decide +kernel) (by decide +kernel) (by decide +kernel) (by decide +kernel)
theorem wf_close {l : Addr} {fx kn : Int} {cl : Bool} : (wf l fx kn cl).lookup ("close" : Str) = none := wf_no _ _ _ _ (by decide +kernel) (by decide +kernel) (by decide +kernel) (by decide +kernel)
theorem wf_write {l : Addr} {fx kn : Int} {cl : Bool} : (wf l fx kn cl).lookup ("write" : Str) = none := wf_no _ _ _ _ (by decide +kernel) (by decide +kernel) (by decide +kernel) (by decide +kernel)
section
variable {C p l sd D : Addr} {H : Hp} {xs : List V} {S : WS} {cs : List Nat} {bs : List (List Int)} {n : Nat} {σ : L2.St} {Q : VK}
/-- what left tells -/
theorem ask_left (L : LS C H p l sd D xs S cs bs n) (h1 : σ[1]? = some (some (.ref p))) (q : Q (.int (S.left : Nat)) H) : tMeth C "left" (spLeft C) [] E0 (tVar 1) tNil σ H Q := by
  obtain ⟨as, W, _⟩ := L.W
  obtain ⟨dx, ho⟩ := W.ob
  exact ⟨_, h1, p, dx, _, rfl, ho, wf_left, p, l, as, S, rfl, W, q⟩
/-- what is_done tells -/
theorem ask_done (L : LS C H p l sd D xs S cs bs n) (h1 : σ[1]? = some (some (.ref p))) (q : Q (.bl (S.closed && decide (S.left = 0))) H) : tMeth C "is_done" (spIsDone C) [] E0 (tVar 1) tNil σ H Q := by
  obtain ⟨as, W, _⟩ := L.W
  obtain ⟨dx, ho⟩ := W.ob
  exact ⟨_, h1, p, dx, _, rfl, ho, wf_isDone, p, l, as, S, rfl, W, q⟩
/-- whether due tells nothing -/
theorem ask_due (L : LS C H p l sd D xs S cs bs n) (t : S.to ≤ S.fixed) (hn : n ≤ 3000) (h1 : σ[1]? = some (some (.ref p))) (q : ∀ H', LS C H' p l sd D xs S cs bs n → Q (.bl (decide (S.left = 0))) H') :
    tOp (rEqD K) (tMeth C "due" (spDue C) [] E0 (tVar 1) tNil) (tLst tNil) σ H Q := by
  obtain ⟨as, W, nD⟩ := L.W
  obtain ⟨dx, ho⟩ := W.ob
  refine ⟨_, h1, p, dx, _, rfl, ho, wf_due, p, l, as, S, rfl, W, L.size hn, fun D3 ts3 H3 A3 W3 b3 => ?_⟩
  refine ⟨small' (by show 0 ≤ 200000; decide), fun q3 hq3 => ⟨_, _, (A3.same (same_new hq3)).dp, nilDp upd_same, dueD_shaped _ _, nil_shaped, ?_⟩⟩
  rw [eqv_nil, L.left]
  exact q _ ((L.again nD W3 b3 t).same (same_new hq3))
/-- whether due tells something -/
theorem ask_dueN (L : LS C H p l sd D xs S cs bs n) (t : S.to ≤ S.fixed) (hn : n ≤ 3000) (h1 : σ[1]? = some (some (.ref p))) {R : Bool → Hp → Prop} (q : ∀ H', LS C H' p l sd D xs S cs bs n → R (!decide (S.left = 0)) H') :
    tTest (tOp (rNeD K) (tMeth C "due" (spDue C) [] E0 (tVar 1) tNil) (tLst tNil)) σ H R := by
  obtain ⟨as, W, nD⟩ := L.W
  obtain ⟨dx, ho⟩ := W.ob
  refine ⟨_, h1, p, dx, _, rfl, ho, wf_due, p, l, as, S, rfl, W, L.size hn, fun D3 ts3 H3 A3 W3 b3 => ?_⟩
  refine ⟨small' (by show 0 ≤ 200000; decide), fun q3 hq3 => ⟨_, _, (A3.same (same_new hq3)).dp, nilDp upd_same, dueD_shaped _ _, nil_shaped, _, rfl, ?_⟩⟩
  rw [eqv_nil, L.left]
  exact q _ ((L.again nD W3 b3 t).same (same_new hq3))
/-- the law's look at due -/
theorem ask_right (L : LS C H p l sd D xs S cs bs n) (hn : n ≤ 3000) (h1 : σ[1]? = some (some (.ref p))) (h2 : σ[2]? = some (some (.ref sd))) (h3 : σ[3]? = some (some (.int (S.known : Nat)))) (q : ∀ H', LS C H' p l sd D xs S.sent cs (seenOf S) n → Q (.bl true) H') :
    tCall (spDueRight C) [] E0 (tCons (tVar 1) (tCons (tVar 3) (tCons (tVar 2) tNil))) σ H Q := by
  obtain ⟨as, W, nD⟩ := L.W
  obtain ⟨ts, A⟩ := L.seen
  refine ⟨_, h1, _, h3, _, h2, p, l, as, S, sd, ts, bs, cs.map sg, rfl, W, L.size hn, A, L.good, fun ts' H' W' A' kp => q H' ⟨⟨as, W', nD⟩, ⟨ts', A'⟩, L.good.sent, L.lets, L.few, L.parts, ?_⟩⟩
  exact kp _ _ L.D (fun z => nD (by rw [z]; simp)) (ne_of L.D A.d (by intro z; cases z))
theorem sent_tell (S : WS) : S.sent.to ≤ S.sent.fixed := Nat.le_max_right _ _
end
theorem scLaw : FnScope ["script", "writer", "seen", "known", "written", "closed", "cell", "way", "text", "count", "none_left", "ended", "whole"] ["script"] (defScope sLaw) := ⟨rfl, rfl, rfl, by decide +kernel, rfl, by decide +kernel, by decide +kernel⟩
theorem ok_law {f C : Addr} {fd : FuncData} (F : Fun K "law" "law" sLaw f fd) (T : Txt K mg) (U : WTxt K mg C) (N1 : NFn P w K mg base C 1 ["self"] (spWInit C)) (M1 : MFn P w K mg base C "write" 3 ["self", "text"] (spWrite C)) (M2 : MFn P w K mg base C "close" 2 ["self"] (spClose C))
    (M3 : MFn P w K mg base C "had" 1 ["self", "count"] (spHad C)) (M4 : MFn P w K mg base C "left" 1 ["self"] (spLeft C)) (M5 : MFn P w K mg base C "is_done" 2 ["self"] (spIsDone C)) (M6 : MFn P w K mg base C "due" 2 ["self"] (spDue C))
    (G1 : GFn P w K mg base "_law_fresh_right" 3 [] spFresh) (G2 : GFn P w K mg base "_law_text" 3 ["cell"] spLText) (G3 : GFn P w K mg base "_law_due_right" 3 ["writer", "known", "seen"] (spDueRight C)) (G4 : GFn P w K mg base "_law_read" 4 ["seen"] spLRead) :
    FnOk P w K mg base CX0 5 f fd ["script"] (spLaw K) := by
  obtain ⟨f1, fd1, MK, GI, bI⟩ := N1
  obtain ⟨f2, fd2, GW, mW, bW⟩ := M1
  obtain ⟨f3, fd3, GC, mC, bC⟩ := M2
  obtain ⟨f4, fd4, GH, mH, bH⟩ := M3
  obtain ⟨f5, fd5, GL, mL, bL⟩ := M4
  obtain ⟨f6, fd6, GZ, mZ, bZ⟩ := M5
  obtain ⟨f7, fd7, GD, mD, bD⟩ := M6
  obtain ⟨f8, fd8, GF, mgF, kpF, bF⟩ := G1
  obtain ⟨f9, fd9, GT, mgT, kpT, bT⟩ := G2
  obtain ⟨f10, fd10, GR, mgR, kpR, bR⟩ := G3
  obtain ⟨f11, fd11, GA, mgA, kpA, bA⟩ := G4
  refine F.ok scLaw (fun vs H Q E h => ?_) (fun cdv A outer s H vs Q E hr h => ?_)
  · obtain ⟨a, ns, rfl, _⟩ := h
    rfl
  · obtain ⟨a, ns, rfl, hS, hns, k⟩ := h
    have hr1 : Room 1 _ := hr.mono (by decide)
    have hr2 : Room 2 _ := hr.mono (by decide)
    have hr3 : Room 3 _ := hr.mono (by decide)
    have hu := hu_of hr
    refine ⟨_, pss_cons (ps_if (pt_not (pt_val (pe_call0 GF hr3 rfl mgF kpF bF .nil pass0))) (pss_one (ps_ret pe_bl)) pss_nil)
      (pss_cons (ps_set (i := 1) scLaw.nd rfl (Or.inl rfl) (pe_make0 MK GI hr2 rfl U.mgC bI .nil pass0))
      (pss_cons (ps_set (i := 2) scLaw.nd rfl (Or.inl rfl) pe_dnewK)
      (pss_cons (ps_set (i := 3) scLaw.nd rfl (Or.inl rfl) pe_int)
      (pss_cons (ps_set (i := 4) scLaw.nd rfl (Or.inl rfl) pe_str)
      (pss_cons (ps_set (i := 5) scLaw.nd rfl (Or.inl rfl) pe_bl)
      (pss_cons (ps_for PassesOwn.never rfl (pi_list (pe_op op_cat (pe_lst (pa_cons pe_int pa_nil)) (pe_slice sl_list (pv 0) po_none (po_some pe_int)))) (pg_name (i := 6) scLaw.nd rfl (Or.inl rfl))
        (pss_cons (ps_set (i := 6) scLaw.nd rfl (Or.inl rfl) (pe_op op_mod (pv 6) (pe_op op_pow pe_int pe_int)))
        (pss_cons (ps_set (i := 7) scLaw.nd rfl (Or.inl rfl) (pe_op op_mod (pv 6) pe_int))
        (C8.pss_cut (ps_if (PW.pt (pw_and (pt_cmpR op_lt (pv 7) pe_int (nomark _)) (pw_and1 (pt_not (pt_val (pv 5))))))
          (pss_cons (ps_set (i := 8) scLaw.nd rfl (Or.inl rfl) (pe_call GT hr3 rfl mgT kpT bT .nil pass0 (pa_cons (pv 6) pa_nil)))
          (pss_cons (ps_expr (pe_meth (pv 1) U.cl mW GW hr3 bW .nil pass0 (pa_cons (pv 8) pa_nil)))
          (pss_one (ps_set (i := 4) scLaw.nd rfl (Or.inl rfl) (pe_op op_add_str (pv 4) (pv 8)))))) pss_nil)
        (C8.pss_cut (ps_if (PW.pt (pw_and (pt_cmpR op_eq (pv 7) pe_int (nomark _)) (pw_and (pt_cmpR op_eq (pe_op op_mod (pe_op op_fdiv (pv 6) pe_int) pe_int) pe_int (nomark _)) (pw_and1 (pt_not (pt_val (pv 5)))))))
          (pss_cons (ps_expr (pe_meth0 (pv 1) U.cl mC GC hr2 bC .nil pass0))
          (pss_one (ps_set (i := 5) scLaw.nd rfl (Or.inl rfl) pe_bl))) pss_nil)
        (C8.pss_cut (ps_if (PW.pt (pw_and (pt_cmpR op_gt (pv 7) pe_int (nomark _)) (pw_and1 (pt_cmpR op_gt (pe_callB call_lenD (by rfl) T.len PySem.boot_len (pa_cons (pv 2) pa_nil)) pe_int (nomark _)))))
          (pss_cons (ps_set (i := 9) scLaw.nd rfl (Or.inl rfl) (pe_op op_mod (pe_op op_fdiv (pv 6) pe_int) (pe_op op_add (pe_callB call_lenD (by rfl) T.len PySem.boot_len (pa_cons (pv 2) pa_nil)) pe_int)))
          (pss_cons (ps_expr (pe_meth (pv 1) U.cl mH GH hr1 bH .nil pass0 (pa_cons (pv 9) pa_nil)))
          (pss_one (ps_set (i := 3) scLaw.nd rfl (Or.inl rfl) (pe_callB (call_max2 rfl) (by rfl) T.mx (by decide +kernel) (pa_cons (pv 3) (pa_cons (pv 9) pa_nil))))))) pss_nil)
        (pss_cons (ps_set (i := 10) scLaw.nd rfl (Or.inl rfl) (pe_cmpR op_eq (pe_meth0 (pv 1) U.cl mL GL hr1 bL .nil pass0) pe_int (nomark _)))
        (pss_cons (ps_set (i := 11) scLaw.nd rfl (Or.inl rfl) (pe_meth0 (pv 1) U.cl mZ GZ hr2 bZ .nil pass0))
        (pss_cons (ps_if (pt_not (pt_val (pe_call GR hr3 rfl mgR kpR bR .nil pass0 (pa_cons (pv 1) (pa_cons (pv 3) (pa_cons (pv 2) pa_nil)))))) (pss_one (ps_ret pe_bl)) pss_nil)
        (pss_cons (ps_if (PW.pt (pw_or (pt_cmpR op_ne (pv 10) (pe_cmpR (op_eqD hr.units) (pe_meth0 (pv 1) U.cl mD GD hr2 bD .nil pass0) (pe_lst pa_nil) (nomark _)) (nomark _))
            (pw_or1 (pt_cmpR op_ne (pv 11) (pe_meth0 (pv 1) U.cl mZ GZ hr2 bZ .nil pass0) (nomark _))))) (pss_one (ps_ret pe_bl)) pss_nil)
        (pss_one (ps_if (PW.pt (pw_or (pt_cmpR op_ne (pe_cmpR op_eq (pe_meth0 (pv 1) U.cl mL GL hr1 bL .nil pass0) pe_int (nomark _)) (pe_cmpR (op_eqD hr.units) (pe_meth0 (pv 1) U.cl mD GD hr2 bD .nil pass0) (pe_lst pa_nil) (nomark _)) (nomark _))
            (pw_or1 (pt_cmpR op_ne (pe_meth0 (pv 1) U.cl mZ GZ hr2 bZ .nil pass0) (pe_and (pv 5) (pe_one (pe_cmpR op_eq (pe_meth0 (pv 1) U.cl mL GL hr1 bL .nil pass0) pe_int (nomark _)))) (nomark _))))) (pss_one (ps_ret pe_bl)) pss_nil))))))))))))
      (pss_cons (ps_set (i := 12) scLaw.nd rfl (Or.inl rfl) (pe_op op_add (pv 3) (pe_meth0 (pv 1) U.cl mL GL hr1 bL .nil pass0)))
      (pss_cons (ps_while PassesOwn.never (pt_cmpR (op_neD hr.units) (pe_meth0 (pv 1) U.cl mD GD hr2 bD .nil pass0) (pe_lst pa_nil) (nomark _))
        (pss_cons (ps_set (i := 3) scLaw.nd rfl (Or.inl rfl) (pe_op op_add (pv 3) (pe_callB call_len_seq (by rfl) T.len PySem.boot_len (pa_cons (pe_meth0 (pv 1) U.cl mD GD hr2 bD .nil pass0) pa_nil))))
        (pss_cons (ps_expr (pe_meth (pv 1) U.cl mH GH hr1 bH .nil pass0 (pa_cons (pv 3) pa_nil)))
        (pss_one (ps_if (PW.pt (pw_or (pt_not (pt_val (pe_call GR hr3 rfl mgR kpR bR .nil pass0 (pa_cons (pv 1) (pa_cons (pv 3) (pa_cons (pv 2) pa_nil))))))
            (pw_or1 (pt_cmpR op_ne (pe_op op_add (pv 3) (pe_meth0 (pv 1) U.cl mL GL hr1 bL .nil pass0)) (pv 12) (nomark _))))) (pss_one (ps_ret pe_bl)) pss_nil)))))
      (pss_cons (ps_if (pt_cmpR op_ne (pe_callB call_lenD (by rfl) T.len PySem.boot_len (pa_cons (pv 2) pa_nil)) (pv 12) (nomark _)) (pss_one (ps_ret pe_bl)) pss_nil)
      (pss_one (ps_ret (pe_and (pe_cmpR (op_eqD hr.units) (pe_call GA hr rfl mgA kpA bA .nil pass0 (pa_cons (pv 2) pa_nil)) (pe_tup (pa_cons (pv 4) (pa_cons (pv 5) pa_nil))) (nomark _))
        (pe_one (pe_cmpR op_eq (pe_meth0 (pv 1) U.cl mZ GZ hr2 bZ .nil pass0) (pv 5) (nomark _))))))))))))))), ?_⟩
    have eS : ("" : Str) = ⟨([] : List Nat).toArray⟩ := by decide +kernel
    refine ⟨rfl, fun H0 s0 => ⟨_, rfl, ?_⟩⟩
    refine iteF ?_
    intro p dx np ndp nex
    refine ⟨p, dx, rfl, upd_same, fun l H2 hl W2 b2 => ⟨rfl, ?_⟩⟩
    have s1 : Same H (upd (upd H0 dx (.own p)) p (.ins C dx [])) := fun b o e => by
      rw [upd_ne (ne_of_none (s0 b o e) np), upd_ne (ne_of_none (s0 b o e) ndp)]
      exact s0 b o e
    have s2 : Same H H2 := b2.keep s1 (s0.free np)
    intro sd hsd
    refine ⟨small' (by show 1 ≤ 200000; decide), fun q hq => ?_⟩
    have s3 : Same H2 (upd (upd H2 sd (.dK [])) q (.lst [.int 0])) := (same_new hsd).trans (same_new hq)
    refine ⟨_, rfl, 60, rfl, a, _, rfl, s3.seq (s2.seq hS), fun r hr => ?_⟩
    obtain ⟨zs, hzs, hzl⟩ : ∃ zs : List Int, [V.int 0] ++ cutV (ns.map V.int) none (some 60) = zs.map V.int ∧ zs.length ≤ 64 := by
      refine ⟨0 :: (ns.drop (HT.sIx (ns.map V.int).length 0 none)).take (HT.sIx (ns.map V.int).length (ns.map V.int).length (some 60) - HT.sIx (ns.map V.int).length 0 none), ?_, ?_⟩
      · unfold cutV
        rw [List.map_cons, List.map_take, List.map_drop]; rfl
      · rw [List.length_cons, List.length_take, List.length_drop]
        omega
    have hcl : (cutV (ns.map V.int) none (some 60)).length + 1 = zs.length := by
      have := congrArg List.length hzs
      rw [List.length_append, List.length_map] at this
      have e1 : ([V.int 0] : List V).length = 1 := rfl
      omega
    have nqr : q ≠ r := ne_of_none upd_same hr
    refine ⟨q, r, _, _, rfl, rfl, by rw [upd_ne nqr]; exact upd_same, upd_same, small' (by show 1 + _ ≤ 200000; omega), fun D hD => ⟨D, rfl, ⟨_, SqL.of upd_same⟩, ?_⟩⟩
    rw [hzs]
    generalize hH6 : upd (upd (upd (upd H2 sd (.dK [])) q (.lst [.int 0])) r (.lst (cutV (ns.map V.int) none (some 60)))) D (.lst (zs.map V.int)) = H6
    have hD6 : H6 D = some (.lst (zs.map V.int)) := by rw [← hH6]; exact upd_same
    have s5 : Same H2 (upd (upd (upd H2 sd (.dK [])) q (.lst [.int 0])) r (.lst (cutV (ns.map V.int) none (some 60)))) := s3.trans (same_new hr)
    have s6 : Same H2 H6 := by rw [← hH6]; exact s5.trans (same_new hD)
    have hsd6 : H6 sd = some (.dK []) := by
      rw [← hH6]
      exact (((same_new hq).trans (same_new hr)).trans (same_new hD)) sd _ upd_same
    have nD : D ∉ [p, l] := (W2.same s5).fresh hD
    refine for_list (K := K) (a := D) (xs := zs.map V.int) (LInv C a p l sd D (zs.map V.int)) ⟨WS.new, [], [], none, none, none, none, none, none, none, ?_, ⟨⟨[], W2.same s6, nD⟩, ⟨[], hsd6, rfl, fun i t h => by simp at h⟩, Good.new, fun c hc => by simp at hc, Nat.le_refl _, ⟨by decide, fun _ => by decide⟩, hD6⟩, by decide⟩ (fun i σ H' _ h => ?_) ?_ ?_
    · show [some (V.ref a), some (V.ref p), some (V.ref sd), some (V.int 0), some (V.str ("" : Str)), some (V.bl false), none, none, none, none, none, none, none] = _
      rw [eS]; rfl
    · obtain ⟨S, cs, bs, v6, v7, v8, v9, v10, v11, v12, _, L, _⟩ := h
      exact SqL.of L.D
    · rintro i v σ H' hi ⟨S, cs, bs, v6, v7, v8, v9, v10, v11, v12, rfl, L, told⟩
      obtain ⟨z, rfl⟩ : ∃ z, v = V.int z := by
        rw [List.getElem?_map] at hi
        cases e : zs[i]? with
        | none => rw [e] at hi; cases hi
        | some z => rw [e] at hi; exact ⟨z, (Option.some.inj hi).symm⟩
      have hil := (List.getElem?_eq_some_iff.mp hi).1
      rw [List.length_map] at hil
      have hn : 40 * (i + 1) ≤ 3000 := by omega
      refine ⟨_, rfl, _, _, rfl, rfl, ⟨by decide, by decide, by decide⟩, _, _, rfl, rfl, (by decide : (0 : Int) < 10 ^ (60 : Int).toNat), ?_⟩
      dsimp only
      generalize z % 10 ^ (60 : Int).toNat = c
      refine ⟨_, rfl, _, _, rfl, rfl, (by decide : (0 : Int) < 5), ?_⟩
      dsimp only
      generalize c % 5 = y
      refine ⟨LMid C a p l sd D (zs.map V.int) i c y, ?_, fun σ1 H1 m1 => ⟨LMid C a p l sd D (zs.map V.int) i c y, ?_, fun σ2 H2 m2 => ⟨LMid C a p l sd D (zs.map V.int) i c y, ?_, fun σ3 H3 m3 => ?_⟩⟩⟩
      · have stay : LMid C a p l sd D (zs.map V.int) i c y (lslots a p sd S cs (some (.int c)) (some (.int y)) v8 v9 v10 v11 v12) H' := ⟨S, cs, bs, v8, v9, v10, v11, v12, rfl, L.mono (by omega)⟩
        refine ⟨_, rfl, _, _, rfl, rfl, _, rfl, ?_⟩
        refine ite2 (fun h => ?_) (fun h => ?_)
        · refine ⟨_, rfl, _, rfl, ?_⟩
          refine ite2 (fun h2 => ?_) (fun h2 => ?_)
          · have hc : S.closed = false := by simpa using h2
            refine ⟨_, rfl, c, rfl, fun tx H1 htx htl s1 => ?_⟩
            have L1 := L.same s1
            obtain ⟨as, W, nD1⟩ := L1.W
            obtain ⟨ts, A⟩ := L1.seen
            obtain ⟨dw, ho⟩ := W.ob
            refine ⟨_, rfl, p, dw, _, rfl, ho, wf_write, _, rfl, p, l, as, S, tx, rfl, W, hc, htx, by omega, L1.size (by omega), fun as' H2 W' st => ?_⟩
            have htl' : tx.cps.toList.length ≤ 40 := by
              have : tx.cps.toList.length = tx.length := by simp [Str.length]
              omega
            have hfew := L1.few
            refine ⟨_, rfl, _, rfl, _, _, rfl, rfl, ?_, ?_⟩
            · refine small' ?_
              show cs.toArray.size + tx.length ≤ 200000
              rw [List.size_toArray]
              omega
            · have e : (⟨cs.toArray⟩ : Str) ++ tx = ⟨(cs ++ tx.cps.toList).toArray⟩ := by
                refine TL.ext_tl ?_
                rw [TL.tl_append]
              rw [e]
              have hpl := pushAll_len S.fixed (tx.cps.toList.map sg) S.parts
              rw [List.length_map] at hpl
              refine ⟨S.wr (tx.cps.toList.map sg), cs ++ tx.cps.toList, bs, _, v9, v10, v11, v12, rfl, ⟨⟨as', W', (st _ _ L1.D nD1).2⟩, ⟨ts, A.stay W st⟩, ?_, fun x hx => ?_, ?_, ⟨?_, fun _ => ?_⟩, (st _ _ L1.D nD1).1⟩⟩
              · rw [List.map_append]
                exact L1.good.wr hc
              · rcases List.mem_append.mp hx with h | h
                · exact L1.lets x h
                · exact htx x h
              · rw [List.length_append]; omega
              · show (pushAll S.fixed S.parts (tx.cps.toList.map sg)).length ≤ _
                have := L1.parts.2 hc
                omega
              · show (pushAll S.fixed S.parts (tx.cps.toList.map sg)).length ≤ _
                have := L1.parts.2 hc
                omega
          · first
              | exact stay
              | (refine iteF ?_; exact stay)
        · first
            | exact stay
            | (refine iteF ?_; exact stay)
      · obtain ⟨S, cs, bs, v8, v9, v10, v11, v12, rfl, L⟩ := m1
        have stay : LMid C a p l sd D (zs.map V.int) i c y (lslots a p sd S cs (some (.int c)) (some (.int y)) v8 v9 v10 v11 v12) H1 := ⟨S, cs, bs, v8, v9, v10, v11, v12, rfl, L⟩
        refine ⟨_, rfl, rfl, _, rfl, ?_⟩
        refine ite2 (fun h => ?_) (fun h => ?_)
        · refine ⟨_, rfl, _, _, rfl, rfl, ⟨by decide, by decide⟩, _, _, rfl, rfl, (by decide : (0 : Int) < 4), rfl, _, rfl, ?_⟩
          refine ite2 (fun h => ?_) (fun h => ?_)
          · refine ⟨_, rfl, _, rfl, ?_⟩
            refine ite2 (fun h2 => ?_) (fun h2 => ?_)
            · have hc : S.closed = false := by simpa using h2
              obtain ⟨as, W, nD1⟩ := L.W
              obtain ⟨ts, A⟩ := L.seen
              obtain ⟨dw, ho⟩ := W.ob
              refine ⟨_, rfl, p, dw, _, rfl, ho, wf_close, p, l, as, S, rfl, W, hc, L.size hn, fun as' H2 W' st => ?_⟩
              refine ⟨S.cl, cs, bs, v8, v9, v10, v11, v12, rfl, ⟨⟨as', W', (st _ _ L.D nD1).2⟩, ⟨ts, A.stay W st⟩, L.good.cl' hc, L.lets, L.few, ⟨?_, fun z => by cases z⟩, (st _ _ L.D nD1).1⟩⟩
              have := L.parts.2 hc
              show (if S.fixed < S.parts.length then S.parts else S.parts ++ [[]]).length ≤ _
              split
              · omega
              · rw [List.length_append]
                show S.parts.length + 1 ≤ _
                omega
            · first
                | exact stay
                | (refine iteF ?_; exact stay)
          · first
              | exact stay
              | (refine iteF ?_; exact stay)
        · first
            | exact stay
            | (refine iteF ?_; exact stay)
      · obtain ⟨S, cs, bs, v8, v9, v10, v11, v12, rfl, L⟩ := m2
        have stay : LMid C a p l sd D (zs.map V.int) i c y (lslots a p sd S cs (some (.int c)) (some (.int y)) v8 v9 v10 v11 v12) H2 := ⟨S, cs, bs, v8, v9, v10, v11, v12, rfl, L⟩
        obtain ⟨ts, A⟩ := L.seen
        refine ⟨_, rfl, _, _, rfl, rfl, _, rfl, ?_⟩
        refine ite2 (fun h => ?_) (fun h => ?_)
        · refine ⟨_, rfl, sd, _, rfl, A.d, _, _, rfl, rfl, _, rfl, ?_⟩
          refine ite2 (fun h2 => ?_) (fun h2 => ?_)
          · obtain ⟨as, W, nD1⟩ := L.W
            obtain ⟨dw, ho⟩ := W.ob
            have hpos : (0 : Int) < (((kvOf 0 ts).length : Nat) : Int) + 1 := by omega
            refine ⟨_, rfl, _, _, rfl, rfl, ⟨by decide, by decide⟩, _, rfl, sd, _, rfl, A.d, _, _, rfl, rfl, _, _, rfl, rfl, hpos, ?_⟩
            have h0 := Int.emod_nonneg (c / 5) (show (((kvOf 0 ts).length : Nat) : Int) + 1 ≠ 0 by omega)
            have h1 := Int.emod_lt_of_pos (c / 5) hpos
            obtain ⟨j, hj⟩ : ∃ j : Nat, c / 5 % ((((kvOf 0 ts).length : Nat) : Int) + 1) = (j : Int) := ⟨_, (Int.toNat_of_nonneg h0).symm⟩
            rw [hj] at h1
            dsimp only
            rw [hj]
            rw [kvOf_len, A.len] at h1
            have hjb : j ≤ bs.length := by omega
            refine ⟨_, rfl, p, dw, _, rfl, ho, wf_had, _, rfl, p, l, as, S, j, rfl, W, fun H4 W4 b4 => ?_⟩
            refine ⟨_, rfl, _, rfl, _, _, rfl, ?_⟩
            have e : (if (j : Int) > ((S.known : Nat) : Int) then (j : Int) else ((S.known : Nat) : Int)) = (((S.had j).known : Nat) : Int) := by
              have h3 := L.good.fix
              have h4 := L.good.le
              show _ = ((max S.known (min j S.parts.length) : Nat) : Int)
              split <;> omega
            rw [e]
            exact ⟨S.had j, cs, bs, v8, _, v10, v11, v12, rfl, L.but nD1 W4 b4 rfl rfl (L.good.had hjb)⟩
          · first
              | exact stay
              | (refine iteF ?_; exact stay)
        · first
            | exact stay
            | (refine iteF ?_; exact stay)
      · obtain ⟨S, cs, bs, v8, v9, v10, v11, v12, rfl, L⟩ := m3
        refine ask_left L rfl ⟨rfl, ?_⟩
        rw [int_zero]
        refine ask_done L rfl ?_
        refine ask_right L hn rfl rfl rfl fun H4 L4 => ⟨_, rfl, ?_⟩
        refine iteF ?_
        have t4 := sent_tell S
        refine ⟨_, rfl, ask_due L4 t4 hn rfl fun H5 L5 => ⟨rfl, _, rfl, ?_⟩⟩
        refine iteNS rfl ?_
        refine ⟨_, rfl, ask_done L5 rfl ⟨rfl, _, rfl, ?_⟩⟩
        refine iteNS rfl ?_
        refine ask_left L5 rfl ⟨rfl, ask_due L5 t4 hn rfl fun H6 L6 => ⟨rfl, _, rfl, ?_⟩⟩
        rw [int_zero]
        refine iteNS rfl ?_
        refine ask_done L6 rfl ⟨_, rfl, _, rfl, ?_⟩
        have fin : LInv C a p l sd D (zs.map V.int) (i + 1) (lslots a p sd S cs (some (.int c)) (some (.int y)) v8 v9 (some (.bl (decide (S.left = 0)))) (some (.bl (S.closed && decide (S.left = 0)))) v12) H6 :=
          ⟨S.sent, cs, seenOf S, _, _, _, _, _, _, _, rfl, L6, t4⟩
        refine ite2 (fun hc => ?_) (fun hc => ?_)
        · refine ask_left L6 rfl ⟨rfl, rfl, _, rfl, ?_⟩
          rw [int_zero]
          refine iteNS ?_ fin
          have hc : S.closed = true := hc
          show V.bl (S.closed && decide (S.left = 0)) = V.bl (decide (S.left = 0))
          rw [hc, Bool.true_and]
        · refine ⟨rfl, _, rfl, ?_⟩
          refine iteNS ?_ fin
          have hc : S.closed = false := by
            have h : ¬ S.closed = true := hc
            simpa using h
          show V.bl (S.closed && decide (S.left = 0)) = V.bl false
          rw [hc, Bool.false_and]
    · rintro σ H' ⟨S, cs, bs, v6, v7, v8, v9, v10, v11, v12, rfl, L, told⟩
      rw [List.length_map] at L
      have L : LS C H' p l sd D (zs.map V.int) S cs bs 2600 := L.mono (by omega)
      have hn : 2600 ≤ 3000 := by decide
      refine ⟨_, rfl, ask_left L rfl ⟨_, _, rfl, rfl, ?_⟩⟩
      generalize hN : S.parts.length = N
      have hkn : S.known ≤ N := by
        obtain ⟨as, W, _⟩ := L.W
        rw [← hN]
        exact W.kn
      dsimp only
      rw [show ((S.known : Nat) : Int) + ((S.left : Nat) : Int) = ((N : Nat) : Int) by
        unfold WS.left
        omega]
      refine while_by (LWh C a p l sd D (zs.map V.int) N) (fun σ _ => ((N : Int) - lknown σ).toNat) ⟨S, cs, bs, v6, v7, v8, v9, v10, v11, rfl, L, told, hN⟩ ?_ ?_
      · clear told L hkn hN
        rintro σ H2 ⟨S, cs, bs, v6, v7, v8, v9, v10, v11, rfl, L, told, hN⟩
        refine ask_dueN L told hn rfl fun H3 L => ?_
        obtain ⟨as, W, nD3⟩ := L.W
        have hkn : S.known ≤ N := by
          rw [← hN]
          exact W.kn
        by_cases hz : S.left = 0
        · rw [decide_eq_true hz]
          refine iteF ?_
          obtain ⟨ts, A⟩ := L.seen
          obtain ⟨r1, r2, r3⟩ := L.good.read hz
          have hfew := L.few
          have hpl := L.parts.1
          refine ⟨_, rfl, sd, _, rfl, A.d, _, rfl, rfl, _, rfl, ?_⟩
          refine iteNS (congrArg V.int (by rw [kvOf_len, A.len, r3, hN])) ?_
          refine ⟨_, rfl, sd, ts, bs, cs, rfl, A, fun b hb => ?_, by omega, r1, L.lets, by omega, fun u H7 h7 s7 => ?_⟩
          · obtain ⟨j, hj⟩ := List.getElem?_of_mem hb
            have e := L.good.again hj
            subst e
            refine ⟨by unfold WS.body bodyOf; simp, ?_⟩
            unfold WS.body bodyOf
            rw [List.length_cons]
            cases hp : S.parts[j]? with
            | none => show 0 + 1 ≤ 50000; decide
            | some xs =>
              have h1 := part_len hp
              have h2 := L.good.flat
              rw [h2, List.length_map] at h1
              show xs.length + 1 ≤ 50000
              omega
          · refine ⟨_, rfl, _, rfl, small' (by show 2 ≤ 200000; decide), fun q5 hq5 => ?_⟩
            have h8 := same_new (o := .tup [.str ⟨cs.toArray⟩, .bl S.closed]) hq5 _ _ h7
            rw [r2] at h8
            have so : PyData.strOk (⟨cs.toArray⟩ : Str) = true := lets_ok L.lets
            have sh : SeqAt.shaped (.tuple [.str ⟨cs.toArray⟩, .bool S.closed]) = true := shaped_mk (by simp [PyData.canLay0, PyData.canLayAll0, so]) (by simp [PyData.depth, PyData.depthAll])
            refine ⟨_, _, .tup (SqT.of h8) (.cons (.str _) (.cons (.bl _) .nil)), .tup (SqT.of upd_same) (.cons (.str _) (.cons (.bl _) .nil)), sh, sh, _, rfl, ?_⟩
            rw [eqv_same sh]
            refine iteT ?_
            refine ask_done ((L.same s7).same (same_new hq5)) rfl ⟨_, rfl, rfl, ?_⟩
            have e : decide (V.bl (S.closed && decide (S.left = 0)) = V.bl S.closed) = true := decide_eq_true (by rw [decide_eq_true hz, Bool.and_true])
            show Q (V.bl (decide (V.bl (S.closed && decide (S.left = 0)) = V.bl S.closed))) _
            rw [e]
            exact k _
        · rw [decide_eq_false hz]
          refine iteT ?_
          have hto : S.to ≤ N := by
            rw [← hN]
            exact Nat.min_le_right _ _
          have hlt : S.known < S.to := by
            unfold WS.left at hz
            unfold WS.to
            omega
          obtain ⟨dw, ho⟩ := W.ob
          refine ⟨_, rfl, _, rfl, p, dw, _, rfl, ho, wf_due, p, l, as, S, rfl, W, L.size hn, fun D4 ts4 H4 A4 W4 b4 => ⟨D4, _, rfl, .inl (SqL.of A4.l), _, _, rfl, rfl, ?_⟩⟩
          have L := L.again nD3 W4 b4 told
          dsimp only
          rw [show ((S.known : Nat) : Int) + (((ts4.map fun t => V.ref t.1).length : Nat) : Int) = ((S.to : Nat) : Int) by
            rw [List.length_map, A4.len, due_len]
            omega]
          rw [sent_told told] at W4
          obtain ⟨dw4, ho4⟩ := W4.ob
          refine ⟨_, rfl, p, dw4, _, rfl, ho4, wf_had, _, rfl, p, l, as, S, S.to, rfl, W4, fun H5 W5 b5 => ?_⟩
          have hfix : S.to ≤ bs.length := by
            rw [L.good.fix]
            exact told
          have L5 := L.but nD3 W5 b5 rfl rfl (L.good.had hfix)
          have hk2 : (S.had S.to).known = S.to := by
            show max S.known (min S.to S.parts.length) = S.to
            omega
          refine ask_right L5 hn rfl rfl (by rw [hk2]; rfl) fun H6 L6 => ⟨_, rfl, ?_⟩
          refine iteF ?_
          refine ⟨_, rfl, ask_left L6 rfl ⟨_, _, rfl, rfl, _, rfl, rfl, _, rfl, ?_⟩⟩
          have e : ((S.to : Nat) : Int) + (((S.had S.to).sent.left : Nat) : Int) = ((N : Nat) : Int) := by
            show ((S.to : Nat) : Int) + ((S.parts.length - (S.had S.to).known : Nat) : Int) = _
            rw [hk2]
            omega
          refine iteNS (congrArg V.int e) ?_
          refine ⟨⟨(S.had S.to).sent, cs, seenOf (S.had S.to), v6, v7, v8, v9, v10, v11, ?_, L6, sent_tell _, hN⟩, ?_⟩
          · show _ = [some (V.ref a), some (V.ref p), some (V.ref sd), some (V.int (((S.had S.to).known : Nat) : Int)), some (V.str ⟨cs.toArray⟩), some (V.bl S.closed), v6, v7, v8, v9, v10, v11, some (V.int (N : Nat))]
            rw [hk2]; rfl
          · show ((N : Int) - ((S.to : Nat) : Int)).toNat < ((N : Int) - ((S.known : Nat) : Int)).toNat
            omega
      · rintro σ H2 Q1 Q2 hq ⟨v, e, a', dx', fs, e1, e2, e3, p', l', as', S', e4, W', hz', h⟩
        refine ⟨v, e, a', dx', fs, e1, e2, e3, p', l', as', S', e4, W', hz', fun D' ts' H' A' W2' b' => ?_⟩
        obtain ⟨g1, g2⟩ := h D' ts' H' A' W2' b'
        refine ⟨g1, fun q hq' => ?_⟩
        obtain ⟨d, e', g3, g4, g5, g6, c, g7, g8⟩ := g2 q hq'
        exact ⟨d, e', g3, g4, g5, g6, c, g7, hq _ _ g8⟩
end
end K61

/-! What the top has written, and the law's own head. -/
namespace K61
open PySem L2
/-- a def of the module, as the top has written it -/
def DefAt (K : PySem.W.Frag) (mg : Str → Option Value) (x : Str) (st : Stmt) : Prop := ∃ f fd, Fun K x x st f fd ∧ mg x = some (.ref f)
/-- how a caller takes a method of C -/
def MethAt (K : PySem.W.Frag) (C : Addr) (x qual : Str) (st : Stmt) : Prop := ∃ f fd, Fun K x qual st f fd ∧ Meth K C x f
theorem def_mk {K : PySem.W.Frag} {h : Heap} {mg : Str → Option Value} {x : Str} {st : Stmt} {f : Addr} (X : K.In h) (G : h.Ns mainGlobals mg) {od an : Option Addr} {sl : Array (Option Value)} {oc kV dc pm cd ct : Value}
    (a : PySem.W.nsIn K mainGlobals x = some (some (.ref f))) (l : K.lookup f = some ⟨oc, od, .func (PySem.W.fnOf x x (defArgs st) (defBody st) (defScope st) .none kV dc pm an cd ct), sl⟩) (c : PySem.W.codeIn K cd x = true) (k : PySem.W.keepIn K (.ref f) = true) : DefAt K mg x st :=
  ⟨f, _, fun_mk (st := st) l c k, PySem.W.mg_of X G a⟩
theorem meth_mk {K : PySem.W.Frag} {C : Addr} {x qual : Str} {st : Stmt} {f : Addr} {od an : Option Addr} {sl : Array (Option Value)} {oc kV dc pm cd ct : Value}
    (a : PySem.W.findIn K (.ref C) x = some (some (.ref f))) (i : PySem.W.isFn K (.ref f) = true) (l : K.lookup f = some ⟨oc, od, .func (PySem.W.fnOf x qual (defArgs st) (defBody st) (defScope st) .none kV dc pm an cd ct), sl⟩) (c : PySem.W.codeIn K cd qual = true) (k : PySem.W.keepIn K (.ref f) = true) : MethAt K C x qual st :=
  ⟨f, _, fun_mk (st := st) l c k, ⟨a, i, k⟩⟩
theorem text_mk {K : PySem.W.Frag} {h : Heap} {mg : Str → Option Value} {x z y : Str} {t : Tok} (X : K.In h) (G : h.Ns mainGlobals mg) (a : PySem.W.nsIn K mainGlobals x = some (some (.str z t))) (e : z = y) : ∃ t, mg x = some (.str y t) := by
  subst e
  exact ⟨t, PySem.W.mg_of X G a⟩
theorem int_mk {K : PySem.W.Frag} {h : Heap} {mg : Str → Option Value} {x : Str} {i : Int} {t : Tok} (X : K.In h) (G : h.Ns mainGlobals mg) (a : PySem.W.nsIn K mainGlobals x = some (some (.int i t))) : ∃ t, mg x = some (.int i t) := ⟨t, PySem.W.mg_of X G a⟩
theorem wtxt_mk {K : PySem.W.Frag} {h : Heap} {mg : Str → Option Value} {C : Addr} (X : K.In h) (G : h.Ns mainGlobals mg) (a : PySem.W.nsIn K mainGlobals "Writer" = some (some (.ref C)))
    (pg : PySem.W.plainGet K C Str.empty = true) (hd : PySem.W.hasDictIn K C = true) (po : PySem.W.plainOver K C = true) (sa : PySem.W.findIn K (.ref C) "__setattr__" = some (some (.builtin "object.__setattr__")))
    (n0 : PySem.W.findIn K (.ref C) "parts" = some none) (n1 : PySem.W.findIn K (.ref C) "fixed" = some none) (n2 : PySem.W.findIn K (.ref C) "known" = some none) (n3 : PySem.W.findIn K (.ref C) "closed" = some none) : WTxt K mg C :=
  ⟨⟨pg, hd, po, sa⟩, n0, n1, n2, n3, PySem.W.mg_of X G a⟩
theorem rtxt_mk {K : PySem.W.Frag} {h : Heap} {mg : Str → Option Value} {C : Addr} (X : K.In h) (G : h.Ns mainGlobals mg) (a : PySem.W.nsIn K mainGlobals "Reader" = some (some (.ref C)))
    (pg : PySem.W.plainGet K C Str.empty = true) (hd : PySem.W.hasDictIn K C = true) (po : PySem.W.plainOver K C = true) (sa : PySem.W.findIn K (.ref C) "__setattr__" = some (some (.builtin "object.__setattr__")))
    (n0 : PySem.W.findIn K (.ref C) "signs" = some none) (n1 : PySem.W.findIn K (.ref C) "count" = some none) (n2 : PySem.W.findIn K (.ref C) "early" = some none) (n3 : PySem.W.findIn K (.ref C) "closed" = some none) : RTxt K mg C :=
  ⟨⟨pg, hd, po, sa⟩, n0, n1, n2, n3, PySem.W.mg_of X G a⟩
theorem all_mk {l : PySem.W.OpenLaw} {w : World} {K : PySem.W.Frag} {mg : Str → Option Value} {fa C R : Addr} (hfa : mg "law" = some (.ref fa)) (T : Txt K mg) (U : WTxt K mg C) (V : RTxt K mg R)
    (mkC : PySem.W.makesIn K C = true) (kcC : PySem.W.keepIn K (.ref C) = true) (mkR : PySem.W.makesIn K R = true) (kcR : PySem.W.keepIn K (.ref R) = true)
    (g0 : DefAt K mg "sign_of" sSignOf)
    (g1 : DefAt K mg "text_signs" sTextSigns)
    (g2 : DefAt K mg "letter_of_sign" sLetterOf)
    (g3 : DefAt K mg "signs_text" sSignsText)
    (g4 : DefAt K mg "_law_whole" sWhole)
    (g5 : DefAt K mg "_law_mixed" sMixed)
    (g6 : DefAt K mg "_law_sign" sLSign)
    (g7 : DefAt K mg "_law_row" sRow)
    (g8 : DefAt K mg "_law_text" sLText)
    (g9 : DefAt K mg "_law_due_right" sDueRight)
    (g10 : DefAt K mg "_law_read" sLRead)
    (g11 : DefAt K mg "_law_fresh_right" sFresh)
    (g12 : DefAt K mg "law" sLaw)
    (w0 : MethAt K C "__init__" "Writer.__init__" sWInit)
    (w1 : MethAt K C "ask_open" "Writer.ask_open" sAskOpen)
    (w2 : MethAt K C "last_free" "Writer.last_free" sLastFree)
    (w3 : MethAt K C "write" "Writer.write" sWrite)
    (w4 : MethAt K C "close" "Writer.close" sClose)
    (w5 : MethAt K C "body_of" "Writer.body_of" sBodyOf)
    (w6 : MethAt K C "due" "Writer.due" sDue)
    (w7 : MethAt K C "had" "Writer.had" sHad)
    (w8 : MethAt K C "is_done" "Writer.is_done" sIsDone)
    (w9 : MethAt K C "left" "Writer.left" sLeft)
    (r0 : MethAt K R "__init__" "Reader.__init__" sRInit)
    (r1 : MethAt K R "take" "Reader.take" sTake)
    (r2 : MethAt K R "text" "Reader.text" sText)
    (r3 : MethAt K R "ended" "Reader.ended" sEnded)
    : ∃ fd : FuncData, (∀ (s : Shared) (v : Value), BindsTo s fd ⟨[v], []⟩ [("script", v)]) ∧ ∀ base : Heap, K.In base → base.Ns mainGlobals mg → FnOk l.prog w K mg base CX0 5 fa fd ["script"] (spLaw K) := by
  obtain ⟨gf0, gd0, gF0, gm0⟩ := g0
  have gb0 := gF0.binds (ps := ["letter"]) fun _ _ _ _ _ _ us hl => match us, hl with | [_], _ => rfl
  obtain ⟨gf1, gd1, gF1, gm1⟩ := g1
  have gb1 := gF1.binds (ps := ["text"]) fun _ _ _ _ _ _ us hl => match us, hl with | [_], _ => rfl
  obtain ⟨gf2, gd2, gF2, gm2⟩ := g2
  have gb2 := gF2.binds (ps := ["sign"]) fun _ _ _ _ _ _ us hl => match us, hl with | [_], _ => rfl
  obtain ⟨gf3, gd3, gF3, gm3⟩ := g3
  have gb3 := gF3.binds (ps := ["signs"]) fun _ _ _ _ _ _ us hl => match us, hl with | [_], _ => rfl
  obtain ⟨gf4, gd4, gF4, gm4⟩ := g4
  have gb4 := gF4.binds (ps := ["found"]) fun _ _ _ _ _ _ us hl => match us, hl with | [_], _ => rfl
  obtain ⟨gf5, gd5, gF5, gm5⟩ := g5
  have gb5 := gF5.binds (ps := ["cell", "k"]) fun _ _ _ _ _ _ us hl => match us, hl with | [_, _], _ => rfl
  obtain ⟨gf6, gd6, gF6, gm6⟩ := g6
  have gb6 := gF6.binds (ps := ["number"]) fun _ _ _ _ _ _ us hl => match us, hl with | [_], _ => rfl
  obtain ⟨gf7, gd7, gF7, gm7⟩ := g7
  have gb7 := gF7.binds (ps := ["cell", "many", "size"]) fun _ _ _ _ _ _ us hl => match us, hl with | [_, _, _], _ => rfl
  obtain ⟨gf8, gd8, gF8, gm8⟩ := g8
  have gb8 := gF8.binds (ps := ["cell"]) fun _ _ _ _ _ _ us hl => match us, hl with | [_], _ => rfl
  obtain ⟨gf9, gd9, gF9, gm9⟩ := g9
  have gb9 := gF9.binds (ps := ["writer", "known", "seen"]) fun _ _ _ _ _ _ us hl => match us, hl with | [_, _, _], _ => rfl
  obtain ⟨gf10, gd10, gF10, gm10⟩ := g10
  have gb10 := gF10.binds (ps := ["seen"]) fun _ _ _ _ _ _ us hl => match us, hl with | [_], _ => rfl
  obtain ⟨gf11, gd11, gF11, gm11⟩ := g11
  have gb11 := gF11.binds (ps := []) fun _ _ _ _ _ _ us hl => match us, hl with | [], _ => rfl
  obtain ⟨gf12, gd12, gF12, gm12⟩ := g12
  obtain ⟨wf0, wd0, wF0, wm0⟩ := w0
  have wb0 := wF0.binds (ps := ["self"]) fun _ _ _ _ _ _ us hl => match us, hl with | [_], _ => rfl
  obtain ⟨wf1, wd1, wF1, wm1⟩ := w1
  have wb1 := wF1.binds (ps := ["self"]) fun _ _ _ _ _ _ us hl => match us, hl with | [_], _ => rfl
  obtain ⟨wf2, wd2, wF2, wm2⟩ := w2
  have wb2 := wF2.binds (ps := ["self"]) fun _ _ _ _ _ _ us hl => match us, hl with | [_], _ => rfl
  obtain ⟨wf3, wd3, wF3, wm3⟩ := w3
  have wb3 := wF3.binds (ps := ["self", "text"]) fun _ _ _ _ _ _ us hl => match us, hl with | [_, _], _ => rfl
  obtain ⟨wf4, wd4, wF4, wm4⟩ := w4
  have wb4 := wF4.binds (ps := ["self"]) fun _ _ _ _ _ _ us hl => match us, hl with | [_], _ => rfl
  obtain ⟨wf5, wd5, wF5, wm5⟩ := w5
  have wb5 := wF5.binds (ps := ["self", "number"]) fun _ _ _ _ _ _ us hl => match us, hl with | [_, _], _ => rfl
  obtain ⟨wf6, wd6, wF6, wm6⟩ := w6
  have wb6 := wF6.binds (ps := ["self"]) fun _ _ _ _ _ _ us hl => match us, hl with | [_], _ => rfl
  obtain ⟨wf7, wd7, wF7, wm7⟩ := w7
  have wb7 := wF7.binds (ps := ["self", "count"]) fun _ _ _ _ _ _ us hl => match us, hl with | [_, _], _ => rfl
  obtain ⟨wf8, wd8, wF8, wm8⟩ := w8
  have wb8 := wF8.binds (ps := ["self"]) fun _ _ _ _ _ _ us hl => match us, hl with | [_], _ => rfl
  obtain ⟨wf9, wd9, wF9, wm9⟩ := w9
  have wb9 := wF9.binds (ps := ["self"]) fun _ _ _ _ _ _ us hl => match us, hl with | [_], _ => rfl
  obtain ⟨rf0, rd0, rF0, rm0⟩ := r0
  have rb0 := rF0.binds (ps := ["self"]) fun _ _ _ _ _ _ us hl => match us, hl with | [_], _ => rfl
  obtain ⟨rf1, rd1, rF1, rm1⟩ := r1
  have rb1 := rF1.binds (ps := ["self", "number", "body"]) fun _ _ _ _ _ _ us hl => match us, hl with | [_, _, _], _ => rfl
  obtain ⟨rf2, rd2, rF2, rm2⟩ := r2
  have rb2 := rF2.binds (ps := ["self"]) fun _ _ _ _ _ _ us hl => match us, hl with | [_], _ => rfl
  obtain ⟨rf3, rd3, rF3, rm3⟩ := r3
  have rb3 := rF3.binds (ps := ["self"]) fun _ _ _ _ _ _ us hl => match us, hl with | [_], _ => rfl
  have e := hfa.symm.trans gm12
  cases e
  obtain ⟨oc, od, kV, dc, pm, an, cdv, ct, osl, efd, lk, hcd⟩ := gF12.ex
  refine ⟨gd12, fun s v => by rw [efd]; exact .of_eq rfl, fun base _ _ => ?_⟩
  have G_sign_of : GFn l.prog w K mg base "sign_of" 1 ["letter"] spSignOf := ⟨gf0, gd0, ok_signOf gF0 T, gm0, gF0.kp, gb0⟩
  have G_text_signs : GFn l.prog w K mg base "text_signs" 2 ["text"] spTextSigns := ⟨gf1, gd1, ok_textSigns gF1 G_sign_of, gm1, gF1.kp, gb1⟩
  have G_letter_of_sign : GFn l.prog w K mg base "letter_of_sign" 1 ["sign"] spLetterOf := ⟨gf2, gd2, ok_letterOf gF2 T, gm2, gF2.kp, gb2⟩
  have G_signs_text : GFn l.prog w K mg base "signs_text" 2 ["signs"] (spSignsText K) := ⟨gf3, gd3, ok_signsText gF3 G_letter_of_sign, gm3, gF3.kp, gb3⟩
  have W___init__ : NFn l.prog w K mg base C 1 ["self"] (spWInit C) := ⟨wf0, wd0, ⟨mkC, wm0.at_, wm0.fn, kcC⟩, ok_wInit wF0 U, wb0⟩
  have W_ask_open : MFn l.prog w K mg base C "ask_open" 1 ["self"] (spAskOpen C) := ⟨wf1, wd1, ok_askOpen wF1 U, wm1, wb1⟩
  have W_last_free : MFn l.prog w K mg base C "last_free" 1 ["self"] (spLastFree C) := ⟨wf2, wd2, ok_lastFree wF2 T U, wm2, wb2⟩
  have W_left : MFn l.prog w K mg base C "left" 1 ["self"] (spLeft C) := ⟨wf9, wd9, ok_left wF9 T U, wm9, wb9⟩
  have W_is_done : MFn l.prog w K mg base C "is_done" 2 ["self"] (spIsDone C) := ⟨wf8, wd8, ok_isDone wF8 U W_left, wm8, wb8⟩
  have W_had : MFn l.prog w K mg base C "had" 1 ["self", "count"] (spHad C) := ⟨wf7, wd7, ok_had wF7 T U, wm7, wb7⟩
  have W_body_of : MFn l.prog w K mg base C "body_of" 1 ["self", "number"] (spBodyOf C) := ⟨wf5, wd5, ok_bodyOf wF5 T U, wm5, wb5⟩
  have W_due : MFn l.prog w K mg base C "due" 2 ["self"] (spDue C) := ⟨wf6, wd6, ok_due wF6 T U W_body_of, wm6, wb6⟩
  have W_close : MFn l.prog w K mg base C "close" 2 ["self"] (spClose C) := ⟨wf4, wd4, ok_close wF4 U W_ask_open W_last_free, wm4, wb4⟩
  have W_write : MFn l.prog w K mg base C "write" 3 ["self", "text"] (spWrite C) := ⟨wf3, wd3, ok_write wF3 T U W_ask_open W_last_free G_text_signs, wm3, wb3⟩
  have R___init__ : NFn l.prog w K mg base R 1 ["self"] (spRInit R) := ⟨rf0, rd0, ⟨mkR, rm0.at_, rm0.fn, kcR⟩, ok_rInit rF0 V, rb0⟩
  have R_take : MFn l.prog w K mg base R "take" 1 ["self", "number", "body"] (spTake R) := ⟨rf1, rd1, ok_take rF1 T V, rm1, rb1⟩
  have R_text : MFn l.prog w K mg base R "text" 3 ["self"] (spText R) := ⟨rf2, rd2, ok_text rF2 V G_signs_text, rm2, rb2⟩
  have R_ended : MFn l.prog w K mg base R "ended" 1 ["self"] (spEnded R) := ⟨rf3, rd3, ok_ended rF3 V, rm3, rb3⟩
  have G__law_whole : GFn l.prog w K mg base "_law_whole" 1 ["found"] spWhole := ⟨gf4, gd4, ok_whole gF4 T, gm4, gF4.kp, gb4⟩
  have G__law_mixed : GFn l.prog w K mg base "_law_mixed" 1 ["cell", "k"] spMixed := ⟨gf5, gd5, ok_mixed gF5, gm5, gF5.kp, gb5⟩
  have G__law_sign : GFn l.prog w K mg base "_law_sign" 1 ["number"] spLSign := ⟨gf6, gd6, ok_lSign gF6 T, gm6, gF6.kp, gb6⟩
  have G__law_row : GFn l.prog w K mg base "_law_row" 2 ["cell", "many", "size"] spRow := ⟨gf7, gd7, ok_row gF7 T G__law_mixed, gm7, gF7.kp, gb7⟩
  have G__law_text : GFn l.prog w K mg base "_law_text" 3 ["cell"] spLText := ⟨gf8, gd8, ok_lText gF8 G__law_row G__law_sign, gm8, gF8.kp, gb8⟩
  have G__law_due_right : GFn l.prog w K mg base "_law_due_right" 3 ["writer", "known", "seen"] (spDueRight C) := ⟨gf9, gd9, ok_dueRight gF9 T U W_due G__law_whole, gm9, gF9.kp, gb9⟩
  have G__law_read : GFn l.prog w K mg base "_law_read" 4 ["seen"] spLRead := ⟨gf10, gd10, ok_lRead gF10 T V R___init__ R_take R_text R_ended, gm10, gF10.kp, gb10⟩
  have G__law_fresh_right : GFn l.prog w K mg base "_law_fresh_right" 3 [] spFresh := ⟨gf11, gd11, ok_fresh gF11 T U W___init__ W_had W_is_done W_left W_due W_close, gm11, gF11.kp, gb11⟩
  exact ok_law gF12 T U W___init__ W_write W_close W_had W_left W_is_done W_due G__law_fresh_right G__law_text G__law_due_right G__law_read
theorem walk {l : PySem.W.OpenLaw} {q : Program} {loose : List Str} {XP : (Str → Option Value) → Heap → Prop} {YP : World → Heap → Prop} {d : DefRec} {K : Params → PySem.W.Frag} (hn : l.most = some 63) (hdf : d.params.defaults = [])
    (hY : ∀ (w : World) (h : Heap), YP w h → (K w.params).In h)
    (F : ∀ (w : World) (mg : Str → Option Value) (fa : Addr) (h : Heap), (K w.params).In h → h.Ns mainGlobals mg → mg d.name = some (.ref fa) →
      ∃ fd : FuncData, (∀ (s : Shared) (u : Value), BindsTo s fd ⟨[u], []⟩ [("script", u)]) ∧ ∀ base : Heap, (K w.params).In base → base.Ns mainGlobals mg → FnOk l.prog w (K w.params) mg base CX0 5 fa fd ["script"] (spLaw (K w.params))) :
    PySem.W.WalkO q loose XP YP l.row.toRowW d [] (fun f vs => PySem.call f vs) :=
  L2.walk_of (n := 63) (k := 5) (x := "script") (CX := fun _ => CX0) (sp := fun w => spLaw (K w.params)) hn (by decide) hdf ⟨rfl, by decide, by decide⟩ hY F (fun _ _ a ns hl _ hS => ⟨a, ns, rfl, hS, hl, fun _ => rfl⟩) fun _ _ _ _ _ z => z
end K61
open PySem PySem.W PyProof.Rows
set_option maxRecDepth 100000 in
set_option maxHeartbeats 0 in
theorem PySem.Challenge.cw_stormpost_k61_parts_written_holds : PySem.Challenge.rw_stormpost_k61_parts_written.Holds := by
  w_on; o_law; k_head; (case hw => w_witness2)
  k_fill
  refine K61.walk (l := PySem.Challenge.rw_stormpost_k61_parts_written) rfl rfl (fun w h Y => PySem.W.kIn_of Y) ?F
  case F =>
    intro w mg fa h KX G hmg
    refine' K61.all_mk (C := ?C) (R := ?R) hmg ?T ?U ?V ?mkC ?kcC ?mkR ?kcR ?dg0 ?dg1 ?dg2 ?dg3 ?dg4 ?dg5 ?dg6 ?dg7 ?dg8 ?dg9 ?dg10 ?dg11 ?dg12 ?dw0 ?dw1 ?dw2 ?dw3 ?dw4 ?dw5 ?dw6 ?dw7 ?dw8 ?dw9 ?dr0 ?dr1 ?dr2 ?dr3
    (case U =>
      refine' K61.wtxt_mk KX G ?a ?pg ?hd ?po ?sa ?n0 ?n1 ?n2 ?n3
      (case a => k_is)
      (case pg => k_is)
      (case hd => k_is)
      (case po => k_is)
      (case sa => k_is)
      (case n0 => k_is)
      (case n1 => k_is)
      (case n2 => k_is)
      (case n3 => k_is)
    )
    (case V =>
      refine' K61.rtxt_mk KX G ?a ?pg ?hd ?po ?sa ?n0 ?n1 ?n2 ?n3
      (case a => k_is)
      (case pg => k_is)
      (case hd => k_is)
      (case po => k_is)
      (case sa => k_is)
      (case n0 => k_is)
      (case n1 => k_is)
      (case n2 => k_is)
      (case n3 => k_is)
    )
    (case T =>
      refine' ⟨PySem.W.mg_none_of KX G ?z0, PySem.W.mg_none_of KX G ?z1, PySem.W.mg_none_of KX G ?z2, PySem.W.mg_none_of KX G ?z3, PySem.W.mg_none_of KX G ?z4, PySem.W.mg_none_of KX G ?z5, PySem.W.mg_none_of KX G ?z6, PySem.W.mg_none_of KX G ?z7, PySem.W.mg_none_of KX G ?z8, K61.text_mk KX G ?zL ?zE, K61.int_mk KX G ?y0, K61.int_mk KX G ?y1, K61.int_mk KX G ?y2, K61.int_mk KX G ?y3⟩
      (case z0 => k_is)
      (case z1 => k_is)
      (case z2 => k_is)
      (case z3 => k_is)
      (case z4 => k_is)
      (case z5 => k_is)
      (case z6 => k_is)
      (case z7 => k_is)
      (case z8 => k_is)
      (case zL => k_is)
      (case zE => decide +kernel)
      (case y0 => k_is)
      (case y1 => k_is)
      (case y2 => k_is)
      (case y3 => k_is)
    )
    (case mkC => k_is)
    (case kcC => k_is)
    (case mkR => k_is)
    (case kcR => k_is)
    (case dg0 => refine' K61.def_mk KX G ?a ?l ?c ?k; (case a => k_is); (case l => k_is); (case c => k_is); (case k => k_is))
    (case dg1 => refine' K61.def_mk KX G ?a ?l ?c ?k; (case a => k_is); (case l => k_is); (case c => k_is); (case k => k_is))
    (case dg2 => refine' K61.def_mk KX G ?a ?l ?c ?k; (case a => k_is); (case l => k_is); (case c => k_is); (case k => k_is))
    (case dg3 => refine' K61.def_mk KX G ?a ?l ?c ?k; (case a => k_is); (case l => k_is); (case c => k_is); (case k => k_is))
    (case dg4 => refine' K61.def_mk KX G ?a ?l ?c ?k; (case a => k_is); (case l => k_is); (case c => k_is); (case k => k_is))
    (case dg5 => refine' K61.def_mk KX G ?a ?l ?c ?k; (case a => k_is); (case l => k_is); (case c => k_is); (case k => k_is))
    (case dg6 => refine' K61.def_mk KX G ?a ?l ?c ?k; (case a => k_is); (case l => k_is); (case c => k_is); (case k => k_is))
    (case dg7 => refine' K61.def_mk KX G ?a ?l ?c ?k; (case a => k_is); (case l => k_is); (case c => k_is); (case k => k_is))
    (case dg8 => refine' K61.def_mk KX G ?a ?l ?c ?k; (case a => k_is); (case l => k_is); (case c => k_is); (case k => k_is))
    (case dg9 => refine' K61.def_mk KX G ?a ?l ?c ?k; (case a => k_is); (case l => k_is); (case c => k_is); (case k => k_is))
    (case dg10 => refine' K61.def_mk KX G ?a ?l ?c ?k; (case a => k_is); (case l => k_is); (case c => k_is); (case k => k_is))
    (case dg11 => refine' K61.def_mk KX G ?a ?l ?c ?k; (case a => k_is); (case l => k_is); (case c => k_is); (case k => k_is))
    (case dg12 => refine' K61.def_mk KX G ?a ?l ?c ?k; (case a => k_is); (case l => k_is); (case c => k_is); (case k => k_is))
    (case dw0 => refine' K61.meth_mk ?a ?i ?l ?c ?k; (case a => k_is); (case i => k_is); (case l => k_is); (case c => k_is); (case k => k_is))
    (case dw1 => refine' K61.meth_mk ?a ?i ?l ?c ?k; (case a => k_is); (case i => k_is); (case l => k_is); (case c => k_is); (case k => k_is))
    (case dw2 => refine' K61.meth_mk ?a ?i ?l ?c ?k; (case a => k_is); (case i => k_is); (case l => k_is); (case c => k_is); (case k => k_is))
    (case dw3 => refine' K61.meth_mk ?a ?i ?l ?c ?k; (case a => k_is); (case i => k_is); (case l => k_is); (case c => k_is); (case k => k_is))
    (case dw4 => refine' K61.meth_mk ?a ?i ?l ?c ?k; (case a => k_is); (case i => k_is); (case l => k_is); (case c => k_is); (case k => k_is))
    (case dw5 => refine' K61.meth_mk ?a ?i ?l ?c ?k; (case a => k_is); (case i => k_is); (case l => k_is); (case c => k_is); (case k => k_is))
    (case dw6 => refine' K61.meth_mk ?a ?i ?l ?c ?k; (case a => k_is); (case i => k_is); (case l => k_is); (case c => k_is); (case k => k_is))
    (case dw7 => refine' K61.meth_mk ?a ?i ?l ?c ?k; (case a => k_is); (case i => k_is); (case l => k_is); (case c => k_is); (case k => k_is))
    (case dw8 => refine' K61.meth_mk ?a ?i ?l ?c ?k; (case a => k_is); (case i => k_is); (case l => k_is); (case c => k_is); (case k => k_is))
    (case dw9 => refine' K61.meth_mk ?a ?i ?l ?c ?k; (case a => k_is); (case i => k_is); (case l => k_is); (case c => k_is); (case k => k_is))
    (case dr0 => refine' K61.meth_mk ?a ?i ?l ?c ?k; (case a => k_is); (case i => k_is); (case l => k_is); (case c => k_is); (case k => k_is))
    (case dr1 => refine' K61.meth_mk ?a ?i ?l ?c ?k; (case a => k_is); (case i => k_is); (case l => k_is); (case c => k_is); (case k => k_is))
    (case dr2 => refine' K61.meth_mk ?a ?i ?l ?c ?k; (case a => k_is); (case i => k_is); (case l => k_is); (case c => k_is); (case k => k_is))
    (case dr3 => refine' K61.meth_mk ?a ?i ?l ?c ?k; (case a => k_is); (case i => k_is); (case l => k_is); (case c => k_is); (case k => k_is))
